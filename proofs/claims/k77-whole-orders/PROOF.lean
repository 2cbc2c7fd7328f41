import PyProof.Rows.All
import Wide.All
import OpenK.AllK
import Wide.FinOn
import PySem.Challenge.RW_wirebeats_k77_whole_orders_and_blocks
import HandS.ForMost
import HandS.Zip
import HandS.Walk
import HandS.Star
import HandS.Deep
import HandS.Conv
import HandS.NoneIn
import HandS.Style
import HandS.TupAny
import HandS.TupMul
import HandS.TupSets
import HandS.TupLen
import HandS.DictComp
import HandS.IsInst
import KE.GoesEnum
import KE.SortData
import KE.KDictSum
import HandS.Small
import KE.KTupSum
set_option Elab.async false
set_option linter.all false
set_option maxRecDepth 100000
namespace Wb
open PySem PySem.Spec PyProof.Rows L2
def topS (i : Nat) : Stmt := PySem.Challenge.pw_wirebeats_k77_whole_orders_and_blocks.main.body.getD i (.Pass ⟨0, 0, 0, 0⟩)
abbrev s_isInteger : Stmt := topS 5
abbrev N_isInteger : List Str := ["value", "low", "high"]
theorem sc_isInteger : FnScope N_isInteger ["value", "low", "high"] (defScope s_isInteger) := ⟨rfl, rfl, rfl, by decide +kernel, rfl, by decide +kernel, by decide +kernel⟩
abbrev s_areIntegers : Stmt := topS 6
abbrev N_areIntegers : List Str := ["value", "many", "low", "high", "item"]
theorem sc_areIntegers : FnScope N_areIntegers ["value", "many", "low", "high"] (defScope s_areIntegers) := ⟨rfl, rfl, rfl, by decide +kernel, rfl, by decide +kernel, by decide +kernel⟩
abbrev s_dot : Stmt := topS 7
abbrev N_dot : List Str := ["one", "other", "left", "right"]
theorem sc_dot : FnScope N_dot ["one", "other"] (defScope s_dot) := ⟨rfl, rfl, rfl, by decide +kernel, rfl, by decide +kernel, by decide +kernel⟩
abbrev s_difference : Stmt := topS 8
abbrev N_difference : List Str := ["one", "other", "left", "right"]
theorem sc_difference : FnScope N_difference ["one", "other"] (defScope s_difference) := ⟨rfl, rfl, rfl, by decide +kernel, rfl, by decide +kernel, by decide +kernel⟩
abbrev s_countPoints : Stmt := topS 10
abbrev N_countPoints : List Str := ["box", "found", "size"]
theorem sc_countPoints : FnScope N_countPoints ["box"] (defScope s_countPoints) := ⟨rfl, rfl, rfl, by decide +kernel, rfl, by decide +kernel, by decide +kernel⟩
abbrev s_requireSmall : Stmt := topS 11
abbrev N_requireSmall : List Str := ["box"]
theorem sc_requireSmall : FnScope N_requireSmall ["box"] (defScope s_requireSmall) := ⟨rfl, rfl, rfl, by decide +kernel, rfl, by decide +kernel, by decide +kernel⟩
abbrev s_isInside : Stmt := topS 12
abbrev N_isInside : List Str := ["box", "vector", "item", "size"]
theorem sc_isInside : FnScope N_isInside ["box", "vector"] (defScope s_isInside) := ⟨rfl, rfl, rfl, by decide +kernel, rfl, by decide +kernel, by decide +kernel⟩
abbrev s_pointsOf : Stmt := topS 13
abbrev N_pointsOf : List Str := ["box", "rows", "size", "row", "item"]
theorem sc_pointsOf : FnScope N_pointsOf ["box"] (defScope s_pointsOf) := ⟨rfl, rfl, rfl, by decide +kernel, rfl, by decide +kernel, by decide +kernel⟩
abbrev s_blockOf : Stmt := topS 16
abbrev N_blockOf : List Str := ["sides", "place", "item", "side"]
theorem sc_blockOf : FnScope N_blockOf ["sides", "place"] (defScope s_blockOf) := ⟨rfl, rfl, rfl, by decide +kernel, rfl, by decide +kernel, by decide +kernel⟩
abbrev s_divisorOf : Stmt := topS 17
abbrev N_divisorOf : List Str := ["one", "other", "left", "right"]
theorem sc_divisorOf : FnScope N_divisorOf ["one", "other"] (defScope s_divisorOf) := ⟨rfl, rfl, rfl, by decide +kernel, rfl, by decide +kernel, by decide +kernel⟩
abbrev s_blockAt : Stmt := topS 18
abbrev N_blockAt : List Str := ["rows", "sides", "point", "row"]
theorem sc_blockAt : FnScope N_blockAt ["rows", "sides", "point"] (defScope s_blockAt) := ⟨rfl, rfl, rfl, by decide +kernel, rfl, by decide +kernel, by decide +kernel⟩
abbrev s_readsOf : Stmt := topS 20
abbrev N_readsOf : List Str := ["flow", "rows", "plane", "rule", "operand", "read"]
theorem sc_readsOf : FnScope N_readsOf ["flow"] (defScope s_readsOf) := ⟨rfl, rfl, rfl, by decide +kernel, rfl, by decide +kernel, by decide +kernel⟩
abbrev s_itemsOf : Stmt := topS 25
abbrev N_itemsOf : List Str := ["item", "side"]
theorem sc_itemsOf : FnScope N_itemsOf ["item", "side"] (defScope s_itemsOf) := ⟨rfl, rfl, rfl, by decide +kernel, rfl, by decide +kernel, by decide +kernel⟩
abbrev s_movesOf : Stmt := topS 26
abbrev N_movesOf : List Str := ["steps", "sides", "found", "step", "rows", "item", "side", "row", "move"]
theorem sc_movesOf : FnScope N_movesOf ["steps", "sides"] (defScope s_movesOf) := ⟨rfl, rfl, rfl, by decide +kernel, rfl, by decide +kernel, by decide +kernel⟩
abbrev s_crossSum : Stmt := topS 27
abbrev N_crossSum : List Str := ["one", "other"]
theorem sc_crossSum : FnScope N_crossSum ["one", "other"] (defScope s_crossSum) := ⟨rfl, rfl, rfl, by decide +kernel, rfl, by decide +kernel, by decide +kernel⟩
abbrev s_isBefore : Stmt := topS 28
abbrev N_isBefore : List Str := ["one", "other", "side"]
theorem sc_isBefore : FnScope N_isBefore ["one", "other"] (defScope s_isBefore) := ⟨rfl, rfl, rfl, by decide +kernel, rfl, by decide +kernel, by decide +kernel⟩
abbrev s_orderOnRow : Stmt := topS 29
abbrev N_orderOnRow : List Str := ["moves", "move"]
theorem sc_orderOnRow : FnScope N_orderOnRow ["moves"] (defScope s_orderOnRow) := ⟨rfl, rfl, rfl, by decide +kernel, rfl, by decide +kernel, by decide +kernel⟩
abbrev s_orderInPlane : Stmt := topS 30
abbrev N_orderInPlane : List Str := ["moves", "firsts", "first", "last", "one", "other"]
theorem sc_orderInPlane : FnScope N_orderInPlane ["moves"] (defScope s_orderInPlane) := ⟨rfl, rfl, rfl, by decide +kernel, rfl, by decide +kernel, by decide +kernel⟩
abbrev s_countsFor : Stmt := topS 31
abbrev N_countsFor : List Str := ["moves", "pairs", "common", "index", "count", "found"]
theorem sc_countsFor : FnScope N_countsFor ["moves", "pairs"] (defScope s_countsFor) := ⟨rfl, rfl, rfl, by decide +kernel, rfl, by decide +kernel, by decide +kernel⟩
abbrev s_oppositePair : Stmt := topS 32
abbrev N_oppositePair : List Str := ["moves", "index", "one", "other", "two", "is_one_line", "item"]
theorem sc_oppositePair : FnScope N_oppositePair ["moves"] (defScope s_oppositePair) := ⟨rfl, rfl, rfl, by decide +kernel, rfl, by decide +kernel, by decide +kernel⟩
abbrev s_tripleWith : Stmt := topS 33
abbrev N_tripleWith : List Str := ["moves", "first", "index", "one", "other", "two", "parts", "part"]
theorem sc_tripleWith : FnScope N_tripleWith ["moves"] (defScope s_tripleWith) := ⟨rfl, rfl, rfl, by decide +kernel, rfl, by decide +kernel, by decide +kernel⟩
abbrev s_findOrder : Stmt := topS 34
abbrev N_findOrder : List Str := ["steps", "sides", "moves", "found", "pair"]
theorem sc_findOrder : FnScope N_findOrder ["steps", "sides"] (defScope s_findOrder) := ⟨rfl, rfl, rfl, by decide +kernel, rfl, by decide +kernel, by decide +kernel⟩
abbrev s_blocksOf : Stmt := topS 35
abbrev N_blocksOf : List Str := ["rows", "sides", "box", "found", "point"]
theorem sc_blocksOf : FnScope N_blocksOf ["rows", "sides", "box"] (defScope s_blocksOf) := ⟨rfl, rfl, rfl, by decide +kernel, rfl, by decide +kernel, by decide +kernel⟩
abbrev s_waitsOf : Stmt := topS 36
abbrev N_waitsOf : List Str := ["flow", "rows", "sides", "box", "found", "point", "block", "plane", "operand", "source", "distance", "vector"]
theorem sc_waitsOf : FnScope N_waitsOf ["flow", "rows", "sides", "box"] (defScope s_waitsOf) := ⟨rfl, rfl, rfl, by decide +kernel, rfl, by decide +kernel, by decide +kernel⟩
abbrev s_ringIn : Stmt := topS 37
abbrev N_ringIn : List Str := ["waits", "left", "way", "block", "other"]
theorem sc_ringIn : FnScope N_ringIn ["waits", "left"] (defScope s_ringIn) := ⟨rfl, rfl, rfl, by decide +kernel, rfl, by decide +kernel, by decide +kernel⟩
abbrev s_followersOf : Stmt := topS 38
abbrev N_followersOf : List Str := ["waits", "found", "block", "other"]
theorem sc_followersOf : FnScope N_followersOf ["waits"] (defScope s_followersOf) := ⟨rfl, rfl, rfl, by decide +kernel, rfl, by decide +kernel, by decide +kernel⟩
abbrev s_findPlan : Stmt := topS 39
abbrev N_findPlan : List Str := ["flow", "rows", "sides", "box", "waits", "followers", "lacking", "found", "at", "other", "block"]
theorem sc_findPlan : FnScope N_findPlan ["flow", "rows", "sides", "box"] (defScope s_findPlan) := ⟨rfl, rfl, rfl, by decide +kernel, rfl, by decide +kernel, by decide +kernel⟩
abbrev s_areBlocks : Stmt := topS 40
abbrev N_areBlocks : List Str := ["known", "value", "block"]
theorem sc_areBlocks : FnScope N_areBlocks ["known", "value"] (defScope s_areBlocks) := ⟨rfl, rfl, rfl, by decide +kernel, rfl, by decide +kernel, by decide +kernel⟩
abbrev s_planHolds : Stmt := topS 41
abbrev N_planHolds : List Str := ["flow", "rows", "sides", "box", "value", "waits", "blocks", "ahead", "spots", "block", "other", "index"]
theorem sc_planHolds : FnScope N_planHolds ["flow", "rows", "sides", "box", "value"] (defScope s_planHolds) := ⟨rfl, rfl, rfl, by decide +kernel, rfl, by decide +kernel, by decide +kernel⟩
abbrev s_lMill : Stmt := topS 43
abbrev N_lMill : List Str := ["_law_script", "_law_mixed", "_law_cell"]
theorem sc_lMill : FnScope N_lMill ["_law_script"] (defScope s_lMill) := ⟨rfl, rfl, rfl, by decide +kernel, rfl, by decide +kernel, by decide +kernel⟩
abbrev s_lGrind : Stmt := topS 44
abbrev N_lGrind : List Str := ["_law_mill_here", "_law_many", "_law_rest"]
theorem sc_lGrind : FnScope N_lGrind ["_law_mill_here", "_law_many"] (defScope s_lGrind) := ⟨rfl, rfl, rfl, by decide +kernel, rfl, by decide +kernel, by decide +kernel⟩
abbrev s_lPick : Stmt := topS 45
abbrev N_lPick : List Str := ["_law_mill_here", "_law_items"]
theorem sc_lPick : FnScope N_lPick ["_law_mill_here", "_law_items"] (defScope s_lPick) := ⟨rfl, rfl, rfl, by decide +kernel, rfl, by decide +kernel, by decide +kernel⟩
abbrev s_lDot : Stmt := topS 46
abbrev N_lDot : List Str := ["_law_one", "_law_other", "_law_k"]
theorem sc_lDot : FnScope N_lDot ["_law_one", "_law_other"] (defScope s_lDot) := ⟨rfl, rfl, rfl, by decide +kernel, rfl, by decide +kernel, by decide +kernel⟩
abbrev s_lAim : Stmt := topS 47
abbrev N_lAim : List Str := ["_law_mill_here", "_law_dims", "_law_pairs", "_law_one", "_law_two", "_law_first", "_law_second", "_law_axis", "_law_sign", "_law_shear", "_law_low", "_law_high", "_law_order", "_law_rows", "_law_k", "_law_row", "_law_item"]
theorem sc_lAim : FnScope N_lAim ["_law_mill_here", "_law_dims"] (defScope s_lAim) := ⟨rfl, rfl, rfl, by decide +kernel, rfl, by decide +kernel, by decide +kernel⟩
abbrev s_lWeights : Stmt := topS 48
abbrev N_lWeights : List Str := ["_law_mill_here", "_law_direction", "_law_most", "_law_found", "_law_item"]
theorem sc_lWeights : FnScope N_lWeights ["_law_mill_here", "_law_direction", "_law_most"] (defScope s_lWeights) := ⟨rfl, rfl, rfl, by decide +kernel, rfl, by decide +kernel, by decide +kernel⟩
abbrev s_lPlan : Stmt := topS 49
abbrev N_lPlan : List Str := ["_law_mill_here", "_law_dims", "_law_many", "_law_weights_here", "_law_axis", "_law_plane"]
theorem sc_lPlan : FnScope N_lPlan ["_law_mill_here", "_law_dims", "_law_many"] (defScope s_lPlan) := ⟨rfl, rfl, rfl, by decide +kernel, rfl, by decide +kernel, by decide +kernel⟩
abbrev s_lRead : Stmt := topS 50
abbrev N_lRead : List Str := ["_law_mill_here", "_law_beats", "_law_plane", "_law_high", "_law_weights_here", "_law_starts", "_law_source", "_law_distance", "_law_sign", "_law_turned", "_law_axis", "_law_item", "_law_k"]
theorem sc_lRead : FnScope N_lRead ["_law_mill_here", "_law_beats", "_law_plane", "_law_high"] (defScope s_lRead) := ⟨rfl, rfl, rfl, by decide +kernel, rfl, by decide +kernel, by decide +kernel⟩
abbrev s_lFlow : Stmt := topS 51
abbrev N_lFlow : List Str := ["_law_mill_here", "_law_dims", "_law_most", "_law_high", "_law_many", "_law_beats", "_law_rules", "_law_sizes", "_law_plane", "_law_kind", "_law_operand"]
theorem sc_lFlow : FnScope N_lFlow ["_law_mill_here", "_law_dims", "_law_most", "_law_high"] (defScope s_lFlow) := ⟨rfl, rfl, rfl, by decide +kernel, rfl, by decide +kernel, by decide +kernel⟩
abbrev s_lBox : Stmt := topS 52
abbrev N_lBox : List Str := ["_law_mill_here", "_law_dims", "_law_most", "_law_found", "_law_axis", "_law_size"]
theorem sc_lBox : FnScope N_lBox ["_law_mill_here", "_law_dims", "_law_most"] (defScope s_lBox) := ⟨rfl, rfl, rfl, by decide +kernel, rfl, by decide +kernel, by decide +kernel⟩
abbrev s_lPoints : Stmt := topS 53
abbrev N_lPoints : List Str := ["_law_box_here", "_law_found", "_law_size", "_law_longer", "_law_row", "_law_item"]
theorem sc_lPoints : FnScope N_lPoints ["_law_box_here"] (defScope s_lPoints) := ⟨rfl, rfl, rfl, by decide +kernel, rfl, by decide +kernel, by decide +kernel⟩
abbrev s_lLeads : Stmt := topS 54
abbrev N_lLeads : List Str := ["_law_step", "_law_sides", "_law_move", "_law_k", "_law_ways", "_law_place"]
theorem sc_lLeads : FnScope N_lLeads ["_law_step", "_law_sides", "_law_move"] (defScope s_lLeads) := ⟨rfl, rfl, rfl, by decide +kernel, rfl, by decide +kernel, by decide +kernel⟩
abbrev s_lRingRight : Stmt := topS 55
abbrev N_lRingRight : List Str := ["_law_steps", "_law_sides", "_law_counts", "_law_moves", "_law_ends", "_law_k", "_law_leading", "_law_step", "_law_axis"]
theorem sc_lRingRight : FnScope N_lRingRight ["_law_steps", "_law_sides", "_law_counts"] (defScope s_lRingRight) := ⟨rfl, rfl, rfl, by decide +kernel, rfl, by decide +kernel, by decide +kernel⟩
abbrev s_law : Stmt := topS 56
abbrev N_law : List Str := ["_law_script", "_law_mill_here", "_law_turn", "_law_dims", "_law_flow_here", "_law_beats", "_law_direction", "_law_rows", "_law_sides", "_law_box_here", "_law_steps", "_law_rule", "_law_word", "_law_found", "_law_blocks", "_law_plan_here", "_law_row", "_law_read_here", "_law_block", "_law_count"]
theorem sc_law : FnScope N_law ["_law_script"] (defScope s_law) := ⟨rfl, rfl, rfl, by decide +kernel, rfl, by decide +kernel, by decide +kernel⟩
end Wb
namespace Wb
open PySem PySem.Spec PyProof.Rows L2

/-! ### data that stand in the abstract heap, made by the program itself -/
mutual
inductive Dt (H : Hp) : V → PyData → Prop
  | int (i : Int) : Dt H (.int i) (.int i)
  | str (x : Str) : Dt H (.str x) (.str x)
  | bl (b : Bool) : Dt H (.bl b) (.bool b)
  | non : Dt H .non .none
  | tup {a : Addr} {xs : List V} {ds : List PyData} : H a = some (.tup xs) → Dts H xs ds → Dt H (.ref a) (.tuple ds)
  | lst {a : Addr} {xs : List V} {ds : List PyData} : H a = some (.lst xs) → Dts H xs ds → Dt H (.ref a) (.list ds)
inductive Dts (H : Hp) : List V → List PyData → Prop
  | nil : Dts H [] []
  | cons {v : V} {vs : List V} {d : PyData} {ds : List PyData} : Dt H v d → Dts H vs ds → Dts H (v :: vs) (d :: ds)
end

/-! tuples alone (and flat things) -/
mutual
inductive OnlyT : PyData → Prop
  | int (i : Int) : OnlyT (.int i)
  | str (x : Str) : OnlyT (.str x)
  | bl (b : Bool) : OnlyT (.bool b)
  | non : OnlyT .none
  | tup {ds : List PyData} : OnlyTs ds → OnlyT (.tuple ds)
inductive OnlyTs : List PyData → Prop
  | nil : OnlyTs []
  | cons {d : PyData} {ds : List PyData} : OnlyT d → OnlyTs ds → OnlyTs (d :: ds)
end

/-- what is tracked stands, but for the lists of the mill -/
def SameBut (M : Addr → Prop) (H H' : Hp) : Prop := ∀ b o, ¬ M b → H b = some o → H' b = some o

mutual
theorem Dt.same {H H' : Hp} (s : Same H H') : ∀ {v : V} {d : PyData}, Dt H v d → Dt H' v d
  | _, _, .int i => .int i
  | _, _, .str x => .str x
  | _, _, .bl b => .bl b
  | _, _, .non => .non
  | _, _, .tup h t => .tup (s _ _ h) (Dts.same s t)
  | _, _, .lst h t => .lst (s _ _ h) (Dts.same s t)
theorem Dts.same {H H' : Hp} (s : Same H H') : ∀ {vs : List V} {ds : List PyData}, Dts H vs ds → Dts H' vs ds
  | _, _, .nil => .nil
  | _, _, .cons h t => .cons (Dt.same s h) (Dts.same s t)
end
mutual
theorem Dt.keep {H H' : Hp} (s : ∀ b xs, H b = some (.tup xs) → H' b = some (.tup xs)) : ∀ {v : V} {d : PyData}, OnlyT d → Dt H v d → Dt H' v d
  | _, _, _, .int i => .int i
  | _, _, _, .str x => .str x
  | _, _, _, .bl b => .bl b
  | _, _, _, .non => .non
  | _, _, .tup o, .tup h t => .tup (s _ _ h) (Dts.keep s o t)
theorem Dts.keep {H H' : Hp} (s : ∀ b xs, H b = some (.tup xs) → H' b = some (.tup xs)) : ∀ {vs : List V} {ds : List PyData}, OnlyTs ds → Dts H vs ds → Dts H' vs ds
  | _, _, _, .nil => .nil
  | _, _, .cons o os, .cons h t => .cons (Dt.keep s o h) (Dts.keep s os t)
end
mutual
theorem Dt.dp {K : PySem.W.Frag} {H : Hp} : ∀ {v : V} {d : PyData}, Dt H v d → Dp K H v d
  | _, _, .int i => .int i
  | _, _, .str x => .str x
  | _, _, .bl b => .bl b
  | _, _, .non => .non
  | _, _, .tup h t => .tup (SqT.of h) (Dts.dp t)
  | _, _, .lst h t => .lst (SqL.of h) (Dts.dp t)
theorem Dts.dp {K : PySem.W.Frag} {H : Hp} : ∀ {vs : List V} {ds : List PyData}, Dts H vs ds → DpAll K H vs ds
  | _, _, .nil => .nil
  | _, _, .cons h t => .cons (Dt.dp h) (Dts.dp t)
end
theorem Dts.length {H : Hp} : ∀ {vs : List V} {ds : List PyData}, Dts H vs ds → vs.length = ds.length
  | _, _, .nil => rfl
  | _, _, .cons _ t => congrArg (· + 1) (Dts.length t)
theorem Dts.app {H : Hp} : ∀ {vs us : List V} {ds es : List PyData}, Dts H vs ds → Dts H us es → Dts H (vs ++ us) (ds ++ es)
  | _, _, _, _, .nil, q => q
  | _, _, _, _, .cons h t, q => .cons h (Dts.app t q)
theorem Dts.get {H : Hp} : ∀ {vs : List V} {ds : List PyData} {i : Nat} {d : PyData}, Dts H vs ds → ds[i]? = some d → ∃ v, vs[i]? = some v ∧ Dt H v d
  | _, _, _, _, .nil, e => by simp at e
  | _, _, 0, _, .cons h _, e => by
    simp only [List.getElem?_cons_zero, Option.some.injEq] at e
    subst e
    exact ⟨_, rfl, h⟩
  | _, _, i + 1, _, .cons _ t, e => by
    simp only [List.getElem?_cons_succ] at e
    obtain ⟨v, h1, h2⟩ := Dts.get t e
    exact ⟨v, by simpa using h1, h2⟩
theorem Dts.get' {H : Hp} : ∀ {vs : List V} {ds : List PyData} {i : Nat} {v : V}, Dts H vs ds → vs[i]? = some v → ∃ d, ds[i]? = some d ∧ Dt H v d
  | _, _, _, _, .nil, e => by simp at e
  | _, _, 0, _, .cons h _, e => by
    simp only [List.getElem?_cons_zero, Option.some.injEq] at e
    subst e
    exact ⟨_, rfl, h⟩
  | _, _, i + 1, _, .cons _ t, e => by
    simp only [List.getElem?_cons_succ] at e
    obtain ⟨v, h1, h2⟩ := Dts.get' t e
    exact ⟨v, by simpa using h1, h2⟩
theorem Dts.drop {H : Hp} : ∀ (n : Nat) {vs : List V} {ds : List PyData}, Dts H vs ds → Dts H (vs.drop n) (ds.drop n)
  | 0, _, _, h => h
  | _ + 1, _, _, .nil => .nil
  | n + 1, _, _, .cons _ t => Dts.drop n t
theorem Dt.tupI {H : Hp} {v : V} {ds : List PyData} (h : Dt H v (.tuple ds)) : ∃ a xs, v = .ref a ∧ H a = some (.tup xs) ∧ Dts H xs ds := by
  cases h with
  | tup h t => exact ⟨_, _, rfl, h, t⟩
theorem Dt.lstI {H : Hp} {v : V} {ds : List PyData} (h : Dt H v (.list ds)) : ∃ a xs, v = .ref a ∧ H a = some (.lst xs) ∧ Dts H xs ds := by
  cases h with
  | lst h t => exact ⟨_, _, rfl, h, t⟩
theorem Dt.intI {H : Hp} {v : V} {i : Int} (h : Dt H v (.int i)) : v = .int i := by cases h; rfl
theorem Dt.strI {H : Hp} {v : V} {i : Str} (h : Dt H v (.str i)) : v = .str i := by cases h; rfl
theorem Dts.ints {H : Hp} : ∀ {vs : List V} {ns : List Int}, Dts H vs (ns.map .int) → vs = ns.map V.int
  | _, [], .nil => rfl
  | _, _ :: ns, h => by
    have h' : Dts H _ (PyData.int _ :: ns.map PyData.int) := h
    cases h' with
    | cons h t =>
      rw [h.intI, Dts.ints t]
      rfl
theorem dts_ints (H : Hp) : ∀ ns : List Int, Dts H (ns.map V.int) (ns.map .int)
  | [] => .nil
  | n :: ns => .cons (.int n) (dts_ints H ns)

/-- a tuple of ints; a tuple of tuples of ints -/
abbrev vi (ns : List Int) : PyData := .tuple (ns.map .int)
abbrev vv (nss : List (List Int)) : PyData := .tuple (nss.map vi)
theorem Dt.viI {H : Hp} {v : V} {ns : List Int} (h : Dt H v (vi ns)) : ∃ a, v = .ref a ∧ H a = some (.tup (ns.map V.int)) := by
  obtain ⟨a, xs, rfl, h, t⟩ := h.tupI
  rw [t.ints] at h
  exact ⟨a, rfl, h⟩
theorem dt_vi {H : Hp} {a : Addr} {ns : List Int} (h : H a = some (.tup (ns.map V.int))) : Dt H (.ref a) (vi ns) := .tup h (dts_ints H ns)
theorem onlyTs_ints : ∀ ns : List Int, OnlyTs (ns.map .int)
  | [] => .nil
  | n :: ns => .cons (.int n) (onlyTs_ints ns)
theorem only_vi (ns : List Int) : OnlyT (vi ns) := .tup (onlyTs_ints ns)
theorem onlyTs_vis : ∀ nss : List (List Int), OnlyTs (nss.map vi)
  | [] => .nil
  | n :: ns => .cons (only_vi n) (onlyTs_vis ns)
theorem only_vv (nss : List (List Int)) : OnlyT (vv nss) := .tup (onlyTs_vis nss)

/-! ### heaps -/
theorem same_upd {H : Hp} {p : Addr} {o : HO} (h : H p = none) : Same H (upd H p o) := fun b x e => by
  rw [upd_ne (ne_of_none e h)]
  exact e
theorem same_upd2 {H H1 : Hp} {p : Addr} {o : HO} (h : H p = none) (s : Same H H1) : Same H (upd H1 p o) := fun b x e => by
  rw [upd_ne (ne_of_none e h)]
  exact s _ _ e

/-! ### defs as they are called -/
/-- the def x of the top keeps the promise sp (at most k calls deep) -/
def Callee (P : Program) (w : World) (K : PySem.W.Frag) (mg : Str → Option Value) (base : Heap) (k : Nat) (x : Str) (ps : List Str) (sp : Sp) : Prop :=
  ∃ f fd, FnOk P w K mg base CX0 k f fd ps sp ∧ mg x = some (.ref f) ∧ PySem.W.keepIn K (.ref f) = true ∧ Binds K fd ps [] ∧ ∃ oc od osl, K.lookup f = some ⟨oc, od, .func fd, osl⟩
/-- .. as the top has left it -/
def Has (K : PySem.W.Frag) (mg : Str → Option Value) (x : Str) (st : Stmt) (ps : List Str) : Prop :=
  ∃ f fd, Fun K x x st f fd ∧ mg x = some (.ref f) ∧ Binds K fd ps []
theorem Callee.mono {P : Program} {w : World} {K : PySem.W.Frag} {mg : Str → Option Value} {base : Heap} {j k : Nat} {x : Str} {ps : List Str} {sp : Sp} (c : Callee P w K mg base j x ps sp) (h : j ≤ k) : Callee P w K mg base k x ps sp := by
  obtain ⟨f, fd, a, b, c, d⟩ := c
  exact ⟨f, fd, a.mono h, b, c, d⟩
section
variable {X : Cx} {k : Nat} {ps : List Str} {sp : Sp} {x : Str} {p pos : Pos} {e : Expr} {es : List Expr} {t : TA}
theorem pe_fn (C : Callee X.prog X.w X.K X.mg X.base k x ps sp) (hr : Room k X.A) (hg : Gl X x) (ha : PA X (e :: es) t) (hdb : (x == ("__debug__" : Str)) = false := by decide)
    (he : starEach (e :: es) X.env = (false, eval e X.env) :: starEach es X.env := by rfl) (hpl : (backTo pos (starEach es X.env)).any (·.1) = false := by rfl) :
    PE X (.Call (.Name x p) (e :: es) [] pos) (tCall sp [] E0 t) := by
  obtain ⟨f, fd, F, hm, hk, hb, _⟩ := C
  exact pe_call F hr hg hm hk hb .nil pass0 ha hdb he hpl
end
section
variable {P : Program} {w : World} {K : PySem.W.Frag} {mg : Str → Option Value} {base : Heap}
theorem callee_of {x : Str} {st : Stmt} {N ps : List Str} {k : Nat} {sp : Sp} (F : Has K mg x st ps) (S : FnScope N ps (defScope st)) (len : ∀ vs H Q E, sp vs H Q E → vs.length = ps.length)
    (hbody : ∀ (f : Addr) (cdv : Value) (A : Around) (outer : List Env) (s : Shared) (H : Hp) (vs : List V) (Q : VK) (E : XK), Room k (A.deeper (envOfC x (defScope st) s.heap.objs.size f cdv)) → sp vs H Q E →
      ∃ t, PSs (cxOf CX0 P w K mg base N x (defScope st) f cdv A outer s H E).nox (defBody st) t ∧ t { nx := fun _ H' => Q .non H', rt := Q } (start N vs) H) :
    Callee P w K mg base (k + 1) x ps sp := by
  obtain ⟨f, fd, F, hm, hb⟩ := F
  obtain ⟨oc, od, kV, doc, pm, an, cdv, ct, osl, e, l, _⟩ := F.ex
  exact ⟨f, fd, F.ok S len fun cdv A outer s H vs Q E hr h => hbody f cdv A outer s H vs Q E hr h, hm, F.kp, hb, oc, od, osl, l⟩
end
/-- the builtins that the text uses -/
structure Blt (mg : Str → Option Value) : Prop where
  len : mg "len" = none
  int : mg "int" = none
  sum : mg "sum" = none
  all : mg "all" = none
  any : mg "any" = none
  zip : mg "zip" = none
  abs : mg "abs" = none
  max : mg "max" = none
  min : mg "min" = none
  set : mg "set" = none
  str : mg "str" = none
  bool : mg "bool" = none
  list : mg "list" = none
  tuple : mg "tuple" = none
  range : mg "range" = none
  sorted : mg "sorted" = none
  enumerate : mg "enumerate" = none
  isinstance : mg "isinstance" = none
end Wb
namespace Wb
open PySem PySem.Spec PyProof.Rows L2

/-- a list comprehension whose elements are data of tuples alone, the rest of the heap standing -/
theorem lc_fm {J : It} {n : Nat} {G : Hp → Prop} {Y : Nat → Hp → V → Hp → Prop} (w : Walk J n G Y) {g : TG} {tt : TT} {te : TE} {vs : List Nat} {σ : L2.St} {H1 : Hp} {D : Addr} {Qd : Hp → Prop} (f : Nat → Option PyData)
    (hn : H1 D = none) (hsz : n < sizeLine) (hG : ∀ H, Same H1 H → G H)
    (hs : ∀ (i : Nat) (x : V) (H H' : Hp) (k : V → Hp → Prop) (kn : Hp → Prop), i < n → Same H1 H → Y i H x H' → (∀ y H4 d, f i = some d → Same H H4 → OnlyT d → Dt H4 y d → k y H4) → (∀ H3, f i = none → Same H H3 → kn H3) →
      g x (wipe σ vs) H' fun σ2 H2 => wipe σ2 vs = wipe σ vs ∧ tt σ2 H2 fun b H3 => if b = true then te σ2 H3 k else kn H3)
    (hd : ∀ H ys, Same H1 H → H D = some (.lst ys) → Dts H ys ((List.range n).filterMap f) → OnlyTs ((List.range n).filterMap f) → Qd H) :
    ∃ W : Nat → Nat → Hp → Prop, (∃ m, W 0 m (upd H1 D (.lst []))) ∧ ∀ i m H, W i m H →
      (J.stop i H ∧ Qd H) ∨ (J.go i H ∧ ∃ Nx : Hp → Prop, (∀ H', Nx H' → ∃ m', m' < m ∧ W (i + 1) m' H') ∧ ∀ x H', J.yld i H x H' → g x (wipe σ vs) H' fun σ2 H2 => wipe σ2 vs = wipe σ vs ∧ tt σ2 H2 fun b H3 =>
        if b = true then te σ2 H3 fun y H4 => ∃ acc, H4 D = some (.lst acc) ∧ acc.length < sizeLine ∧ Nx (upd H4 D (.lst (acc ++ [y]))) else Nx H3) := by
  refine lc_it w (fun i H => Same H1 H ∧ ∃ ys, H D = some (.lst ys) ∧ ys.length ≤ i ∧ Dts H ys ((List.range i).filterMap f) ∧ OnlyTs ((List.range i).filterMap f)) ⟨same_upd hn, [], upd_same, Nat.le_refl _, .nil, .nil⟩ (fun i H _ p => hG H p.1) (fun i x H H' hi p y => ?_) fun H p => ?_
  · obtain ⟨s1, ys, hD, hl, hd1, ho⟩ := p
    refine hs i x H H' _ _ hi s1 y (fun y H4 d e s4 od hy => ?_) fun H3 e s3 => ?_
    · refine ⟨ys, s4 _ _ hD, by omega, ?_⟩
      have st : ∀ b xs, H4 b = some (.tup xs) → (upd H4 D (.lst (ys ++ [y]))) b = some (.tup xs) := fun b xs e => by
        rw [upd_ne (ne_of e (s4 _ _ hD) (by intro z; cases z))]
        exact e
      refine ⟨fun b o e => ?_, ys ++ [y], upd_same, by simp; omega, ?_, ?_⟩
      · rw [upd_ne (ne_of_none e hn)]
        exact s4 _ _ (s1 _ _ e)
      · rw [List.range_succ, List.filterMap_append]
        refine Dts.app (Dts.keep st ho (Dts.same s4 hd1)) ?_
        simp only [List.filterMap_cons, e, List.filterMap_nil]
        exact .cons (Dt.keep st od hy) .nil
      · rw [List.range_succ, List.filterMap_append]
        simp only [List.filterMap_cons, e, List.filterMap_nil]
        clear hd1
        generalize (List.range i).filterMap f = l at ho
        induction l with
        | nil => exact .cons od .nil
        | cons a r ih =>
          cases ho with
          | cons h1 h2 => exact .cons h1 (ih h2)
    · refine ⟨fun b o e => s3 _ _ (s1 _ _ e), ys, s3 _ _ hD, by omega, ?_, ?_⟩
      · rw [List.range_succ, List.filterMap_append]
        simp only [List.filterMap_cons, e, List.filterMap_nil, List.append_nil]
        exact Dts.same s3 hd1
      · rw [List.range_succ, List.filterMap_append]
        simp only [List.filterMap_cons, e, List.filterMap_nil, List.append_nil]
        exact ho
  · obtain ⟨s1, ys, hD, hl, hd1, ho⟩ := p
    exact hd H ys s1 hD hd1 ho
/-- zip of two tuples -/
theorem walk_zipT {K : PySem.W.Frag} {a b : Addr} {xs ys : List V} {n : Nat} (hn : n = min xs.length ys.length) :
    Walk (RZ.ItzT K a b) n (fun H => SqT K H a xs ∧ SqT K H b ys) (YPair (fun i => xs[i]?) (fun i => ys[i]?)) := by
  subst hn
  refine ⟨fun i _ hi q => ?_, fun _ q => ⟨xs, ys, q.1, q.2, by omega⟩, fun i H v H' _ q y => ?_⟩
  · have h1 : i < xs.length := by omega
    have h2 : i < ys.length := by omega
    exact ⟨xs, ys, xs[i], ys[i], q.1, q.2, by simp [h1], by simp [h2]⟩
  · obtain ⟨T, x, z, h1, h2, h3, h4, h5⟩ := y
    exact ⟨T, x, z, h1, h2, h3, h4 xs q.1, h5 ys q.2⟩
theorem _root_.L2.Same.tup {K : PySem.W.Frag} {H H' : Hp} {a : Addr} {xs : List V} (e : Same H H') (h : H a = some (.tup xs)) : SqT K H' a xs := SqT.of (e _ _ h)
theorem _root_.L2.Same.lst {K : PySem.W.Frag} {H H' : Hp} {a : Addr} {xs : List V} (e : Same H H') (h : H a = some (.lst xs)) : SqL K H' a xs := SqL.of (e _ _ h)
end Wb
namespace Wb
open PySem PySem.Spec PyProof.Rows L2
/-! the rules that name the written part K, K told apart (so that a block's reading names none of the block's own letters) -/
section
variable {X : Cx} {K : PySem.W.Frag} {tg e e2 a : Expr} {te : TE} {ta : TA} {es : List Expr} {p pos tpos : Pos} {kk : Nat} {t : TGs}
theorem pi_tupK (K) (h : X.K = K) (he : PE X e te) : PI X tg e (iTup K te) := by subst h; exact pi_tup he
theorem pi_listK (K) (h : X.K = K) (he : PE X e te) : PI X tg e (iList K te) := by subst h; exact pi_list he
theorem pi_zipK {elts : List Expr} (K) (h : X.K = K) (hg : Gl X "zip") (hm : X.mg "zip" = none) (ha : PA X [e, e2] ta)
    (hs : starEach [e, e2] X.env = (false, eval e X.env) :: starEach [e2] X.env := by rfl) (hpl : (backTo pos (starEach [e2] X.env)).any (·.1) = false := by rfl) :
    PI X (.Tuple elts kk tpos) (.Call (.Name "zip" p) [e, e2] [] pos) (RZ.iZipA K ta) := by subst h; exact RZ.pi_zipA hg hm ha hs hpl
theorem pg_tupK (K) (n : Nat) (h : X.K = K) (hc : X.calm = true) (hg : PGs X es t) (hn : (assignEach es X.env).length = n := by rfl) (hst : (assignEach es X.env).findIdx? (·.1) = none := by rfl) : PG X (.Tuple es kk pos) (gTup K n t) := by
  subst h; exact pg_tup hc hg hn hst
theorem pg_unlK (K) (n : Nat) (h : X.K = K) (hc : X.calm = true) (hg : PGs X es t) (hn : (assignEach es X.env).length = n := by rfl) (hst : (assignEach es X.env).findIdx? (·.1) = none := by rfl) : PG X (.Tuple es kk pos) (gUnl K n t) := by
  subst h; exact pg_unl hc hg hn hst
theorem ix_tupK (K) (h : X.K = K) : IxR X (rIxT K) := by subst h; exact ix_tup
theorem ix_listK (K) (h : X.K = K) : IxR X (rIxL K) := by subst h; exact ix_list
theorem sl_tupK (K) (h : X.K = K) : SlR X (rSlA K) := by subst h; exact sl_tupA
theorem sl_listK (K) (h : X.K = K) : SlR X (rSlL K) := by subst h; exact sl_list
theorem op_eqK (K) (h : X.K = K) (hu : X.A.units + 64 < cLine) : OpR X (compareOp .Eq) (rEqD K) := by subst h; exact op_eqD hu
theorem op_neK (K) (h : X.K = K) (hu : X.A.units + 64 < cLine) : OpR X (compareOp .NotEq) (rNeD K) := by subst h; exact op_neD hu
theorem op_inK (K) (h : X.K = K) (hu : X.A.units + 65 < cLine) : OpR X (compareOp .In) (rInD K) := by subst h; exact op_inD hu
theorem op_notInK (K) (h : X.K = K) : OpR X (compareOp .NotIn) (rIn K true) := by subst h; exact op_notIn_seq
theorem op_catK (K) (h : X.K = K) : OpR X (binaryOp .Add) (rCatT K) := by subst h; exact op_catT
def rLenS (K : PySem.W.Frag) : List V → Hp → VK → Prop := fun xs H Q => ∃ p ys, xs = [V.ref p] ∧ (SqL K H p ys ∨ SqT K H p ys) ∧ Q (.int ys.length) H
theorem len_K (K) (h : X.K = K) : CallR X (.builtin "len") (rLenS K) := by subst h; exact call_len_seq
theorem sum_K (K) (h : X.K = K) (hc : X.calm = true) : CallR X (.builtin "sum") (rSum K) := by subst h; exact cr_sum hc
theorem max_K (K) (h : X.K = K) (hc : X.calm = true) : CallR X (.builtin "max") (rMax K) := by subst h; exact cr_max hc
theorem min_K (K) (h : X.K = K) (hc : X.calm = true) : CallR X (.builtin "min") (rMin K) := by subst h; exact cr_min hc
theorem all_K (K) (h : X.K = K) (hc : X.calm = true) : CallR X (.builtin "all") (rAll K) := by subst h; exact cr_all hc
theorem any_K (K) (h : X.K = K) (hc : X.calm = true) : CallR X (.builtin "any") (rAny K) := by subst h; exact cr_any hc
theorem isi_K (K) (h : X.K = K) : CallR X (.builtin "isinstance") (rIsi K) := by subst h; exact call_isi
theorem pe_tupleK (K) (h : X.K = K) (hg : Gl X "tuple") (hm : X.mg "tuple" = none) (ha : PE X a te) (na : starEach [a] X.env = (false, eval a X.env) :: starEach [] X.env := by rfl) :
    PE X (.Call (.Name "tuple" p) [a] [] pos) (tThen te (kTup K)) := by subst h; exact pe_tupleOf hg hm ha na
theorem pa_starK {ts : TA} (K) (h : X.K = K) (he : PE X e te) (hr : PA X es ts) (hs : starEach (.Starred e p :: es) X.env = (true, eval e X.env) :: starEach es X.env := by rfl) : PA X (.Starred e p :: es) (StX.tStar K te ts) := by
  subst h; exact StX.pa_star he hr hs
end
end Wb
namespace Wb
open PySem PySem.Spec PyProof.Rows L2

def Bd (ns : List Int) : Prop := ∀ n ∈ ns, -1000000 ≤ n ∧ n ≤ 1000000
def dotI (xs ys : List Int) : Int := (List.zipWith (· * ·) xs ys).sum
theorem Bd.at {ns : List Int} (h : Bd ns) {i : Nat} {x : Int} (e : ns[i]? = some x) : -1000000 ≤ x ∧ x ≤ 1000000 := h x (List.mem_of_getElem? e)
theorem map_int_at {ns : List Int} {i : Nat} {v : V} (h : (ns.map V.int)[i]? = some v) : ∃ x, ns[i]? = some x ∧ v = .int x := by
  rw [List.getElem?_map] at h
  cases e : ns[i]? with
  | none => rw [e] at h; cases h
  | some x => rw [e] at h; exact ⟨x, rfl, (Option.some.inj h).symm⟩
/-- the items f gives at the places of a list -/
theorem fm_range {α β : Type} (xs : List α) (g : α → Option β) (f : Nat → Option β) (h : ∀ i x, xs[i]? = some x → f i = g x) : (List.range xs.length).filterMap f = xs.filterMap g := by
  induction xs generalizing f with
  | nil => rfl
  | cons a r ih =>
    rw [List.length_cons, List.range_succ_eq_map, List.filterMap_cons, List.filterMap_map, List.filterMap_cons, h 0 a rfl]
    have e := ih (f ∘ Nat.succ) fun i x hx => h (i + 1) x (by simpa using hx)
    rw [e]
theorem fm_map {α β : Type} (xs : List α) (g : α → β) (f : Nat → Option β) (h : ∀ i x, xs[i]? = some x → f i = some (g x)) : (List.range xs.length).filterMap f = xs.map g := by
  rw [fm_range xs (fun x => some (g x)) f h, List.filterMap_eq_map']
theorem zip_at {α β : Type} {xs : List α} {ys : List β} {i : Nat} {x : α} {y : β} (h1 : xs[i]? = some x) (h2 : ys[i]? = some y) : (xs.zip ys)[i]? = some (x, y) := by
  rw [List.getElem?_zip_eq_some]
  exact ⟨h1, h2⟩
section
variable {P : Program} {w : World} {K : PySem.W.Frag} {mg : Str → Option Value} {base : Heap}
def spDot : Sp := fun vs H Q _ => ∃ (a b : Addr) (xs ys : List Int), vs = [.ref a, .ref b] ∧ H a = some (.tup (xs.map V.int)) ∧ H b = some (.tup (ys.map V.int)) ∧ xs.length = ys.length ∧ xs.length ≤ 1000 ∧ Bd xs ∧
  ∀ H', Same H H' → Q (.int (dotI xs ys)) H'
theorem ok_dot (F : Has K mg "dot" s_dot ["one", "other"]) (B : Blt mg) : Callee P w K mg base 1 "dot" ["one", "other"] spDot := by
  have nd := sc_dot.nd
  refine callee_of F sc_dot (fun vs H Q E h => ?_) (fun f cdv A outer s H vs Q E hr h => ?_)
  · obtain ⟨a, b, xs, ys, rfl, _⟩ := h
    rfl
  · obtain ⟨a, b, xs, ys, rfl, ha, hb, hl, hz, bd, q⟩ := h
    refine ⟨_, (pss_one
      (ps_ret (pe_callB (sum_K K rfl rfl) (by rfl) B.sum (by decide +kernel) (pa_cons (pe_lc (own := [("left", 2), ("right", 3)]) rfl nd (pi_zipK K rfl rfl B.zip (pa_cons (pv 0) (pa_cons (pv 1) pa_nil))) (blkOk_by (by kernel_rfl)) (fun _ _ _ _ _ => (pg_tupK K 2 rfl rfl (pgs_cons (pg_name (i := 2) nd rfl (Or.inl rfl)) (pgs_cons (pg_name (i := 3) nd rfl (Or.inl rfl)) pgs_nil)))) (fun _ _ _ _ _ => pts_nil) (fun _ _ _ _ _ => (pe_op op_mul (pv 2) (pv 3)))) pa_nil)))), ?_⟩
    refine ⟨_, rfl, _, rfl, a, b, xs.map V.int, ys.map V.int, rfl, .inr ⟨SqT.of ha, SqT.of hb, fun D hD => ?_⟩⟩
    refine lc_fm (walk_zipT (xs := xs.map V.int) (ys := ys.map V.int) (n := (xs.zip ys).length) (by simp [hl])) (fun i => ((xs.zip ys)[i]?).map fun p => .int (p.1 * p.2)) hD (Nat.lt_of_le_of_lt (by simp; omega) (small1000 (Nat.le_refl 1000))) (fun H' s => ⟨s.tup ha, s.tup hb⟩) (fun i x H2 H3 k kn hi s1 hy hk hkn => ?_) (fun H2 vs s2 h2 d2 _ => ?_)
    · obtain ⟨T, x1, y1, rfl, hT, rfl, e1, e2⟩ := hy
      obtain ⟨u1, g1, rfl⟩ := map_int_at e1
      obtain ⟨u2, g2, rfl⟩ := map_int_at e2
      refine ⟨T, _, rfl, SqT.of upd_same, rfl, _, _, rfl, _, _, rfl, rfl, rfl, ?_⟩
      have b1 := bd.at g1
      refine ⟨_, rfl, _, rfl, u1, u2, rfl, rfl, .inl ⟨by omega, by omega⟩, hk _ _ (.int (u1 * u2)) ?_ (same_upd hT) (.int _) (.int _)⟩
      rw [zip_at g1 g2]
      rfl
    · rw [fm_map (xs.zip ys) (fun p => PyData.int (p.1 * p.2)) _ (fun i x e => by rw [e]; rfl)] at d2
      have e3 : (xs.zip ys).map (fun p => PyData.int (p.1 * p.2)) = (List.zipWith (· * ·) xs ys).map PyData.int := by
        rw [List.zip, List.map_zipWith, List.map_zipWith]
      rw [e3] at d2
      rw [d2.ints] at h2
      exact ⟨_, _, rfl, SqL.of h2, q _ s2⟩
end
end Wb
namespace Wb
open PySem PySem.Spec PyProof.Rows L2

/-! ### enumerate of a tuple -/
set_option maxHeartbeats 1000000 in
theorem meets_enum_new1 {v : Value} {o : Obj} {H : Heap → Prop} (B : Begins v o H) :
    Meets (Builtin.«enumerate.__new__» ⟨[.type "enumerate", v], []⟩) (fun _ R s => H s.heap ∧
      R (.ok (.ret (.ref (s.heap.push o).objs.size)))
        { s with heap := (s.heap.push o).push { cls := .type "enumerate", data := .fields #[.none, .bool false, .ref s.heap.objs.size, rawInt 0, .none, .none] } }) :=
  .of_wp fun prog w A R s h => by
    obtain ⟨hp, g, d, tk, os⟩ := s
    obtain ⟨h1, h⟩ := h
    have hsub := sub_enumerate
    have q1 : ∀ {A' : Around} {E : Value → Shared → Prop} {Q : Value → Shared → Prop}, Q (.ref hp.objs.size) ⟨hp.push o, g, d, tk, os⟩ →
        wpAny (model prog w) A' (pyIter v) Q E ⟨hp, g, d, tk, os⟩ := fun q => B.iter prog w _ _ ⟨hp, g, d, tk, os⟩ _ h1 q
    wp_walk using q1
    refine wpAny_stack_any fun st => wpAny_pure ?_
    split
    · rename_i c _ _ _ _ _
      cases (c == Value.type "enumerate") <;> (wp_walk using q1; exact ⟨_, rfl, h⟩)
    · wp_walk using q1
      exact ⟨_, rfl, h⟩
section
variable {prog : Program} {w : World} {A : Around} {E : Value → Shared → Prop} {s : Shared}
theorem enum_begins1 {v : Value} {o : Obj} {H : Heap → Prop} {Q : Value → Shared → Prop} (B : Begins v o H) (h1 : H s.heap)
    (h : ∀ h', IsEnum h' (s.heap.objs.size + 1) s.heap.objs.size 0 .none → h'.get? s.heap.objs.size = some o → h'.objs.size = s.heap.objs.size + 2 →
      (∀ b o, s.heap.get? b = some o → h'.get? b = some o) → Q (.ref (s.heap.objs.size + 1)) { s with heap := h' }) :
    wpAny (model prog w) A (call (.type "enumerate") [v]) Q E s := by
  refine callType_new F.called_enumerate (by decide) (F.typeCall_enumerate_1 _) (F.newCall_enumerate_1 _) (fun obj => F.args_object_init_2 obj _) F.entry_enumerate_new (meets_enum_new1 B) ⟨h1, ?_⟩
  have hz : (s.heap.push o).objs.size = s.heap.objs.size + 1 := Heap.size_push ..
  show _ ∧ _
  rw [hz]
  have he : IsEnum ((s.heap.push o).push { cls := .type "enumerate", data := .fields #[.none, .bool false, .ref s.heap.objs.size, rawInt 0, .none, .none] }) (s.heap.objs.size + 1) s.heap.objs.size 0 .none := by
    have e := Heap.get?_push_size (s.heap.push o) (o := { cls := .type "enumerate", data := .fields #[.none, .bool false, .ref s.heap.objs.size, rawInt 0, .none, .none] }) rfl
    rw [hz] at e
    exact e
  exact ⟨⟨_, he, rfl⟩, h _ he (Heap.get?_push_of_some _ (Heap.get?_push_size _ B.free)) (by rw [Heap.size_push, hz]) fun b o x => Heap.get?_push_of_some _ (Heap.get?_push_of_some _ x)⟩
end
theorem tup_ne_iter {h : Heap} {a it : Addr} {i : Nat} {its : Array Value} (p : IsTup h a its) (q : h.IsTupleIter it a i) : a ≠ it := by
  rintro rfl
  obtain ⟨o, ho, hc, _⟩ := p
  obtain ⟨o', ho', hc', _⟩ := q
  rw [ho] at ho'
  cases ho'
  rw [hc] at hc'
  exact absurd hc' (by decide)
theorem lst_ne_iter {h : Heap} {a it : Addr} {i : Nat} {its : Array Value} (p : h.IsList a its) (q : h.IsListIter it a i) : a ≠ it := by
  rintro rfl
  obtain ⟨o, ho, hc, _⟩ := p
  obtain ⟨o', ho', hc', _⟩ := q
  rw [ho] at ho'
  cases ho'
  rw [hc] at hc'
  exact absurd hc' (by decide)
/-- the tuple at a, each item in a new pair behind its number -/
def IteT (K : PySem.W.Frag) (a : Addr) : It where
  go := fun i H => ∃ (xs : List V) (x : V), SqT K H a xs ∧ xs[i]? = some x
  yld := fun i H v H' => ∃ T x, v = .ref T ∧ H T = none ∧ H' = upd H T (.tup [.int (i : Nat), x]) ∧ ∀ xs, SqT K H a xs → xs[i]? = some x
  stop := fun i H => ∃ xs : List V, SqT K H a xs ∧ xs.length = i
theorem turn_enumT {P : Program} {w : World} {K : PySem.W.Frag} {elts : List Expr} {kk : Nat} {tpos : Pos} (a e it : Addr) :
    Turn P w K (.Tuple elts kk tpos) (IteT K a) [e, it] e (fun i h => (∃ old, IsEnum h e it ((i : Nat) : Int) old) ∧ h.IsTupleIter it a i ∧ e ≠ it ∧ e ≠ a) where
  mem := by simp
  obj := fun i h st b hb => by
    obtain ⟨⟨old, he⟩, ⟨o, ho, hc, hd⟩, _⟩ := st
    rcases (show b = e ∨ b = it by simpa using hb) with z | z
    · rw [z]; exact ⟨_, he, fun v q => nomatch q⟩
    · rw [z]; exact ⟨o, ho, fun v q => by rw [hd] at q; cases q⟩
  keep := fun i h h' st k => by
    obtain ⟨⟨old, he⟩, hi, hne⟩ := st
    exact ⟨⟨old, k e (by simp) _ he⟩, hi.at fun o q => k it (by simp) o q, hne⟩
  item := by
    intro X hP hw hK hc i pins s σ H E I hf st hg
    subst hP hw hK
    obtain ⟨⟨old, he⟩, hit, hne, hea⟩ := st
    obtain ⟨xs, x, hq, hx⟩ := hg
    obtain ⟨its, rv, p, hz⟩ := I.tuple hq
    obtain ⟨u, hu, ru⟩ := rv.get hx
    have hel : e < s.heap.objs.size := Heap.lt_size he
    have hil : it < s.heap.objs.size := by obtain ⟨_, q, _⟩ := hit; exact Heap.lt_size q
    have hlt : i < its.toArray.size := by
      rw [List.size_toArray]
      exact (List.getElem?_eq_some_iff.mp hu).1
    refine wpAny_pyNext_enum_itemD (Draws.tuple (A := X.A.in1) (I.ok.hd hc) it a (tup_ne_iter p hit) its.toArray) he ⟨hit, p⟩ hlt hne (by simp [hne, hea]) fun u' h' tk hP ho st' hT hsz hk => ?_
    have eu : u' = u := by
      have q : its[i]? = some u' := by simpa using hP
      rw [hu] at q
      exact (Option.some.inj q).symm
    subst eu
    obtain ⟨hit', _⟩ := st'
    refine ⟨_, rfl, wpAny_letOwnedTupleGo_enum (s := { s with heap := h', toks := tk + 1 }) ho fun h'' he' sb => ?_⟩
    have hT2 : h''.get? s.heap.objs.size = some { cls := .type "tuple", data := .seq #[.int i tk, u'] } := (sb.2 _ (Nat.ne_of_gt hel)).trans hT
    have new : ObjOk X.prog X.w (upd H s.heap.objs.size (.tup [.int (i : Nat), x])) h'' s.heap.objs.size (.tup [.int (i : Nat), x]) :=
      ⟨by show 2 ≤ sizeLine; decide, [.int i tk, u'], .cons ⟨_, rfl⟩ (.cons ru .nil), ⟨_, hT2, rfl, _, rfl⟩⟩
    have I1 : Inv X pins σ (upd H s.heap.objs.size (.tup [.int (i : Nat), x])) { s with heap := h'', toks := tk + 1 } :=
      I.turnedNew (t' := tk + 1) (ch := [e, it]) (fun b ob hb q => (sb.2 b (fun z => hb (by simp [z]))).trans (hk b ob (fun z => hb (by simp [z])) (fun z => hb (by simp [z])) q)) hf (Nat.le_refl _) new
    refine ⟨.ref s.heap.objs.size, _, I1, rfl, ⟨_, x, rfl, I.hok.fresh (Nat.le_refl _), rfl, fun ys hy => by rw [I.tuple_inj hy hq]; exact hx⟩, ⟨⟨u', ?_⟩, hit'.at fun o q => (sb.2 it (Ne.symm hne)).trans q, hne, hea⟩, fun b hb => ?_⟩
    · have e1 : ((i + 1 : Nat) : Int) = (i : Int) + 1 := by omega
      rw [e1]
      exact he'
    · have hb' : b < s.heap.objs.size := by
        rcases (show b = e ∨ b = it by simpa using hb) with z | z
        · rw [z]; exact hel
        · rw [z]; exact hil
      rw [upd_ne (Nat.ne_of_lt hb')]
      exact (hf b hb).1
  done := by
    intro X hP hw hK hc i pins s σ H E I hf st hg
    subst hP hw hK
    obtain ⟨⟨old, he⟩, hit, hne, hea⟩ := st
    obtain ⟨xs, hq, hx⟩ := hg
    obtain ⟨its, rv, p, hz⟩ := I.tuple hq
    obtain ⟨f0, f1, f2, f3, f4, f5⟩ := hf it (by simp)
    have hl := rv.length
    have en : its.toArray.size = i := by rw [List.size_toArray]; omega
    have hit' : s.heap.IsTupleIter it a its.toArray.size := by rw [en]; exact hit
    exact wpAny_pyNext_enum_endD (Draws.tuple (A := X.A.in1) (I.ok.hd hc) it a (tup_ne_iter p hit) its.toArray) he ⟨hit', p⟩ fun h' eb => ⟨rfl, I.turned (t' := s.toks) (fun b o hb q => eb b o hb q) f0 f1 f3 f4 f5⟩
  self := fun A i s Q E st h => by
    obtain ⟨⟨_, he⟩, _⟩ := st
    exact wpAny_pyIter_enum he h
def iEnumT (K : PySem.W.Frag) (ta : TA) : TI := fun σ H R => ta σ H fun vs H1 => ∃ a xs, vs = [.ref a] ∧ SqT K H1 a xs ∧ R (IteT K a) H1
theorem pi_enumK {X : Cx} {e : Expr} {ta : TA} {p pos tpos : Pos} {elts : List Expr} {kk : Nat} (K) (h : X.K = K) (hg : Gl X "enumerate") (hm : X.mg "enumerate" = none) (ha : PA X [e] ta) (hs : starEach [e] X.env = [(false, eval e X.env)] := by rfl) :
    PI X (.Tuple elts kk tpos) (.Call (.Name "enumerate" p) [e] [] pos) (iEnumT K ta) := by
  subst h
  refine ⟨fun pins s σ H R I h => ?_⟩
  refine Call_ (ld_blt I hg hm boot_enumerate (PyProof.Rows.callWith_type1 (thn (ha.run pos pins s σ H _ I h) fun us s1 ⟨vs, H1, I1, r1, q1⟩ => ?_) hs rfl))
  obtain ⟨a, xs, ex, hq, q⟩ := q1
  subst ex
  cases r1 with
  | cons r rr =>
    cases rr
    cases r
    obtain ⟨its, rv, p', hz⟩ := I1.tuple hq
    refine enum_begins1 (begins_tuple a its.toArray) p' fun h' he hit hsz hk => wpAny_pyIter_enum he ?_
    have I2 : Inv X pins σ H1 { s1 with heap := h' } := I1.kept (t' := s1.toks) hk
    have la : a < s1.heap.objs.size := p'.lt
    refine ⟨s1.heap.objs.size + 1, [s1.heap.objs.size + 1, s1.heap.objs.size], _, _, H1, rfl, I2, turn_enumT a (s1.heap.objs.size + 1) s1.heap.objs.size, ⟨⟨.none, he⟩, ⟨_, hit, rfl, rfl⟩, Nat.succ_ne_self _, Nat.ne_of_gt (Nat.lt_succ_of_lt la)⟩, fun b hb => ?_, q⟩
    have hle : s1.heap.objs.size ≤ b := by
      rcases (show b = s1.heap.objs.size + 1 ∨ b = s1.heap.objs.size by simpa using hb) with z | z
      · rw [z]; exact Nat.le_add_right _ _
      · rw [z]; exact Nat.le_refl _
    exact I1.fpOk hle (I1.hok.fresh hle)
theorem walk_enumT {K : PySem.W.Frag} {a : Addr} {xs : List V} : Walk (IteT K a) xs.length (fun H => SqT K H a xs) (YPair (fun i => some (.int (i : Nat))) (fun i => xs[i]?)) := by
  refine ⟨fun i _ hi q => ⟨xs, xs[i], q, by simp [hi]⟩, fun _ q => ⟨xs, q, rfl⟩, fun i H v H' _ q y => ?_⟩
  obtain ⟨T, x, h1, h2, h3, h4⟩ := y
  exact ⟨T, .int (i : Nat), x, h1, h2, h3, rfl, h4 xs q⟩

/-! ### zip of a list and a tuple -/
def ItzM (K : PySem.W.Frag) (a b : Addr) : It where
  go := fun i H => ∃ (xs ys : List V) (x y : V), SqL K H a xs ∧ SqT K H b ys ∧ xs[i]? = some x ∧ ys[i]? = some y
  yld := fun i H v H' => ∃ T x y, v = .ref T ∧ H T = none ∧ H' = upd H T (.tup [x, y]) ∧ (∀ xs, SqL K H a xs → xs[i]? = some x) ∧ ∀ ys, SqT K H b ys → ys[i]? = some y
  stop := fun i H => ∃ xs ys : List V, SqL K H a xs ∧ SqT K H b ys ∧ i ≤ xs.length ∧ i ≤ ys.length ∧ (xs.length = i ∨ ys.length = i)
/-- the cells of the zip lie apart -/
structure Apart5 (z TI TO i1 i2 : Addr) (a b : Addr) : Prop where
  nd : [z, TI, TO, i1, i2].Nodup
  na : a ∉ [z, TI, TO, i1, i2]
  nb : b ∉ [z, TI, TO, i1, i2]
theorem Apart5.sep {z TI TO i1 i2 a b : Addr} (D : Apart5 z TI TO i1 i2 a b) : ZipSep2 z TI TO i1 i2 [i1, a] [i2, b] := by
  have h1 := D.nd
  have h2 := D.na
  have h3 := D.nb
  simp only [List.nodup_cons, List.mem_cons, List.not_mem_nil, or_false, not_or, List.nodup_nil, and_true, not_false_eq_true] at h1 h2 h3
  obtain ⟨⟨n1, n2, n3, n4⟩, ⟨n5, n6, n7⟩, ⟨n8, n9⟩, n10⟩ := h1
  obtain ⟨a1, a2, a3, a4, a5⟩ := h2
  obtain ⟨b1, b2, b3, b4, b5⟩ := h3
  exact { TIz := fun e => n1 e.symm, TOz := fun e => n2 e.symm, TITO := n5, TIi1 := n6, mem1 := by simp, zf1 := by simp [n3, Ne.symm a1], Tf1 := by simp [n8, Ne.symm a3], TIi2 := n7, mem2 := by simp, zf2 := by simp [n4, Ne.symm b1], Tf2 := by simp [n9, Ne.symm b3], sep1_2 := by simp [n10, Ne.symm b4], sep2_1 := by simp [Ne.symm n10, Ne.symm a5] }
theorem turn_zipM {P : Program} {w : World} {K : PySem.W.Frag} {elts : List Expr} {kk : Nat} {tpos : Pos} {a b z TI TO i1 i2 : Addr} (D : Apart5 z TI TO i1 i2 a b) :
    Turn P w K (.Tuple elts kk tpos) (ItzM K a b) [z, TI, TO, i1, i2] z (fun i h => IsZip h z TI TO .none ∧ IsTupOf2 h TI (.ref i1) (.ref i2) ∧ (∃ x y, IsTupOf2 h TO x y) ∧ h.IsListIter i1 a i ∧ h.IsTupleIter i2 b i) where
  mem := by simp
  obj := fun i h st c hc => by
    obtain ⟨hz, hTI, ⟨x, y, hTO⟩, ⟨o1, e1, _, d1⟩, ⟨o2, e2, _, d2⟩⟩ := st
    rcases (show c = z ∨ c = TI ∨ c = TO ∨ c = i1 ∨ c = i2 by simpa using hc) with q | q | q | q | q
    · rw [q]; exact ⟨_, hz, fun v q => nomatch q⟩
    · rw [q]; exact ⟨_, hTI, fun v q => nomatch q⟩
    · rw [q]; exact ⟨_, hTO, fun v q => nomatch q⟩
    · rw [q]; exact ⟨o1, e1, fun v q => by rw [d1] at q; cases q⟩
    · rw [q]; exact ⟨o2, e2, fun v q => by rw [d2] at q; cases q⟩
  keep := fun i h h' st k => by
    obtain ⟨hz, hTI, ⟨x, y, hTO⟩, h1, h2⟩ := st
    exact ⟨k z (by simp) _ hz, k TI (by simp) _ hTI, ⟨x, y, k TO (by simp) _ hTO⟩, h1.at fun o q => k i1 (by simp) o q, h2.at fun o q => k i2 (by simp) o q⟩
  item := by
    intro X hP hw hK hc i pins s σ H E I hf st hg
    subst hP hw hK
    obtain ⟨hz, hTI, ⟨x0, y0, hTO⟩, h1, h2⟩ := st
    obtain ⟨xs, ys, x, y, hqx, hqy, hx, hy⟩ := hg
    obtain ⟨its, rv, p, _⟩ := I.list hqx
    obtain ⟨its2, rv2, p2, _⟩ := I.tuple hqy
    obtain ⟨u, hu, ru⟩ := rv.get hx
    obtain ⟨u2, hu2, ru2⟩ := rv2.get hy
    have hzl : z < s.heap.objs.size := Heap.lt_size hz
    have l1 : i < its.toArray.size := by rw [List.size_toArray]; exact (List.getElem?_eq_some_iff.mp hu).1
    have l2 : i < its2.toArray.size := by rw [List.size_toArray]; exact (List.getElem?_eq_some_iff.mp hu2).1
    refine wpAny_pyNext_zipD2_item D.sep (Draws.list (A := X.A.in1) (I.ok.hd hc) i1 a (lst_ne_iter p.isList h1) its.toArray) (Draws.tuple (A := X.A.in1) (I.ok.hd hc) i2 b (tup_ne_iter p2 h2) its2.toArray) hz hTI hTO ⟨h1, p.isList⟩ ⟨h2, p2⟩ l1 l2 fun v1 v2 h' tk P1 P2 z' TO' st1 st2 hT hsz hk => ?_
    have ev1 : v1 = u := by
      have q : its[i]? = some v1 := by simpa using P1
      rw [hu] at q
      exact (Option.some.inj q).symm
    have ev2 : v2 = u2 := by
      have q : its2[i]? = some v2 := by simpa using P2
      rw [hu2] at q
      exact (Option.some.inj q).symm
    subst ev1 ev2
    obtain ⟨h1', _⟩ := st1
    obtain ⟨h2', _⟩ := st2
    refine ⟨_, rfl, wpAny_letOwnedTupleGo_zip (s := { s with heap := h', toks := tk }) z' fun h'' z'' sb => ?_⟩
    have hT2 : h''.get? s.heap.objs.size = some { cls := .type "tuple", data := .seq #[v1, v2] } := (sb.2 _ (Nat.ne_of_gt hzl)).trans hT
    have new : ObjOk X.prog X.w (upd H s.heap.objs.size (.tup [x, y])) h'' s.heap.objs.size (.tup [x, y]) :=
      ⟨by show 2 ≤ sizeLine; decide, [v1, v2], .cons ru (.cons ru2 .nil), ⟨_, hT2, rfl, _, rfl⟩⟩
    have I1 : Inv X pins σ (upd H s.heap.objs.size (.tup [x, y])) { s with heap := h'', toks := tk } :=
      I.turnedNew (t' := tk) (ch := [z, TI, TO, i1, i2]) (fun c o hb q => (sb.2 c (fun q' => hb (by simp [q']))).trans (hk c o (fun q' => hb (by simp [q'])) (fun q' => hb (by simp [q'])) (fun q' => hb (by simp [q'])) (fun q' => hb (by simp [q'])) q)) hf (Nat.le_refl _) new
    have S := D.sep
    refine ⟨.ref s.heap.objs.size, _, I1, rfl, ⟨_, x, y, rfl, I.hok.fresh (Nat.le_refl _), rfl, fun l hl => by rw [I.list_inj hl hqx]; exact hx, fun l hl => by rw [I.tuple_inj hl hqy]; exact hy⟩, ⟨z'', ?_, ⟨v1, v2, ?_⟩, ?_, ?_⟩, fun c hcm => ?_⟩
    · exact (sb.2 _ S.TIz).trans (hk _ _ S.TIz S.TITO S.TIi1 S.TIi2 hTI)
    · exact (sb.2 _ S.TOz).trans TO'
    · exact h1'.at fun o q => (sb.2 _ (Ne.symm S.zi1)).trans q
    · exact h2'.at fun o q => (sb.2 _ (Ne.symm S.zi2)).trans q
    · have hlt : c < s.heap.objs.size := by
        rcases (show c = z ∨ c = TI ∨ c = TO ∨ c = i1 ∨ c = i2 by simpa using hcm) with q | q | q | q | q
        · rw [q]; exact hzl
        · rw [q]; exact Heap.lt_size hTI
        · rw [q]; exact Heap.lt_size hTO
        · rw [q]; obtain ⟨_, e1, _⟩ := h1; exact Heap.lt_size e1
        · rw [q]; obtain ⟨_, e2, _⟩ := h2; exact Heap.lt_size e2
      rw [upd_ne (Nat.ne_of_lt hlt)]
      exact (hf c hcm).1
  done := by
    intro X hP hw hK hc i pins s σ H E I hf st hg
    subst hP hw hK
    obtain ⟨hz, hTI, ⟨x0, y0, hTO⟩, h1, h2⟩ := st
    obtain ⟨xs, ys, hqx, hqy, lx, ly, hend⟩ := hg
    obtain ⟨its, rv, p, _⟩ := I.list hqx
    obtain ⟨its2, rv2, p2, _⟩ := I.tuple hqy
    have l1 := rv.length
    have l2 := rv2.length
    refine wpAny_pyNext_zipD2_end D.sep (Draws.list (A := X.A.in1) (I.ok.hd hc) i1 a (lst_ne_iter p.isList h1) its.toArray) (Draws.tuple (A := X.A.in1) (I.ok.hd hc) i2 b (tup_ne_iter p2 h2) its2.toArray) hz hTI hTO ⟨h1, p.isList⟩ ⟨h2, p2⟩ (by rw [List.size_toArray]; omega) (by rw [List.size_toArray]; omega) (by rw [List.size_toArray, List.size_toArray]; omega) fun h' tk hk => ?_
    exact ⟨rfl, I.turnedL (t' := tk) (ch := [z, TI, TO, i1, i2]) (fun c o hb q => hk c o (fun q' => hb (by simp [q'])) (fun q' => hb (by simp [q'])) (fun q' => hb (by simp [q'])) (fun q' => hb (by simp [q'])) q) hf⟩
  self := fun A i s Q E st h => wpAny_pyIter_zip st.1 h
def iZipM (K : PySem.W.Frag) (ta : TA) : TI := fun σ H R => ta σ H fun vs H1 => ∃ a b xs ys, vs = [.ref a, .ref b] ∧ SqL K H1 a xs ∧ SqT K H1 b ys ∧ R (ItzM K a b) H1
theorem apart5_new (N a b : Nat) (ha : a < N) (hb : b < N) : Apart5 (N + 4) (N + 2) (N + 3) N (N + 1) a b := by
  refine ⟨?_, fun h => ?_, fun h => ?_⟩
  · have q : ([N + 4, N + 2, N + 3, N, N + 1] : List Nat).Nodup := by simp
    exact q
  · have q : a = N + 4 ∨ a = N + 2 ∨ a = N + 3 ∨ a = N ∨ a = N + 1 := by simpa using h
    omega
  · have q : b = N + 4 ∨ b = N + 2 ∨ b = N + 3 ∨ b = N ∨ b = N + 1 := by simpa using h
    omega
theorem pi_zipM {X : Cx} {e e2 : Expr} {ta : TA} {p pos tpos : Pos} {elts : List Expr} {kk : Nat} (K) (h : X.K = K) (hg : Gl X "zip") (hm : X.mg "zip" = none) (ha : PA X [e, e2] ta)
    (hs : starEach [e, e2] X.env = (false, eval e X.env) :: starEach [e2] X.env := by rfl) (hpl : (backTo pos (starEach [e2] X.env)).any (·.1) = false := by rfl) :
    PI X (.Tuple elts kk tpos) (.Call (.Name "zip" p) [e, e2] [] pos) (iZipM K ta) := by
  subst h
  refine ⟨fun pins s σ H R I h => ?_⟩
  refine Call_ (ld_blt I hg hm PyProof.Rows.boot_zip (PyProof.Rows.callWith_type1 (thn (ha.run pos pins s σ H _ I h) fun us s1 ⟨vs, H1, I1, r1, q1⟩ => ?_) hs hpl))
  obtain ⟨a, b, xs, ys, ex, hqx, hqy, q⟩ := q1
  subst ex
  cases r1 with
  | cons r rr =>
    cases rr with
    | cons r' rr =>
      cases rr
      cases r
      cases r'
      have fresh5 : ∀ c, c ∈ [s1.heap.objs.size + 4, s1.heap.objs.size + 2, s1.heap.objs.size + 3, s1.heap.objs.size, s1.heap.objs.size + 1] → FpOk X pins H1 c := fun c hcm => by
        have hle : s1.heap.objs.size ≤ c := by
          rcases (show c = s1.heap.objs.size + 4 ∨ c = s1.heap.objs.size + 2 ∨ c = s1.heap.objs.size + 3 ∨ c = s1.heap.objs.size ∨ c = s1.heap.objs.size + 1 by simpa using hcm) with z | z | z | z | z
          · rw [z]; exact Nat.le_add_right _ _
          · rw [z]; exact Nat.le_add_right _ _
          · rw [z]; exact Nat.le_add_right _ _
          · rw [z]; exact Nat.le_refl _
          · rw [z]; exact Nat.le_add_right _ _
        exact I1.fpOk hle (I1.hok.fresh hle)
      obtain ⟨its, rv, p1, _⟩ := I1.list hqx
      obtain ⟨its2, rv2, p2, _⟩ := I1.tuple hqy
      refine zip_begins2 (begins_list a its.toArray) (begins_tuple b its2.toArray) p1.isList p2 fun h' hz hTI hTO h1 h2 hsz hk => wpAny_pyIter_zip hz ?_
      have I2 : Inv X pins σ H1 { s1 with heap := h' } := I1.kept (t' := s1.toks) hk
      exact ⟨s1.heap.objs.size + 4, [s1.heap.objs.size + 4, s1.heap.objs.size + 2, s1.heap.objs.size + 3, s1.heap.objs.size, s1.heap.objs.size + 1], _, _, H1, rfl, I2, turn_zipM (apart5_new s1.heap.objs.size a b p1.lt p2.lt), ⟨hz, hTI, ⟨_, _, hTO⟩, ⟨_, h1, rfl, rfl⟩, ⟨_, h2, rfl, rfl⟩⟩, fresh5, q⟩
theorem walk_zipM {K : PySem.W.Frag} {a b : Addr} {xs ys : List V} {n : Nat} (hn : n = min xs.length ys.length) :
    Walk (ItzM K a b) n (fun H => SqL K H a xs ∧ SqT K H b ys) (YPair (fun i => xs[i]?) (fun i => ys[i]?)) := by
  subst hn
  refine ⟨fun i _ hi q => ?_, fun _ q => ⟨xs, ys, q.1, q.2, by omega, by omega, by omega⟩, fun i H v H' _ q y => ?_⟩
  · have h1 : i < xs.length := by omega
    have h2 : i < ys.length := by omega
    exact ⟨xs, ys, xs[i], ys[i], q.1, q.2, by simp [h1], by simp [h2]⟩
  · obtain ⟨T, x, z, h1, h2, h3, h4, h5⟩ := y
    exact ⟨T, x, z, h1, h2, h3, h4 xs q.1, h5 ys q.2⟩
end Wb
namespace Wb
open PySem PySem.Spec PyProof.Rows L2

theorem reads_ints {h : Heap} : ∀ {us : List Value} {ns : List Int}, Vals (ns.map V.int) us → ReadsAll h us (ns.map .int) []
  | [], [], .nil => .nil
  | u :: us, n :: ns, .cons r t => by
    obtain ⟨k, rfl⟩ := r
    exact ReadsAll.cons (as := []) (bs := []) (.int n k) (reads_ints t)
theorem reads_vi {h : Heap} {a : Addr} {us : List Value} {ns : List Int} (p : IsTup h a us.toArray) (r : Vals (ns.map V.int) us) : Reads h (.ref a) (vi ns) [] := by
  obtain ⟨o, ho, hc, n, hd⟩ := p
  exact .tuple ho hc hd (by simpa using reads_ints r)

/-- sorted(xs): xs a list whose items stand for data of one kind -/
def rSortedZ (K : PySem.W.Frag) : List V → Hp → VK → Prop := fun vs H Q => ∃ (a : Addr) (bs : List (V × PyData)), vs = [.ref a] ∧ SqL K H a (bs.map (·.1)) ∧ (∀ b ∈ bs, Dp K H b.1 b.2) ∧
  PySem.W.AllAlike (bs.map (·.2)) ∧ PySem.W.Sortable (bs.map (·.2)) ∧ (∀ b ∈ bs, b.2.depth ≤ 8) ∧
  ∀ p, H p = none → Q (.ref p) (upd H p (.lst ((bs.mergeSort (PySem.W.dataLe false (·.2))).map (·.1))))
theorem each_of_vals {X : Cx} {pins : List (Addr × Obj)} {σ : L2.St} {H : Hp} {s : Shared} (I : Inv X pins σ H s) : ∀ {bs : List (V × PyData)} {us : List Value}, Vals (bs.map (·.1)) us → (∀ b ∈ bs, Dp X.K H b.1 b.2) →
    PySem.W.EachIs (fun (u : Value) (b : V × PyData) => RelV b.1 u) us bs ∧ PySem.W.EachIs (fun (u : Value) (b : V × PyData) => ∃ as, Reads s.heap u b.2 as) us bs
  | [], _, .nil, _ => ⟨.nil, .nil⟩
  | b :: bs, _, .cons r t, h => by
    obtain ⟨e1, e2⟩ := each_of_vals I t fun c hc => h c (List.mem_cons_of_mem _ hc)
    exact ⟨.cons r e1, .cons (Dp.reads I b.2 b.1 _ (h b List.mem_cons_self) r) e2⟩
theorem vals_of_each : ∀ {bs : List (V × PyData)} {us : List Value}, PySem.W.EachIs (fun (u : Value) (b : V × PyData) => RelV b.1 u) us bs → Vals (bs.map (·.1)) us
  | _, _, .nil => .nil
  | _, _, .cons r t => .cons r (vals_of_each t)
theorem sorted_K {X : Cx} (K) (h : X.K = K) (hu : X.A.units + 64 < cLine) : CallR X (.builtin "sorted") (rSortedZ K) := by
  subst h
  intro pins s σ H vs us Q I r h
  obtain ⟨a, bs, rfl, hs, hb, hal, hso, hdp, q⟩ := h
  obtain ⟨its, rv, hl, hz⟩ := I.list hs
  rw [Vals.ref1 r]
  obtain ⟨e1, e2⟩ := each_of_vals I rv hb
  rw [List.length_map] at hz
  refine PySem.W.sorted_data (enc := fun b : V × PyData => b.2) hl.isList e1 e2 hal hso hz (fun b hb' => by have := hdp b hb'; omega) fun out ho eo => ?_
  obtain ⟨ep, he'⟩ := PyProof.Rows.sortedAll_at s.heap its out.toArray
  have hlen : ((bs.mergeSort (PySem.W.dataLe false (·.2))).map (·.1)).length ≤ sizeLine := by
    rw [List.length_map, List.length_mergeSort]
    exact hz
  exact ⟨.ref _, upd H (s.heap.objs.size + 1) (.lst ((bs.mergeSort (PySem.W.dataLe false (·.2))).map (·.1))), I.laid (t' := s.toks) (fun _ _ => PyProof.Rows.sortedAll_old) (Nat.le_succ _) ⟨hlen, out, ep, vals_of_each eo, he'⟩, rfl, q _ (I.hok.fresh (Nat.le_succ _))⟩

/-- sorted(d): d a dict whose keys are tuples of ints -/
def rSortedDT (K : PySem.W.Frag) : List V → Hp → VK → Prop := fun vs H Q => ∃ (d : Addr) (kvs : List (List Key × V)) (kss : List (List Int)), vs = [.ref d] ∧ Rd H d (.dT kvs) ∧ kvs.map (·.1) = kss.map (·.map Sum.inl) ∧ (∀ ks ∈ kss, ks ≠ []) ∧
  ∀ p (L : List (Addr × List Int)), H p = none → L.map (·.2) = kss → (∀ q ∈ L, H q.1 = some (.tup (q.2.map V.int))) →
    Q (.ref p) (upd H p (.lst ((L.mergeSort (PySem.W.dataLe false fun q => vi q.2)).map fun q => .ref q.1)))
theorem alike_vi (ns ms : List Int) : PySem.W.alike (vi ns) (vi ms) = true := by
  rw [vi, vi, PySem.W.alike]
  exact PySem.W.alike_ints ns ms
theorem depth_vi (ns : List Int) : (vi ns).depth = 1 := by
  rw [vi, PyData.depth, PySem.W.depth_ints]
/-- the key tuples beside their ints -/
theorem keys_ints {H : Hp} {P : Program} {w : World} : ∀ {kvs : List (List Key × V)} {xs : List (List Key × Addr × Value)} {kss : List (List Int)}, KT H kvs xs → kvs.map (·.1) = kss.map (·.map Sum.inl) →
    ∃ L : List (Addr × List Int), L.map (·.2) = kss ∧ xs.map (fun x => x.2.1) = L.map (·.1) ∧ ∀ q ∈ L, H q.1 = some (.tup (q.2.map V.int))
  | [], _, [], .nil, _ => ⟨[], rfl, rfl, fun _ h => nomatch h⟩
  | p :: kvs, x :: xs, k :: kss, .cons r t, e => by
    rw [List.map_cons, List.map_cons] at e
    injection e with e1 e2
    obtain ⟨L, h1, h2, h3⟩ := keys_ints (P := P) (w := w) t e2
    refine ⟨(x.2.1, k) :: L, by simp [h1], by simp [h2], fun q hq => ?_⟩
    rcases List.mem_cons.mp hq with z | z
    · rw [z]
      have q1 := r.2.1
      rw [e1, List.map_map] at q1
      exact q1
    · exact h3 q z
theorem ObjOk.get {P : Program} {w : World} {H : Hp} {h : Heap} {a : Addr} {o : HO} (x : ObjOk P w H h a o) : ∃ u, h.get? a = some u := by
  cases o with
  | lst xs => obtain ⟨_, _, _, _, e⟩ := x; exact ⟨_, e⟩
  | tup xs => obtain ⟨_, _, _, o, e, _⟩ := x; exact ⟨_, e⟩
  | dK kvs => obtain ⟨_, _, _, _, o, _, _, e, _⟩ := x; exact ⟨_, e⟩
  | dT kvs => obtain ⟨_, _, _, _, o, _, _, e, _⟩ := x; exact ⟨_, e⟩
  | set S n => obtain ⟨o, _, _, _, e, _⟩ := x; exact ⟨_, e⟩
  | ins C dx fs => obtain ⟨_, _, _, e, _⟩ := x; exact ⟨_, e⟩
  | own y => obtain ⟨_, e⟩ := x; exact ⟨_, e⟩
  | xd fs => obtain ⟨_, ⟨_, _, _, e, _⟩, _⟩ := x; exact ⟨_, e⟩
  | rng lo hi => obtain ⟨_, _, _, e⟩ := x; exact ⟨_, e⟩
  | frz ob u => obtain ⟨e, _⟩ := x; exact ⟨_, e⟩
  | tbl ps => exact ⟨_, show h.get? a = some _ from x⟩
  | met f y => exact ⟨_, show h.get? a = some _ from x⟩
  | ext φ => obtain ⟨_, e, _⟩ := x; exact e
/-- a new object laid at an address behind all that there are -/
theorem inv_laid2 {X : Cx} {pins : List (Addr × Obj)} {σ : L2.St} {H : Hp} {s : Shared} {h' : Heap} {a : Addr} {o : HO} {t' : Nat} (I : Inv X pins σ H s) (k : ∀ b u, s.heap.get? b = some u → h'.get? b = some u) (hp : ∀ b u, s.heap.get? b = some u → b ≠ a)
    (new : ObjOk X.prog X.w (upd H a o) h' a o) : H a = none ∧ Inv X pins σ (upd H a o) { s with heap := h', toks := t' } := by
  have hn : H a = none := by
    cases q : H a with
    | none => rfl
    | some u =>
      obtain ⟨v, hv⟩ := ObjOk.get (I.hok a u q)
      exact absurd rfl (hp a v hv)
  refine ⟨hn, I.un (t' := t') ?_ fun b u e => ?_⟩
  · refine ⟨fun b u q _ _ _ => k b u q, fun b u q _ _ _ => ⟨u.slots, k b u q⟩, fun b u q n _ => ?_, fun b u q _ => ⟨u, k b u q⟩, fun b xs q => ?_, fun b u xs q => ?_, fun b ps q => ⟨#[], ?_⟩⟩
    · rw [upd_ne (hp b u q)]
      exact n
    · rw [upd_ne (ne_of_none q hn)]
      exact q
    · rw [upd_ne (ne_of_none q hn)]
      exact q
    · rw [upd_ne (ne_of_none q hn), q]
      simp
  · by_cases hb : b = a
    · subst hb
      rw [upd_same] at e
      cases e
      exact new
    · rw [upd_ne hb] at e
      exact (I.hok b u e).stay (fun c v _ q => k c v q) (fun c q => by rw [upd_ne (ne_of_none q hn)]; exact q) fun c xs q => by
        rw [upd_ne (ne_of_none q hn)]
        exact q
theorem sortedDT_K {X : Cx} (K) (h : X.K = K) (hc : X.calm = true) (hu : X.A.units + 64 < cLine) : CallR X (.builtin "sorted") (rSortedDT K) := by
  subst h
  intro pins s σ H vs us Q I r h
  obtain ⟨d, kvs, kss, rfl, hd, hk, hne, q⟩ := h
  rw [Vals.ref1 r]
  obtain ⟨z, hs, ks, pr, o, es, ep, ho, hx, hdt, he, hn⟩ := (show ObjOk X.prog X.w H s.heap d (.dT kvs) from hd.ok I.hok)
  have l1 : es.size = ks.length := size_of_entries he
  have l2 : kvs.length = ks.length := Paired.length pr
  obtain ⟨L, g1, g2, g3⟩ := keys_ints (P := X.prog) (w := X.w) pr hk
  have lL : L.length = ks.length := by rw [← List.length_map (f := fun x : Addr × List Int => x.1), ← g2, List.length_map]
  refine PySem.Calls.call_function_entry kind_sorted plain_sorted entry_sorted (args_sorted1 _) ?_
  unfold Builtin.«sorted»
  refine wpAny_bind (m := checkCount "sorted" 1 1 _) (wpAny_pure ?_)
  refine wpAny_bind (PySem.W.kdu_collect (A := X.A.in1) (kdl_raw hs hx hdt) (I.ok.hd hc) ho (by omega) fun h' tk acc kp it => ?_)
  have ea : acc.toList = L.map fun x => Value.ref x.1 := by
    have hl : acc.toList.length = ks.length := by rw [Array.length_toList, it.1]; exact l1
    apply List.ext_getElem?
    intro j
    have e3 : (L.map fun x => Value.ref x.1) = (ks.map fun x => x.2.1).map Value.ref := by rw [g2, List.map_map]; rfl
    rw [e3, List.getElem?_map, List.getElem?_map]
    cases hj : acc.toList[j]? with
    | none =>
      have h1 := List.getElem?_eq_none_iff.mp hj
      rw [List.getElem?_eq_none (by omega)]
      all_goals rfl
    | some v =>
      obtain ⟨en, hen, hv⟩ := it.2 j v (by rw [← Array.getElem?_toList]; exact hj)
      have qe := entry_at he j
      rw [hen] at qe
      cases hb : ks[j]? with
      | none =>
        rw [hb] at qe
        exact nomatch (show some en = none from qe)
      | some b =>
        rw [hb] at qe
        have e2 : en = entryOfKey (tupleKind (mixKind X.prog X.w)) b := Option.some.inj qe
        rw [hv, e2]
        all_goals rfl
  have hl : acc.toList.length ≤ sizeLine := by rw [ea, List.length_map, lL, ← l2]; exact z
  refine wpAny_bind (wpAny_newList ?_ hl)
  -- the new list, sorted
  have hat : (h'.push { cls := .type "list", data := .seq acc.toList.toArray }).get? h'.objs.size = some (seqObj "list" acc.toList.toArray 0) := Heap.get?_push_size _ rfl
  have hD : ∀ b u, s.heap.get? b = some u → b ≠ h'.objs.size := fun b u e => Nat.ne_of_lt (Heap.lt_size (kp b u e))
  have kp2 : ∀ b o, s.heap.get? b = some o → (h'.push { cls := .type "list", data := .seq acc.toList.toArray }).get? b = some o := fun b o e => Heap.get?_push_of_some _ (kp b o e)
  have er : ∀ q ∈ L, Reads (h'.push { cls := .type "list", data := .seq acc.toList.toArray }) (.ref q.1) (vi q.2) [] := fun q hq => by
    obtain ⟨its, rv, p, _⟩ := I.tuple (SqT.of (g3 q hq))
    exact reads_vi (p.keeps kp2) rv
  have each1 : ∀ (M : List (Addr × List Int)), (∀ q ∈ M, q ∈ L) → PySem.W.EachIs (fun (u : Value) (b : Addr × List Int) => u = .ref b.1) (M.map fun x => Value.ref x.1) M ∧
      PySem.W.EachIs (fun (u : Value) (b : Addr × List Int) => ∃ as, Reads (h'.push { cls := .type "list", data := .seq acc.toList.toArray }) u (vi b.2) as ∧ h'.objs.size ∉ as) (M.map fun x => Value.ref x.1) M := by
    intro M
    induction M with
    | nil => intro _; exact ⟨.nil, .nil⟩
    | cons a r ih =>
      intro hM
      obtain ⟨i1, i2⟩ := ih fun q hq => hM q (List.mem_cons_of_mem _ hq)
      exact ⟨.cons rfl i1, .cons ⟨[], er a (hM a List.mem_cons_self), by simp⟩ i2⟩
  obtain ⟨e1, e2⟩ := each1 L fun _ h => h
  rw [← ea] at e1 e2
  have hne' : ∀ q ∈ L, q.2 ≠ [] := fun q hq => hne q.2 (by rw [← g1]; exact List.mem_map_of_mem hq)
  refine wpAny_bind (wpAny_holding (PySem.W.list_sort_data (enc := fun q : Addr × List Int => vi q.2) hat e1 e2 (.of fun b b' => alike_vi b.2 b'.2) (.inl fun d hd => ?_) (by rw [lL, ← l2]; exact z) (fun b hb => ?_) fun out hout eo => ?_))
  · obtain ⟨b, hb, rfl⟩ := List.mem_map.mp hd
    have hb' := hne' b hb
    cases hb2 : b.2 with
    | nil => exact absurd hb2 hb'
    | cons x r => exact ⟨.int x, r.map .int, rfl⟩
  · show X.A.in1.units + 1 + (vi b.2).depth < cLine
    rw [depth_vi]
    show X.A.units + 1 + 1 + 1 < cLine
    omega
  · refine wpAny_pure ⟨_, rfl, ?_⟩
    obtain ⟨ep', he'⟩ := PyProof.Rows.sortedHeap_at (vs := acc.toList) (out := out.toArray) hat
    have eout : out = (L.mergeSort (PySem.W.dataLe false fun q => vi q.2)).map fun x => Value.ref x.1 := by
      have : ∀ {us : List Value} {M : List (Addr × List Int)}, PySem.W.EachIs (fun (u : Value) (b : Addr × List Int) => u = .ref b.1) us M → us = M.map fun x => Value.ref x.1 := by
        intro us M e
        induction e with
        | nil => rfl
        | cons h t ih => rw [h, ih]; rfl
      exact this eo
    have hlen : ((L.mergeSort (PySem.W.dataLe false fun q => vi q.2)).map fun q => V.ref q.1).length ≤ sizeLine := by
      rw [List.length_map, List.length_mergeSort, lL, ← l2]
      exact z
    have rv : Vals ((L.mergeSort (PySem.W.dataLe false fun q => vi q.2)).map fun q => V.ref q.1) out := by
      rw [eout]
      generalize L.mergeSort _ = M
      induction M with
      | nil => exact .nil
      | cons a r ih => exact .cons rfl ih
    obtain ⟨hn2, I2⟩ := inv_laid2 (t' := tk) (o := .lst ((L.mergeSort (PySem.W.dataLe false fun q => vi q.2)).map fun q => V.ref q.1)) I (fun b o e => by
      have hlt : b < h'.objs.size := Heap.lt_size (kp b o e)
      rw [PyProof.Rows.sortedHeap_old (Nat.ne_of_lt hlt) (by rw [Heap.size_push]; exact Nat.lt_succ_of_lt hlt)]
      exact kp2 b o e) hD ⟨hlen, out, ep', rv, he'⟩
    exact ⟨.ref h'.objs.size, _, I2, rfl, q _ L hn2 g1 g3⟩
end Wb
namespace Wb
open PySem PySem.Spec PyProof.Rows L2

/-! ### dict comprehensions whose keys are tuples -/
theorem dictSet_put {X : Cx} {pins : List (Addr × Obj)} {σ : L2.St} {H H' : Hp} {s : Shared} {E : Value → Shared → Prop} {D : Addr} {y v : V} {u r : Value} {Q : Unit → Shared → Prop} (hu : X.A.units + 1 < cLine) (I : Inv X pins σ H s) (g : DPut H D y v H')
    (ry : RelV y u) (rv : RelV v r) (h : ∀ s', Inv X pins σ H' s' → Q () s') : wpAny (model X.prog X.w) X.A (dictSet D u r) Q E s := by
  rcases g with ⟨kvs, k, e, ey, l, eH⟩ | ⟨kvs, k, b, e, ey, eb, l, eH⟩
  · subst ey eH
    exact d_dictSet I e l ry rv h
  · subst ey eH
    cases (show u = Value.ref b from ry)
    obtain ⟨z, hd, xs, rel, dd⟩ := dt_of I.hok e
    have hz : xs.length ≤ sizeLine := by
      rw [← Paired.length rel]
      exact z
    have hl : (putK kvs k v).length ≤ sizeLine := by
      have e1 := length_putK kvs k v
      omega
    have hroom : (tupleKind (mixKind X.prog X.w)).room X.A := by
      show X.A.units < cLine
      omega
    refine wpAny_dictSet_heap (hsz := hz) hroom (key_of I.hok eb) dd fun h' dd' hs => h _ ?_
    obtain ⟨q, es, ep, hq, h2, h3, h4, _, h5⟩ := dd'
    refine d_write I (by rw [e]; exact True.intro) hs ⟨q, hq⟩ ⟨hl, hd, _, (rel.put k eb rv).keeps fun c ys ec => ?_, q, es, ep, hq, h2, h3, h4, h5⟩
    rw [upd_ne (ne_of ec e (fun z => nomatch z))]
    exact ec
/-- {k: v for target in iter if ..}: what it asks -/
def tDcT (wi : TI) (g : TG) (tt : TT) (tk tv : TE) (vs : List Nat) : TE := fun σ H Q => wi σ H fun J H1 => ∀ D, H1 D = none →
  ∃ W : Nat → Nat → Hp → Prop, (∃ m, W 0 m (upd H1 D (.dT []))) ∧ ∀ i m H, W i m H → (J.stop i H ∧ Q (.ref D) H) ∨
    (J.go i H ∧ ∃ Nx : Hp → Prop, (∀ H', Nx H' → ∃ m', m' < m ∧ W (i + 1) m' H') ∧ ∀ x H', J.yld i H x H' → g x (wipe σ vs) H' fun σ2 H2 => wipe σ2 vs = wipe σ vs ∧ tt σ2 H2 fun b H3 =>
      if b = true then tk σ2 H3 fun y H4 => tv σ2 H4 fun z H5 => ∃ H6, DPut H5 D y z H6 ∧ Nx H6 else Nx H3)
abbrev Blks (X : Cx) (scope : Scope) (p : Cx → Prop) : Prop := ∀ (s : Shared) (H : Hp) (C : Addr) (cl : List (Str × Addr)) (fp : List Addr), p (X.blk s H scope (compEnvC scope cl C X.env) fp)
section
variable {X : Cx}
theorem dcT_core {pins : List (Addr × Obj)} {s : Shared} {σ : L2.St} {H : Hp} {Q : VK} {kx vx tg iter : Expr} {ifs : List Expr} {scope : Scope} {own : List (Str × Nat)} {pos pos' : Pos} {wi : TI} {g : TG} {tt : TT} {tk tv : TE} {use : Option (Value → Sem Unit)} {Qf : Value → Shared → Prop}
    (hu : X.A.units + 1 < cLine) (hc : X.calm = true) (hN : X.N.Nodup) (I : Inv X pins σ H s) (hi : PI X tg iter wi) (ok : BlkOk X.N X.env.scope scope own)
    (hg : Blks X scope fun Y => PG Y tg g) (ht : Blks X scope fun Y => PTs Y ifs tt) (hk : Blks X scope fun Y => PE Y kx tk) (he : Blks X scope fun Y => PE Y vx tv) (hs : ∀ x, foldedSetIterable iter X.env x = pure x)
    (h : tDcT wi g tt tk tv (own.map (·.2)) σ H Q)
    (hRR : ∀ D C s' m H', Inv X pins σ H' s' → Q (.ref D) H' → s'.heap.Ns C m → FpOk X pins H' C → compPost (model X.prog X.w) X.A X.xe use Qf (.ref D) C (.ok .next) s') :
    wpAny (model X.prog X.w) X.A (comprehension (.DictComp kx vx [⟨tg, iter, ifs, 0⟩] scope pos) scope X.env pos' newDict false (eval iter X.env) use) Qf X.xe s := by
  have hfree : ∀ y ∈ scope.names, y.2 = .free → ∃ c, X.env.cells.lookup y.1 = some c := fun y hy e => (ok.free y hy e).elim (fun k => I.ok.has _ (.inl k)) fun k => I.ok.has _ (.inr k)
  refine wpAny_comprehension_free (use := use) rfl hs (closure_ok hfree) ok.kind (fun y hy e => by rw [ok.uniq y hy, e]) (thn (hi.run pins s σ H _ I h) fun xv s1 hx => thn hx fun itv s2 h2 => ?_)
  obtain ⟨it, fp, tn, J, H2, e, I2, T, st2, f2, q⟩ := h2
  subst e
  refine wpAny_newObj_type (newEnv_comp ?_)
  generalize hD : s2.heap.objs.size = D
  obtain ⟨W, ⟨m0, w0⟩, turn⟩ := q D (I2.hok.fresh (Nat.le_of_eq hD))
  generalize hs3 : ({ s2 with heap := s2.heap.push { cls := .type "dict", data := .dict #[] } } : Shared) = s3
  have I3 : Inv X pins σ (upd H2 D (.dT [])) s3 := by
    rw [← hs3]
    refine I2.laid (t' := s2.toks) (fun b o e => Heap.get?_push_of_some _ e) (Nat.le_of_eq hD) ?_
    rw [← hD]
    exact dt_empty s2.heap I2.big
  have h3 : s3.heap = s2.heap.push { cls := .type "dict", data := .dict #[] } := by rw [← hs3]
  have f3 : ∀ b ∈ fp, FpOk X pins (upd H2 D (.dT [])) b ∧ b < s3.heap.objs.size := fun b hb => by
    obtain ⟨o, e, _⟩ := T.obj _ _ st2 b hb
    have hlt : b < s2.heap.objs.size := Heap.lt_size e
    refine ⟨⟨?_, (f2 b hb).2⟩, ?_⟩
    · rw [upd_ne (by rw [← hD]; exact Nat.ne_of_lt hlt)]
      exact (f2 b hb).1
    · rw [h3, Heap.size_push]
      exact Nat.lt_succ_of_lt hlt
  have st3 : tn 0 s3.heap := T.keep _ _ _ st2 fun b _ o e => by
    rw [h3]
    exact Heap.get?_push_of_some _ e
  have I4 := block_start I3 ok hN f3
  generalize hcl : cellsFrom (s3.heap.objs.size + 1) scope.names (cloFrom X.env.cells scope.names []) = cl at I4 ⊢
  have pg := hg s3 (upd H2 D (.dT [])) s3.heap.objs.size cl fp
  have pt := ht s3 (upd H2 D (.dT [])) s3.heap.objs.size cl fp
  have pk := hk s3 (upd H2 D (.dT [])) s3.heap.objs.size cl fp
  have pe := he s3 (upd H2 D (.dT [])) s3.heap.objs.size cl fp
  show codeAny _ _ (.compStart (.DictComp kx vx [⟨tg, iter, ifs, 0⟩] scope pos) 0 (.ref it) (.ref D) (compEnvC scope cl s3.heap.objs.size X.env))
    (compPost (model X.prog X.w) X.A X.xe use Qf (.ref D) s3.heap.objs.size) { s3 with heap := pushCells (s3.heap.push { cls := .type "dict", data := .dict #[] }) scope.names }
  have nfp : ∀ b ∈ fp, (upd H2 D (.dT [])) b = none := fun b hb => (f3 b hb).1.1
  generalize hce : compEnvC scope cl s3.heap.objs.size X.env = ce at I4 pg pt pk pe ⊢
  have cL : ce.locals = s3.heap.objs.size := by
    subst hce
    rfl
  generalize hH3 : upd H2 D (.dT []) = H3 at I3 I4 pg pt pk pe w0 nfp f3
  generalize hs4 : ({ s3 with heap := pushCells (s3.heap.push { cls := .type "dict", data := .dict #[] }) scope.names } : Shared) = s4 at I4 ⊢
  have st4 : tn 0 s4.heap := T.keep _ _ _ st3 fun b _ o e => by
    rw [← hs4]
    exact pushCells_keeps _ _ _ _ (Heap.get?_push_of_some _ e)
  have stat : ∀ {σ' : L2.St} {H' : Hp} {s' : Shared}, Inv (X.blk s3 H3 scope ce fp) [] σ' H' s' → (∀ b ∈ fp, H' b = none) → ∀ b ∈ fp, FpOk (X.blk s3 H3 scope ce fp) [] H' b := fun {σ' H' s'} I' hn b hb =>
    ⟨hn b hb, (I'.ok.exf b hb).1, I'.ok.exfs b hb, .inl hb, fun x c e => (I'.ok.exf b hb).2 x c e, fun p hp => absurd (show p ∈ ([] : List (Addr × Obj)) ++ [] from hp) (by simp)⟩
  have loop : codeAny (model X.prog X.w) X.A (.compLoop (.DictComp kx vx [⟨tg, iter, ifs, 0⟩] scope pos) 0 (.ref it) (.ref D) ce) (compPost (model X.prog X.w) X.A X.xe use Qf (.ref D) s3.heap.objs.size) s4 := by
    refine compLoop_anyD (fun n s' => ∃ i H', Inv (X.blk s3 H3 scope ce fp) [] (wipe σ (own.map (·.2))) H' s' ∧ tn i s'.heap ∧ (∀ b ∈ fp, H' b = none) ∧ W i n H') ?_ m0 ⟨0, H3, I4, st4, nfp, w0⟩
    rintro n s5 ⟨i, H5, I5, st5, n5, w5⟩
    rcases turn i n H5 w5 with ⟨stop, qq⟩ | ⟨go, Nx, hNx, step⟩
    · refine thnF (T.done (X.blk s3 H3 scope ce fp) rfl rfl rfl hc i [] s5 _ H5 (fun _ _ => False) I5 (stat I5 n5) st5 stop) fun r s6 ⟨hr, I6⟩ => ?_
      subst hr
      have I7 : Inv X pins σ H5 s6 := I3.call' (ch := fp) I6.os I6.base I6.hok I6.bare fun b hb => ⟨(f3 b hb).1.2.2.2.1, (f3 b hb).1.2.1, (f3 b hb).1.2.2.2.2.1, (f3 b hb).1.2.2.2.2.2⟩
      have nC : H5 s3.heap.objs.size = none := by
        rw [← cL]
        exact I6.free
      obtain ⟨m, hn, _⟩ := I6.loc
      have hn : s6.heap.Ns ce.locals m := hn
      rw [cL] at hn
      exact hRR D s3.heap.objs.size s6 m H5 I7 qq hn (I3.fpOk (Nat.le_refl _) nC)
    · refine thnF (T.item (X.blk s3 H3 scope ce fp) rfl rfl rfl hc i [] s5 _ H5 (fun _ _ => False) I5 (stat I5 n5) st5 go) fun r s6 ⟨u, hr, h6⟩ => ?_
      subst hr
      refine thnF h6 fun _ s7 ⟨x, H7, I7, r7, y7, st7, n7⟩ => ?_
      have I7' := I7.pinned (stat I7 n7) (T.obj _ _ st7)
      refine thnF (pg.run _ s7 _ H7 x u _ I7' r7 (step x H7 y7)) fun _ s8 ⟨σ8, H8, I8, hw8, q8⟩ => ?_
      refine thnF (pt.run _ s8 σ8 H8 _ I8 q8) fun b s9 ⟨H9, I9, q9⟩ => ?_
      have fin : ∀ {s' : Shared} {H' : Hp}, Inv (X.blk s3 H3 scope ce fp) ([] ++ pinsAt fp s7.heap) σ8 H' s' → Nx H' →
          ∃ m, m < n ∧ ∃ i H', Inv (X.blk s3 H3 scope ce fp) [] (wipe σ (own.map (·.2))) H' s' ∧ tn i s'.heap ∧ (∀ b ∈ fp, H' b = none) ∧ W i m H' := fun {s' H'} I' nx => by
        obtain ⟨m', hm, w'⟩ := hNx H' nx
        have pin' : ∀ b ∈ fp, ∀ o, s7.heap.get? b = some o → s'.heap.get? b = some o ∧ H' b = none := fun b hb o e => by
          have z := I'.pin (b, o) (List.mem_append_right _ (List.mem_append_right _ (mem_pinsAt hb e)))
          exact ⟨z.1, z.2.1⟩
        have hl : (wipe σ (own.map (·.2))).length = σ8.length := by rw [← hw8, wipe_length]
        refine ⟨m', hm, i + 1, H', (I'.unpinned (pins := [])).weak hl (fun j v e => ?_), T.keep _ _ _ st7 fun b hb o e => (pin' b hb o e).1, fun b hb => ?_, w'⟩
        · rw [← hw8] at e
          exact (wipe_some e).1
        · obtain ⟨o, e, _⟩ := T.obj _ _ st7 b hb
          exact (pin' b hb o e).2
      cases b with
      | false => exact fin I9 q9
      | true =>
        refine thnF (pk.run _ s9 σ8 H9 _ I9 q9) fun z s10 ⟨yk, H10, I10, r10, q10⟩ => ?_
        refine thnF (pe.run _ s10 σ8 H10 _ I10 q10) fun z2 s11 ⟨yv, H11, I11, r11, H12, put, nx⟩ => ?_
        exact dictSet_put (X := X.blk s3 H3 scope ce fp) hu I11 put r10 r11 fun s12 I12 => fin I12 nx
  exact codeAny_compStart_dict loop (T.self X.A 0 _ _ _ st4 loop)
variable {kx vx tg iter : Expr} {ifs : List Expr} {scope : Scope} {own : List (Str × Nat)} {pos : Pos} {wi : TI} {g : TG} {tt : TT} {tk tv : TE}
/-- as a value -/
theorem pe_dcT (hu : X.A.units + 1 < cLine) (hc : X.calm = true) (hN : X.N.Nodup) (hi : PI X tg iter wi) (ok : BlkOk X.N X.env.scope scope own) (hg : Blks X scope fun Y => PG Y tg g) (ht : Blks X scope fun Y => PTs Y ifs tt)
    (hk : Blks X scope fun Y => PE Y kx tk) (he : Blks X scope fun Y => PE Y vx tv) (hs : ∀ x, foldedSetIterable iter X.env x = pure x := by intro _; rfl) :
    PE X (.DictComp kx vx [⟨tg, iter, ifs, 0⟩] scope pos) (tDcT wi g tt tk tv (own.map (·.2))) := by
  refine ⟨fun pins s σ H Q I h => ?_⟩
  rw [arm_eval_DictComp]
  refine dcT_core hu hc hN I hi ok hg ht hk he hs h fun D C s' m H' I' q hn f => ⟨m, hn, fun h'' sb => ?_⟩
  obtain ⟨f0, f1, f2, f3, f4, f5⟩ := f
  exact ⟨.ref D, H', I'.turned (t' := s'.toks) (fun b o hb e => (sb.2 b hb).trans e) f0 f1 f3 f4 f5, rfl, q⟩
/-- name = {..} on one line, the name a local -/
theorem ps_setDcT {i : Nat} {y : Str} {py spos : Pos} (hu : X.A.units + 1 < cLine) (hc : X.calm = true) (hN : X.N.Nodup) (hy : X.N[i]? = some y) (hyl : X.env.scope.names.lookup y = some .local)
    (hsw : swapsWith (.DictComp kx vx [⟨tg, iter, ifs, 0⟩] scope pos) (some (.Name y py)) spos.line X.env = pure true) (hi : PI X tg iter wi) (ok : BlkOk X.N X.env.scope scope own) (hg : Blks X scope fun Y => PG Y tg g) (ht : Blks X scope fun Y => PTs Y ifs tt)
    (hk : Blks X scope fun Y => PE Y kx tk) (he : Blks X scope fun Y => PE Y vx tv) (hs : ∀ x, foldedSetIterable iter X.env x = pure x := by intro _; rfl) :
    PS X (.Assign [.Name y py] (.DictComp kx vx [⟨tg, iter, ifs, 0⟩] scope pos) spos) (tAsg (tDcT wi g tt tk tv (own.map (·.2))) (gName i)) := by
  refine ⟨fun pins s σ H D I h => ?_⟩
  rw [exec_Assign_Name_used _ _ _ _ hsw]
  refine wpAny_bind (wpAny_standAt (wpAny_bind ?_))
  show wpAny _ X.A (do let _ ← comprehension (.DictComp kx vx [⟨tg, iter, ifs, 0⟩] scope pos) scope X.env (firstIterPos [⟨tg, iter, ifs, 0⟩] pos) newDict false (eval iter X.env) (some (assign (.Name y py) X.env))) _ _ s
  have h : tDcT wi g tt tk tv (own.map (·.2)) σ H (fun x H1 => gName i x σ H1 D.nx) := h
  refine wpAny_bind (thn (dcT_core (Qf := fun _ s' => SP X pins D .next s') hu hc hN I hi ok hg ht hk he hs h fun L C s' m H' I' q hn f => ?_) fun _ s' hq => wpAny_pure (wpAny_pure hq))
  show wpAny _ _ (assign (.Name y py) X.env (.ref L)) _ _ _
  refine wpAny_assign_Name (store_ok2 (v := V.ref L) I' hN hy (.inl hyl) rfl (fun s2 I2 ⟨a, sb, ha⟩ => ?_) (.inr hyl))
  obtain ⟨f0, f1, f2, f3, f4, f5⟩ := f
  have haC : C ≠ a := ha.elim (fun z => by rw [z]; exact f1) fun z e => f4 y a z e.symm
  refine ⟨m, hn.sameBut sb haC, fun h3 sb3 => ?_⟩
  exact ⟨_, H', I2.turned (t' := s2.toks) (fun b o hb e => (sb3.2 b hb).trans e) f0 f1 f3 f4 f5, q⟩
theorem sw_trueD {py : Pos} {y : Str} {l : Nat} {env : Env} {gs : List Comprehension} (hk : env.scope.kind = .function) (hy : env.scope.names.lookup y = some .local) (hl : (py.line == pos.line) = true)
    (ha : (scope.names.any fun (n, k) => n == y && (k == .local || k == .cell)) = false) : swapsWith (.DictComp kx vx gs scope pos) (some (.Name y py)) l env = pure true := by
  have ky : env.kindOf y = some .local := hy
  have hb : env.blockKind = .function := by
    unfold Env.blockKind
    rw [hk]
    rfl
  unfold swapsWith
  simp only [hb, ky, ha, Expr.pos, hl]
  rfl
end
/-- a dict comprehension over a walk: Pv by the turn and the heap (the new dict at D within) -/
theorem dc_itT {J : It} {n : Nat} {G : Hp → Prop} {Y : Nat → Hp → V → Hp → Prop} (w : Walk J n G Y) {g : TG} {tt : TT} {tk tv : TE} {vs : List Nat} {σ : L2.St} {H1 : Hp} {D : Addr} {Qd : Hp → Prop} (Pv : Nat → Hp → Prop) (h0 : Pv 0 (upd H1 D (.dT [])))
    (hG : ∀ i H, i ≤ n → Pv i H → G H)
    (hs : ∀ i x H H', i < n → Pv i H → Y i H x H' → g x (wipe σ vs) H' fun σ2 H2 => wipe σ2 vs = wipe σ vs ∧ tt σ2 H2 fun b H3 =>
      if b = true then tk σ2 H3 fun y H4 => tv σ2 H4 fun z H5 => ∃ H6, DPut H5 D y z H6 ∧ Pv (i + 1) H6 else Pv (i + 1) H3) (hd : ∀ H, Pv n H → Qd H) :
    ∃ W : Nat → Nat → Hp → Prop, (∃ m, W 0 m (upd H1 D (.dT []))) ∧ ∀ i m H, W i m H → (J.stop i H ∧ Qd H) ∨
      (J.go i H ∧ ∃ Nx : Hp → Prop, (∀ H', Nx H' → ∃ m', m' < m ∧ W (i + 1) m' H') ∧ ∀ x H', J.yld i H x H' → g x (wipe σ vs) H' fun σ2 H2 => wipe σ2 vs = wipe σ vs ∧ tt σ2 H2 fun b H3 =>
        if b = true then tk σ2 H3 fun y H4 => tv σ2 H4 fun z H5 => ∃ H6, DPut H5 D y z H6 ∧ Nx H6 else Nx H3) := by
  refine ⟨fun i m H => m = n - i ∧ i ≤ n ∧ Pv i H, ⟨n, by simp, Nat.zero_le _, h0⟩, ?_⟩
  rintro i m H ⟨rfl, hi, p⟩
  have q := hG i H hi p
  by_cases hlt : i < n
  · exact .inr ⟨w.goes i H hlt q, Pv (i + 1), fun H' p' => ⟨n - (i + 1), by omega, rfl, hlt, p'⟩, fun x H' y => hs i x H H' hlt p (w.yields i H x H' hlt q y)⟩
  · have e : i = n := by omega
    subst e
    exact .inl ⟨w.stops H q, hd H p⟩
end Wb
namespace Wb
open PySem PySem.Spec PyProof.Rows L2

section
variable {P : Program} {w : World} {A : Around} {E : Value → Shared → Prop} {s : Shared}
set_option maxHeartbeats 3200000 in
/-- set(t), t a tuple of tuples of ints -/
theorem call_set_tupT {l : Addr} {items : Array Value} (ks : List (Addr × List Int)) {Q : Value → Shared → Prop} (hh : A.handled = none) (hl : s.heap.IsTuple l items) (hit : items.toList = ks.map fun p => Value.ref p.1)
    (hk : ∀ p ∈ ks, IsT P w s.heap p.2 p.1) (hfew : ks.length < 64) (hu : A.units + 3 < cLine)
    (h : ∀ (h' : Heap) (tk : Nat) L es ep t, SetTR P w h' s.heap.objs.size L es ep t → Got ks ks.length L → (∀ b o, s.heap.get? b = some o → h'.get? b = some o) → Q (.ref s.heap.objs.size) { s with heap := h', toks := tk }) :
    wpAny (model P w) A (call (.type "set") [.ref l]) Q E s := by
  have hisz : items.size = ks.length := by
    have q := congrArg List.length hit
    rw [Array.length_toList, List.length_map] at q
    exact q
  obtain ⟨c, tl, hmro⟩ := F.called_set.mro
  have hmade := F.called_set.made
  have hsub := F.called_set.sub
  refine wpAny_call (codeAny_of_tree ?_)
  show wpAny _ _ (callAny (.type "set") _) _ _ _
  refine wpAny_pure ⟨Code.quiet_builtin _ (by decide +kernel), codeAny_builtin F.entry_type_call ?_⟩
  rw [Around.under_plain (weight_type_call_type "set" [.ref l] []) rfl]
  have h1 := F.called_set.notType
  have h2 := F.called_set.canCreate
  have hct := F.typeCall_set_1 (.ref l)
  repeat (any_goals (first | assumption | wp_step))
  refine codeAny_mono (code_set_led1 (.ref l) (E := E) (Q₁ := fun obj s₁ => obj = .ref s.heap.objs.size ∧
    s₁ = { s with heap := s.heap.push { cls := .type "set", dict := none, data := .set #[] 0 (.fresh 0 0 (!w.params.followText "set-order")) } }) ⟨rfl, rfl⟩) fun r s₁ hr => ?_
  cases r with
  | error e => exact hr
  | ok fl =>
    cases fl with
    | ret obj =>
      obtain ⟨rfl, rfl⟩ := hr
      have hS : (s.heap.push { cls := .type "set", dict := none, data := .set #[] 0 (.fresh 0 0 (!w.params.followText "set-order")) }).get? s.heap.objs.size =
        some { cls := .type "set", dict := none, data := .set #[] 0 (.fresh 0 0 (!w.params.followText "set-order")) } := Heap.get?_push_size _ rfl
      have hT : Shared.TypeIs { s with heap := s.heap.push { cls := .type "set", dict := none, data := .set #[] 0 (.fresh 0 0 (!w.params.followText "set-order")) } } (.ref s.heap.objs.size) "set" := ⟨_, hS, rfl⟩
      have hli := F.called_set.init.lookup
      have hbi := F.called_set.init.bind (.ref s.heap.objs.size)
      repeat (any_goals (first | assumption | wp_step))
      refine codeAny_mono (codeAny_call_builtin (R := wants (fun r s₂ => r = .none ∧ ∃ h' tk L es ep t, s₂ = { s with heap := h', toks := tk } ∧ SetTR P w h' s.heap.objs.size L es ep t ∧ Got ks ks.length L ∧
        ∀ b o, s.heap.get? b = some o → h'.get? b = some o) E) F.called_set.init.plain F.entry_set_init (check_set_init_1 hT ?_)) fun r₂ s₂ hr₂ => ?_
      · obtain ⟨⟨ocls, odict, odata, oslots⟩, hol, hcl, nl, hdl⟩ := hl
        simp only at hcl hdl
        subst hcl
        subst hdl
        have hol' : (s.heap.push { cls := .type "set", dict := none, data := .set #[] 0 (.fresh 0 0 (!w.params.followText "set-order")) }).get? l =
          some { cls := .type "tuple", dict := odict, data := .seq items nl, slots := oslots } := Heap.get?_push_of_some _ hol
        have hsls := F.sub_tuple_set
        have hslf := F.sub_tuple_frozenset
        have hne : (Value.type "tuple" == Value.type "dict") = false := by decide
        have hl1 : (s.heap.push { cls := .type "set", dict := none, data := .set #[] 0 (.fresh 0 0 (!w.params.followText "set-order")) }).IsTuple l items := ⟨_, hol', rfl, nl, rfl⟩
        unfold Builtin.«set.__init__» noKeywords Builtin.Frozenset.updateFrom
        generalize hPI : pyIter = PI
        wp_walk
        subst hPI
        refine wpAny_pyIter_tuple hl1 ?_
        refine wpAny_bind (wpAny_runValue ?_)
        have hlS : l < s.heap.objs.size := Heap.lt_size hol
        have hh3 : A.in1.in1.in1.handled = none := by simp [hh]
        have hneI : l ≠ (s.heap.push { cls := .type "set", dict := none, data := .set #[] 0 (.fresh 0 0 (!w.params.followText "set-order")) }).objs.size := by
          rw [Heap.size_push]
          exact Nat.ne_of_lt (Nat.lt_succ_of_lt hlS)
        have hSf : s.heap.objs.size ∉ [(s.heap.push { cls := .type "set", dict := none, data := .set #[] 0 (.fresh 0 0 (!w.params.followText "set-order")) }).objs.size, l] := by
          rw [Heap.size_push]
          simp only [List.mem_cons, List.mem_singleton, List.not_mem_nil, or_false, not_or]
          exact ⟨Nat.ne_of_lt (Nat.lt_succ_self _), Nat.ne_of_gt hlS⟩
        have hval : ∀ (i : Nat) (v : Value), items[i]? = some v → ∃ p, ks[i]? = some p ∧ v = .ref p.1 := fun i v hv => by
          have q : items.toList[i]? = some v := by
            rw [Array.getElem?_toList]
            exact hv
          rw [hit, List.getElem?_map] at q
          cases hq : ks[i]? with
          | none =>
            rw [hq] at q
            cases q
          | some p =>
            rw [hq] at q
            exact ⟨p, rfl, (Option.some.inj q).symm⟩
        have none_of : ∀ b, s.heap.objs.size ≤ b → s.heap.get? b = none := fun b hb => by
          cases q : s.heap.get? b with
          | none => rfl
          | some o => exact absurd (Nat.lt_of_lt_of_le (Heap.lt_size q) hb) (Nat.lt_irrefl _)
        refine set_update_tups ((Walks.tuple hh3 _ l hneI items).toS) s.heap.objs.size hSf ks hisz hfew hval s.heap hk (none_of _ (Nat.le_refl _)) (fun b hb => none_of b (by
            rw [List.mem_singleton.mp hb, Heap.size_push]
            exact Nat.le_succ _)) hu (items.size - 0) 0 _ (by omega) (Nat.zero_le _)
          ⟨⟨_, Heap.get?_push_size _ rfl, rfl, rfl⟩, (hl1.push _)⟩ (fun b o e => Heap.get?_push_of_some _ (Heap.get?_push_of_some _ e)) ?hS0 ?hR
        case hS0 =>
          have hget : ((s.heap.push { cls := .type "set", dict := none, data := .set #[] 0 (.fresh 0 0 (!w.params.followText "set-order")) }).push { cls := .type "tuple_iterator", data := .fields #[.ref l, .int 0 0] }).get? s.heap.objs.size =
            some { cls := .type "set", dict := none, data := .set #[] 0 (.fresh 0 0 (!w.params.followText "set-order")) } := Heap.get?_push_of_some _ hS
          exact ⟨[], #[], 0, _, setTR_fresh hget, Got.zero ks⟩
        case hR =>
          intro s' L es ep t hm hS' g' hkp
          obtain ⟨h', g2, d', tk', os'⟩ := s'
          have eg : g2 = s.gens := hm.gens
          have ed : d' = s.drawn := hm.drawn
          have eo : os' = s.os := hm.os
          subst eg
          subst ed
          subst eo
          show wpAny _ _ _ _ _ _
          refine wpAny_pure ?_
          show wpAny _ _ (ret Value.none) _ _ _
          rw [hisz] at g'
          exact wpAny_pure ⟨rfl, h', tk', L, es, ep, t, rfl, hS', g', hkp⟩
      · cases r₂ with
        | error e => exact hr₂
        | ok fl₂ =>
          cases fl₂ with
          | ret r =>
            obtain ⟨rfl, h', tk, L, es, ep, t, rfl, hS', g', hk'⟩ := hr₂
            repeat (any_goals (first | assumption | wp_step))
            exact h _ _ _ _ _ _ hS' g' hk'
          | _ => exact hr₂.elim
    | _ => exact hr.elim
end
/-- len(set(t)), t a tuple of different tuples of ints -/
def tLenSetT (ta : TE) : TE := fun σ H Q => ta σ H fun x H1 => ∃ (a : Addr) (ks : List (Addr × List Int)), x = V.ref a ∧ H1 a = some (.tup (ks.map fun p => V.ref p.1)) ∧ (∀ p ∈ ks, H1 p.1 = some (.tup (p.2.map V.int))) ∧ ks.length < 64 ∧ (ks.map (·.2)).Nodup ∧
  Q (.int ks.length) H1
theorem got_len {ks L : List (Addr × List Int)} (g : Got ks ks.length L) (nd : (L.map (·.2)).Nodup) (nk : (ks.map (·.2)).Nodup) : L.length = ks.length := by
  have h1 := g.len
  have h2 : ks.map (·.2) ⊆ L.map (·.2) := fun x hx => by
    obtain ⟨p, hp, rfl⟩ := List.mem_map.mp hx
    exact g.all p (by rw [List.take_length]; exact hp)
  have h3 : (ks.map (·.2)).length ≤ (L.map (·.2)).length := by
    have q : ∀ {l m : List (List Int)}, l.Nodup → l ⊆ m → l.length ≤ m.length := by
      intro l
      induction l with
      | nil => intro m _ _; exact Nat.zero_le _
      | cons a r ih =>
        intro m hn hs
        have ha : a ∈ m := hs List.mem_cons_self
        have hr : r ⊆ m.erase a := fun x hx => by
          have hne : x ≠ a := fun e => (List.nodup_cons.mp hn).1 (e ▸ hx)
          exact (List.mem_erase_of_ne hne).mpr (hs (List.mem_cons_of_mem _ hx))
        have h4 := ih (List.nodup_cons.mp hn).2 hr
        rw [List.length_erase_of_mem ha] at h4
        have h5 := List.length_pos_of_mem ha
        rw [List.length_cons]
        omega
    exact q nk h2
  rw [List.length_map, List.length_map] at h3
  omega
theorem pe_lenSetT {X : Cx} {a : Expr} {ta : TE} {p p2 q pos : Pos} (hg : Gl X "len") (hm : X.mg "len" = none) (hg2 : Gl X "set") (hm2 : X.mg "set" = none) (hu : X.A.units + 64 < cLine) (hc : X.calm = true) (ha : PE X a ta)
    (na : starEach [a] X.env = (false, eval a X.env) :: starEach [] X.env := by rfl) : PE X (.Call (.Name "len" p) [.Call (.Name "set" p2) [a] [] q] [] pos) (tLenSetT ta) := by
  refine ⟨fun pins s σ H Q I h => ?_⟩
  refine Call_ (ld_blt I hg hm boot_len ?_)
  refine PyProof.Rows.callWith_builtin1 (PyProof.Rows.args_cons ?_ rfl) rfl rfl
  refine Call_ (ld_blt I hg2 hm2 boot_set ?_)
  refine PyProof.Rows.callWith_type1 (PyProof.Rows.args_cons (thn (ha.run pins s σ H _ I h) fun v s1 ⟨x, H1, I1, r1, q1⟩ => PyProof.Rows.args_nil ?_) na) na rfl
  obtain ⟨l, ks, rfl, hq, hk, hf, hnd, q1⟩ := q1
  cases r1
  obtain ⟨its, r, pl, hz⟩ := I1.tuple (SqT.of hq)
  refine call_set_tupT (P := X.prog) (w := X.w) ks (I1.ok.hd hc) pl (by simpa using refs_of_vals r) (fun p hp => I1.isT (SqT.of (hk p hp))) hf (by omega) fun h' tk L es ep t R g kp => ?_
  refine PyProof.Rows.args_nil ?_
  have I2 : Inv X pins σ H1 { s1 with heap := h', toks := tk } := I1.kept kp
  obtain ⟨o, ho, hex, hd⟩ := R.ob
  have e1 : L.length = ks.length := got_len g R.nd hnd
  have e2 : es.size = ks.length := by rw [← e1]; exact SetTR.size (s := { s1 with heap := h', toks := tk }) R
  have hft : t.fits es.size = true := SetTR.fits (s := { s1 with heap := h', toks := tk }) R
  exact call_len_set (s := { s1 with heap := h', toks := tk }) ho hex hd hft (by rw [e2]; omega) ⟨.int ks.length, H1, I2.tok _, ⟨_, by rw [e2]⟩, q1⟩
end Wb
namespace Wb
open PySem PySem.Spec PyProof.Rows L2
theorem tuple_mul_one (l : Addr) (items : Array Value) (n : Nat) (dd : Option Addr) (sl : Array (Option Value)) (u : Tok) :
    Meets (Builtin.«tuple.__mul__» ⟨[.ref l, .int 1 u], []⟩) (fun _ R s => s.heap.get? l = some { cls := .type "tuple", dict := dd, data := .seq items n, slots := sl } ∧ R (.ok (.ret (Value.ref l))) s) :=
  .of_wp fun prog w A R s h => by
    obtain ⟨hp, g, d, tk, os⟩ := s
    obtain ⟨hl, h⟩ := h
    have f1 := AutoSeq1.idx_int
    have c1 : (items.isEmpty || (1 : Int) == 1) = true := by simp
    wp_walk using wpAny_loadPart' hl
    exact ⟨_, rfl, h⟩
/-- t * k, k from 1 on -/
def rRepW (K : PySem.W.Frag) : R2 := fun x y H Q => (∃ l xs, x = .ref l ∧ y = .int 1 ∧ SqT K H l xs ∧ xs ≠ [] ∧ Q (.ref l) H) ∨ rRepT K x y H Q
theorem op_rep_one {X : Cx} : OpR X (binaryOp .Mult) (fun x y H Q => ∃ l xs, x = .ref l ∧ y = .int 1 ∧ SqT X.K H l xs ∧ xs ≠ [] ∧ Q (.ref l) H) := by
  intro pins s σ H x y v u Q I rx ry h
  obtain ⟨l, xs, rfl, rfl, hT, hne, q⟩ := h
  cases rx
  obtain ⟨t, rfl⟩ := ry
  obtain ⟨its, r, ⟨⟨cls, dd, data, sl⟩, ho, hc, n, hd⟩, hs⟩ := I.tuple hT
  simp only at hc hd
  subst hc
  subst hd
  refine wpAny_binaryOp_repeat_ref (T := "tuple") (U := "int") (by decide) ⟨_, ho, rfl⟩ (fun s' => typeIs_int s' 1 t) noFill_tuple_mul F.fills_int_mul F.slot_int_rmul repeat_tuple F.slot_int_index.lookup
    (call_meets F.slot_int_rmul (typeIs_int s 1 t) F.entry_int_rmul (F.args_int_rmul_2 _ _) (int_rmul_tuple 1 t l its.toArray n dd sl)
      ⟨ho, rfl, ⟨_, ho, rfl⟩, call_meets F.slot_tuple_mul ⟨_, ho, rfl⟩ F.entry_tuple_mul (F.args_tuple_mul_2 _ _) (tuple_mul_one l its.toArray n dd sl t) ⟨ho, ?_⟩⟩)
  exact ⟨.ref l, H, I, rfl, q⟩
theorem op_repK {X : Cx} (K) (h : X.K = K) : OpR X (binaryOp .Mult) (rRepW K) := by
  subst h
  exact OpR.or op_rep_one op_repT
end Wb
namespace Wb
open PySem PySem.Spec PyProof.Rows L2

theorem OnlyTs.app : ∀ {xs ys : List PyData}, OnlyTs xs → OnlyTs ys → OnlyTs (xs ++ ys)
  | _, _, .nil, q => q
  | _, _, .cons h t, q => .cons h (OnlyTs.app t q)
theorem OnlyTs.one {d : PyData} (h : OnlyT d) : OnlyTs [d] := .cons h .nil
theorem flat_succ {β : Type} (F : Nat → List β) (i : Nat) : (List.range (i + 1)).flatMap F = (List.range i).flatMap F ++ F i := by
  rw [List.range_succ, List.flatMap_append]
  simp
theorem flat_le {β : Type} (F : Nat → List β) : ∀ {n i : Nat}, i ≤ n → ((List.range i).flatMap F).length ≤ ((List.range n).flatMap F).length
  | 0, i, h => by
    have e : i = 0 := by omega
    subst e
    exact Nat.le_refl _
  | n + 1, i, h => by
    by_cases e : i = n + 1
    · subst e
      exact Nat.le_refl _
    · have q := flat_le F (n := n) (i := i) (by omega)
      rw [flat_succ, List.length_append]
      omega
theorem fm_succ {β : Type} (f : Nat → Option β) (i : Nat) : (List.range (i + 1)).filterMap f = (List.range i).filterMap f ++ (f i).toList := by
  rw [List.range_succ, List.filterMap_append]
  cases e : f i with
  | none => simp [e]
  | some d => simp [e]
theorem fm_le {β : Type} (f : Nat → Option β) : ∀ {n i : Nat}, i ≤ n → ((List.range i).filterMap f).length ≤ ((List.range n).filterMap f).length
  | 0, i, h => by
    have e : i = 0 := by omega
    subst e
    exact Nat.le_refl _
  | n + 1, i, h => by
    by_cases e : i = n + 1
    · subst e
      exact Nat.le_refl _
    · have q := fm_le f (n := n) (i := i) (by omega)
      rw [fm_succ, List.length_append]
      omega
/-- what the second clause of a comprehension owes: a walk of m items, told by f1 -/
def InnerOk (D : Addr) (g1 : TG) (tt1 : TT) (te : TE) (vs1 : List Nat) (L : List PyData) (H : Hp) (σ2 : L2.St) (J1 : It) (H4 : Hp) : Prop :=
  ∃ (m : Nat) (G1 : Hp → Prop) (Y1 : Nat → Hp → V → Hp → Prop) (f1 : Nat → Option PyData), Walk J1 m G1 Y1 ∧ Same H H4 ∧ (∀ H5, (∀ b o, b ≠ D → H4 b = some o → H5 b = some o) → G1 H5) ∧ L = (List.range m).filterMap f1 ∧
    ∀ (j : Nat) (x : V) (H5 H6 : Hp) (k : V → Hp → Prop) (kn : Hp → Prop), j < m → (∀ b o, b ≠ D → H4 b = some o → H5 b = some o) → Y1 j H5 x H6 → (∀ y H7 d, f1 j = some d → Same H5 H7 → OnlyT d → Dt H7 y d → k y H7) →
      (∀ H7, f1 j = none → Same H5 H7 → kn H7) → g1 x (wipe σ2 vs1) H6 fun σ3 H7 => wipe σ3 vs1 = wipe σ2 vs1 ∧ tt1 σ3 H7 fun b H8 => if b = true then te σ3 H8 k else kn H8
/-- a list comprehension of two clauses whose elements are data of tuples alone -/
theorem lc_fm2 {J : It} {n : Nat} {G : Hp → Prop} {Y : Nat → Hp → V → Hp → Prop} (w : Walk J n G Y) {g : TG} {tt : TT} {wi1 : TI} {g1 : TG} {tt1 : TT} {te : TE} {vs vs1 : List Nat} {σ : L2.St} {H1 : Hp} {D : Addr} {Qd : Hp → Prop} (F : Nat → List PyData)
    (hn : H1 D = none) (hsz : ((List.range n).flatMap F).length < sizeLine) (hG : ∀ H, Same H1 H → G H)
    (hs : ∀ (i : Nat) (x : V) (H H' : Hp) (k : L2.St → It → Hp → Prop) (kn : Hp → Prop), i < n → Same H1 H → (∃ ys, H D = some (.lst ys)) → Y i H x H' → (∀ σ2 J1 H4, InnerOk D g1 tt1 te vs1 (F i) H σ2 J1 H4 → k σ2 J1 H4) →
      g x (wipe σ vs) H' fun σ2 H2 => wipe σ2 vs = wipe σ vs ∧ tt σ2 H2 fun b H3 => if b = true then wi1 σ2 H3 (k σ2) else kn H3)
    (hd : ∀ H ys, Same H1 H → H D = some (.lst ys) → Dts H ys ((List.range n).flatMap F) → OnlyTs ((List.range n).flatMap F) → Qd H) :
    ∃ W : Nat → Nat → Hp → Prop, (∃ m, W 0 m (upd H1 D (.lst []))) ∧ ∀ i m H, W i m H →
      (J.stop i H ∧ Qd H) ∨ (J.go i H ∧ ∃ Nx : Hp → Prop, (∀ H', Nx H' → ∃ m', m' < m ∧ W (i + 1) m' H') ∧ ∀ x H', J.yld i H x H' → g x (wipe σ vs) H' fun σ2 H2 => wipe σ2 vs = wipe σ vs ∧ tt σ2 H2 fun b H3 =>
        if b = true then wi1 σ2 H3 fun J1 H4 => ∃ W1 : Nat → Nat → Hp → Prop, (∃ m, W1 0 m H4) ∧ ∀ j k H, W1 j k H →
          (J1.stop j H ∧ Nx H) ∨ (J1.go j H ∧ ∃ Nx1 : Hp → Prop, (∀ H', Nx1 H' → ∃ k', k' < k ∧ W1 (j + 1) k' H') ∧ ∀ x H', J1.yld j H x H' → g1 x (wipe σ2 vs1) H' fun σ3 H5 => wipe σ3 vs1 = wipe σ2 vs1 ∧ tt1 σ3 H5 fun b H6 =>
            if b = true then te σ3 H6 fun y H7 => ∃ acc, H7 D = some (.lst acc) ∧ acc.length < sizeLine ∧ Nx1 (upd H7 D (.lst (acc ++ [y]))) else Nx1 H6)
        else Nx H3) := by
  refine ⟨fun i m H => m = n - i ∧ i ≤ n ∧ Same H1 H ∧ ∃ ys, H D = some (.lst ys) ∧ Dts H ys ((List.range i).flatMap F) ∧ OnlyTs ((List.range i).flatMap F), ⟨n, by simp, Nat.zero_le _, same_upd hn, [], upd_same, .nil, .nil⟩, ?_⟩
  rintro i m H ⟨rfl, hi, s1, ys, hD, hdts, hot⟩
  by_cases hlt : i < n
  · refine .inr ⟨w.goes i H hlt (hG H s1), fun H' => Same H1 H' ∧ ∃ ys, H' D = some (.lst ys) ∧ Dts H' ys ((List.range (i + 1)).flatMap F) ∧ OnlyTs ((List.range (i + 1)).flatMap F), fun H' p => ⟨n - (i + 1), by omega, rfl, hlt, p⟩, fun x H' hy => ?_⟩
    refine hs i x H H' _ _ hlt s1 ⟨ys, hD⟩ (w.yields i H x H' hlt (hG H s1) hy) fun σ2 J1 H4 ok => ?_
    obtain ⟨m1, G1, Y1, f1, w1, s4, hG1, hL, hs1⟩ := ok
    have hfit : ∀ j, j ≤ m1 → ((List.range i).flatMap F ++ (List.range j).filterMap f1).length < sizeLine := fun j hj => by
      have q1 := flat_le F (n := n) (i := i + 1) hlt
      rw [flat_succ, hL] at q1
      have q2 := fm_le f1 hj
      rw [List.length_append] at q1 ⊢
      omega
    refine ⟨fun j k H5 => k = m1 - j ∧ j ≤ m1 ∧ (∀ b o, b ≠ D → H4 b = some o → H5 b = some o) ∧ ∃ zs, H5 D = some (.lst zs) ∧ Dts H5 zs ((List.range i).flatMap F ++ (List.range j).filterMap f1) ∧ OnlyTs ((List.range i).flatMap F ++ (List.range j).filterMap f1),
      ⟨m1, by simp, Nat.zero_le _, fun _ _ _ e => e, ys, s4 _ _ hD, by simpa using Dts.same s4 hdts, by simpa using hot⟩, ?_⟩
    rintro j k H5 ⟨rfl, hj, kp, zs, hD5, hz5, ho5⟩
    by_cases hlt1 : j < m1
    · refine .inr ⟨w1.goes j H5 hlt1 (hG1 H5 kp), fun H' => (∀ b o, b ≠ D → H4 b = some o → H' b = some o) ∧ ∃ zs, H' D = some (.lst zs) ∧ Dts H' zs ((List.range i).flatMap F ++ (List.range (j + 1)).filterMap f1) ∧ OnlyTs ((List.range i).flatMap F ++ (List.range (j + 1)).filterMap f1),
        fun H' p => ⟨m1 - (j + 1), by omega, rfl, hlt1, p⟩, fun x1 H6 hy1 => ?_⟩
      refine hs1 j x1 H5 H6 _ _ hlt1 kp (w1.yields j H5 x1 H6 hlt1 (hG1 H5 kp) hy1) (fun y H7 d e s7 od hd7 => ?_) fun H7 e s7 => ?_
      · have hD7 := s7 _ _ hD5
        have st : ∀ b xs, H7 b = some (.tup xs) → (upd H7 D (.lst (zs ++ [y]))) b = some (.tup xs) := fun b xs e => by
          rw [upd_ne (ne_of e hD7 (by intro z; cases z))]
          exact e
        have hlen := hz5.length
        have hf := hfit j hj
        refine ⟨zs, hD7, by omega, fun b o hb e => ?_, zs ++ [y], upd_same, ?_, ?_⟩
        · rw [upd_ne hb]
          exact s7 _ _ (kp b o hb e)
        · rw [fm_succ, e, ← List.append_assoc]
          exact Dts.app (Dts.keep st ho5 (Dts.same s7 hz5)) (.cons (Dt.keep st od hd7) .nil)
        · rw [fm_succ, e, ← List.append_assoc]
          exact OnlyTs.app ho5 (OnlyTs.one od)
      · refine ⟨fun b o hb e => s7 _ _ (kp b o hb e), zs, s7 _ _ hD5, ?_, ?_⟩
        · rw [fm_succ, e]
          simpa using Dts.same s7 hz5
        · rw [fm_succ, e]
          simpa using ho5
    · have e : j = m1 := by omega
      subst e
      refine .inl ⟨w1.stops H5 (hG1 H5 kp), fun b o e => kp b o (ne_of_none e hn) (s4 _ _ (s1 _ _ e)), zs, hD5, ?_, ?_⟩
      · rw [flat_succ, hL]
        exact hz5
      · rw [flat_succ, hL]
        exact ho5
  · have e : i = n := by omega
    subst e
    exact .inl ⟨w.stops H (hG H s1), hd H ys s1 hD hdts hot⟩
end Wb
namespace Wb
open PySem PySem.Spec PyProof.Rows L2

/-- a module's constant -/
theorem pe_const {X : Cx} {x : Str} {v : V} {pos : Pos} (h : ∃ u, X.mg x = some u ∧ RelV v u) (hg : Gl X x) (hd : (x == ("__debug__" : Str)) = false := by decide) : PE X (.Name x pos) (tC v) := by
  obtain ⟨u, h1, h2⟩ := h
  exact pe_glob hg h1 h2 hd
/-- the module's constants -/
structure Consts (mg : Str → Option Value) : Prop where
  MAX_POINTS : ∃ u, mg "MAX_POINTS" = some u ∧ RelV (.int 240) u
  LARGE : ∃ u, mg "LARGE" = some u ∧ RelV (.int (10 ^ 40)) u
  ORDER : ∃ u, mg "ORDER" = some u ∧ RelV (.str "order") u
  RING : ∃ u, mg "RING" = some u ∧ RelV (.str "ring") u
  PLAN : ∃ u, mg "PLAN" = some u ∧ RelV (.str "plan") u
theorem le1000 {n : Nat} (h : n ≤ 1000) : n < sizeLine := small1000 h
section
variable {P : Program} {w : World} {K : PySem.W.Frag} {mg : Str → Option Value} {base : Heap}

/-! ### numbers -/
def spIsInteger : Sp := fun vs H Q _ => ∃ v lo hi : Int, vs = [.int v, .int lo, .int hi] ∧ lo ≤ v ∧ v ≤ hi ∧ ∀ H', Same H H' → Q (.bl true) H'
theorem ok_isInteger (F : Has K mg "is_integer" s_isInteger ["value", "low", "high"]) (B : Blt mg) : Callee P w K mg base 1 "is_integer" ["value", "low", "high"] spIsInteger := by
  have nd := sc_isInteger.nd
  refine callee_of F sc_isInteger (fun vs H Q E h => ?_) (fun f cdv A outer s H vs Q E hr h => ?_)
  · obtain ⟨v, lo, hi, rfl, _⟩ := h
    rfl
  · obtain ⟨v, lo, hi, rfl, h1, h2, q⟩ := h
    refine ⟨_, (pss_one
      (ps_ret (pe_and (pe_callB (isi_K K rfl) (by rfl) B.isinstance (by decide +kernel) (pa_cons (pv 0) (pa_cons (pe_bltn (v := .ty "int") (u := .type "int") (by rfl) B.int (by decide +kernel) rfl) pa_nil))) (pe_and (pe_not (pe_callB (isi_K K rfl) (by rfl) B.isinstance (by decide +kernel) (pa_cons (pv 0) (pa_cons (pe_bltn (v := .ty "bool") (u := .type "bool") (by rfl) B.bool (by decide +kernel) rfl) pa_nil)))) (pe_one (pe_chain op_le op_le (pv 1) (pv 0) (pv 2))))))), ?_⟩
    refine ⟨_, rfl, .int v, .ty "int", .type "int", .type "int", true, rfl, .ty _, .base (.int v), kit_ty (by decide +kernel), true, rfl, iteT ?_⟩
    refine ⟨_, rfl, .int v, .ty "bool", .type "int", .type "bool", false, rfl, .ty _, .base (.int v), kit_ty (by decide +kernel), false, rfl, true, rfl, iteT ?_⟩
    refine ⟨_, rfl, _, rfl, lo, v, rfl, rfl, true, congrArg V.bl (decide_eq_true h1), iteT ⟨_, rfl, v, hi, rfl, rfl, ?_⟩⟩
    show Q (.bl (decide (v ≤ hi))) H
    rw [decide_eq_true h2]
    exact q _ (Same.refl H)
def spAreIntegers : Sp := fun vs H Q _ => ∃ (a : Addr) (ns : List Int) (lo hi : Int), vs = [.ref a, .int ns.length, .int lo, .int hi] ∧ H a = some (.tup (ns.map V.int)) ∧ ns.length ≤ 1000 ∧ (∀ n ∈ ns, lo ≤ n ∧ n ≤ hi) ∧ ∀ H', Same H H' → Q (.bl true) H'
theorem ok_areIntegers (F : Has K mg "are_integers" s_areIntegers ["value", "many", "low", "high"]) (B : Blt mg) (c_isInteger : Callee P w K mg base 1 "is_integer" ["value", "low", "high"] spIsInteger) :
    Callee P w K mg base 2 "are_integers" ["value", "many", "low", "high"] spAreIntegers := by
  have nd := sc_areIntegers.nd
  refine callee_of F sc_areIntegers (fun vs H Q E h => ?_) (fun f cdv A outer s H vs Q E hr h => ?_)
  · obtain ⟨a, ns, lo, hi, rfl, _⟩ := h
    rfl
  · obtain ⟨a, ns, lo, hi, rfl, ha, hz, hb, q⟩ := h
    refine ⟨_, (pss_cons
      (ps_if (PW.pt (pw_or (pt_not (pt_val (pe_callB (isi_K K rfl) (by rfl) B.isinstance (by decide +kernel) (pa_cons (pv 0) (pa_cons (pe_bltn (v := .ty "tuple") (u := .type "tuple") (by rfl) B.tuple (by decide +kernel) rfl) pa_nil))))) (pw_or1 (pt_cmpR op_ne (pe_callB (len_K K rfl) (by rfl) B.len (by decide +kernel) (pa_cons (pv 0) pa_nil)) (pv 1) (nomark _)))))
        (pss_one
          (ps_ret pe_bl))
        pss_nil)
    (pss_one
      (ps_ret (pe_callB (all_K K rfl rfl) (by rfl) B.all (by decide +kernel) (pa_cons (pe_lc (own := [("item", 4)]) rfl nd (pi_tupK K rfl (pv 0)) (blkOk_by (by kernel_rfl)) (fun _ _ _ _ _ => (pg_name (i := 4) nd rfl (Or.inl rfl))) (fun _ _ _ _ _ => pts_nil) (fun _ _ _ _ _ => (pe_fn c_isInteger hr rfl (pa_cons (pv 4) (pa_cons (pv 2) (pa_cons (pv 3) pa_nil)))))) pa_nil))))), ?_⟩
    refine ⟨_, rfl, .ref a, .ty "tuple", .type "tuple", .type "tuple", true, rfl, .ty _, .base (.tup ha), kit_ty (by decide +kernel), true, rfl, iteF ?_⟩
    refine ⟨_, rfl, a, _, rfl, .inr (SqT.of ha), _, rfl, rfl, _, rfl, ?_⟩
    rw [List.length_map, decide_eq_true rfl]
    refine iteF ⟨_, rfl, a, rfl, ⟨_, SqT.of ha⟩, fun D hD => ?_⟩
    refine lc_fm (walk_tup (xs := ns.map V.int)) (fun i => some (.bool true)) hD (le1000 (by simpa using hz)) (fun H' s => s.tup ha) (fun i x H2 H3 k kn li s1 hy hk hkn => ?_) (fun H2 vs s2 h2 d2 _ => ?_)
    · obtain ⟨rfl, e1⟩ := hy
      obtain ⟨u, g, rfl⟩ := map_int_at e1
      obtain ⟨b1, b2⟩ := hb u (List.mem_of_getElem? g)
      exact ⟨rfl, _, rfl, _, rfl, _, rfl, u, lo, hi, rfl, b1, b2, fun H' s' => hk _ _ (.bool true) rfl s' (.bl _) (.bl _)⟩
    · have e : ∀ {vs : List V} {n : Nat}, Dts H2 vs ((List.range n).filterMap fun _ => some (PyData.bool true)) → ∃ bs : List Bool, vs = bs.map V.bl ∧ bs.all id = true := by
        intro vs n
        rw [List.filterMap_eq_map']
        generalize List.range n = l
        intro h
        induction l generalizing vs with
        | nil => cases h; exact ⟨[], rfl, rfl⟩
        | cons x r ih =>
          cases h with
          | cons h1 h2 =>
            obtain ⟨bs, e1, e2⟩ := ih h2
            cases h1
            exact ⟨true :: bs, by rw [e1]; rfl, by simpa using e2⟩
      obtain ⟨bs, e1, e2⟩ := e d2
      refine ⟨D, bs, rfl, SqL.of (by rw [← e1]; exact h2), ?_⟩
      rw [e2]
      exact q _ s2
def diffI (xs ys : List Int) : List Int := List.zipWith (· - ·) xs ys
def spDifference : Sp := fun vs H Q _ => ∃ (a b : Addr) (xs ys : List Int), vs = [.ref a, .ref b] ∧ H a = some (.tup (xs.map V.int)) ∧ H b = some (.tup (ys.map V.int)) ∧ xs.length = ys.length ∧ xs.length ≤ 1000 ∧
  ∀ p H', Same H H' → H' p = some (.tup ((diffI xs ys).map V.int)) → Q (.ref p) H'
theorem ok_difference (F : Has K mg "difference" s_difference ["one", "other"]) (B : Blt mg) : Callee P w K mg base 1 "difference" ["one", "other"] spDifference := by
  have nd := sc_difference.nd
  refine callee_of F sc_difference (fun vs H Q E h => ?_) (fun f cdv A outer s H vs Q E hr h => ?_)
  · obtain ⟨a, b, xs, ys, rfl, _⟩ := h
    rfl
  · obtain ⟨a, b, xs, ys, rfl, ha, hb, hl, hz, q⟩ := h
    refine ⟨_, (pss_one
      (ps_ret (pe_tupleK K rfl rfl B.tuple (pe_lc (own := [("left", 2), ("right", 3)]) rfl nd (pi_zipK K rfl rfl B.zip (pa_cons (pv 0) (pa_cons (pv 1) pa_nil))) (blkOk_by (by kernel_rfl)) (fun _ _ _ _ _ => (pg_tupK K 2 rfl rfl (pgs_cons (pg_name (i := 2) nd rfl (Or.inl rfl)) (pgs_cons (pg_name (i := 3) nd rfl (Or.inl rfl)) pgs_nil)))) (fun _ _ _ _ _ => pts_nil) (fun _ _ _ _ _ => (pe_op op_sub (pv 2) (pv 3))))))), ?_⟩
    refine ⟨_, rfl, _, rfl, a, b, xs.map V.int, ys.map V.int, rfl, .inr ⟨SqT.of ha, SqT.of hb, fun D hD => ?_⟩⟩
    refine lc_fm (walk_zipT (xs := xs.map V.int) (ys := ys.map V.int) (n := (xs.zip ys).length) (by simp [hl])) (fun i => ((xs.zip ys)[i]?).map fun p => .int (p.1 - p.2)) hD (le1000 (by simp; omega)) (fun H' s => ⟨s.tup ha, s.tup hb⟩) (fun i x H2 H3 k kn hi s1 hy hk hkn => ?_) (fun H2 vs s2 h2 d2 _ => ?_)
    · obtain ⟨T, x1, y1, rfl, hT, rfl, e1, e2⟩ := hy
      obtain ⟨u1, g1, rfl⟩ := map_int_at e1
      obtain ⟨u2, g2, rfl⟩ := map_int_at e2
      refine ⟨T, _, rfl, SqT.of upd_same, rfl, _, _, rfl, _, _, rfl, rfl, rfl, ?_⟩
      refine ⟨_, rfl, _, rfl, u1, u2, rfl, rfl, hk _ _ (.int (u1 - u2)) ?_ (same_upd hT) (.int _) (.int _)⟩
      rw [zip_at g1 g2]
      rfl
    · rw [fm_map (xs.zip ys) (fun p => PyData.int (p.1 - p.2)) _ (fun i x e => by rw [e]; rfl)] at d2
      have e3 : (xs.zip ys).map (fun p => PyData.int (p.1 - p.2)) = (diffI xs ys).map PyData.int := by
        rw [diffI, List.zip, List.map_zipWith, List.map_zipWith]
      rw [e3] at d2
      rw [d2.ints] at h2
      exact .inl ⟨D, _, rfl, SqL.of h2, fun p hp => q p _ (same_upd2 (s2.free hp) s2) upd_same⟩

/-! ### boxes -/
def prodI : List Int → Int
  | [] => 1
  | x :: r => x * prodI r
/-- a box: sizes from 1 to 1000 -/
def BoxOk (box : List Int) : Prop := (∀ n ∈ box, 1 ≤ n ∧ n ≤ 1000) ∧ box.length ≤ 3 ∧ prodI box ≤ 240
theorem prodI_app (xs : List Int) (y : Int) : prodI (xs ++ [y]) = prodI xs * y := by
  induction xs with
  | nil => simp [prodI]
  | cons a r ih => rw [List.cons_append, prodI, prodI, ih, Int.mul_assoc]
def spCountPoints : Sp := fun vs H Q _ => ∃ (a : Addr) (xs : List Int), vs = [.ref a] ∧ H a = some (.tup (xs.map V.int)) ∧ BoxOk xs ∧ ∀ H', Same H H' → Q (.int (prodI xs)) H'
theorem ok_countPoints (F : Has K mg "count_points" s_countPoints ["box"]) (B : Blt mg) : Callee P w K mg base 1 "count_points" ["box"] spCountPoints := by
  have nd := sc_countPoints.nd
  refine callee_of F sc_countPoints (fun vs H Q E h => ?_) (fun f cdv A outer s H vs Q E hr h => ?_)
  · obtain ⟨a, xs, rfl, _⟩ := h
    rfl
  · obtain ⟨a, xs, rfl, ha, hb, q⟩ := h
    refine ⟨_, (pss_cons
      (ps_set (i := 1) nd rfl (Or.inl rfl) pe_int)
    (pss_cons
      (ps_for PassesOwn.never rfl (pi_tupK K rfl (pv 0)) (pg_name (i := 2) nd rfl (Or.inl rfl))
        (pss_one
          (ps_set (i := 1) nd rfl (Or.inl rfl) (pe_op op_mul (pv 1) (pv 2)))))
    (pss_one
      (ps_ret (pv 1))))), ?_⟩
    refine ⟨_, rfl, a, rfl, ⟨_, SqT.of ha⟩, for_it (walk_tup (xs := xs.map V.int)) (fun i σ H' => H' = H ∧ ∃ y, σ = [some (.ref a), some (.int (prodI (xs.take i))), y]) ⟨rfl, _, rfl⟩ (fun i σ H' _ p => by rw [p.1]; exact SqT.of ha) (fun i x σ H1 H2 hi p hy => ?_) fun σ H1 p => ?_⟩
    · obtain ⟨rfl, y, rfl⟩ := p
      obtain ⟨rfl, e1⟩ := hy
      obtain ⟨u, g, rfl⟩ := map_int_at e1
      have b := hb.1 u (List.mem_of_getElem? g)
      have e : prodI (xs.take (i + 1)) = prodI (xs.take i) * u := by
        rw [List.take_add_one, g]
        exact prodI_app _ _
      exact ⟨_, rfl, _, rfl, _, u, rfl, rfl, .inr ⟨by omega, by omega⟩, rfl, _, by rw [e]; rfl⟩
    · obtain ⟨rfl, y, rfl⟩ := p
      rw [List.length_map, List.take_length]
      exact ⟨_, rfl, q _ (Same.refl _)⟩
def spRequireSmall : Sp := fun vs H Q _ => ∃ (a : Addr) (xs : List Int), vs = [.ref a] ∧ H a = some (.tup (xs.map V.int)) ∧ BoxOk xs ∧ ∀ H', Same H H' → Q .non H'
theorem ok_requireSmall (F : Has K mg "require_small" s_requireSmall ["box"]) (B : Blt mg) (C : Consts mg) (c_countPoints : Callee P w K mg base 1 "count_points" ["box"] spCountPoints) : Callee P w K mg base 2 "require_small" ["box"] spRequireSmall := by
  have nd := sc_requireSmall.nd
  refine callee_of F sc_requireSmall (fun vs H Q E h => ?_) (fun f cdv A outer s H vs Q E hr h => ?_)
  · obtain ⟨a, xs, rfl, _⟩ := h
    rfl
  · obtain ⟨a, xs, rfl, ha, hb, q⟩ := h
    refine ⟨_, (pss_one
      (ps_if (pt_cmpR op_gt (pe_fn c_countPoints hr rfl (pa_cons (pv 0) pa_nil)) (pe_const C.MAX_POINTS rfl) (nomark _))
        (pss_one
          ps_never)
        pss_nil)), ?_⟩
    refine ⟨_, rfl, a, xs, rfl, ha, hb, fun H1 s1 => ⟨_, _, rfl, rfl, _, rfl, ?_⟩⟩
    rw [decide_eq_false (by have := hb.2.2; omega)]
    exact iteF (q _ s1)
def insideI (box v : List Int) : Bool := (v.zip box).all fun p => decide (0 ≤ p.1 ∧ p.1 < p.2)
def spIsInside : Sp := fun vs H Q _ => ∃ (a b : Addr) (xs ys : List Int), vs = [.ref a, .ref b] ∧ H a = some (.tup (xs.map V.int)) ∧ H b = some (.tup (ys.map V.int)) ∧ ys.length = xs.length ∧ xs.length ≤ 1000 ∧
  ∀ H', Same H H' → Q (.bl (insideI xs ys)) H'
theorem ok_isInside (F : Has K mg "is_inside" s_isInside ["box", "vector"]) (B : Blt mg) : Callee P w K mg base 1 "is_inside" ["box", "vector"] spIsInside := by
  have nd := sc_isInside.nd
  refine callee_of F sc_isInside (fun vs H Q E h => ?_) (fun f cdv A outer s H vs Q E hr h => ?_)
  · obtain ⟨a, b, xs, ys, rfl, _⟩ := h
    rfl
  · obtain ⟨a, b, xs, ys, rfl, ha, hb, hl, hz, q⟩ := h
    refine ⟨_, (pss_one
      (ps_ret (pe_callB (all_K K rfl rfl) (by rfl) B.all (by decide +kernel) (pa_cons (pe_lc (own := [("item", 2), ("size", 3)]) rfl nd (pi_zipK K rfl rfl B.zip (pa_cons (pv 1) (pa_cons (pv 0) pa_nil))) (blkOk_by (by kernel_rfl)) (fun _ _ _ _ _ => (pg_tupK K 2 rfl rfl (pgs_cons (pg_name (i := 2) nd rfl (Or.inl rfl)) (pgs_cons (pg_name (i := 3) nd rfl (Or.inl rfl)) pgs_nil)))) (fun _ _ _ _ _ => pts_nil) (fun _ _ _ _ _ => (pe_chain op_le op_lt pe_int (pv 2) (pv 3)))) pa_nil)))), ?_⟩
    refine ⟨_, rfl, _, rfl, b, a, ys.map V.int, xs.map V.int, rfl, .inr ⟨SqT.of hb, SqT.of ha, fun D hD => ?_⟩⟩
    refine lc_fm (walk_zipT (xs := ys.map V.int) (ys := xs.map V.int) (n := (ys.zip xs).length) (by simp [hl])) (fun i => ((ys.zip xs)[i]?).map fun p => .bool (decide (0 ≤ p.1 ∧ p.1 < p.2))) hD (le1000 (by simp; omega)) (fun H' s => ⟨s.tup hb, s.tup ha⟩) (fun i x H2 H3 k kn hi s1 hy hk hkn => ?_) (fun H2 vs s2 h2 d2 _ => ?_)
    · obtain ⟨T, x1, y1, rfl, hT, rfl, e1, e2⟩ := hy
      obtain ⟨u1, g1, rfl⟩ := map_int_at e1
      obtain ⟨u2, g2, rfl⟩ := map_int_at e2
      refine ⟨T, _, rfl, SqT.of upd_same, rfl, _, _, rfl, _, _, rfl, rfl, rfl, ?_⟩
      have fin : ∀ b : Bool, b = decide (0 ≤ u1 ∧ u1 < u2) → k (.bl b) _ := fun b e => hk _ (upd H2 T (.tup [.int u1, .int u2])) (.bool b) (by rw [zip_at g1 g2, e]; rfl) (same_upd hT) (.bl _) (.bl _)
      refine ⟨_, rfl, 0, u1, rfl, rfl, _, rfl, ?_⟩
      by_cases c : 0 ≤ u1
      · rw [decide_eq_true c]
        exact iteT ⟨_, rfl, u1, u2, rfl, rfl, fin _ (by simp [c])⟩
      · rw [decide_eq_false c]
        exact iteF (fin _ (by simp [c]))
    · rw [fm_map (ys.zip xs) (fun p => PyData.bool (decide (0 ≤ p.1 ∧ p.1 < p.2))) _ (fun i x e => by rw [e]; rfl)] at d2
      have e : ∀ {vs : List V} {l : List (Int × Int)}, Dts H2 vs (l.map fun p => PyData.bool (decide (0 ≤ p.1 ∧ p.1 < p.2))) → vs = (l.map fun p => decide (0 ≤ p.1 ∧ p.1 < p.2)).map V.bl := by
        intro vs l h
        induction l generalizing vs with
        | nil => cases h; rfl
        | cons x r ih =>
          cases h with
          | cons h1 h2 =>
            rw [ih h2]
            cases h1
            rfl
      rw [e d2] at h2
      refine ⟨D, _, rfl, SqL.of h2, ?_⟩
      rw [List.all_map]
      exact q _ s2
end
end Wb
namespace Wb
open PySem PySem.Spec PyProof.Rows L2

/-- rows with one item more -/
def gridRows (rows : List (List Int)) (size : Int) : List (List Int) := rows.flatMap fun row => (List.range size.toNat).map fun (i : Nat) => row ++ [(i : Int)]
def pointsOf (box : List Int) : List (List Int) := box.foldl gridRows [[]]
theorem gridRows_len (rows : List (List Int)) (size : Int) : (gridRows rows size).length = rows.length * size.toNat := by
  have e : (fun row : List Int => ((List.range size.toNat).map fun (i : Nat) => row ++ [(i : Int)]).length) = fun _ => size.toNat := by
    funext row
    simp
  rw [gridRows, List.length_flatMap, e]
  induction rows with
  | nil => simp
  | cons a r ih =>
    rw [List.map_cons, List.sum_cons, ih, List.length_cons, Nat.add_mul, Nat.one_mul, Nat.add_comm]
theorem grid_row_len {box : List Int} : ∀ {rows : List (List Int)} {k : Nat}, (∀ r ∈ rows, r.length = k) → ∀ r ∈ box.foldl gridRows rows, r.length = k + box.length := by
  induction box with
  | nil => intro rows k h r hr; exact h r hr
  | cons a b ih =>
    intro rows k h r hr
    rw [List.foldl_cons] at hr
    have q := ih (rows := gridRows rows a) (k := k + 1) (fun r' hr' => by
      obtain ⟨row, h1, h2⟩ := List.mem_flatMap.mp hr'
      obtain ⟨i, _, rfl⟩ := List.mem_map.mp h2
      rw [List.length_append, h row h1]
      rfl) r hr
    rw [List.length_cons]
    omega
theorem foldGrid_len (box : List Int) (h : ∀ n ∈ box, 1 ≤ n) : ∀ rows : List (List Int), ((box.foldl gridRows rows).length : Int) = rows.length * prodI box := by
  induction box with
  | nil => intro rows; simp [prodI]
  | cons a r ih =>
    intro rows
    rw [List.foldl_cons, ih (fun n hn => h n (List.mem_cons_of_mem _ hn)), gridRows_len, prodI, Int.natCast_mul, Int.mul_assoc]
    have ha := h a List.mem_cons_self
    rw [Int.toNat_of_nonneg (by omega)]
theorem prodI_pos (box : List Int) (h : ∀ n ∈ box, 1 ≤ n) : 1 ≤ prodI box := by
  induction box with
  | nil => simp [prodI]
  | cons a r ih =>
    have h1 := ih fun n hn => h n (List.mem_cons_of_mem _ hn)
    have h2 := h a List.mem_cons_self
    rw [prodI]
    have h3 : 1 * prodI r ≤ a * prodI r := Int.mul_le_mul_of_nonneg_right h2 (by omega)
    omega
theorem prodI_take_le (box : List Int) (h : ∀ n ∈ box, 1 ≤ n) (i : Nat) : prodI (box.take i) ≤ prodI box := by
  induction box generalizing i with
  | nil => simp
  | cons a r ih =>
    cases i with
    | zero => exact prodI_pos _ h
    | succ i =>
      have h1 := ih (fun n hn => h n (List.mem_cons_of_mem _ hn)) i
      have h2 := h a List.mem_cons_self
      rw [List.take_succ_cons, prodI, prodI]
      exact Int.mul_le_mul_of_nonneg_left h1 (by omega)
theorem BoxOk.pre_len {box : List Int} (b : BoxOk box) (i : Nat) : ((box.take i).foldl gridRows [[]]).length ≤ 240 := by
  have h1 : ∀ n ∈ box, 1 ≤ n := fun n hn => (b.1 n hn).1
  have h2 := foldGrid_len (box.take i) (fun n hn => h1 n (List.mem_of_mem_take hn)) [[]]
  have h3 := prodI_take_le box h1 i
  have h4 := b.2.2
  simp only [List.length_cons, List.length_nil] at h2
  omega
theorem take_next' {α : Type} {l : List α} {i : Nat} {x : α} (h : l[i]? = some x) : l.take (i + 1) = l.take i ++ [x] := by
  rw [List.take_add_one, h]
  rfl
theorem dts_vis {H : Hp} : ∀ {vs : List V} {nss : List (List Int)} {i : Nat} {v : V}, Dts H vs (nss.map vi) → vs[i]? = some v → ∃ a ns, v = .ref a ∧ nss[i]? = some ns ∧ H a = some (.tup (ns.map V.int)) := by
  intro vs nss i v h e
  obtain ⟨d, e1, e2⟩ := h.get' e
  rw [List.getElem?_map] at e1
  cases q : nss[i]? with
  | none => rw [q] at e1; cases e1
  | some ns =>
    rw [q] at e1
    cases e1
    obtain ⟨a, rfl, ha⟩ := e2.viI
    exact ⟨a, ns, rfl, rfl, ha⟩
theorem upd_none {H : Hp} {p q : Addr} {o : HO} (h : upd H p o q = none) : q ≠ p ∧ H q = none := by
  by_cases e : q = p
  · subst e
    rw [upd_same] at h
    cases h
  · rw [upd_ne e] at h
    exact ⟨e, h⟩
theorem upd_some {H : Hp} {p q : Addr} {o u : HO} (hp : H p = none) (h : H q = some u) : upd H p o q = some u := by
  rw [upd_ne (ne_of_none h hp)]
  exact h
theorem small_of {n m : Nat} (h : n ≤ m) (hm : m ≤ 1000) : n < sizeLine := small1000 (Nat.le_trans h hm)
section
variable {P : Program} {w : World} {K : PySem.W.Frag} {mg : Str → Option Value} {base : Heap}
def spPointsOf : Sp := fun vs H Q _ => ∃ (a : Addr) (xs : List Int), vs = [.ref a] ∧ H a = some (.tup (xs.map V.int)) ∧ BoxOk xs ∧
  ∀ p us H', Same H H' → H' p = some (.tup us) → Dts H' us ((pointsOf xs).map vi) → Q (.ref p) H'
theorem ok_pointsOf (F : Has K mg "points_of" s_pointsOf ["box"]) (B : Blt mg) (c_requireSmall : Callee P w K mg base 2 "require_small" ["box"] spRequireSmall) : Callee P w K mg base 3 "points_of" ["box"] spPointsOf := by
  have nd := sc_pointsOf.nd
  refine callee_of F sc_pointsOf (fun vs H Q E h => ?_) (fun f cdv A outer s H vs Q E hr h => ?_)
  · obtain ⟨a, xs, rfl, _⟩ := h
    rfl
  · obtain ⟨a, xs, rfl, ha, hb, q⟩ := h
    refine ⟨_, (pss_cons
      (ps_expr (pe_fn c_requireSmall hr rfl (pa_cons (pv 0) pa_nil)))
    (pss_cons
      (ps_set (i := 1) nd rfl (Or.inl rfl) (pe_lst (pa_cons (pe_tup pa_nil) pa_nil)))
    (pss_cons
      (ps_for PassesOwn.never rfl (pi_tupK K rfl (pv 0)) (pg_name (i := 2) nd rfl (Or.inr rfl))
        (pss_one
          (ps_setLc2 (i := 1) (own := [("row", 3), ("item", 4)]) (vs1 := [4]) rfl nd rfl rfl (sw_true rfl rfl rfl (by decide +kernel)) (pi_listK K rfl (pv 1)) (blkOk_by (by kernel_rfl)) (by decide) (fun _ _ _ _ _ => (pg_name (i := 3) nd rfl (Or.inl rfl))) (fun _ _ _ _ _ => pts_nil) (fun _ _ _ _ _ => (pi_range1 rfl B.range (pa_cons (pv 2) pa_nil))) (fun _ _ _ _ _ => (pg_name (i := 4) nd rfl (Or.inl rfl))) (fun _ _ _ _ _ => pts_nil) (fun _ _ _ _ _ => (pe_tup (pa_starK K rfl (pv 3) (pa_cons (pv 4) pa_nil)))))))
    (pss_one
      (ps_ret (pe_tupleK K rfl rfl B.tuple (pv 1))))))), ?_⟩
    refine ⟨_, rfl, a, xs, rfl, ha, hb, fun H1 s1 => ?_⟩
    refine ⟨Nat.zero_le _, fun e0 he0 => ⟨Nat.succ_le_of_lt (small1000 (Nat.zero_le _)), fun r0 hr0 => ?_⟩⟩
    obtain ⟨ne0, hr1⟩ := upd_none hr0
    refine ⟨_, rfl, a, rfl, ⟨_, SqT.of (upd_some hr0 (upd_some he0 (s1 _ _ ha)))⟩, for_it (walk_tup (xs := xs.map V.int)) (fun i σ H' => Same H H' ∧ ∃ r us y, σ = [some (.ref a), some (.ref r), y, none, none] ∧ H' r = some (.lst us) ∧ Dts H' us (((xs.take i).foldl gridRows [[]]).map vi))
        ⟨fun b o e => upd_some hr0 (upd_some he0 (s1 _ _ e)), r0, [.ref e0], none, rfl, upd_same, .cons (.tup (upd_some hr0 upd_same) .nil) .nil⟩ (fun i σ H' _ p => p.1.tup ha) (fun i x σ H2 H3 hi p hy => ?_) fun σ H2 p => ?_⟩
    · obtain ⟨s2, r, us, y, rfl, hr2, hd2⟩ := p
      obtain ⟨rfl, e1⟩ := hy
      obtain ⟨u, g, rfl⟩ := map_int_at e1
      have bu := hb.1 u (List.mem_of_getElem? g)
      have epre : (xs.take (i + 1)).foldl gridRows [[]] = gridRows ((xs.take i).foldl gridRows [[]]) u := by
        rw [take_next' g, List.foldl_append]
        rfl
      have hlen := hb.pre_len (i + 1)
      rw [epre] at hlen ⊢
      have hrow : ∀ row ∈ (xs.take i).foldl gridRows [[]], row.length ≤ 3 := fun row hrw => by
        have q1 := grid_row_len (k := 0) (rows := [[]]) (fun r hr => by simp at hr; simp [hr]) row hrw
        have q2 := hb.2.1
        rw [List.length_take] at q1
        omega
      generalize (xs.take i).foldl gridRows [[]] = pre at hd2 hlen hrow ⊢
      have hul : us.length = pre.length := by rw [hd2.length, List.length_map]
      have eF : ((List.range us.length).flatMap fun j => (List.range u.toNat).filterMap fun (k : Nat) => some (vi (pre.getD j [] ++ [(k : Int)]))) = (gridRows pre u).map vi := by
        rw [hul, gridRows, List.map_flatMap]
        have : ∀ (l : List (List Int)) (f : List Int → List PyData), ((List.range l.length).flatMap fun j => f (l.getD j [])) = l.flatMap f := by
          intro l f
          induction l with
          | nil => rfl
          | cons a r ih =>
            rw [List.length_cons, List.range_succ_eq_map, List.flatMap_cons, List.flatMap_map, List.flatMap_cons]
            rw [← ih]
            rfl
        rw [← this pre]
        simp only [List.filterMap_eq_map', List.map_map]
        rfl
      refine ⟨_, rfl, r, rfl, ⟨us, SqL.of hr2⟩, fun D hD => ?_⟩
      refine lc_fm2 (walk_list (xs := us)) (fun j => (List.range u.toNat).filterMap fun (k : Nat) => some (vi (pre.getD j [] ++ [(k : Int)]))) hD (by rw [eF, List.length_map]; exact small_of hlen (by decide)) (fun H' s => s.lst hr2) (fun j x H4 H5 k kn hj s4 hDD hy hk => ?_) (fun H4 zs s4 h4 d4 _ => ?_)
      · obtain ⟨rfl, ex⟩ := hy
        obtain ⟨ar, row, rfl, erow, har⟩ := dts_vis hd2 ex
        refine ⟨rfl, _, rfl, u, rfl, by omega, by omega, ?_⟩
        refine hk _ _ _ ⟨u.toNat, _, _, fun k => some (vi (pre.getD j [] ++ [(k : Int)])), walk_range, Same.refl _, fun _ _ => trivial, rfl, fun k2 x2 H6 H7 k3 kn3 hj3 kp hy3 hk3 _ => ?_⟩
        obtain ⟨rfl, rfl⟩ := hy3
        have h6 : H7 ar = some (.tup (row.map V.int)) := kp _ _ (ne_of_none har hD) (s4 _ _ har)
        refine ⟨rfl, _, rfl, ar, _, rfl, .inl (SqT.of h6), _, rfl, ?_, fun p hp => hk3 _ _ _ rfl (same_upd hp) (only_vi _) (dt_vi ?_)⟩
        · have q := hrow row (List.mem_of_getElem? erow)
          rw [List.length_append, List.length_map]
          exact Nat.le_of_lt (small1000 (by simp; omega))
        · rw [upd_same, List.getD_eq_getElem?_getD, erow, List.map_append]
          simp
      · refine ⟨fun b o e => s4 _ _ (s2 _ _ e), D, zs, _, rfl, h4, ?_⟩
        rw [eF] at d4
        exact d4
    · obtain ⟨s2, r, us, y, rfl, hr2, hd2⟩ := p
      rw [List.length_map, List.take_length] at hd2
      exact ⟨_, rfl, .inl ⟨r, us, rfl, SqL.of hr2, fun p hp => q p us _ (same_upd2 (s2.free hp) s2) upd_same (hd2.same (same_upd hp))⟩⟩
end
end Wb
namespace Wb
open PySem PySem.Spec PyProof.Rows L2

def blockOf (sides place : List Int) : List Int := List.zipWith (fun x s => Int.fdiv x s) place sides
theorem gcd_step {l r : Int} (hl : 0 ≤ l) (hr : 0 ≤ r) : Int.gcd r (l % r) = Int.gcd l r := by
  obtain ⟨a, rfl⟩ := Int.eq_ofNat_of_zero_le hl
  obtain ⟨b, rfl⟩ := Int.eq_ofNat_of_zero_le hr
  show Nat.gcd b (((a : Int) % (b : Int)).natAbs) = Nat.gcd a b
  rw [← Int.natCast_emod, Int.natAbs_natCast, Nat.gcd_comm a b, Nat.gcd_rec b a, Nat.gcd_comm]
def SidesOk (sides : List Int) : Prop := ∀ s ∈ sides, 1 ≤ s ∧ s ≤ 1000
def blockAt (rs : List (List Int)) (sides pt : List Int) : List Int := blockOf sides (rs.map fun r => dotI r pt)
def RowsOk (rs : List (List Int)) (n : Nat) : Prop := ∀ r ∈ rs, r.length = n ∧ Bd r
section
variable {P : Program} {w : World} {K : PySem.W.Frag} {mg : Str → Option Value} {base : Heap}
def spBlockOf : Sp := fun vs H Q _ => ∃ (a b : Addr) (xs ys : List Int), vs = [.ref a, .ref b] ∧ H a = some (.tup (xs.map V.int)) ∧ H b = some (.lst (ys.map V.int)) ∧ ys.length = xs.length ∧ xs.length ≤ 1000 ∧ SidesOk xs ∧
  ∀ p H', Same H H' → H' p = some (.tup ((blockOf xs ys).map V.int)) → Q (.ref p) H'
theorem ok_blockOf (F : Has K mg "block_of" s_blockOf ["sides", "place"]) (B : Blt mg) : Callee P w K mg base 1 "block_of" ["sides", "place"] spBlockOf := by
  have nd := sc_blockOf.nd
  refine callee_of F sc_blockOf (fun vs H Q E h => ?_) (fun f cdv A outer s H vs Q E hr h => ?_)
  · obtain ⟨a, b, xs, ys, rfl, _⟩ := h
    rfl
  · obtain ⟨a, b, xs, ys, rfl, ha, hb, hl, hz, so, q⟩ := h
    refine ⟨_, (pss_one
      (ps_ret (pe_tupleK K rfl rfl B.tuple (pe_lc (own := [("item", 2), ("side", 3)]) rfl nd (pi_zipM K rfl rfl B.zip (pa_cons (pv 1) (pa_cons (pv 0) pa_nil))) (blkOk_by (by kernel_rfl)) (fun _ _ _ _ _ => (pg_tupK K 2 rfl rfl (pgs_cons (pg_name (i := 2) nd rfl (Or.inl rfl)) (pgs_cons (pg_name (i := 3) nd rfl (Or.inl rfl)) pgs_nil)))) (fun _ _ _ _ _ => pts_nil) (fun _ _ _ _ _ => (pe_op op_fdivN (pv 2) (pv 3))))))), ?_⟩
    refine ⟨_, rfl, _, rfl, b, a, ys.map V.int, xs.map V.int, rfl, SqL.of hb, SqT.of ha, fun D hD => ?_⟩
    refine lc_fm (walk_zipM (xs := ys.map V.int) (ys := xs.map V.int) (n := (ys.zip xs).length) (by simp [hl])) (fun i => ((ys.zip xs)[i]?).map fun p => .int (Int.fdiv p.1 p.2)) hD (le1000 (by simp; omega)) (fun H' s => ⟨s.lst hb, s.tup ha⟩) (fun i x H2 H3 k kn hi s1 hy hk hkn => ?_) (fun H2 vs s2 h2 d2 _ => ?_)
    · obtain ⟨T, x1, y1, rfl, hT, rfl, e1, e2⟩ := hy
      obtain ⟨u1, g1, rfl⟩ := map_int_at e1
      obtain ⟨u2, g2, rfl⟩ := map_int_at e2
      have bs := so u2 (List.mem_of_getElem? g2)
      refine ⟨T, _, rfl, SqT.of upd_same, rfl, _, _, rfl, _, _, rfl, rfl, rfl, ?_⟩
      refine ⟨_, rfl, _, rfl, u1, u2, rfl, rfl, ⟨by omega, by omega⟩, hk _ _ (.int (Int.fdiv u1 u2)) ?_ (same_upd hT) (.int _) (.int _)⟩
      rw [zip_at g1 g2]
      rfl
    · rw [fm_map (ys.zip xs) (fun p => PyData.int (Int.fdiv p.1 p.2)) _ (fun i x e => by rw [e]; rfl)] at d2
      have e3 : (ys.zip xs).map (fun p => PyData.int (Int.fdiv p.1 p.2)) = (blockOf xs ys).map PyData.int := by
        rw [blockOf, List.zip, List.map_zipWith, List.map_zipWith]
      rw [e3] at d2
      rw [d2.ints] at h2
      exact .inl ⟨D, _, rfl, SqL.of h2, fun p hp => q p _ (same_upd2 (s2.free hp) s2) upd_same⟩
def spDivisorOf : Sp := fun vs H Q _ => ∃ a b : Int, vs = [.int a, .int b] ∧ 0 ≤ a ∧ 0 ≤ b ∧ ∀ H', Same H H' → Q (.int (Int.gcd a b)) H'
theorem ok_divisorOf (F : Has K mg "divisor_of" s_divisorOf ["one", "other"]) (B : Blt mg) : Callee P w K mg base 1 "divisor_of" ["one", "other"] spDivisorOf := by
  have nd := sc_divisorOf.nd
  refine callee_of F sc_divisorOf (fun vs H Q E h => ?_) (fun f cdv A outer s H vs Q E hr h => ?_)
  · obtain ⟨a, b, rfl, _⟩ := h
    rfl
  · obtain ⟨a, b, rfl, ha, hb, q⟩ := h
    refine ⟨_, (pss_cons
      (ps_par (i := 2) (j := 3) rfl nd rfl rfl (by decide) rfl rfl (pa_cons (pv 0) (pa_cons (pv 1) pa_nil)) (by rfl))
    (pss_cons
      (ps_while PassesOwn.never (pt_cmpR op_ne (pv 3) pe_int (nomark _))
        (pss_one
          (ps_par (i := 2) (j := 3) rfl nd rfl rfl (by decide) rfl rfl (pa_cons (pv 3) (pa_cons (pe_op op_modN (pv 2) (pv 3)) pa_nil)) (by rfl))))
    (pss_one
      (ps_ret (pv 2))))), ?_⟩
    refine ⟨_, rfl, _, rfl, _, _, rfl, ?_⟩
    refine ⟨fun m σ H' => H' = H ∧ ∃ l r : Int, σ = [some (.int a), some (.int b), some (.int l), some (.int r)] ∧ 0 ≤ l ∧ 0 ≤ r ∧ m = r.toNat ∧ Int.gcd l r = Int.gcd a b, ⟨b.toNat, rfl, a, b, rfl, ha, hb, rfl, rfl⟩, fun m σ H' hW => ?_⟩
    obtain ⟨rfl, l, r, rfl, hl, hr', rfl, hg⟩ := hW
    refine ⟨_, rfl, rfl, _, rfl, ?_⟩
    by_cases c : r = 0
    · subst c
      rw [show (!decide ((V.int 0) = V.int 0)) = false from rfl]
      refine ⟨_, rfl, ?_⟩
      have e : (Int.gcd a b : Int) = l := by
        rw [← hg, Int.gcd_zero_right]
        omega
      show Q (.int l) H'
      rw [← e]
      exact q _ (Same.refl _)
    · rw [show (!decide (V.int r = V.int 0)) = true by simp [c]]
      refine ⟨fun σ' H2 => H2 = H' ∧ ∃ l' r' : Int, σ' = [some (.int a), some (.int b), some (.int l'), some (.int r')] ∧ 0 ≤ l' ∧ 0 ≤ r' ∧ r'.toNat < r.toNat ∧ Int.gcd l' r' = Int.gcd a b, fun σ' H2 p => ?_, ?_⟩
      · obtain ⟨e, l', r', e1, e2, e3, e4, e5⟩ := p
        exact ⟨r'.toNat, e4, e, l', r', e1, e2, e3, rfl, e5⟩
      · have h1 : 0 ≤ Int.fmod l r := Int.fmod_nonneg hl hr'
        have h2 : Int.fmod l r < r := Int.fmod_lt_of_pos l (by omega)
        refine ⟨_, rfl, _, rfl, _, rfl, l, r, rfl, rfl, c, _, _, rfl, rfl, r, Int.fmod l r, rfl, hr', h1, by omega, ?_⟩
        rw [← hg, Int.fmod_eq_emod_of_nonneg l hr']
        exact gcd_step hl hr'
def spBlockAt : Sp := fun vs H Q _ => ∃ (a b c : Addr) (us : List V) (rs : List (List Int)) (sides pt : List Int), vs = [.ref a, .ref b, .ref c] ∧ H a = some (.tup us) ∧ Dts H us (rs.map vi) ∧ H b = some (.tup (sides.map V.int)) ∧ H c = some (.tup (pt.map V.int)) ∧
  rs.length = sides.length ∧ sides.length ≤ 1000 ∧ pt.length ≤ 1000 ∧ SidesOk sides ∧ RowsOk rs pt.length ∧ ∀ p H', Same H H' → H' p = some (.tup ((blockAt rs sides pt).map V.int)) → Q (.ref p) H'
theorem ok_blockAt (F : Has K mg "block_at" s_blockAt ["rows", "sides", "point"]) (B : Blt mg) (c_blockOf : Callee P w K mg base 1 "block_of" ["sides", "place"] spBlockOf) (c_dot : Callee P w K mg base 1 "dot" ["one", "other"] spDot) :
    Callee P w K mg base 2 "block_at" ["rows", "sides", "point"] spBlockAt := by
  have nd := sc_blockAt.nd
  refine callee_of F sc_blockAt (fun vs H Q E h => ?_) (fun f cdv A outer s H vs Q E hr h => ?_)
  · obtain ⟨a, b, c, us, rs, sides, pt, rfl, _⟩ := h
    rfl
  · obtain ⟨a, b, c, us, rs, sides, pt, rfl, ha, hd, hb, hc, hl, hz, hz2, so, ro, q⟩ := h
    refine ⟨_, (pss_one
      (ps_ret (pe_fn c_blockOf hr rfl (pa_cons (pv 1) (pa_cons (pe_lc (own := [("row", 3)]) rfl nd (pi_tupK K rfl (pv 0)) (blkOk_by (by kernel_rfl)) (fun _ _ _ _ _ => (pg_name (i := 3) nd rfl (Or.inl rfl))) (fun _ _ _ _ _ => pts_nil) (fun _ _ _ _ _ => (pe_fn c_dot hr rfl (pa_cons (pv 3) (pa_cons (pv 2) pa_nil))))) pa_nil))))), ?_⟩
    refine ⟨_, rfl, _, rfl, a, rfl, ⟨us, SqT.of ha⟩, fun D hD => ?_⟩
    have hul : us.length = rs.length := by rw [hd.length, List.length_map]
    refine lc_fm (walk_tup (xs := us)) (fun i => (rs[i]?).map fun r => .int (dotI r pt)) hD (le1000 (by omega)) (fun H' s => s.tup ha) (fun i x H2 H3 k kn hi s1 hy hk hkn => ?_) (fun H2 vs s2 h2 d2 _ => ?_)
    · obtain ⟨rfl, e1⟩ := hy
      obtain ⟨ar, row, rfl, erow, har⟩ := dts_vis hd e1
      have ro' := ro row (List.mem_of_getElem? erow)
      refine ⟨rfl, _, rfl, _, rfl, ar, c, row, pt, rfl, s1 _ _ har, s1 _ _ hc, ro'.1, by omega, ro'.2, fun H' s' => hk _ _ (.int (dotI row pt)) (by rw [erow]; rfl) s' (.int _) (.int _)⟩
    · rw [hul, fm_map rs (fun r => PyData.int (dotI r pt)) _ (fun i x e => by rw [e]; rfl)] at d2
      have e3 : rs.map (fun r => PyData.int (dotI r pt)) = (rs.map fun r => dotI r pt).map PyData.int := by
        rw [List.map_map]
        rfl
      rw [e3] at d2
      rw [d2.ints] at h2
      exact ⟨b, D, sides, rs.map fun r => dotI r pt, rfl, s2 _ _ hb, h2, by rw [List.length_map]; exact hl, hz, so, fun p H' s' h' => q p _ (s2.trans s') h'⟩

/-! ### flows -/
abbrev Rule := Str × List (Int × List Int)
def readD (r : Int × List Int) : PyData := .tuple [.int r.1, vi r.2]
def ruleD (r : Rule) : PyData := .tuple (.str r.1 :: r.2.map readD)
def flowD (dims : Int) (rules : List Rule) : PyData := .tuple [.int dims, .tuple (rules.map ruleD)]
def rdD (i j : Nat) (r : Int × List Int) : PyData := .tuple [.int i, .int j, .int r.1, vi r.2]
def readsRows (rules : List Rule) : List PyData := (List.range rules.length).flatMap fun i => (List.range ((rules.getD i ("", [])).2.length)).filterMap fun j => ((rules.getD i ("", [])).2[j]?).map fun r => rdD i j r
/-- a flow of few rules with few reads -/
def FlowOk (n : Nat) (rules : List Rule) : Prop := rules.length ≤ 6 ∧ ∀ r ∈ rules, r.2.length ≤ 3 ∧ ∀ rd ∈ r.2, rd.2.length = n ∧ Bd rd.2
theorem flat_bound {β : Type} (F : Nat → List β) (m : Nat) (h : ∀ i, (F i).length ≤ m) : ∀ n, ((List.range n).flatMap F).length ≤ n * m
  | 0 => by simp
  | n + 1 => by
    have q := flat_bound F m h n
    have q2 := h n
    rw [flat_succ, List.length_append, Nat.add_mul]
    omega
theorem fm_len_le {β : Type} (f : Nat → Option β) (n : Nat) : ((List.range n).filterMap f).length ≤ n := by
  have q := List.length_filterMap_le f (List.range n)
  rw [List.length_range] at q
  exact q
theorem readsRows_len {n : Nat} {rules : List Rule} (ok : FlowOk n rules) : (readsRows rules).length ≤ 18 := by
  have q := flat_bound (fun i => (List.range ((rules.getD i ("", [])).2.length)).filterMap fun j => ((rules.getD i ("", [])).2[j]?).map fun r => rdD i j r) 3 (fun i => by
    refine Nat.le_trans (fm_len_le _ _) ?_
    rw [List.getD_eq_getElem?_getD]
    cases e : rules[i]? with
    | none => simp
    | some r => exact (ok.2 r (List.mem_of_getElem? e)).1) rules.length
  have q2 := ok.1
  show ((List.range rules.length).flatMap _).length ≤ 18
  omega
theorem only_rdD (i j : Nat) (r : Int × List Int) : OnlyT (rdD i j r) := .tup (.cons (.int _) (.cons (.int _) (.cons (.int _) (.cons (only_vi _) .nil))))
theorem readsRows_mem {rules : List Rule} {d : PyData} (h : d ∈ readsRows rules) : ∃ i j rd, d = rdD i j rd ∧ ∃ r ∈ rules, rd ∈ r.2 := by
  obtain ⟨i, hi, h2⟩ := List.mem_flatMap.mp h
  obtain ⟨j, _, h3⟩ := List.mem_filterMap.mp h2
  have hi' : i < rules.length := List.mem_range.mp hi
  rw [List.getD_eq_getElem?_getD, List.getElem?_eq_getElem hi'] at h3
  cases e : (rules[i]).2[j]? with
  | none =>
    rw [show ((some rules[i]).getD ("", [])) = rules[i] from rfl, e] at h3
    cases h3
  | some rd =>
    rw [show ((some rules[i]).getD ("", [])) = rules[i] from rfl, e] at h3
    cases h3
    exact ⟨i, j, rd, rfl, rules[i], List.getElem_mem hi', List.mem_of_getElem? e⟩
def spReadsOf : Sp := fun vs H Q _ => ∃ (a : Addr) (n : Nat) (dims : Int) (rules : List Rule), vs = [.ref a] ∧ Dt H (.ref a) (flowD dims rules) ∧ FlowOk n rules ∧ ∀ p us H', Same H H' → H' p = some (.tup us) → Dts H' us (readsRows rules) → Q (.ref p) H'
end
end Wb
namespace Wb
open PySem PySem.Spec PyProof.Rows L2

theorem ll {n : Nat} (h : Nat.ble n 1000 = true) : n ≤ sizeLine := Nat.le_of_lt (small1000 (Nat.le_of_ble_eq_true h))
theorem cut_one {x : V} {xs : List V} : cutV (x :: xs) (some 1) none = xs := by
  unfold cutV
  have e : HT.sIx (x :: xs).length 0 (some 1) = 1 := by
    rw [show HT.sIx (x :: xs).length 0 (some 1) = min 1 (x :: xs).length from HT.sIx_nat _ 0 1, List.length_cons]
    omega
  rw [e, HT.sIx_none, List.drop_succ_cons, List.drop_zero, List.length_cons, Nat.add_sub_cancel]
  exact List.take_length
theorem cut_ne {x : V} {xs : List V} : ¬ (HT.sIx (x :: xs).length 0 (some 1) = 0 ∧ HT.sIx (x :: xs).length (x :: xs).length none = (x :: xs).length) := by
  intro ⟨h, _⟩
  rw [show HT.sIx (x :: xs).length 0 (some 1) = min 1 (x :: xs).length from HT.sIx_nat _ 0 1, List.length_cons] at h
  omega
theorem Dts.one {H : Hp} {vs : List V} {d : PyData} (h : Dts H vs [d]) : ∃ v, vs = [v] ∧ Dt H v d := by
  cases h with
  | cons h t => cases t; exact ⟨_, rfl, h⟩
theorem Dts.consI {H : Hp} {vs : List V} {d : PyData} {ds : List PyData} (h : Dts H vs (d :: ds)) : ∃ v us, vs = v :: us ∧ Dt H v d ∧ Dts H us ds := by
  cases h with
  | cons h t => exact ⟨_, _, rfl, h, t⟩
/-- a read as it stands -/
theorem dt_readI {H : Hp} {v : V} {rd : Int × List Int} (h : Dt H v (readD rd)) : ∃ c d, v = .ref c ∧ H c = some (.tup [.int rd.1, .ref d]) ∧ H d = some (.tup (rd.2.map V.int)) := by
  obtain ⟨c, xs, rfl, hc, t⟩ := h.tupI
  obtain ⟨v1, u1, rfl, d1, t⟩ := t.consI
  obtain ⟨v2, rfl, d2⟩ := t.one
  cases d1
  obtain ⟨d, rfl, hd⟩ := d2.viI
  exact ⟨c, d, rfl, hc, hd⟩
theorem dt_rdI {H : Hp} {v : V} {i j : Nat} {rd : Int × List Int} (h : Dt H v (rdD i j rd)) : ∃ c d, v = .ref c ∧ H c = some (.tup [.int i, .int j, .int rd.1, .ref d]) ∧ H d = some (.tup (rd.2.map V.int)) := by
  obtain ⟨c, xs, rfl, hc, t⟩ := h.tupI
  obtain ⟨v1, u1, rfl, d1, t⟩ := t.consI
  obtain ⟨v2, u2, rfl, d2, t⟩ := t.consI
  obtain ⟨v3, u3, rfl, d3, t⟩ := t.consI
  obtain ⟨v4, rfl, d4⟩ := t.one
  cases d1
  cases d2
  cases d3
  obtain ⟨d, rfl, hd⟩ := d4.viI
  exact ⟨c, d, rfl, hc, hd⟩
theorem dt_ruleI {H : Hp} {v : V} {r : Rule} (h : Dt H v (ruleD r)) : ∃ c us, v = .ref c ∧ H c = some (.tup (.str r.1 :: us)) ∧ Dts H us (r.2.map readD) := by
  obtain ⟨c, xs, rfl, hc, t⟩ := h.tupI
  obtain ⟨v1, u1, rfl, d1, t2⟩ := t.consI
  cases d1
  exact ⟨c, u1, rfl, hc, t2⟩
theorem dt_flowI {H : Hp} {v : V} {dims : Int} {rules : List Rule} (h : Dt H v (flowD dims rules)) : ∃ a b us, v = .ref a ∧ H a = some (.tup [.int dims, .ref b]) ∧ H b = some (.tup us) ∧ Dts H us (rules.map ruleD) := by
  obtain ⟨c, xs, rfl, hc, t⟩ := h.tupI
  obtain ⟨v1, u1, rfl, d1, t⟩ := t.consI
  obtain ⟨v2, rfl, d2⟩ := t.one
  cases d1
  obtain ⟨b, us, rfl, hb, t⟩ := d2.tupI
  exact ⟨c, b, us, rfl, hc, hb, t⟩
theorem dts_map_at {H : Hp} {α : Type} {vs : List V} {l : List α} {f : α → PyData} {i : Nat} {v : V} (h : Dts H vs (l.map f)) (e : vs[i]? = some v) : ∃ x, l[i]? = some x ∧ Dt H v (f x) := by
  obtain ⟨d, e1, e2⟩ := h.get' e
  rw [List.getElem?_map] at e1
  cases q : l[i]? with
  | none => rw [q] at e1; cases e1
  | some x =>
    rw [q] at e1
    cases e1
    exact ⟨x, rfl, e2⟩
section
variable {P : Program} {w : World} {K : PySem.W.Frag} {mg : Str → Option Value} {base : Heap}
theorem ok_readsOf (F : Has K mg "reads_of" s_readsOf ["flow"]) (B : Blt mg) : Callee P w K mg base 1 "reads_of" ["flow"] spReadsOf := by
  have nd := sc_readsOf.nd
  refine callee_of F sc_readsOf (fun vs H Q E h => ?_) (fun f cdv A outer s H vs Q E hr h => ?_)
  · obtain ⟨a, n, dims, rules, rfl, _⟩ := h
    rfl
  · obtain ⟨a, n, dims, rules, rfl, hf, ok, q⟩ := h
    obtain ⟨a', b, us, e, ha, hb, hus⟩ := dt_flowI hf
    cases e
    refine ⟨_, (pss_cons
      (ps_setLc2 (i := 1) (own := [("plane", 2), ("rule", 3), ("operand", 4), ("read", 5)]) (vs1 := [4, 5]) rfl nd rfl rfl (sw_true rfl rfl rfl (by decide +kernel)) (pi_enumK K rfl rfl B.enumerate (pa_cons (pe_ix (ix_tupK K rfl) (pv 0) pe_int (fun _ _ => rfl)) pa_nil)) (blkOk_by (by kernel_rfl)) (by decide) (fun _ _ _ _ _ => (pg_tupK K 2 rfl rfl (pgs_cons (pg_name (i := 2) nd rfl (Or.inl rfl)) (pgs_cons (pg_name (i := 3) nd rfl (Or.inl rfl)) pgs_nil)))) (fun _ _ _ _ _ => pts_nil) (fun _ _ _ _ _ => (pi_enumK K rfl rfl B.enumerate (pa_cons (pe_slice (sl_tupK K rfl) (pv 3) (po_some pe_int) po_none) pa_nil))) (fun _ _ _ _ _ => (pg_tupK K 2 rfl rfl (pgs_cons (pg_name (i := 4) nd rfl (Or.inl rfl)) (pgs_cons (pg_name (i := 5) nd rfl (Or.inl rfl)) pgs_nil)))) (fun _ _ _ _ _ => pts_nil) (fun _ _ _ _ _ => (pe_tup (pa_cons (pv 2) (pa_cons (pv 4) (pa_starK K rfl (pv 5) pa_nil))))))
    (pss_one
      (ps_ret (pe_tupleK K rfl rfl B.tuple (pv 1))))), ?_⟩
    refine ⟨_, rfl, a, _, 1, .ref b, rfl, rfl, SqT.of ha, rfl, b, us, rfl, SqT.of hb, fun D hD => ?_⟩
    have hul : us.length = rules.length := by rw [hus.length, List.length_map]
    refine lc_fm2 (walk_enumT (xs := us)) (fun i => (List.range ((rules.getD i ("", [])).2.length)).filterMap fun j => ((rules.getD i ("", [])).2[j]?).map fun r => rdD i j r) hD (by
        rw [hul]
        exact small_of (readsRows_len ok) (by decide)) (fun H' s => s.tup hb) (fun i x H4 H5 k kn hi s4 hDD hy hk => ?_) (fun H4 zs s4 h4 d4 _ => ?_)
    · obtain ⟨T, x1, y1, rfl, hT, rfl, e1, e2⟩ := hy
      cases e1
      obtain ⟨r, er, hrd⟩ := dts_map_at hus e2
      obtain ⟨c, rds, rfl, hc, hrds⟩ := dt_ruleI hrd
      have eg : rules.getD i ("", []) = r := by
        rw [List.getD_eq_getElem?_getD, er]
        rfl
      have hc5 : ∀ H', Same H4 H' → H' c = some (.tup (.str r.1 :: rds)) := fun H' s' => s' _ _ (s4 _ _ hc)
      refine ⟨T, _, rfl, SqT.of upd_same, rfl, _, _, rfl, _, _, rfl, rfl, rfl, ?_⟩
      refine ⟨_, rfl, 1, rfl, c, _, rfl, SqT.of (hc5 _ (same_upd hT)), fun hbad => absurd hbad cut_ne, fun _ p hp => ?_⟩
      rw [cut_one]
      refine ⟨p, rds, rfl, SqT.of upd_same, ?_⟩
      have hpD : p ≠ D := by
        obtain ⟨ys, hys⟩ := hDD
        exact (ne_of_none (upd_some hT hys) hp).symm
      have hrl : rds.length = r.2.length := by rw [hrds.length, List.length_map]
      refine hk _ _ _ ⟨rds.length, _, _, fun j => (r.2[j]?).map fun rd => rdD i j rd, walk_enumT (xs := rds), (same_upd hT).trans (same_upd hp), fun H6 kp => SqT.of (kp _ _ hpD upd_same), by rw [eg, hrl], fun j x2 H6 H7 k3 kn3 hj3 kp hy3 hk3 _ => ?_⟩
      obtain ⟨T2, x3, y3, rfl, hT2, rfl, e3, e4⟩ := hy3
      cases e3
      obtain ⟨rd, erd, hdd⟩ := dts_map_at hrds e4
      obtain ⟨c2, d2, rfl, hc2, hd2⟩ := dt_readI hdd
      have hD0 : ∀ {z : Addr} {o : HO}, H z = some o → H6 z = some o := fun {z o} hz => kp _ _ (ne_of_none hz hD) (upd_some hp (upd_some hT (s4 _ _ hz)))
      refine ⟨T2, _, rfl, SqT.of upd_same, rfl, _, _, rfl, _, _, rfl, rfl, rfl, ?_⟩
      refine ⟨_, rfl, _, rfl, _, rfl, c2, _, rfl, .inl (SqT.of (upd_some hT2 (hD0 hc2))), ?_⟩
      refine ⟨ll rfl, fun p3 hp3 => hk3 _ _ (rdD i j rd) (by show Option.map _ (r.2[j]?) = _; rw [erd]; rfl) ((same_upd hT2).trans (same_upd hp3)) (only_rdD _ _ _) ?_⟩
      exact .tup upd_same (.cons (.int _) (.cons (.int _) (.cons (.int _) (.cons (dt_vi (upd_some hp3 (upd_some hT2 (hD0 hd2)))) .nil))))
    · rw [hul] at d4
      exact ⟨_, rfl, .inl ⟨D, zs, rfl, SqL.of h4, fun p hp => q p zs _ (same_upd2 (s4.free hp) s4) upd_same (d4.same (same_upd hp))⟩⟩

/-! ### strips: moves -/
def itemsOf (x s : Int) : List Int := if Int.fmod x s = 0 then [Int.fdiv x s] else [Int.fdiv x s, Int.fdiv x s + 1]
def spItemsOf : Sp := fun vs H Q _ => ∃ x s : Int, vs = [.int x, .int s] ∧ 1 ≤ s ∧ s ≤ 1000 ∧ ∀ p H', H p = none → Same H H' → H' p = some (.lst ((itemsOf x s).map V.int)) → Q (.ref p) H'
theorem ok_itemsOf (F : Has K mg "items_of" s_itemsOf ["item", "side"]) (B : Blt mg) : Callee P w K mg base 1 "items_of" ["item", "side"] spItemsOf := by
  have nd := sc_itemsOf.nd
  refine callee_of F sc_itemsOf (fun vs H Q E h => ?_) (fun f cdv A outer s H vs Q E hr h => ?_)
  · obtain ⟨x, sd, rfl, _⟩ := h
    rfl
  · obtain ⟨x, sd, rfl, h1, h2, q⟩ := h
    refine ⟨_, (pss_one
      (ps_ret (pe_ifExp (pt_cmpR op_eq (pe_op op_modN (pv 0) (pv 1)) pe_int (nomark _)) (pe_lst (pa_cons (pe_op op_fdivN (pv 0) (pv 1)) pa_nil)) (pe_lst (pa_cons (pe_op op_fdivN (pv 0) (pv 1)) (pa_cons (pe_op op_add (pe_op op_fdivN (pv 0) (pv 1)) pe_int) pa_nil)))))), ?_⟩
    refine ⟨_, rfl, _, rfl, x, sd, rfl, rfl, by omega, rfl, _, rfl, ?_⟩
    by_cases c : Int.fmod x sd = 0
    · rw [decide_eq_true (congrArg V.int c)]
      refine iteT ⟨_, rfl, _, rfl, x, sd, rfl, rfl, ⟨by omega, by omega⟩, ll rfl, fun p hp => q p _ hp (same_upd hp) ?_⟩
      rw [upd_same, itemsOf, if_pos c]
      rfl
    · rw [decide_eq_false (fun e => c (V.int.inj e))]
      refine iteF ⟨_, rfl, _, rfl, x, sd, rfl, rfl, ⟨by omega, by omega⟩, _, rfl, _, rfl, x, sd, rfl, rfl, ⟨by omega, by omega⟩, _, _, rfl, rfl, ll rfl, fun p hp => q p _ hp (same_upd hp) ?_⟩
      rw [upd_same, itemsOf, if_neg c]
      rfl
end
end Wb
namespace Wb
open PySem PySem.Spec PyProof.Rows L2

/-! ### dicts whose keys are tuples of ints -/
def encK (kvs : List (List Int × V)) : List (List Key × V) := kvs.map fun p => (p.1.map Sum.inl, p.2)
theorem inl_inj : ∀ {a b : List Int}, (a.map Sum.inl : List Key) = b.map Sum.inl → a = b
  | [], [], _ => rfl
  | [], _ :: _, h => by cases h
  | _ :: _, [], h => by cases h
  | x :: a, y :: b, h => by
    rw [List.map_cons, List.map_cons] at h
    injection h with h1 h2
    rw [Sum.inl.inj h1, inl_inj h2]
theorem inl_kV (k : List Int) : (k.map Sum.inl).map kV = k.map V.int := by
  rw [List.map_map]
  rfl
theorem encK_dec (a b : List Int) : decide ((a.map Sum.inl : List Key) = b.map Sum.inl) = decide (a = b) := by
  by_cases e : a = b
  · subst e
    simp
  · rw [decide_eq_false e, decide_eq_false fun q => e (inl_inj q)]
theorem put_enc (kvs : List (List Int × V)) (k : List Int) (v : V) : putK (encK kvs) (k.map Sum.inl) v = encK (putK kvs k v) := by
  have e1 : ((encK kvs).any fun kv => decide (kv.1 = k.map Sum.inl)) = kvs.any fun kv => decide (kv.1 = k) := by
    rw [encK, List.any_map]
    congr 1
    funext p
    exact encK_dec p.1 k
  unfold putK
  rw [e1]
  by_cases c : (kvs.any fun kv => decide (kv.1 = k)) = true
  · rw [if_pos c, if_pos c, encK, encK, List.map_map, List.map_map]
    congr 1
    funext p
    show (if p.1.map Sum.inl = k.map Sum.inl then (p.1.map Sum.inl, v) else (p.1.map Sum.inl, p.2)) = _
    by_cases q : p.1 = k
    · simp [q]
    · have q2 : ¬ (p.1.map Sum.inl : List Key) = k.map Sum.inl := fun z => q (inl_inj z)
      rw [if_neg q2]
      simp [q]
  · rw [if_neg c, if_neg c, encK, encK, List.map_append]
    rfl
theorem val_enc (kvs : List (List Int × V)) (k : List Int) : valV (encK kvs) (k.map Sum.inl) = valV kvs k := by
  unfold valV encK
  induction kvs with
  | nil => rfl
  | cons p r ih =>
    rw [List.map_cons, List.find?_cons, List.find?_cons]
    show Option.map _ (match decide ((p.1.map Sum.inl : List Key) = k.map Sum.inl) with | true => _ | false => _) = _
    rw [encK_dec]
    cases decide (p.1 = k) with
    | true => rfl
    | false => exact ih
theorem dput_t {H : Hp} {a b : Addr} {kvs : List (List Int × V)} {k : List Int} {v : V} (e : H a = some (.dT (encK kvs))) (eb : H b = some (.tup (k.map V.int))) (hl : kvs.length < sizeLine) :
    DPut H a (.ref b) v (upd H a (.dT (encK (putK kvs k v)))) := by
  rw [← put_enc]
  exact DPut.t e (by rw [inl_kV]; exact eb) (by rw [encK, List.length_map]; exact hl)
theorem dget_t {H : Hp} {a b : Addr} {kvs : List (List Int × V)} {k : List Int} (e : Rd H a (.dT (encK kvs))) (eb : H b = some (.tup (k.map V.int))) : DGet H a (.ref b) (valV kvs k) := by
  rw [← val_enc]
  exact .inr ⟨encK kvs, k.map Sum.inl, b, e, rfl, by rw [inl_kV]; exact eb, rfl⟩
def keysIns (ks : List (List Int)) (k : List Int) : List (List Int) := if k ∈ ks then ks else ks ++ [k]
theorem put_keys (kvs : List (List Int × V)) (k : List Int) (v : V) : (putK kvs k v).map (·.1) = keysIns (kvs.map (·.1)) k := by
  unfold putK keysIns
  by_cases c : (kvs.any fun kv => decide (kv.1 = k)) = true
  · have m : k ∈ kvs.map (·.1) := by
      obtain ⟨p, hp, e⟩ := List.any_eq_true.mp c
      exact List.mem_map.mpr ⟨p, hp, of_decide_eq_true e⟩
    rw [if_pos c, if_pos m, List.map_map]
    apply List.map_congr_left
    intro p hp
    show (if p.1 = k then (p.1, v) else p).1 = p.1
    split <;> rfl
  · have m : k ∉ kvs.map (·.1) := fun h => by
      obtain ⟨p, hp, e⟩ := List.mem_map.mp h
      exact c (List.any_eq_true.mpr ⟨p, hp, decide_eq_true e⟩)
    rw [if_neg c, if_neg m, List.map_append]
    rfl
theorem keysIns_len (ks : List (List Int)) (k : List Int) : (keysIns ks k).length ≤ ks.length + 1 := by
  unfold keysIns
  split
  · omega
  · simp
theorem foldIns_len : ∀ (l ks : List (List Int)), (l.foldl keysIns ks).length ≤ ks.length + l.length
  | [], ks => Nat.le_refl _
  | k :: r, ks => by
    have h1 := foldIns_len r (keysIns ks k)
    have h2 := keysIns_len ks k
    rw [List.foldl_cons, List.length_cons]
    omega
theorem keysIns_mem {ks : List (List Int)} {k x : List Int} : x ∈ keysIns ks k ↔ x ∈ ks ∨ x = k := by
  unfold keysIns
  split
  · rename_i h
    constructor
    · exact Or.inl
    · rintro (h1 | rfl)
      · exact h1
      · exact h
  · simp
theorem foldIns_mem {x : List Int} : ∀ {l ks : List (List Int)}, x ∈ l.foldl keysIns ks ↔ x ∈ ks ∨ x ∈ l
  | [], ks => by simp
  | k :: r, ks => by
    rw [List.foldl_cons, foldIns_mem, keysIns_mem, List.mem_cons, or_assoc]
theorem keysIns_nodup {ks : List (List Int)} {k : List Int} (h : ks.Nodup) : (keysIns ks k).Nodup := by
  unfold keysIns
  split
  · exact h
  · rename_i hk
    rw [List.nodup_append]
    refine ⟨h, by simp, fun a ha b hb e => ?_⟩
    have e2 : b = k := by simpa using hb
    exact hk (by rw [← e2, ← e]; exact ha)
theorem foldIns_nodup : ∀ {l ks : List (List Int)}, ks.Nodup → (l.foldl keysIns ks).Nodup
  | [], _, h => h
  | k :: r, ks, h => by
    rw [List.foldl_cons]
    exact foldIns_nodup (l := r) (keysIns_nodup h)

/-! ### moves -/
def addItems (rows : List (List Int)) (p : Int × Int) : List (List Int) := rows.flatMap fun row => (itemsOf p.1 p.2).map fun m => row ++ [m]
def stepRows (sides step : List Int) : List (List Int) := (step.zip sides).foldl addItems [[]]
def moveKeys (steps : List (List Int)) (sides : List Int) : List (List Int) := (steps.flatMap (stepRows sides)).foldl keysIns []
def leVi : List Int → List Int → Bool := PySem.W.dataLe false vi
def nzero (m : List Int) : Bool := m.any fun x => decide (x ≠ 0)
def movesOf (steps : List (List Int)) (sides : List Int) : List (List Int) := ((moveKeys steps sides).mergeSort leVi).filter nzero
theorem itemsOf_len (x s : Int) : (itemsOf x s).length ≤ 2 ∧ itemsOf x s ≠ [] := by
  unfold itemsOf
  split <;> simp
theorem addItems_len (rows : List (List Int)) (p : Int × Int) : (addItems rows p).length ≤ rows.length * 2 := by
  unfold addItems
  rw [List.length_flatMap]
  induction rows with
  | nil => simp
  | cons a r ih =>
    have q := (itemsOf_len p.1 p.2).1
    rw [List.map_cons, List.sum_cons, List.length_map, List.length_cons]
    omega
theorem addItems_row {rows : List (List Int)} {p : Int × Int} {k : Nat} (h : ∀ r ∈ rows, r.length = k) : ∀ r ∈ addItems rows p, r.length = k + 1 := fun r hr => by
  obtain ⟨row, h1, h2⟩ := List.mem_flatMap.mp hr
  obtain ⟨m, _, rfl⟩ := List.mem_map.mp h2
  rw [List.length_append, h row h1]
  rfl
theorem foldItems_ok : ∀ (l : List (Int × Int)) (rows : List (List Int)) (k : Nat), (∀ r ∈ rows, r.length = k) → (l.foldl addItems rows).length ≤ rows.length * 2 ^ l.length ∧ ∀ r ∈ l.foldl addItems rows, r.length = k + l.length
  | [], rows, k, h => ⟨by simp, h⟩
  | p :: l, rows, k, h => by
    obtain ⟨h1, h2⟩ := foldItems_ok l (addItems rows p) (k + 1) (addItems_row h)
    have h3 := addItems_len rows p
    refine ⟨?_, fun r hr => ?_⟩
    · rw [List.foldl_cons, List.length_cons, Nat.pow_succ]
      have h4 : (addItems rows p).length * 2 ^ l.length ≤ rows.length * 2 * 2 ^ l.length := Nat.mul_le_mul_right _ h3
      have h5 : rows.length * 2 * 2 ^ l.length = rows.length * (2 ^ l.length * 2) := by rw [Nat.mul_assoc, Nat.mul_comm 2]
      omega
    · have q := h2 r hr
      rw [List.length_cons]
      omega
/-- steps of few places -/
def StepsOk (steps : List (List Int)) (sides : List Int) : Prop := steps.length ≤ 18 ∧ 1 ≤ sides.length ∧ sides.length ≤ 2 ∧ SidesOk sides ∧ ∀ st ∈ steps, st.length = sides.length ∧ Bd st
theorem stepRows_pre {steps : List (List Int)} {sides : List Int} (ok : StepsOk steps sides) {st : List Int} (h : st ∈ steps) (j : Nat) : (((st.zip sides).take j).foldl addItems [[]]).length ≤ 4 ∧ ∀ r ∈ ((st.zip sides).take j).foldl addItems [[]], r.length ≤ 2 := by
  obtain ⟨h1, h2⟩ := foldItems_ok ((st.zip sides).take j) [[]] 0 (fun r hr => by simp at hr; simp [hr])
  have h3 : ((st.zip sides).take j).length ≤ 2 := by
    have := ok.2.2.1
    rw [List.length_take, List.length_zip]
    omega
  have h4 : 2 ^ ((st.zip sides).take j).length ≤ 2 ^ 2 := Nat.pow_le_pow_right (by decide) h3
  refine ⟨by simp only [List.length_cons, List.length_nil] at h1; omega, fun r hr => ?_⟩
  have := h2 r hr
  omega
theorem stepRows_row {steps : List (List Int)} {sides : List Int} (ok : StepsOk steps sides) {st : List Int} (h : st ∈ steps) : (stepRows sides st).length ≤ 4 ∧ ∀ r ∈ stepRows sides st, r.length = sides.length := by
  obtain ⟨h1, h2⟩ := foldItems_ok (st.zip sides) [[]] 0 (fun r hr => by simp at hr; simp [hr])
  have h3 := stepRows_pre ok h (st.zip sides).length
  rw [List.take_length] at h3
  refine ⟨h3.1, fun r hr => ?_⟩
  have q := h2 r hr
  rw [List.length_zip, (ok.2.2.2.2 st h).1] at q
  omega
theorem flatRows_len {sides : List Int} : ∀ {l : List (List Int)}, (∀ st ∈ l, (stepRows sides st).length ≤ 4) → (l.flatMap (stepRows sides)).length ≤ l.length * 4
  | [], _ => by simp
  | a :: r, h => by
    have h1 := flatRows_len (l := r) fun st hs => h st (List.mem_cons_of_mem _ hs)
    have h2 := h a List.mem_cons_self
    rw [List.flatMap_cons, List.length_append, List.length_cons]
    omega
theorem moveKeys_len {steps : List (List Int)} {sides : List Int} (ok : StepsOk steps sides) (i : Nat) : (((steps.take i).flatMap (stepRows sides)).foldl keysIns []).length ≤ 72 := by
  have h1 := foldIns_len ((steps.take i).flatMap (stepRows sides)) []
  have h2 := flatRows_len (sides := sides) (l := steps.take i) fun st hs => (stepRows_row ok (List.mem_of_mem_take hs)).1
  have h3 := ok.1
  rw [List.length_take] at h2
  simp only [List.length_nil] at h1
  omega
theorem moveKeys_mem {steps : List (List Int)} {sides : List Int} {m : List Int} : m ∈ moveKeys steps sides ↔ ∃ st ∈ steps, m ∈ stepRows sides st := by
  unfold moveKeys
  rw [foldIns_mem, List.mem_flatMap]
  simp
theorem sort_snd (L : List (Addr × List Int)) : (L.mergeSort (PySem.W.dataLe false fun q => vi q.2)).map (·.2) = (L.map (·.2)).mergeSort leVi := PySem.W.sort_maps (fun q : Addr × List Int => q.2) fun _ _ _ _ => rfl
end Wb
namespace Wb
open PySem PySem.Spec PyProof.Rows L2
theorem dts_bools {H : Hp} : ∀ {vs : List V} {bs : List Bool}, Dts H vs (bs.map PyData.bool) → vs = bs.map V.bl
  | _, [], h => by
    cases h
    rfl
  | _, b :: bs, h => by
    have h' : Dts H _ (PyData.bool b :: bs.map PyData.bool) := h
    cases h' with
    | cons h t =>
      cases h
      rw [dts_bools t]
      rfl
theorem fm_filter (M : List (Addr × List Int)) : M.filterMap (fun q => if nzero q.2 then some (vi q.2) else none) = ((M.map (·.2)).filter nzero).map vi := by
  induction M with
  | nil => rfl
  | cons a r ih =>
    rw [List.filterMap_cons, List.map_cons, List.filter_cons]
    by_cases c : nzero a.2 = true
    · rw [if_pos c, if_pos c, List.map_cons, ih]
    · rw [if_neg c, if_neg c, ih]
section
variable {P : Program} {w : World} {K : PySem.W.Frag} {mg : Str → Option Value} {base : Heap}
def spMovesOf : Sp := fun vs H Q _ => ∃ (a b : Addr) (us : List V) (steps : List (List Int)) (sides : List Int), vs = [.ref a, .ref b] ∧ H a = some (.tup us) ∧ Dts H us (steps.map vi) ∧ H b = some (.tup (sides.map V.int)) ∧ StepsOk steps sides ∧
  ∀ p ms H', Same H H' → H' p = some (.tup ms) → Dts H' ms ((movesOf steps sides).map vi) → Q (.ref p) H'
theorem ok_movesOf (F : Has K mg "moves_of" s_movesOf ["steps", "sides"]) (B : Blt mg) (c_itemsOf : Callee P w K mg base 1 "items_of" ["item", "side"] spItemsOf) : Callee P w K mg base 2 "moves_of" ["steps", "sides"] spMovesOf := by
  have nd := sc_movesOf.nd
  refine callee_of F sc_movesOf (fun vs H Q E h => ?_) (fun f cdv A outer s H vs Q E hr h => ?_)
  · obtain ⟨a, b, us, steps, sides, rfl, _⟩ := h
    rfl
  · obtain ⟨a, b, us, steps, sides, rfl, ha, hus, hb, ok, q⟩ := h
    have hu := hu_of hr
    refine ⟨_, (pss_cons
      (ps_set (i := 2) nd rfl (Or.inl rfl) pe_dnewT)
    (pss_cons
      (ps_for PassesOwn.never rfl (pi_tupK K rfl (pv 0)) (pg_name (i := 3) nd rfl (Or.inl rfl))
        (pss_cons
          (ps_set (i := 4) nd rfl (Or.inl rfl) (pe_lst (pa_cons (pe_tup pa_nil) pa_nil)))
        (pss_cons
          (ps_for PassesOwn.never rfl (pi_zipK K rfl rfl B.zip (pa_cons (pv 3) (pa_cons (pv 1) pa_nil))) (pg_tupK K 2 rfl rfl (pgs_cons (pg_name (i := 5) nd rfl (Or.inr rfl)) (pgs_cons (pg_name (i := 6) nd rfl (Or.inr rfl)) pgs_nil)))
            (pss_one
              (ps_setLc2 (i := 4) (own := [("row", 7), ("move", 8)]) (vs1 := [8]) rfl nd rfl rfl (sw_true rfl rfl rfl (by decide +kernel)) (pi_listK K rfl (pv 4)) (blkOk_by (by kernel_rfl)) (by decide) (fun _ _ _ _ _ => (pg_name (i := 7) nd rfl (Or.inl rfl))) (fun _ _ _ _ _ => pts_nil) (fun _ _ _ _ _ => (pi_listK K rfl (pe_fn c_itemsOf hr rfl (pa_cons (pv 5) (pa_cons (pv 6) pa_nil))))) (fun _ _ _ _ _ => (pg_name (i := 8) nd rfl (Or.inl rfl))) (fun _ _ _ _ _ => pts_nil) (fun _ _ _ _ _ => (pe_tup (pa_starK K rfl (pv 7) (pa_cons (pv 8) pa_nil)))))))
        (pss_one
          (ps_for PassesOwn.never rfl (pi_listK K rfl (pv 4)) (pg_name (i := 7) nd rfl (Or.inl rfl))
            (pss_one
              (ps_dput hu (pv 2) (pv 7) pe_bl rfl)))))))
    (pss_one
      (ps_ret (pe_tupleK K rfl rfl B.tuple (pe_lc (own := [("row", 7)]) rfl nd (pi_listK K rfl (pe_callB (sortedDT_K K rfl rfl hr.units) (by rfl) B.sorted (by decide +kernel) (pa_cons (pv 2) pa_nil))) (blkOk_by (by kernel_rfl)) (fun _ _ _ _ _ => (pg_name (i := 7) nd rfl (Or.inl rfl))) (fun _ _ _ _ _ => (pts_one (pt_val (pe_callB (any_K K rfl rfl) (by rfl) B.any (by decide +kernel) (pa_cons (pe_lc (own := [("item", 5)]) rfl nd (pi_tupK K rfl (pv 7)) (blkOk_by (by kernel_rfl)) (fun _ _ _ _ _ => (pg_name (i := 5) nd rfl (Or.inl rfl))) (fun _ _ _ _ _ => pts_nil) (fun _ _ _ _ _ => (pe_cmpR op_ne (pv 5) pe_int (nomark _)))) pa_nil))))) (fun _ _ _ _ _ => (pv 7)))))))), ?_⟩
    refine fun d hd => ?_
    have hul : us.length = steps.length := by rw [hus.length, List.length_map]
    refine ⟨_, rfl, a, rfl, ⟨us, SqT.of (upd_some hd ha)⟩, for_it (walk_tup (xs := us)) (fun i σ H' => Same H H' ∧ ∃ kvs y3 y4 y5 y6 y7, σ = [some (.ref a), some (.ref b), some (.ref d), y3, y4, y5, y6, y7, none] ∧ H' d = some (.dT (encK kvs)) ∧
        kvs.map (·.1) = ((steps.take i).flatMap (stepRows sides)).foldl keysIns []) ⟨same_upd hd, [], _, _, _, _, _, rfl, upd_same, rfl⟩ (fun i σ H' _ p => p.1.tup ha) (fun i x σ H2 H3 hi p hy => ?_) fun σ H2 p => ?_⟩
    · obtain ⟨s2, kvs, y3, y4, y5, y6, y7, rfl, hd2, hk2⟩ := p
      obtain ⟨rfl, ex⟩ := hy
      obtain ⟨ast, st, rfl, est, hst⟩ := dts_vis hus ex
      have hmem := List.mem_of_getElem? est
      have hst' := ok.2.2.2.2 st hmem
      have hstl : st.length = sides.length := hst'.1
      -- rows = [()]
      refine ⟨Nat.zero_le _, fun e0 he0 => ⟨ll rfl, fun r0 hr0 => ?_⟩⟩
      obtain ⟨ne0, hr1⟩ := upd_none hr0
      have s4 : Same H3 (upd (upd H3 e0 (.tup [])) r0 (.lst [.ref e0])) := (same_upd he0).trans (same_upd hr0)
      -- for item, side in zip(step, sides)
      refine ⟨_, rfl, _, rfl, ast, b, st.map V.int, sides.map V.int, rfl, .inr ⟨SqT.of (s4 _ _ (s2 _ _ hst)), SqT.of (s4 _ _ (s2 _ _ hb)), ?_⟩⟩
      refine for_it (walk_zipT (xs := st.map V.int) (ys := sides.map V.int) (n := (st.zip sides).length) (by simp [hstl])) (fun j σ H' => Same H3 H' ∧ ∃ r vs y5 y6, σ = [some (.ref a), some (.ref b), some (.ref d), some (.ref ast), some (.ref r), y5, y6, y7, none] ∧ H' r = some (.lst vs) ∧ r ≠ d ∧
        Dts H' vs ((((st.zip sides).take j).foldl addItems [[]]).map vi)) ⟨s4, r0, _, _, _, rfl, upd_same, fun e => ?_, .cons (.tup (upd_some hr0 upd_same) .nil) .nil⟩ (fun j σ H' _ p => ⟨p.1.tup (s2 _ _ hst), p.1.tup (s2 _ _ hb)⟩) (fun j x σ H4 H5 hj p hy => ?_) fun σ H4 p => ?_
      · rw [e, hd2] at hr1
        cases hr1
      · obtain ⟨s5, r, vs, y5, y6, rfl, hr5, hrd, hvs⟩ := p
        obtain ⟨T, x1, x2, rfl, hT, rfl, e1, e2⟩ := hy
        obtain ⟨u1, g1, rfl⟩ := map_int_at e1
        obtain ⟨u2, g2, rfl⟩ := map_int_at e2
        have bs := ok.2.2.2.1 u2 (List.mem_of_getElem? g2)
        have hpre := stepRows_pre ok hmem (j + 1)
        have hpre0 := stepRows_pre ok hmem j
        rw [take_next' (zip_at g1 g2), List.foldl_append] at hpre ⊢
        have efold : [(u1, u2)].foldl addItems (((st.zip sides).take j).foldl addItems [[]]) = addItems (((st.zip sides).take j).foldl addItems [[]]) (u1, u2) := rfl
        rw [efold] at hpre ⊢
        generalize ((st.zip sides).take j).foldl addItems [[]] = pre at hvs hpre hpre0 ⊢
        have hvl : vs.length = pre.length := by rw [hvs.length, List.length_map]
        have sT : Same H4 (upd H4 T (.tup [.int u1, .int u2])) := same_upd hT
        have hrT := sT _ _ hr5
        have eF : ((List.range vs.length).flatMap fun k => (List.range (itemsOf u1 u2).length).filterMap fun l => ((itemsOf u1 u2)[l]?).map fun m => vi (pre.getD k [] ++ [m])) = (addItems pre (u1, u2)).map vi := by
          have e1 : ∀ row : List Int, ((List.range (itemsOf u1 u2).length).filterMap fun l => ((itemsOf u1 u2)[l]?).map fun m => vi (row ++ [m])) = ((itemsOf u1 u2).map fun m => row ++ [m]).map vi := fun row => by
            rw [fm_map (itemsOf u1 u2) (fun m => vi (row ++ [m])) _ (fun i x e => by rw [e]; rfl), List.map_map]
            rfl
          simp only [e1]
          rw [hvl, addItems, List.map_flatMap]
          have : ∀ (l : List (List Int)) (f : List Int → List PyData), ((List.range l.length).flatMap fun j => f (l.getD j [])) = l.flatMap f := by
            intro l f
            induction l with
            | nil => rfl
            | cons a r ih =>
              rw [List.length_cons, List.range_succ_eq_map, List.flatMap_cons, List.flatMap_map, List.flatMap_cons]
              rw [← ih]
              rfl
          exact this pre fun row => ((itemsOf u1 u2).map fun m => row ++ [m]).map vi
        refine ⟨T, _, rfl, SqT.of upd_same, rfl, _, _, rfl, _, _, rfl, rfl, ?_⟩
        refine ⟨_, rfl, r, rfl, ⟨vs, SqL.of hrT⟩, fun D hD => ?_⟩
        refine lc_fm2 (walk_list (xs := vs)) (fun k => (List.range (itemsOf u1 u2).length).filterMap fun l => ((itemsOf u1 u2)[l]?).map fun m => vi (pre.getD k [] ++ [m])) hD (by rw [eF, List.length_map]; exact small_of hpre.1 (by decide)) (fun H' s => s.lst hrT) (fun k x H6 H7 kk kn hk s6 hDD hy hkk => ?_) (fun H6 zs s6 h6 d6 _ => ?_)
        · obtain ⟨rfl, ex2⟩ := hy
          obtain ⟨ar, row, rfl, erow, har⟩ := dts_vis hvs ex2
          refine ⟨rfl, _, rfl, _, rfl, u1, u2, rfl, bs.1, bs.2, fun p H8 hp s8 h8 => ⟨p, rfl, ⟨_, SqL.of h8⟩, ?_⟩⟩
          have hpD : p ≠ D := by
            obtain ⟨ys, hys⟩ := hDD
            exact (ne_of_none hys hp).symm
          refine hkk _ _ _ ⟨(itemsOf u1 u2).length, _, _, fun l => ((itemsOf u1 u2)[l]?).map fun m => vi (pre.getD k [] ++ [m]), by rw [← List.length_map (f := V.int)]; exact walk_list (xs := (itemsOf u1 u2).map V.int), s8, fun H9 kp => SqL.of (kp _ _ hpD h8), rfl, fun l x3 H9 H10 k3 kn3 hl kp hy3 hk3 _ => ?_⟩
          obtain ⟨rfl, e3⟩ := hy3
          obtain ⟨m, gm, rfl⟩ := map_int_at e3
          have h9 : H10 ar = some (.tup (row.map V.int)) := kp _ _ (ne_of_none (sT _ _ har) hD) (s8 _ _ (s6 _ _ (sT _ _ har)))
          refine ⟨rfl, _, rfl, ar, _, rfl, .inl (SqT.of h9), _, rfl, ?_, fun p3 hp3 => hk3 _ _ (vi (row ++ [m])) ?_ (same_upd hp3) (only_vi _) (dt_vi ?_)⟩
          · have q1 := hpre0.2 row (List.mem_of_getElem? erow)
            rw [List.length_append, List.length_map]
            exact Nat.le_of_lt (small1000 (by simp; omega))
          · show Option.map _ ((itemsOf u1 u2)[l]?) = _
            rw [gm, List.getD_eq_getElem?_getD, erow]
            rfl
          · rw [upd_same, List.map_append]
            rfl
        · refine ⟨fun b o e => s6 _ _ (sT _ _ (s5 _ _ e)), D, zs, _, _, rfl, h6, fun e => ?_, ?_⟩
          · rw [e] at hD
            exact absurd hD (by rw [sT _ _ (s5 _ _ hd2)]; intro z; cases z)
          · rw [eF] at d6
            exact d6
      · -- for row in rows: found[row] = True
        obtain ⟨s5, r, vs, y5, y6, rfl, hr5, hrd, hvs⟩ := p
        rw [List.take_length] at hvs
        have hsr : (st.zip sides).foldl addItems [[]] = stepRows sides st := rfl
        rw [hsr] at hvs
        have hvl : vs.length = (stepRows sides st).length := by rw [hvs.length, List.length_map]
        refine ⟨_, rfl, r, rfl, ⟨vs, SqL.of hr5⟩, ?_⟩
        refine for_it (walk_list (xs := vs)) (fun j σ H' => (∀ b o, b ≠ d → H4 b = some o → H' b = some o) ∧ ∃ kvs y7, σ = [some (.ref a), some (.ref b), some (.ref d), some (.ref ast), some (.ref r), y5, y6, y7, none] ∧ H' d = some (.dT (encK kvs)) ∧
          kvs.map (·.1) = ((stepRows sides st).take j).foldl keysIns (((steps.take i).flatMap (stepRows sides)).foldl keysIns [])) ⟨fun _ _ _ e => e, kvs, y7, rfl, s5 _ _ hd2, hk2⟩ (fun j σ H' _ p => SqL.of (p.1 _ _ hrd hr5)) (fun j x σ H6 H7 hj p hy => ?_) fun σ H6 p => ?_
        · obtain ⟨kp, kvs2, y7', rfl, hd6, hk6⟩ := p
          obtain ⟨rfl, ex2⟩ := hy
          obtain ⟨ar, row, rfl, erow, har⟩ := dts_vis hvs ex2
          have hda : ar ≠ d := ne_of har (s5 _ _ hd2) (by intro z; cases z)
          have hlen : kvs2.length < sizeLine := by
            have q1 := foldIns_len ((stepRows sides st).take j) (((steps.take i).flatMap (stepRows sides)).foldl keysIns [])
            have q2 := moveKeys_len ok i
            have q3 := (stepRows_row ok hmem).1
            have q4 := congrArg List.length hk6
            rw [List.length_map] at q4
            rw [List.length_take] at q1
            exact small1000 (by omega)
          refine ⟨_, rfl, _, rfl, d, _, rfl, dput_t hd6 (kp _ _ hda har) hlen, fun b o hb e => ?_, _, _, rfl, upd_same, ?_⟩
          · rw [upd_ne hb]
            exact kp _ _ hb e
          · rw [put_keys, hk6, take_next' erow, List.foldl_append]
            rfl
        · obtain ⟨kp, kvs2, y7', rfl, hd6, hk6⟩ := p
          refine ⟨fun b o e => kp _ _ (ne_of_none e hd) (s5 _ _ (s2 _ _ e)), kvs2, _, _, _, _, _, rfl, hd6, ?_⟩
          rw [hk6, hvl, List.take_length, take_next' est, List.flatMap_append, List.foldl_append]
          simp
    · -- the end
      obtain ⟨s2, kvs, y3, y4, y5, y6, y7, rfl, hd2, hk2⟩ := p
      rw [hul, List.take_length] at hk2
      have hkeys : kvs.map (·.1) = moveKeys steps sides := hk2
      have hrl : ∀ ks ∈ moveKeys steps sides, ks ≠ [] := fun ks hks e => by
        obtain ⟨st, h1, h2⟩ := moveKeys_mem.mp hks
        have q1 := (stepRows_row ok h1).2 ks h2
        rw [e] at q1
        have q2 := ok.2.1
        simp at q1
        omega
      refine ⟨_, rfl, d, encK kvs, moveKeys steps sides, rfl, .inl hd2, ?_, hrl, fun l L hl hL1 hL2 => ?_⟩
      · rw [← hkeys, encK, List.map_map, List.map_map]
        rfl
      have es : (L.mergeSort (PySem.W.dataLe false fun q => vi q.2)).map (·.2) = (moveKeys steps sides).mergeSort leVi := by rw [sort_snd, hL1]
      have hmem : ∀ q ∈ L.mergeSort (PySem.W.dataLe false fun q => vi q.2), H2 q.1 = some (.tup (q.2.map V.int)) := fun q hq => hL2 q (List.mem_mergeSort.mp hq)
      generalize L.mergeSort (PySem.W.dataLe false fun q => vi q.2) = M at es hmem ⊢
      refine ⟨l, rfl, ⟨_, SqL.of upd_same⟩, fun D hD => ?_⟩
      have sl : Same H2 (upd H2 l (.lst (M.map fun q => .ref q.1))) := same_upd hl
      have hML : M.length ≤ 72 := by
        have q1 := congrArg List.length es
        rw [List.length_map, List.length_mergeSort] at q1
        have q2 := moveKeys_len ok steps.length
        rw [List.take_length] at q2
        have q3 : (moveKeys steps sides).length ≤ 72 := q2
        omega
      refine lc_fm (walk_list (xs := M.map fun q => .ref q.1)) (fun i => (M[i]?).bind fun q => if nzero q.2 then some (vi q.2) else none) hD (by rw [List.length_map]; exact small_of hML (by decide)) (fun H' s => s.lst upd_same) (fun i x H4 H5 k kn hi s4 hy hk hkn => ?_) (fun H4 zs s4 h4 d4 _ => ?_)
      · obtain ⟨rfl, ex⟩ := hy
        rw [List.getElem?_map] at ex
        cases eq : M[i]? with
        | none => rw [eq] at ex; cases ex
        | some qq =>
          rw [eq] at ex
          cases ex
          have hq4 : H5 qq.1 = some (.tup (qq.2.map V.int)) := s4 _ _ (sl _ _ (hmem qq (List.mem_of_getElem? eq)))
          have hql : qq.2.length ≤ 2 := by
            have q1 : qq.2 ∈ (moveKeys steps sides).mergeSort leVi := by
              rw [← es]
              exact List.mem_map_of_mem (List.mem_of_getElem? eq)
            obtain ⟨st, h1, h2⟩ := moveKeys_mem.mp (List.mem_mergeSort.mp q1)
            rw [(stepRows_row ok h1).2 _ h2]
            exact ok.2.2.1
          refine ⟨rfl, _, rfl, qq.1, rfl, ⟨_, SqT.of hq4⟩, fun D2 hD2 => ?_⟩
          refine lc_fm (walk_tup (xs := qq.2.map V.int)) (fun i => (qq.2[i]?).map fun x => .bool (decide (x ≠ 0))) hD2 (by rw [List.length_map]; exact small_of hql (by decide)) (fun H' s => s.tup hq4) (fun i2 x2 H6 H7 k2 kn2 hi2 s6 hy2 hk2 _ => ?_) (fun H6 zs s6 h6 d6 _ => ?_)
          · obtain ⟨rfl, e2⟩ := hy2
            obtain ⟨u, g, rfl⟩ := map_int_at e2
            refine ⟨rfl, _, rfl, rfl, hk2 _ _ (.bool (decide (u ≠ 0))) (by show Option.map _ (qq.2[i2]?) = _; rw [g]; rfl) (Same.refl _) (.bl _) ?_⟩
            have eb : (!decide (V.int u = V.int 0)) = decide (u ≠ 0) := by
              by_cases c : u = 0 <;> simp [c]
            rw [eb]
            exact .bl _
          · rw [List.length_map, fm_map qq.2 (fun x => PyData.bool (decide (x ≠ 0))) _ (fun i x e => by rw [e]; rfl)] at d6
            have e3 : qq.2.map (fun x => PyData.bool (decide (x ≠ 0))) = (qq.2.map fun x => decide (x ≠ 0)).map PyData.bool := by
              rw [List.map_map]
              rfl
            rw [e3] at d6
            rw [dts_bools d6] at h6
            refine ⟨D2, _, rfl, SqL.of h6, _, rfl, ?_⟩
            have e4 : (qq.2.map fun x => decide (x ≠ 0)).any id = nzero qq.2 := by
              rw [List.any_map]
              rfl
            rw [e4]
            by_cases c : nzero qq.2 = true
            · rw [c]
              refine iteT ⟨_, rfl, hk _ _ (vi qq.2) (by show Option.bind (M[i]?) _ = _; rw [eq]; exact if_pos c) s6 (only_vi _) (dt_vi (s6 _ _ hq4))⟩
            · rw [Bool.not_eq_true] at c
              rw [c]
              refine iteF (hkn _ (by show Option.bind (M[i]?) _ = _; rw [eq]; exact if_neg (by rw [c]; exact Bool.false_ne_true)) s6)
      · rw [List.length_map, fm_range M (fun q => if nzero q.2 then some (vi q.2) else none) _ (fun i x e => by rw [e]; rfl)] at d4
        have e5 : M.filterMap (fun q => if nzero q.2 then some (vi q.2) else none) = (movesOf steps sides).map vi := by
          rw [movesOf, ← es]
          exact fm_filter M
        rw [e5] at d4
        exact .inl ⟨D, zs, rfl, SqL.of h4, fun p hp => q p zs _ (fun b o e => upd_some hp (s4 _ _ (sl _ _ (s2 _ _ e)))) upd_same (d4.same (same_upd hp))⟩
end
end Wb
namespace Wb
open PySem PySem.Spec PyProof.Rows L2

/-- a list comprehension of truth values -/
theorem lc_bools {J : It} {n : Nat} {G : Hp → Prop} {Y : Nat → Hp → V → Hp → Prop} (w : Walk J n G Y) {g : TG} {tt : TT} {te : TE} {vs : List Nat} {σ : L2.St} {H1 : Hp} {D : Addr} {Qd : Hp → Prop} (b : Nat → Bool)
    (hn : H1 D = none) (hsz : n < sizeLine) (hG : ∀ H, Same H1 H → G H)
    (hs : ∀ (i : Nat) (x : V) (H H' : Hp) (k : V → Hp → Prop) (kn : Hp → Prop), i < n → Same H1 H → Y i H x H' → (∀ H4, Same H H4 → k (.bl (b i)) H4) →
      g x (wipe σ vs) H' fun σ2 H2 => wipe σ2 vs = wipe σ vs ∧ tt σ2 H2 fun b H3 => if b = true then te σ2 H3 k else kn H3)
    (hd : ∀ H, Same H1 H → H D = some (.lst (((List.range n).map b).map V.bl)) → Qd H) :
    ∃ W : Nat → Nat → Hp → Prop, (∃ m, W 0 m (upd H1 D (.lst []))) ∧ ∀ i m H, W i m H →
      (J.stop i H ∧ Qd H) ∨ (J.go i H ∧ ∃ Nx : Hp → Prop, (∀ H', Nx H' → ∃ m', m' < m ∧ W (i + 1) m' H') ∧ ∀ x H', J.yld i H x H' → g x (wipe σ vs) H' fun σ2 H2 => wipe σ2 vs = wipe σ vs ∧ tt σ2 H2 fun b H3 =>
        if b = true then te σ2 H3 fun y H4 => ∃ acc, H4 D = some (.lst acc) ∧ acc.length < sizeLine ∧ Nx (upd H4 D (.lst (acc ++ [y]))) else Nx H3) := by
  refine lc_fm w (fun i => some (.bool (b i))) hn hsz hG (fun i x H H' k kn hi s1 hy hk _ => hs i x H H' k kn hi s1 hy fun H4 s4 => hk _ _ _ rfl s4 (.bl _) (.bl _)) fun H ys s1 hD hd1 _ => hd H s1 ?_
  have e : (List.range n).filterMap (fun i => some (PyData.bool (b i))) = ((List.range n).map b).map PyData.bool := by
    rw [List.filterMap_eq_map', List.map_map]
    rfl
  rw [e] at hd1
  rw [hD, dts_bools hd1]
theorem all_range {α : Type} (xs : List α) (p : α → Bool) (b : Nat → Bool) (h : ∀ i x, xs[i]? = some x → b i = p x) : ((List.range xs.length).map b).all id = xs.all p := by
  induction xs generalizing b with
  | nil => rfl
  | cons a r ih =>
    rw [List.length_cons, List.range_succ_eq_map, List.map_cons, List.map_map, List.all_cons, List.all_cons, ← ih (b ∘ Nat.succ) fun i x e => h (i + 1) x (by simpa using e), ← h 0 a rfl]
    rfl
theorem any_range {α : Type} (xs : List α) (p : α → Bool) (b : Nat → Bool) (h : ∀ i x, xs[i]? = some x → b i = p x) : ((List.range xs.length).map b).any id = xs.any p := by
  induction xs generalizing b with
  | nil => rfl
  | cons a r ih =>
    rw [List.length_cons, List.range_succ_eq_map, List.map_cons, List.map_map, List.any_cons, List.any_cons, ← ih (b ∘ Nat.succ) fun i x e => h (i + 1) x (by simpa using e), ← h 0 a rfl]
    rfl
/-- the truth of p at a place -/
def bAt {α : Type} (xs : List α) (p : α → Bool) (i : Nat) : Bool := match xs[i]? with | some x => p x | none => true
theorem bAt_some {α : Type} {xs : List α} {p : α → Bool} {i : Nat} {x : α} (e : xs[i]? = some x) : bAt xs p i = p x := by
  unfold bAt
  rw [e]
theorem all_bAt {α : Type} (xs : List α) (p : α → Bool) : ((List.range xs.length).map (bAt xs p)).all id = xs.all p := all_range xs p _ fun _ _ e => bAt_some e
theorem any_bAt {α : Type} (xs : List α) (p : α → Bool) : ((List.range xs.length).map (bAt xs p)).any id = xs.any p := any_range xs p _ fun _ _ e => bAt_some e

def crossI (a b : List Int) : Int := a.getD 0 0 * b.getD 1 0 - a.getD 1 0 * b.getD 0 0
def beforeI (a b : List Int) : Bool := decide (0 < crossI a b) || (decide (crossI a b = 0) && decide (0 < dotI a b))
/-- a vector of moves -/
def Mv (n : Nat) (m : List Int) : Prop := m.length = n ∧ ∀ x ∈ m, -2000 ≤ x ∧ x ≤ 2000
theorem Mv.bd {n : Nat} {m : List Int} (h : Mv n m) : Bd m := fun x hx => by
  have := h.2 x hx
  omega
theorem Mv.two {m : List Int} (h : Mv 2 m) : ∃ x y, m = [x, y] ∧ (-2000 ≤ x ∧ x ≤ 2000) ∧ (-2000 ≤ y ∧ y ≤ 2000) := by
  obtain ⟨h1, h2⟩ := h
  match m, h1, h2 with
  | [x, y], _, h2 => exact ⟨x, y, rfl, h2 x (by simp), h2 y (by simp)⟩
theorem Mv.one {m : List Int} (h : Mv 1 m) : ∃ x, m = [x] ∧ (-2000 ≤ x ∧ x ≤ 2000) := by
  obtain ⟨h1, h2⟩ := h
  match m, h1, h2 with
  | [x], _, h2 => exact ⟨x, rfl, h2 x (by simp)⟩
section
variable {P : Program} {w : World} {K : PySem.W.Frag} {mg : Str → Option Value} {base : Heap}
def spCrossSum : Sp := fun vs H Q _ => ∃ (a b : Addr) (xs ys : List Int), vs = [.ref a, .ref b] ∧ H a = some (.tup (xs.map V.int)) ∧ H b = some (.tup (ys.map V.int)) ∧ Mv 2 xs ∧ Mv 2 ys ∧ ∀ H', Same H H' → Q (.int (crossI xs ys)) H'
theorem ok_crossSum (F : Has K mg "cross_sum" s_crossSum ["one", "other"]) (B : Blt mg) : Callee P w K mg base 1 "cross_sum" ["one", "other"] spCrossSum := by
  have nd := sc_crossSum.nd
  refine callee_of F sc_crossSum (fun vs H Q E h => ?_) (fun f cdv A outer s H vs Q E hr h => ?_)
  · obtain ⟨a, b, xs, ys, rfl, _⟩ := h
    rfl
  · obtain ⟨a, b, xs, ys, rfl, ha, hb, mx, my, q⟩ := h
    obtain ⟨x0, x1, rfl, bx0, bx1⟩ := mx.two
    obtain ⟨y0, y1, rfl, by0, by1⟩ := my.two
    refine ⟨_, (pss_one
      (ps_ret (pe_op op_sub (pe_op op_mul (pe_ix (ix_tupK K rfl) (pv 0) pe_int (fun _ _ => rfl)) (pe_ix (ix_tupK K rfl) (pv 1) pe_int (fun _ _ => rfl))) (pe_op op_mul (pe_ix (ix_tupK K rfl) (pv 0) pe_int (fun _ _ => rfl)) (pe_ix (ix_tupK K rfl) (pv 1) pe_int (fun _ _ => rfl)))))), ?_⟩
    refine ⟨_, rfl, a, _, 0, .int x0, rfl, rfl, SqT.of ha, rfl, _, rfl, b, _, 1, .int y1, rfl, rfl, SqT.of hb, rfl, x0, y1, rfl, rfl, .inl ⟨by omega, by omega⟩, ?_⟩
    exact ⟨_, rfl, a, _, 1, .int x1, rfl, rfl, SqT.of ha, rfl, _, rfl, b, _, 0, .int y0, rfl, rfl, SqT.of hb, rfl, x1, y0, rfl, rfl, .inl ⟨by omega, by omega⟩, _, _, rfl, rfl, q _ (Same.refl _)⟩
def spIsBefore : Sp := fun vs H Q _ => ∃ (a b : Addr) (xs ys : List Int), vs = [.ref a, .ref b] ∧ H a = some (.tup (xs.map V.int)) ∧ H b = some (.tup (ys.map V.int)) ∧ Mv 2 xs ∧ Mv 2 ys ∧ ∀ H', Same H H' → Q (.bl (beforeI xs ys)) H'
theorem ok_isBefore (F : Has K mg "is_before" s_isBefore ["one", "other"]) (B : Blt mg) (c_crossSum : Callee P w K mg base 1 "cross_sum" ["one", "other"] spCrossSum) (c_dot : Callee P w K mg base 1 "dot" ["one", "other"] spDot) :
    Callee P w K mg base 2 "is_before" ["one", "other"] spIsBefore := by
  have nd := sc_isBefore.nd
  refine callee_of F sc_isBefore (fun vs H Q E h => ?_) (fun f cdv A outer s H vs Q E hr h => ?_)
  · obtain ⟨a, b, xs, ys, rfl, _⟩ := h
    rfl
  · obtain ⟨a, b, xs, ys, rfl, ha, hb, mx, my, q⟩ := h
    refine ⟨_, (pss_cons
      (ps_set (i := 2) nd rfl (Or.inl rfl) (pe_fn c_crossSum hr rfl (pa_cons (pv 0) (pa_cons (pv 1) pa_nil))))
    (pss_one
      (ps_ret (pe_or (pe_cmpR op_gt (pv 2) pe_int (nomark _)) (pe_one (pe_and (pe_cmpR op_eq (pv 2) pe_int (nomark _)) (pe_one (pe_cmpR op_gt (pe_fn c_dot hr rfl (pa_cons (pv 0) (pa_cons (pv 1) pa_nil))) pe_int (nomark _))))))))), ?_⟩
    refine ⟨_, rfl, _, rfl, a, b, xs, ys, rfl, ha, hb, mx, my, fun H1 s1 => ?_⟩
    refine ⟨_, rfl, _, _, rfl, rfl, _, rfl, ?_⟩
    by_cases c : 0 < crossI xs ys
    · rw [decide_eq_true c]
      have e : beforeI xs ys = true := by simp [beforeI, c]
      have q' := q _ s1
      rw [e] at q'
      exact iteT q'
    · rw [decide_eq_false c]
      refine iteF ⟨_, rfl, rfl, _, rfl, ?_⟩
      by_cases c2 : crossI xs ys = 0
      · rw [decide_eq_true (congrArg V.int c2)]
        refine iteT ⟨_, rfl, _, rfl, a, b, xs, ys, rfl, s1 _ _ ha, s1 _ _ hb, mx.1.trans my.1.symm, by rw [mx.1]; decide, mx.bd, fun H2 s2 => ⟨_, _, rfl, rfl, ?_⟩⟩
        have e : beforeI xs ys = decide (0 < dotI xs ys) := by simp [beforeI, c2]
        show Q (.bl (decide (0 < dotI xs ys))) H2
        rw [← e]
        exact q _ (s1.trans s2)
      · rw [decide_eq_false fun z => c2 (V.int.inj z)]
        have e : beforeI xs ys = false := by simp [beforeI, c, c2]
        have q' := q _ s1
        rw [e] at q'
        exact iteF q'
def orderRow (ms : List (List Int)) : Option (List Int) := if ms.all (fun m => decide (0 < m.getD 0 0)) then some [1] else if ms.all (fun m => decide (m.getD 0 0 < 0)) then some [-1] else none
def spOrderOnRow : Sp := fun vs H Q _ => ∃ (a : Addr) (us : List V) (ms : List (List Int)), vs = [.ref a] ∧ H a = some (.tup us) ∧ Dts H us (ms.map vi) ∧ ms.length ≤ 1000 ∧ (∀ m ∈ ms, Mv 1 m) ∧
  (∀ h p H', orderRow ms = some h → Same H H' → H' p = some (.tup (h.map V.int)) → Q (.ref p) H') ∧ (orderRow ms = none → ∀ H', Same H H' → Q .non H')
theorem ok_orderOnRow (F : Has K mg "order_on_row" s_orderOnRow ["moves"]) (B : Blt mg) : Callee P w K mg base 1 "order_on_row" ["moves"] spOrderOnRow := by
  have nd := sc_orderOnRow.nd
  refine callee_of F sc_orderOnRow (fun vs H Q E h => ?_) (fun f cdv A outer s H vs Q E hr h => ?_)
  · obtain ⟨a, us, ms, rfl, _⟩ := h
    rfl
  · obtain ⟨a, us, ms, rfl, ha, hus, hl, mv, q1, q2⟩ := h
    have hul : us.length = ms.length := by rw [hus.length, List.length_map]
    refine ⟨_, (pss_cons
      (ps_if (pt_val (pe_callB (all_K K rfl rfl) (by rfl) B.all (by decide +kernel) (pa_cons (pe_lc (own := [("move", 1)]) rfl nd (pi_tupK K rfl (pv 0)) (blkOk_by (by kernel_rfl)) (fun _ _ _ _ _ => (pg_name (i := 1) nd rfl (Or.inl rfl))) (fun _ _ _ _ _ => pts_nil) (fun _ _ _ _ _ => (pe_cmpR op_gt (pe_ix (ix_tupK K rfl) (pv 1) pe_int (fun _ _ => rfl)) pe_int (nomark _)))) pa_nil)))
        (pss_one
          (ps_ret (pe_tup (pa_cons pe_int pa_nil))))
        pss_nil)
    (pss_one
      (ps_ret (pe_ifExp (pt_val (pe_callB (all_K K rfl rfl) (by rfl) B.all (by decide +kernel) (pa_cons (pe_lc (own := [("move", 1)]) rfl nd (pi_tupK K rfl (pv 0)) (blkOk_by (by kernel_rfl)) (fun _ _ _ _ _ => (pg_name (i := 1) nd rfl (Or.inl rfl))) (fun _ _ _ _ _ => pts_nil) (fun _ _ _ _ _ => (pe_cmpR op_lt (pe_ix (ix_tupK K rfl) (pv 1) pe_int (fun _ _ => rfl)) pe_int (nomark _)))) pa_nil))) (pe_tup (pa_cons (pe_un un_neg pe_int) pa_nil)) pe_non)))), ?_⟩
    refine ⟨_, rfl, a, rfl, ⟨us, SqT.of ha⟩, fun D hD => ?_⟩
    refine lc_bools (walk_tup (xs := us)) (bAt ms fun m => decide (0 < m.getD 0 0)) hD (le1000 (by omega)) (fun H' s => s.tup ha) (fun i x H2 H3 k kn hi s1 hy hk => ?_) fun H2 s2 h2 => ?_
    · obtain ⟨rfl, ex⟩ := hy
      obtain ⟨am, m, rfl, em, ham⟩ := dts_vis hus ex
      obtain ⟨x0, rfl, bx⟩ := (mv m (List.mem_of_getElem? em)).one
      have q := hk H3 (Same.refl _)
      rw [bAt_some em] at q
      exact ⟨rfl, _, rfl, am, _, 0, .int x0, rfl, rfl, SqT.of (s1 _ _ ham), rfl, _, _, rfl, rfl, q⟩
    · rw [hul] at h2
      refine ⟨D, _, rfl, SqL.of h2, _, rfl, ?_⟩
      rw [all_bAt]
      by_cases c : ms.all (fun m => decide (0 < m.getD 0 0)) = true
      · rw [c]
        refine iteT ⟨ll rfl, fun p hp => q1 [1] p _ (if_pos c) (same_upd2 (s2.free hp) s2) upd_same⟩
      · rw [Bool.not_eq_true] at c
        rw [c]
        refine iteF ⟨_, rfl, a, rfl, ⟨us, SqT.of (s2 _ _ ha)⟩, fun D2 hD2 => ?_⟩
        refine lc_bools (walk_tup (xs := us)) (bAt ms fun m => decide (m.getD 0 0 < 0)) hD2 (le1000 (by omega)) (fun H' s => (s2.trans s).tup ha) (fun i x H4 H3 k kn hi s1 hy hk => ?_) fun H4 s4 h4 => ?_
        · obtain ⟨rfl, ex⟩ := hy
          obtain ⟨am, m, rfl, em, ham⟩ := dts_vis hus ex
          obtain ⟨x0, rfl, bx⟩ := (mv m (List.mem_of_getElem? em)).one
          have q := hk H3 (Same.refl _)
          rw [bAt_some em] at q
          exact ⟨rfl, _, rfl, am, _, 0, .int x0, rfl, rfl, SqT.of (s1 _ _ (s2 _ _ ham)), rfl, _, _, rfl, rfl, q⟩
        · rw [hul] at h4
          refine ⟨D2, _, rfl, SqL.of h4, _, rfl, ?_⟩
          rw [all_bAt]
          have s5 := s2.trans s4
          by_cases c2 : ms.all (fun m => decide (m.getD 0 0 < 0)) = true
          · rw [c2]
            refine iteT ⟨1, rfl, ll rfl, fun p hp => q1 [-1] p _ (by rw [orderRow, c, c2]; rfl) (same_upd2 (s5.free hp) s5) upd_same⟩
          · rw [Bool.not_eq_true] at c2
            rw [c2]
            exact iteF (q2 (by rw [orderRow, c, c2]; rfl) _ s5)
end
end Wb
namespace Wb
open PySem PySem.Spec PyProof.Rows L2

theorem lay_ints : ∀ ns : List Int, PyData.canLayAll0 (ns.map .int) = true
  | [] => by simp [PyData.canLayAll0]
  | n :: ns => by
    show PyData.canLayAll0 (.int n :: ns.map .int) = true
    rw [PyData.canLayAll0, lay_ints ns]
    simp [PyData.canLay0]
theorem lay_vi (ns : List Int) : (vi ns).canLay0 = true := by
  rw [vi, PyData.canLay0]
  exact lay_ints ns
theorem lay_vis : ∀ nss : List (List Int), PyData.canLayAll0 (nss.map vi) = true
  | [] => by simp [PyData.canLayAll0]
  | n :: ns => by
    show PyData.canLayAll0 (vi n :: ns.map vi) = true
    rw [PyData.canLayAll0, lay_vis ns, lay_vi]
    rfl
theorem depth_vis : ∀ nss : List (List Int), PyData.depthAll (nss.map vi) ≤ 1
  | [] => by simp [PyData.depthAll]
  | n :: ns => by
    have e : PyData.depthAll ((n :: ns).map vi) = PyData.depthAll (vi n :: ns.map vi) := rfl
    rw [e, PyData.depthAll, depth_vi]
    have := depth_vis ns
    omega
theorem shaped_vi (ns : List Int) : SeqAt.shaped (vi ns) = true := by
  unfold SeqAt.shaped
  rw [lay_vi, depth_vi]
  rfl
theorem shaped_vv (nss : List (List Int)) : SeqAt.shaped (vv nss) = true := by
  unfold SeqAt.shaped
  have h := depth_vis nss
  rw [vv, PyData.canLay0, lay_vis, PyData.depth, Bool.true_and]
  exact decide_eq_true (by omega)
theorem shaped_lv (nss : List (List Int)) : SeqAt.shaped (.list (nss.map vi)) = true := by
  unfold SeqAt.shaped
  have h := depth_vis nss
  rw [PyData.canLay0, lay_vis, PyData.depth, Bool.true_and]
  exact decide_eq_true (by omega)
theorem eqv_nil_l (nss : List (List Int)) : PyData.eqv (.list (nss.map vi)) (.list []) = nss.isEmpty := by
  cases nss with
  | nil => rw [List.map_nil, PyData.eqv, PyData.eqvAll]; rfl
  | cons a r => rw [List.map_cons, PyData.eqv, PyData.eqvAll]; rfl
theorem eqv_nil_t (nss : List (List Int)) : PyData.eqv (vv nss) (.tuple []) = nss.isEmpty := by
  cases nss with
  | nil => rw [vv, List.map_nil, PyData.eqv, PyData.eqvAll]; rfl
  | cons a r => rw [vv, List.map_cons, PyData.eqv, PyData.eqvAll]; rfl
theorem fm_if (M : List (List Int)) (p : List Int → Bool) : (List.range M.length).filterMap (fun i => (M[i]?).bind fun m => if p m then some (vi m) else none) = (M.filter p).map vi := by
  rw [fm_range M (fun m => if p m then some (vi m) else none) _ (fun i x e => by rw [e]; rfl)]
  induction M with
  | nil => rfl
  | cons a r ih =>
    rw [List.filterMap_cons, List.filter_cons]
    by_cases c : p a = true
    · rw [if_pos c, if_pos c, List.map_cons, ih]
    · rw [if_neg c, if_neg c, ih]
def firstsOf (ms : List (List Int)) : List (List Int) := ms.filter fun one => ms.all fun other => beforeI one other
def lastsOf (ms : List (List Int)) : List (List Int) := ms.filter fun other => ms.all fun one => beforeI one other
def planeOrder (f l : List Int) : List Int := if crossI f l = 0 then f else [l.getD 1 0 - f.getD 1 0, f.getD 0 0 - l.getD 0 0]
section
variable {P : Program} {w : World} {K : PySem.W.Frag} {mg : Str → Option Value} {base : Heap}
def spOrderInPlane : Sp := fun vs H Q _ => ∃ (a : Addr) (us : List V) (ms : List (List Int)), vs = [.ref a] ∧ H a = some (.tup us) ∧ Dts H us (ms.map vi) ∧ ms.length ≤ 1000 ∧ (∀ m ∈ ms, Mv 2 m) ∧ (firstsOf ms ≠ [] → lastsOf ms ≠ []) ∧
  (firstsOf ms = [] → ∀ H', Same H H' → Q .non H') ∧ (∀ f fr l lr p H', firstsOf ms = f :: fr → lastsOf ms = l :: lr → Same H H' → H' p = some (.tup ((planeOrder f l).map V.int)) → Q (.ref p) H')
theorem ok_orderInPlane (F : Has K mg "order_in_plane" s_orderInPlane ["moves"]) (B : Blt mg) (c_crossSum : Callee P w K mg base 1 "cross_sum" ["one", "other"] spCrossSum) (c_isBefore : Callee P w K mg base 2 "is_before" ["one", "other"] spIsBefore) :
    Callee P w K mg base 3 "order_in_plane" ["moves"] spOrderInPlane := by
  have nd := sc_orderInPlane.nd
  refine callee_of F sc_orderInPlane (fun vs H Q E h => ?_) (fun f cdv A outer s H vs Q E hr h => ?_)
  · obtain ⟨a, us, ms, rfl, _⟩ := h
    rfl
  · obtain ⟨a, us, ms, rfl, ha, hus, hl, mv, hfl, q1, q2⟩ := h
    have hr1 : Room 1 (A.deeper (envOfC "order_in_plane" (defScope s_orderInPlane) s.heap.objs.size f cdv)) := hr.mono (by decide)
    have hul : us.length = ms.length := by rw [hus.length, List.length_map]
    refine ⟨_, (pss_cons
      (ps_setLc (i := 1) (own := [("one", 4)]) rfl nd rfl rfl (sw_true rfl rfl rfl (by decide +kernel)) (pi_tupK K rfl (pv 0)) (blkOk_by (by kernel_rfl)) (fun _ _ _ _ _ => (pg_name (i := 4) nd rfl (Or.inr rfl))) (fun _ _ _ _ _ => (pts_one (pt_val (pe_callB (all_K K rfl rfl) (by rfl) B.all (by decide +kernel) (pa_cons (pe_lc (own := [("other", 5)]) rfl nd (pi_tupK K rfl (pv 0)) (blkOk_by (by kernel_rfl)) (fun _ _ _ _ _ => (pg_name (i := 5) nd rfl (Or.inl rfl))) (fun _ _ _ _ _ => pts_nil) (fun _ _ _ _ _ => (pe_fn c_isBefore hr rfl (pa_cons (pv 4) (pa_cons (pv 5) pa_nil))))) pa_nil))))) (fun _ _ _ _ _ => (pv 4)))
    (pss_cons
      (ps_if (pt_cmpR (op_eqK K rfl hr.units) (pv 1) (pe_lst pa_nil) (nomark _))
        (pss_one
          (ps_ret pe_non))
        pss_nil)
    (pss_cons
      (ps_set (i := 2) nd rfl (Or.inl rfl) (pe_ix (ix_listK K rfl) (pv 1) pe_int (fun _ _ => rfl)))
    (pss_cons
      (ps_set (i := 3) nd rfl (Or.inl rfl) (pe_ix (ix_listK K rfl) (pe_lc (own := [("other", 5)]) rfl nd (pi_tupK K rfl (pv 0)) (blkOk_by (by kernel_rfl)) (fun _ _ _ _ _ => (pg_name (i := 5) nd rfl (Or.inr rfl))) (fun _ _ _ _ _ => (pts_one (pt_val (pe_callB (all_K K rfl rfl) (by rfl) B.all (by decide +kernel) (pa_cons (pe_lc (own := [("one", 4)]) rfl nd (pi_tupK K rfl (pv 0)) (blkOk_by (by kernel_rfl)) (fun _ _ _ _ _ => (pg_name (i := 4) nd rfl (Or.inl rfl))) (fun _ _ _ _ _ => pts_nil) (fun _ _ _ _ _ => (pe_fn c_isBefore hr rfl (pa_cons (pv 4) (pa_cons (pv 5) pa_nil))))) pa_nil))))) (fun _ _ _ _ _ => (pv 5))) pe_int (fun _ _ => rfl)))
    (pss_one
      (ps_ret (pe_ifExp (pt_cmpR op_eq (pe_fn c_crossSum hr1 rfl (pa_cons (pv 2) (pa_cons (pv 3) pa_nil))) pe_int (nomark _)) (pv 2) (pe_tup (pa_cons (pe_op op_sub (pe_ix (ix_tupK K rfl) (pv 3) pe_int (fun _ _ => rfl)) (pe_ix (ix_tupK K rfl) (pv 2) pe_int (fun _ _ => rfl))) (pa_cons (pe_op op_sub (pe_ix (ix_tupK K rfl) (pv 2) pe_int (fun _ _ => rfl)) (pe_ix (ix_tupK K rfl) (pv 3) pe_int (fun _ _ => rfl))) pa_nil)))))))))), ?_⟩
    refine ⟨_, rfl, a, rfl, ⟨us, SqT.of ha⟩, fun D hD => ?_⟩
    refine lc_fm (walk_tup (xs := us)) (fun i => (ms[i]?).bind fun m => if ms.all (fun other => beforeI m other) then some (vi m) else none) hD (le1000 (by omega)) (fun H' s => s.tup ha) (fun i x H2 H3 k kn hi s1 hy hk hkn => ?_) (fun H2 zs s2 h2 d2 _ => ?_)
    · obtain ⟨rfl, ex⟩ := hy
      obtain ⟨am, m, rfl, em, ham⟩ := dts_vis hus ex
      have mvm := mv m (List.mem_of_getElem? em)
      refine ⟨rfl, _, rfl, a, rfl, ⟨us, SqT.of (s1 _ _ ha)⟩, fun D2 hD2 => ?_⟩
      refine lc_bools (walk_tup (xs := us)) (bAt ms fun o => beforeI m o) hD2 (le1000 (by omega)) (fun H' s => (s1.trans s).tup ha) (fun i2 x2 H4 H5 k2 kn2 hi2 s4 hy2 hk2 => ?_) fun H4 s4 h4 => ?_
      · obtain ⟨rfl, ex2⟩ := hy2
        obtain ⟨ao, o, rfl, eo, hao⟩ := dts_vis hus ex2
        refine ⟨rfl, _, rfl, _, rfl, am, ao, m, o, rfl, s4 _ _ (s1 _ _ ham), s4 _ _ (s1 _ _ hao), mvm, mv o (List.mem_of_getElem? eo), fun H6 s6 => ?_⟩
        have q := hk2 H6 s6
        rw [bAt_some eo] at q
        exact q
      · rw [hul] at h4
        refine ⟨D2, _, rfl, SqL.of h4, _, rfl, ?_⟩
        rw [all_bAt]
        by_cases c : ms.all (fun o => beforeI m o) = true
        · rw [c]
          exact iteT ⟨_, rfl, hk _ _ (vi m) (by show Option.bind (ms[i]?) _ = _; rw [em]; exact if_pos c) s4 (only_vi _) (dt_vi (s4 _ _ (s1 _ _ ham)))⟩
        · rw [Bool.not_eq_true] at c
          rw [c]
          exact iteF (hkn _ (by show Option.bind (ms[i]?) _ = _; rw [em]; exact if_neg (by rw [c]; exact Bool.false_ne_true)) s4)
    · rw [hul, fm_if ms fun m => ms.all fun o => beforeI m o] at d2
      have d2 : Dts H2 zs ((firstsOf ms).map vi) := d2
      refine ⟨_, rfl, Nat.zero_le _, fun e0 he0 => ?_⟩
      have h2' : upd H2 e0 (.lst []) D = some (.lst zs) := upd_some he0 h2
      have s3 : Same H (upd H2 e0 (.lst [])) := s2.trans (same_upd he0)
      refine ⟨.list ((firstsOf ms).map vi), .list [], (Dt.lst h2' (d2.same (same_upd he0))).dp, (Dt.lst upd_same .nil).dp, shaped_lv _, shaped_lv [], _, rfl, ?_⟩
      rw [eqv_nil_l]
      cases hf : firstsOf ms with
      | nil => exact q1 hf _ s3
      | cons f1 fr =>
        refine iteF ?_
        have d3 := d2.same (same_upd (o := .lst []) he0)
        rw [hf] at d3
        obtain ⟨v1, us1, rfl, df, _⟩ := d3.consI
        obtain ⟨af, rfl, haf⟩ := df.viI
        have hf1 : f1 ∈ ms := by
          have : f1 ∈ firstsOf ms := by rw [hf]; simp
          exact (List.mem_filter.mp this).1
        refine ⟨_, rfl, D, _, 0, .ref af, rfl, rfl, SqL.of h2', atI_nat (j := 0) rfl, ?_⟩
        refine ⟨_, rfl, a, rfl, ⟨us, SqT.of (s3 _ _ ha)⟩, fun D3 hD3 => ?_⟩
        refine lc_fm (walk_tup (xs := us)) (fun i => (ms[i]?).bind fun m => if ms.all (fun one => beforeI one m) then some (vi m) else none) hD3 (le1000 (by omega)) (fun H' s => (s3.trans s).tup ha) (fun i x H4 H5 k kn hi s1 hy hk hkn => ?_) (fun H4 zs2 s4 h4 d4 _ => ?_)
        · obtain ⟨rfl, ex⟩ := hy
          obtain ⟨am, m, rfl, em, ham⟩ := dts_vis hus ex
          have mvm := mv m (List.mem_of_getElem? em)
          have s5 := s3.trans s1
          refine ⟨rfl, _, rfl, a, rfl, ⟨us, SqT.of (s5 _ _ ha)⟩, fun D2 hD2 => ?_⟩
          refine lc_bools (walk_tup (xs := us)) (bAt ms fun o => beforeI o m) hD2 (le1000 (by omega)) (fun H' s => (s5.trans s).tup ha) (fun i2 x2 H6 H7 k2 kn2 hi2 s6 hy2 hk2 => ?_) fun H6 s6 h6 => ?_
          · obtain ⟨rfl, ex2⟩ := hy2
            obtain ⟨ao, o, rfl, eo, hao⟩ := dts_vis hus ex2
            refine ⟨rfl, _, rfl, _, rfl, ao, am, o, m, rfl, s6 _ _ (s5 _ _ hao), s6 _ _ (s5 _ _ ham), mv o (List.mem_of_getElem? eo), mvm, fun H8 s8 => ?_⟩
            have q := hk2 H8 s8
            rw [bAt_some eo] at q
            exact q
          · rw [hul] at h6
            refine ⟨D2, _, rfl, SqL.of h6, _, rfl, ?_⟩
            rw [all_bAt]
            by_cases c : ms.all (fun o => beforeI o m) = true
            · rw [c]
              exact iteT ⟨_, rfl, hk _ _ (vi m) (by show Option.bind (ms[i]?) _ = _; rw [em]; exact if_pos c) s6 (only_vi _) (dt_vi (s6 _ _ (s5 _ _ ham)))⟩
            · rw [Bool.not_eq_true] at c
              rw [c]
              exact iteF (hkn _ (by show Option.bind (ms[i]?) _ = _; rw [em]; exact if_neg (by rw [c]; exact Bool.false_ne_true)) s6)
        · rw [hul, fm_if ms fun m => ms.all fun o => beforeI o m] at d4
          have d4 : Dts H4 zs2 ((lastsOf ms).map vi) := d4
          cases hla : lastsOf ms with
          | nil => exact absurd hla (hfl (by rw [hf]; simp))
          | cons l1 lr =>
            rw [hla] at d4
            obtain ⟨v2, us2, rfl, dl, _⟩ := d4.consI
            obtain ⟨al, rfl, hal⟩ := dl.viI
            have hl1 : l1 ∈ ms := by
              have : l1 ∈ lastsOf ms := by rw [hla]; simp
              exact (List.mem_filter.mp this).1
            have haf4 := s4 _ _ haf
            refine ⟨D3, _, 0, .ref al, rfl, rfl, SqL.of h4, atI_nat (j := 0) rfl, ?_⟩
            have s6 := s3.trans s4
            refine ⟨_, rfl, _, rfl, af, al, f1, l1, rfl, haf4, hal, mv f1 hf1, mv l1 hl1, fun H6 s7 => ⟨rfl, _, rfl, ?_⟩⟩
            have s8 := s6.trans s7
            by_cases c : crossI f1 l1 = 0
            · rw [decide_eq_true (congrArg V.int c)]
              refine iteT ⟨_, rfl, q2 f1 fr l1 lr af _ hf hla s8 ?_⟩
              rw [planeOrder, if_pos c]
              exact s7 _ _ haf4
            · rw [decide_eq_false fun z => c (V.int.inj z)]
              obtain ⟨x0, x1, rfl, _⟩ := (mv f1 hf1).two
              obtain ⟨y0, y1, rfl, _⟩ := (mv l1 hl1).two
              refine iteF ⟨_, rfl, al, _, 1, .int y1, rfl, rfl, SqT.of (s7 _ _ hal), rfl, _, rfl, af, _, 1, .int x1, rfl, rfl, SqT.of (s7 _ _ haf4), rfl, _, _, rfl, rfl, _, rfl, af, _, 0, .int x0, rfl, rfl, SqT.of (s7 _ _ haf4), rfl, _, rfl, al, _, 0, .int y0, rfl, rfl, SqT.of (s7 _ _ hal), rfl, _, _, rfl, rfl, ll rfl, fun p hp => q2 _ fr _ lr p _ hf hla (same_upd2 (s8.free hp) s8) ?_⟩
              rw [upd_same, planeOrder, if_neg c]
              rfl
end
end Wb
namespace Wb
open PySem PySem.Spec PyProof.Rows L2

def gOf (pairs : List (Nat × Int)) : Int := pairs.foldl (fun g p => (Int.gcd p.2 g : Int)) 0
def setAll (n : Nat) (g : Int) (pairs : List (Nat × Int)) : List Int := pairs.foldl (fun f p => f.set p.1 (Int.fdiv p.2 g)) (List.replicate n 0)
def countsOf (n : Nat) (pairs : List (Nat × Int)) : List Int := setAll n (gOf pairs) pairs
def pairD (p : Nat × Int) : PyData := vi [(p.1 : Int), p.2]
theorem dt_pairI {H : Hp} {v : V} {p : Nat × Int} (h : Dt H v (pairD p)) : ∃ a, v = .ref a ∧ H a = some (.tup [.int (p.1 : Nat), .int p.2]) := h.viI
theorem gOf_nonneg (pairs : List (Nat × Int)) : 0 ≤ gOf pairs := by
  unfold gOf
  suffices h : ∀ (l : List (Nat × Int)) (g : Int), 0 ≤ g → 0 ≤ l.foldl (fun g p => (Int.gcd p.2 g : Int)) g from h pairs 0 (Int.le_refl _)
  intro l
  induction l with
  | nil => intro g h; exact h
  | cons a r ih => intro g h; exact ih _ (Int.natCast_nonneg _)
theorem gOf_dvd_acc : ∀ (l : List (Nat × Int)) (g : Int), l.foldl (fun g p => (Int.gcd p.2 g : Int)) g ∣ g ∧ ∀ p ∈ l, l.foldl (fun g p => (Int.gcd p.2 g : Int)) g ∣ p.2
  | [], g => ⟨Int.dvd_refl _, fun _ h => nomatch h⟩
  | a :: r, g => by
    obtain ⟨h1, h2⟩ := gOf_dvd_acc r (Int.gcd a.2 g)
    rw [List.foldl_cons]
    refine ⟨Int.dvd_trans h1 (Int.gcd_dvd_right _ _), fun p hp => ?_⟩
    rcases List.mem_cons.mp hp with rfl | hp
    · exact Int.dvd_trans h1 (Int.gcd_dvd_left _ _)
    · exact h2 p hp
theorem gOf_dvd {pairs : List (Nat × Int)} {p : Nat × Int} (h : p ∈ pairs) : gOf pairs ∣ p.2 := (gOf_dvd_acc pairs 0).2 p h
theorem gOf_pos {pairs : List (Nat × Int)} {p : Nat × Int} (h : p ∈ pairs) (hp : 0 < p.2) : 0 < gOf pairs ∧ gOf pairs ≤ p.2 := by
  have h1 := gOf_nonneg pairs
  have h2 := gOf_dvd h
  have h3 : gOf pairs ≠ 0 := fun e => by
    rw [e] at h2
    have := Int.zero_dvd.mp h2
    omega
  exact ⟨by omega, Int.le_of_dvd hp h2⟩
theorem setAll_len (n : Nat) (g : Int) (pairs : List (Nat × Int)) : (setAll n g pairs).length = n := by
  unfold setAll
  suffices h : ∀ (l : List (Nat × Int)) (f : List Int), (l.foldl (fun f p => f.set p.1 (Int.fdiv p.2 g)) f).length = f.length by
    rw [h, List.length_replicate]
  intro l
  induction l with
  | nil => intro f; rfl
  | cons a r ih => intro f; rw [List.foldl_cons, ih, List.length_set]
section
variable {P : Program} {w : World} {K : PySem.W.Frag} {mg : Str → Option Value} {base : Heap}
def spCountsFor : Sp := fun vs H Q _ => ∃ (a l : Addr) (us ps : List V) (pairs : List (Nat × Int)), vs = [.ref a, .ref l] ∧ H a = some (.tup us) ∧ H l = some (.lst ps) ∧ Dts H ps (pairs.map pairD) ∧ us.length ≤ 1000 ∧ pairs.length ≤ 1000 ∧
  (∀ p ∈ pairs, p.1 < us.length ∧ 0 < p.2 ∧ p.2 ≤ 1000000000) ∧ ∀ p H', Same H H' → H' p = some (.tup ((countsOf us.length pairs).map V.int)) → Q (.ref p) H'
theorem ok_countsFor (F : Has K mg "counts_for" s_countsFor ["moves", "pairs"]) (B : Blt mg) (c_divisorOf : Callee P w K mg base 1 "divisor_of" ["one", "other"] spDivisorOf) : Callee P w K mg base 2 "counts_for" ["moves", "pairs"] spCountsFor := by
  have nd := sc_countsFor.nd
  refine callee_of F sc_countsFor (fun vs H Q E h => ?_) (fun f cdv A outer s H vs Q E hr h => ?_)
  · obtain ⟨a, l, us, ps, pairs, rfl, _⟩ := h
    rfl
  · obtain ⟨a, l, us, ps, pairs, rfl, ha, hlst, hps, hul, hpl, hpr, q⟩ := h
    have epl : ps.length = pairs.length := by rw [hps.length, List.length_map]
    refine ⟨_, (pss_cons
      (ps_set (i := 2) nd rfl (Or.inl rfl) pe_int)
    (pss_cons
      (ps_for PassesOwn.never rfl (pi_listK K rfl (pv 1)) (pg_tupK K 2 rfl rfl (pgs_cons (pg_name (i := 3) nd rfl (Or.inl rfl)) (pgs_cons (pg_name (i := 4) nd rfl (Or.inl rfl)) pgs_nil)))
        (pss_one
          (ps_set (i := 2) nd rfl (Or.inl rfl) (pe_fn c_divisorOf hr rfl (pa_cons (pv 4) (pa_cons (pv 2) pa_nil))))))
    (pss_cons
      (ps_set (i := 5) nd rfl (Or.inl rfl) (pe_op op_rep (pe_lst (pa_cons pe_int pa_nil)) (pe_callB (len_K K rfl) (by rfl) B.len (by decide +kernel) (pa_cons (pv 0) pa_nil))))
    (pss_cons
      (ps_for PassesOwn.never rfl (pi_listK K rfl (pv 1)) (pg_tupK K 2 rfl rfl (pgs_cons (pg_name (i := 3) nd rfl (Or.inl rfl)) (pgs_cons (pg_name (i := 4) nd rfl (Or.inl rfl)) pgs_nil)))
        (pss_one
          (ps_asg (pe_op op_fdivN (pv 4) (pv 2)) (pg_sub (pv 5) (pv 3) set_list))))
    (pss_one
      (ps_ret (pe_tupleK K rfl rfl B.tuple (pv 5)))))))), ?_⟩
    refine ⟨_, rfl, l, rfl, ⟨ps, SqL.of hlst⟩, ?_⟩
    refine for_it (walk_list (xs := ps)) (fun i σ H' => Same H H' ∧ ∃ y3 y4, σ = [some (.ref a), some (.ref l), some (.int (gOf (pairs.take i))), y3, y4, none]) ⟨Same.refl _, _, _, rfl⟩ (fun i σ H' _ p => p.1.lst hlst) (fun i x σ H2 H3 hi p hy => ?_) fun σ H2 p => ?_
    · obtain ⟨s2, y3, y4, rfl⟩ := p
      obtain ⟨rfl, ex⟩ := hy
      obtain ⟨pr, er, dpr⟩ := dts_map_at hps ex
      obtain ⟨t, rfl, ht⟩ := dt_pairI dpr
      have hp := hpr pr (List.mem_of_getElem? er)
      refine ⟨t, _, rfl, SqT.of (s2 _ _ ht), rfl, _, _, rfl, _, _, rfl, rfl, ?_⟩
      have e : gOf (pairs.take (i + 1)) = (Int.gcd pr.2 (gOf (pairs.take i)) : Int) := by
        rw [take_next' er]
        unfold gOf
        rw [List.foldl_append]
        rfl
      exact ⟨_, rfl, _, rfl, pr.2, gOf (pairs.take i), rfl, by omega, gOf_nonneg _, fun H4 s4 => ⟨s2.trans s4, _, _, by rw [e]; rfl⟩⟩
    · obtain ⟨s2, y3, y4, rfl⟩ := p
      rw [epl, List.take_length]
      refine ⟨ll rfl, fun z hz => ⟨_, rfl, a, us, rfl, .inr (SqT.of (upd_some hz (s2 _ _ ha))), z, us.length, _, rfl, rfl, upd_same, by omega, by omega, ?_, fun fo hfo => ?_⟩⟩
      · rw [Int.toNat_natCast]
        exact Nat.le_of_lt (small1000 (by simp; omega))
      have eflat : ∀ n : Nat, (List.replicate n [V.int 0]).flatten = (List.replicate n (0 : Int)).map V.int := fun n => by
        induction n with
        | zero => rfl
        | succ n ih => rw [List.replicate_succ, List.flatten_cons, ih, List.replicate_succ]; rfl
      rw [Int.toNat_natCast, eflat]
      have s3 : Same H (upd H2 z (.lst [.int 0])) := s2.trans (same_upd hz)
      generalize upd H2 z (.lst [.int 0]) = H2' at hfo s3 ⊢
      have hl2 := s3 _ _ hlst
      refine ⟨_, rfl, l, rfl, ⟨ps, SqL.of (upd_some hfo hl2)⟩, ?_⟩
      refine for_it (walk_list (xs := ps)) (fun i σ H' => (∀ b o, b ≠ fo → H2' b = some o → H' b = some o) ∧ (∃ y3 y4, σ = [some (.ref a), some (.ref l), some (.int (gOf pairs)), y3, y4, some (.ref fo)]) ∧ H' fo = some (.lst ((setAll us.length (gOf pairs) (pairs.take i)).map V.int)))
        ⟨fun b o hb e => by rw [upd_ne hb]; exact e, ⟨_, _, rfl⟩, upd_same⟩ (fun i σ H' _ p => SqL.of (p.1 _ _ (ne_of_none hl2 hfo) hl2)) (fun i x σ H4 H5 hi p hy => ?_) fun σ H4 p => ?_
      · obtain ⟨kp, ⟨y3, y4, rfl⟩, hf4⟩ := p
        obtain ⟨rfl, ex⟩ := hy
        obtain ⟨pr, er, dpr⟩ := dts_map_at hps ex
        obtain ⟨t, rfl, ht⟩ := dt_pairI dpr
        have hmem := List.mem_of_getElem? er
        have hp := hpr pr hmem
        have hg := gOf_pos hmem hp.2.1
        have ht5 := kp _ _ (ne_of_none (s3 _ _ ht) hfo) (s3 _ _ ht)
        refine ⟨t, _, rfl, SqT.of ht5, rfl, _, _, rfl, _, _, rfl, rfl, ?_⟩
        have eset : setAll us.length (gOf pairs) (pairs.take (i + 1)) = (setAll us.length (gOf pairs) (pairs.take i)).set pr.1 (Int.fdiv pr.2 (gOf pairs)) := by
          rw [take_next' er]
          unfold setAll
          rw [List.foldl_append]
          rfl
        refine ⟨_, rfl, _, rfl, pr.2, gOf pairs, rfl, rfl, ⟨by omega, by omega⟩, _, rfl, _, rfl, fo, _, (pr.1 : Nat), pr.1, rfl, rfl, hf4, ?_, fun b o hb e => ?_, ⟨_, _, rfl⟩, ?_⟩
        · rw [List.length_map, setAll_len, ixN, if_pos (by omega), if_pos (by omega), Int.toNat_natCast]
        · rw [upd_ne hb]
          exact kp b o hb e
        · rw [upd_same, eset, List.map_set]
      · obtain ⟨kp, ⟨y3, y4, rfl⟩, hf4⟩ := p
        rw [epl, List.take_length] at hf4
        have s5 : Same H H4 := fun b o e => kp _ _ (ne_of_none (s3 _ _ e) hfo) (s3 _ _ e)
        exact ⟨_, rfl, .inl ⟨fo, _, rfl, SqL.of hf4, fun p hp => q p _ (same_upd2 (s5.free hp) s5) upd_same⟩⟩
end
end Wb
namespace Wb
open PySem PySem.Spec PyProof.Rows L2

def absI (x : Int) : Int := if x < 0 then -x else x
def MaxAbs (m : List Int) (c : Int) : Prop := (∃ x ∈ m, c = absI x) ∧ ∀ x ∈ m, absI x ≤ c
def Opp (n : Nat) (one two : List Int) : Prop := (n = 1 ∨ crossI one two = 0) ∧ dotI one two < 0
section
variable {P : Program} {w : World} {K : PySem.W.Frag} {mg : Str → Option Value} {base : Heap}
theorem orV_ok {ta tb : TE} {σ : L2.St} {H : Hp} {Q : VK} (P : VK → Prop) (h : ∀ Q0 : VK, P Q0 → tOrV ta tb σ H Q0) (hp : P Q) : tOrV ta tb σ H Q := h Q hp
/-- max([abs(item) for item in m]): what is asked -/
theorem max_abs {H1 : Hp} {am : Addr} {m : List Int} {n : Nat} {σ : L2.St} {Q : V → Hp → Prop} {i k : Nat} (hi : σ[i]? = some (some (.ref am))) (hk : k < σ.length) (hm : H1 am = some (.tup (m.map V.int))) (mv : Mv n m) (hn : 1 ≤ n) (hn2 : n ≤ 1000)
    (q : ∀ H c, Same H1 H → MaxAbs m c → Q (.int c) H) :
    tLc (iTup K (tVar i)) (gName k) tYes (tCB (fun xs H Q => ∃ i, xs = [V.int i] ∧ Q (V.int (if i < 0 then -i else i)) H) (tCons (tVar k) tNil)) [k] σ H1 fun x H2 => rMax K [x] H2 Q := by
  refine ⟨_, hi, am, rfl, ⟨_, SqT.of hm⟩, fun D hD => ?_⟩
  refine lc_fm (te := fun σ H Q => ∃ v, σ[k]? = some (some v) ∧ ∃ i, [v] = [V.int i] ∧ Q (.int (if i < 0 then -i else i)) H) (walk_tup (xs := m.map V.int)) (fun i => (m[i]?).map fun x => .int (absI x)) hD (by rw [List.length_map, mv.1]; exact le1000 hn2) (fun H' s => s.tup hm) (fun i x H2 H3 k2 kn hi s1 hy hk2 _ => ?_) (fun H2 zs s2 h2 d2 _ => ?_)
  · obtain ⟨rfl, ex⟩ := hy
    obtain ⟨u, g, rfl⟩ := map_int_at ex
    refine ⟨?_, .int u, ?_, u, rfl, hk2 _ _ (.int (absI u)) (by show Option.map _ (m[i]?) = _; rw [g]; rfl) (Same.refl _) (.int _) (.int _)⟩
    · show (((σ.set k none).set k (some (.int u))).set k none) = σ.set k none
      rw [List.set_set, List.set_set]
    · show ((wipe σ [k]).set k (some (.int u)))[k]? = _
      rw [List.getElem?_set_self (by rw [wipe_length]; exact hk)]
  · rw [List.length_map, fm_map m (fun x => PyData.int (absI x)) _ (fun i x e => by rw [e]; rfl)] at d2
    have e3 : m.map (fun x => PyData.int (absI x)) = (m.map absI).map PyData.int := by
      rw [List.map_map]
      rfl
    rw [e3] at d2
    rw [d2.ints] at h2
    refine ⟨D, m.map absI, rfl, SqL.of h2, by rw [List.length_map, mv.1]; exact hn, fun c hc hle => q H2 c s2 ⟨?_, fun x hx => hle _ (List.mem_map_of_mem hx)⟩⟩
    obtain ⟨x, hx, e⟩ := List.mem_map.mp hc
    exact ⟨x, hx, e.symm⟩
def spOppositePair : Sp := fun vs H Q _ => ∃ (a : Addr) (us : List V) (ms : List (List Int)) (n : Nat), vs = [.ref a] ∧ H a = some (.tup us) ∧ Dts H us (ms.map vi) ∧ ms.length ≤ 1000 ∧ (n = 1 ∨ n = 2) ∧ (∀ m ∈ ms, Mv n m) ∧
  (∀ (i j : Nat) (one two : List Int) (c1 c2 : Int) (p : Addr) (ps : List V) (H' : Hp), j < i → ms[i]? = some one → ms[j]? = some two → Opp n one two → MaxAbs two c1 → MaxAbs one c2 → Same H H' → H' p = some (.lst ps) → Dts H' ps ([(i, c1), (j, c2)].map pairD) → Q (.ref p) H') ∧
  ((∀ (i j : Nat) (one two : List Int), j < i → ms[i]? = some one → ms[j]? = some two → ¬ Opp n one two) → ∀ H', Same H H' → Q .non H')
theorem ok_oppositePair (F : Has K mg "opposite_pair" s_oppositePair ["moves"]) (B : Blt mg) (c_crossSum : Callee P w K mg base 1 "cross_sum" ["one", "other"] spCrossSum) (c_dot : Callee P w K mg base 1 "dot" ["one", "other"] spDot) :
    Callee P w K mg base 2 "opposite_pair" ["moves"] spOppositePair := by
  have nd := sc_oppositePair.nd
  refine callee_of F sc_oppositePair (fun vs H Q E h => ?_) (fun f cdv A outer s H vs Q E hr h => ?_)
  · obtain ⟨a, us, ms, n, rfl, _⟩ := h
    rfl
  · obtain ⟨a, us, ms, n, rfl, ha, hus, hl, hn, mv, q1, q2⟩ := h
    have hul : us.length = ms.length := by rw [hus.length, List.length_map]
    have hn1 : 1 ≤ n := by omega
    have hn2 : n ≤ 1000 := by omega
    refine ⟨_, (pss_cons
      (ps_for PassesOwn.never rfl (pi_enumK K rfl rfl B.enumerate (pa_cons (pv 0) pa_nil)) (pg_tupK K 2 rfl rfl (pgs_cons (pg_name (i := 1) nd rfl (Or.inl rfl)) (pgs_cons (pg_name (i := 2) nd rfl (Or.inl rfl)) pgs_nil)))
        (pss_one
          (ps_for PassesOwn.never rfl (pi_range1 rfl B.range (pa_cons (pv 1) pa_nil)) (pg_name (i := 3) nd rfl (Or.inl rfl))
            (pss_cons
              (ps_set (i := 4) nd rfl (Or.inl rfl) (pe_ix (ix_tupK K rfl) (pv 0) (pv 3) (fun _ _ => rfl)))
            (pss_cons
              (ps_set (i := 5) nd rfl (Or.inl rfl) (pe_or (pe_cmpR op_eq (pe_callB (len_K K rfl) (by rfl) B.len (by decide +kernel) (pa_cons (pv 2) pa_nil)) pe_int (nomark _)) (pe_one (pe_cmpR op_eq (pe_fn c_crossSum hr rfl (pa_cons (pv 2) (pa_cons (pv 4) pa_nil))) pe_int (nomark _)))))
            (pss_one
              (ps_if (PW.pt (pw_and (pt_val (pv 5)) (pw_and1 (pt_cmpR op_lt (pe_fn c_dot hr rfl (pa_cons (pv 2) (pa_cons (pv 4) pa_nil))) pe_int (nomark _)))))
                (pss_one
                  (ps_ret (pe_lst (pa_cons (pe_tup (pa_cons (pv 1) (pa_cons (pe_callB (max_K K rfl rfl) (by rfl) B.max (by decide +kernel) (pa_cons (pe_lc (own := [("item", 6)]) rfl nd (pi_tupK K rfl (pv 4)) (blkOk_by (by kernel_rfl)) (fun _ _ _ _ _ => (pg_name (i := 6) nd rfl (Or.inl rfl))) (fun _ _ _ _ _ => pts_nil) (fun _ _ _ _ _ => (pe_callB call_abs (by rfl) B.abs (by decide +kernel) (pa_cons (pv 6) pa_nil)))) pa_nil)) pa_nil))) (pa_cons (pe_tup (pa_cons (pv 3) (pa_cons (pe_callB (max_K K rfl rfl) (by rfl) B.max (by decide +kernel) (pa_cons (pe_lc (own := [("item", 6)]) rfl nd (pi_tupK K rfl (pv 2)) (blkOk_by (by kernel_rfl)) (fun _ _ _ _ _ => (pg_name (i := 6) nd rfl (Or.inl rfl))) (fun _ _ _ _ _ => pts_nil) (fun _ _ _ _ _ => (pe_callB call_abs (by rfl) B.abs (by decide +kernel) (pa_cons (pv 6) pa_nil)))) pa_nil)) pa_nil))) pa_nil)))))
                pss_nil)))))))
    (pss_one
      (ps_ret pe_non))), ?_⟩
    refine ⟨_, rfl, a, us, rfl, SqT.of ha, ?_⟩
    refine for_it (walk_enumT (xs := us)) (fun i σ H' => Same H H' ∧ (∀ (i' j : Nat) (one two : List Int), i' < i → j < i' → ms[i']? = some one → ms[j]? = some two → ¬ Opp n one two) ∧ ∃ y1 y2 y3 y4 y5, σ = [some (.ref a), y1, y2, y3, y4, y5, none])
      ⟨Same.refl _, fun i' _ _ _ h => absurd h (Nat.not_lt_zero _), _, _, _, _, _, rfl⟩ (fun i σ H' _ p => p.1.tup ha) (fun i x σ H2 H3 hi p hy => ?_) fun σ H2 p => ?_
    · obtain ⟨s2, hno, y1, y2, y3, y4, y5, rfl⟩ := p
      obtain ⟨T, x1, x2, rfl, hT, rfl, e1, e2⟩ := hy
      cases e1
      obtain ⟨ao, one, rfl, eo, hao⟩ := dts_vis hus e2
      have mvo := mv one (List.mem_of_getElem? eo)
      refine ⟨T, _, rfl, SqT.of upd_same, rfl, _, _, rfl, _, _, rfl, rfl, ?_⟩
      have sT : Same H (upd H2 T (.tup [.int (i : Nat), .ref ao])) := s2.trans (same_upd hT)
      generalize upd H2 T (.tup [.int (i : Nat), .ref ao]) = H3 at sT ⊢
      have hi1000 : i < 1000 := by omega
      refine ⟨_, rfl, (i : Nat), rfl, by omega, by omega, ?_⟩
      refine for_it (walk_range (lo := 0) (n := ((i : Nat) : Int).toNat)) (fun j σ H' => Same H H' ∧ (∀ (j' : Nat) (two : List Int), j' < j → ms[j']? = some two → ¬ Opp n one two) ∧ ∃ y3 y4 y5, σ = [some (.ref a), some (.int (i : Nat)), some (.ref ao), y3, y4, y5, none])
        ⟨sT, fun j' _ h => absurd h (Nat.not_lt_zero _), _, _, _, rfl⟩ (fun _ _ _ _ _ => trivial) (fun j x σ H4 H5 hj p hy => ?_) fun σ H4 p => ?_
      · obtain ⟨s4, hno2, y3, y4, y5, rfl⟩ := p
        obtain ⟨rfl, rfl⟩ := hy
        rw [Int.toNat_natCast] at hj
        have hjl : j < ms.length := by
          have := (List.getElem?_eq_some_iff.mp eo).1
          omega
        have et : ms[j]? = some ms[j] := List.getElem?_eq_getElem hjl
        have mvt := mv ms[j] (List.getElem_mem hjl)
        obtain ⟨vt, evt, dvt⟩ := hus.get (i := j) (d := vi ms[j]) (by rw [List.getElem?_map, et]; rfl)
        obtain ⟨at', rfl, hat⟩ := dvt.viI
        generalize ms[j] = two at et mvt hat
        refine ⟨_, rfl, _, rfl, a, _, _, .ref at', rfl, rfl, s4.tup ha, at_of (by omega) evt, ?_⟩
        have ha4 := s4 _ _ hao
        have ht4 := s4 _ _ hat
        dsimp only [gName, tSeq, tAsg]
        refine orV_ok (fun Q0 => ∀ (c : Bool) (H6 : Hp), Same H H6 → (c = true ↔ (n = 1 ∨ crossI one two = 0)) → Q0 (.bl c) H6) (fun Q0 hmain => ?_) ?_
        · refine ⟨_, rfl, ao, _, rfl, .inr (SqT.of ha4), rfl, _, rfl, ?_⟩
          rw [List.length_map, mvo.1]
          by_cases hn0 : n = 1
          · rw [decide_eq_true (show V.int (n : Nat) = V.int 1 by rw [hn0]; rfl)]
            exact iteT (hmain true H5 s4 (by simp [hn0]))
          · have hn3 : n = 2 := by omega
            rw [decide_eq_false (show ¬ V.int (n : Nat) = V.int 1 from fun z => hn0 (by have := V.int.inj z; omega))]
            refine iteF ⟨_, rfl, _, rfl, ao, at', one, two, rfl, ha4, ht4, hn3 ▸ mvo, hn3 ▸ mvt, fun H6 s6 => ⟨rfl, ?_⟩⟩
            exact hmain _ H6 (s4.trans s6) (by simp [hn0, decide_eq_true_iff])
        intro c H6 s6 hc
        refine ⟨_, rfl, _, rfl, ?_⟩
        have fin : ¬ Opp n one two → ∀ H7, Same H H7 → Same H H7 ∧ (∀ (j' : Nat) (two : List Int), j' < j + 1 → ms[j']? = some two → ¬ Opp n one two) ∧ ∃ z3 z4 z5, [some (V.ref a), some (.int (i : Nat)), some (.ref ao), some (.int (0 + (j : Nat))), some (.ref at'), some (.bl c), none] = [some (.ref a), some (.int (i : Nat)), some (.ref ao), z3, z4, z5, none] := fun hx H7 s7 =>
          ⟨s7, fun j' two' hj' e' => by
            by_cases ej : j' = j
            · subst ej
              rw [et] at e'
              cases e'
              exact hx
            · exact hno2 j' two' (by omega) e', _, _, _, rfl⟩
        cases c with
        | false =>
          refine iteF ?_
          exact fin (fun z => by have := hc.mpr z.1; cases this) H6 s6
        | true =>
          refine iteT ⟨_, rfl, _, rfl, ao, at', one, two, rfl, s6 _ _ hao, s6 _ _ hat, mvo.1.trans mvt.1.symm, by rw [mvo.1]; exact hn2, mvo.bd, fun H7 s7 => ⟨_, _, rfl, rfl, _, rfl, ?_⟩⟩
          have s8 := s6.trans s7
          by_cases cd : dotI one two < 0
          · rw [decide_eq_true cd]
            have hopp : Opp n one two := ⟨hc.mp rfl, cd⟩
            refine iteT ⟨_, rfl, ?_⟩
            dsimp only [tCons, tNil, tCB, tTup]
            refine max_abs (am := at') rfl (Nat.le_of_ble_eq_true rfl) (s8 _ _ hat) mvt hn1 hn2 fun H9 c1 s9 hm1 => ?_
            refine ⟨ll rfl, fun p1 hp1 => ?_⟩
            have s10 := s8.trans s9
            have s11 : Same H (upd H9 p1 (.tup [.int (i : Nat), .int c1])) := s10.trans (same_upd hp1)
            refine ⟨_, rfl, ?_⟩
            refine max_abs (am := ao) rfl (Nat.le_of_ble_eq_true rfl) (s11 _ _ hao) mvo hn1 hn2 fun H12 c2 s12 hm2 => ?_
            refine ⟨ll rfl, fun p2 hp2 => ⟨ll rfl, fun p3 hp3 => ?_⟩⟩
            have k1 := s12 _ _ (upd_same (H := H9) (a := p1) (o := .tup [.int (i : Nat), .int c1]))
            refine q1 i j one two c1 c2 p3 _ _ hj eo et hopp hm1 hm2 (fun b o e => upd_some hp3 (upd_some hp2 (s12 _ _ (s11 _ _ e)))) upd_same (.cons (dt_vi (upd_some hp3 (upd_some hp2 k1))) (.cons (dt_vi (upd_some hp3 ?_)) .nil))
            rw [upd_same]
            show some (HO.tup [V.int (0 + (j : Nat)), .int c2]) = some (HO.tup [V.int (j : Nat), .int c2])
            rw [Int.zero_add]
          · rw [decide_eq_false cd]
            refine iteF ?_
            exact fin (fun z => cd z.2) H7 s8
      · obtain ⟨s4, hno2, y3, y4, y5, rfl⟩ := p
        rw [Int.toNat_natCast] at hno2
        refine ⟨s4, fun i' j one' two hi' hj e1 e3 => ?_, _, _, _, _, _, rfl⟩
        by_cases ei : i' = i
        · subst ei
          rw [eo] at e1
          cases e1
          exact hno2 j two hj e3
        · exact hno i' j one' two (by omega) hj e1 e3
    · obtain ⟨s2, hno, y1, y2, y3, y4, y5, rfl⟩ := p
      refine q2 (fun i j one two hj e1 e3 => ?_) _ s2
      exact hno i j one two (by rw [hul]; exact (List.getElem?_eq_some_iff.mp e1).1) hj e1 e3
end
end Wb
namespace Wb
open PySem PySem.Spec PyProof.Rows L2

/-- the first vector lies within the turned round sector of two others -/
def Good (first one two : List Int) : Prop := (0 < crossI one two ∧ 0 < crossI two first ∧ 0 < crossI first one) ∨ (crossI one two < 0 ∧ crossI two first < 0 ∧ crossI first one < 0)
section
variable {P : Program} {w : World} {K : PySem.W.Frag} {mg : Str → Option Value} {base : Heap}
def spTripleWith : Sp := fun vs H Q _ => ∃ (a : Addr) (us : List V) (ms : List (List Int)) (first : List Int), vs = [.ref a] ∧ H a = some (.tup us) ∧ Dts H us (ms.map vi) ∧ ms.length ≤ 1000 ∧ (∀ m ∈ ms, Mv 2 m) ∧ ms[0]? = some first ∧
  (∃ (i j : Nat) (one two : List Int), j < i ∧ ms[i]? = some one ∧ ms[j]? = some two ∧ Good first one two) ∧
  (∀ (i j : Nat) (one two : List Int) (p : Addr) (ps : List V) (H' : Hp), j < i → ms[i]? = some one → ms[j]? = some two → Good first one two → Same H H' → H' p = some (.lst ps) →
    Dts H' ps ([(0, absI (crossI one two)), (i, absI (crossI two first)), (j, absI (crossI first one))].map pairD) → Q (.ref p) H')
theorem ok_tripleWith (F : Has K mg "triple_with" s_tripleWith ["moves"]) (B : Blt mg) (c_crossSum : Callee P w K mg base 1 "cross_sum" ["one", "other"] spCrossSum) :
    Callee P w K mg base 2 "triple_with" ["moves"] spTripleWith := by
  have nd := sc_tripleWith.nd
  refine callee_of F sc_tripleWith (fun vs H Q E h => ?_) (fun f cdv A outer s H vs Q E hr h => ?_)
  · obtain ⟨a, us, ms, first, rfl, _⟩ := h
    rfl
  · obtain ⟨a, us, ms, first, rfl, ha, hus, hl, mv, ef, hex, q1⟩ := h
    have hul : us.length = ms.length := by rw [hus.length, List.length_map]
    have mvf := mv first (List.mem_of_getElem? ef)
    obtain ⟨vf, evf, dvf⟩ := hus.get (i := 0) (d := vi first) (by rw [List.getElem?_map, ef]; rfl)
    obtain ⟨af, rfl, haf⟩ := dvf.viI
    refine ⟨_, (pss_cons
      (ps_set (i := 1) nd rfl (Or.inl rfl) (pe_ix (ix_tupK K rfl) (pv 0) pe_int (fun _ _ => rfl)))
    (pss_cons
      (ps_for PassesOwn.never rfl (pi_enumK K rfl rfl B.enumerate (pa_cons (pv 0) pa_nil)) (pg_tupK K 2 rfl rfl (pgs_cons (pg_name (i := 2) nd rfl (Or.inl rfl)) (pgs_cons (pg_name (i := 3) nd rfl (Or.inl rfl)) pgs_nil)))
        (pss_one
          (ps_for PassesOwn.never rfl (pi_range1 rfl B.range (pa_cons (pv 2) pa_nil)) (pg_name (i := 4) nd rfl (Or.inl rfl))
            (pss_cons
              (ps_set (i := 5) nd rfl (Or.inl rfl) (pe_ix (ix_tupK K rfl) (pv 0) (pv 4) (fun _ _ => rfl)))
            (pss_cons
              (ps_set (i := 6) nd rfl (Or.inl rfl) (pe_lst (pa_cons (pe_fn c_crossSum hr rfl (pa_cons (pv 3) (pa_cons (pv 5) pa_nil))) (pa_cons (pe_fn c_crossSum hr rfl (pa_cons (pv 5) (pa_cons (pv 1) pa_nil))) (pa_cons (pe_fn c_crossSum hr rfl (pa_cons (pv 1) (pa_cons (pv 3) pa_nil))) pa_nil)))))
            (pss_one
              (ps_if (PW.pt (pw_or (pt_val (pe_callB (all_K K rfl rfl) (by rfl) B.all (by decide +kernel) (pa_cons (pe_lc (own := [("part", 7)]) rfl nd (pi_listK K rfl (pv 6)) (blkOk_by (by kernel_rfl)) (fun _ _ _ _ _ => (pg_name (i := 7) nd rfl (Or.inl rfl))) (fun _ _ _ _ _ => pts_nil) (fun _ _ _ _ _ => (pe_cmpR op_gt (pv 7) pe_int (nomark _)))) pa_nil))) (pw_or1 (pt_val (pe_callB (all_K K rfl rfl) (by rfl) B.all (by decide +kernel) (pa_cons (pe_lc (own := [("part", 7)]) rfl nd (pi_listK K rfl (pv 6)) (blkOk_by (by kernel_rfl)) (fun _ _ _ _ _ => (pg_name (i := 7) nd rfl (Or.inl rfl))) (fun _ _ _ _ _ => pts_nil) (fun _ _ _ _ _ => (pe_cmpR op_lt (pv 7) pe_int (nomark _)))) pa_nil))))))
                (pss_one
                  (ps_ret (pe_lst (pa_cons (pe_tup (pa_cons pe_int (pa_cons (pe_callB call_abs (by rfl) B.abs (by decide +kernel) (pa_cons (pe_ix (ix_listK K rfl) (pv 6) pe_int (fun _ _ => rfl)) pa_nil)) pa_nil))) (pa_cons (pe_tup (pa_cons (pv 2) (pa_cons (pe_callB call_abs (by rfl) B.abs (by decide +kernel) (pa_cons (pe_ix (ix_listK K rfl) (pv 6) pe_int (fun _ _ => rfl)) pa_nil)) pa_nil))) (pa_cons (pe_tup (pa_cons (pv 4) (pa_cons (pe_callB call_abs (by rfl) B.abs (by decide +kernel) (pa_cons (pe_ix (ix_listK K rfl) (pv 6) pe_int (fun _ _ => rfl)) pa_nil)) pa_nil))) pa_nil))))))
                pss_nil)))))))
    (pss_one
      (ps_ret (pe_lst pa_nil))))), ?_⟩
    refine ⟨_, rfl, a, _, 0, .ref af, rfl, rfl, SqT.of ha, atI_nat (j := 0) evf, ?_⟩
    refine ⟨_, rfl, a, us, rfl, SqT.of ha, ?_⟩
    refine for_it (walk_enumT (xs := us)) (fun i σ H' => Same H H' ∧ (∀ (i' j : Nat) (one two : List Int), i' < i → j < i' → ms[i']? = some one → ms[j]? = some two → ¬ Good first one two) ∧ ∃ y2 y3 y4 y5 y6, σ = [some (.ref a), some (.ref af), y2, y3, y4, y5, y6, none])
      ⟨Same.refl _, fun i' _ _ _ h => absurd h (Nat.not_lt_zero _), _, _, _, _, _, rfl⟩ (fun i σ H' _ p => p.1.tup ha) (fun i x σ H2 H3 hi p hy => ?_) fun σ H2 p => ?_
    · obtain ⟨s2, hno, y2, y3, y4, y5, y6, rfl⟩ := p
      obtain ⟨T, x1, x2, rfl, hT, rfl, e1, e2⟩ := hy
      cases e1
      obtain ⟨ao, one, rfl, eo, hao⟩ := dts_vis hus e2
      have mvo := mv one (List.mem_of_getElem? eo)
      refine ⟨T, _, rfl, SqT.of upd_same, rfl, _, _, rfl, _, _, rfl, rfl, ?_⟩
      have sT : Same H (upd H2 T (.tup [.int (i : Nat), .ref ao])) := s2.trans (same_upd hT)
      generalize upd H2 T (.tup [.int (i : Nat), .ref ao]) = H3 at sT ⊢
      have hi1000 : i < 1000 := by omega
      refine ⟨_, rfl, (i : Nat), rfl, by omega, by omega, ?_⟩
      refine for_it (walk_range (lo := 0) (n := ((i : Nat) : Int).toNat)) (fun j σ H' => Same H H' ∧ (∀ (j' : Nat) (two : List Int), j' < j → ms[j']? = some two → ¬ Good first one two) ∧ ∃ y4 y5 y6, σ = [some (.ref a), some (.ref af), some (.int (i : Nat)), some (.ref ao), y4, y5, y6, none])
        ⟨sT, fun j' _ h => absurd h (Nat.not_lt_zero _), _, _, _, rfl⟩ (fun _ _ _ _ _ => trivial) (fun j x σ H4 H5 hj p hy => ?_) fun σ H4 p => ?_
      · obtain ⟨s4, hno2, y4, y5, y6, rfl⟩ := p
        obtain ⟨rfl, rfl⟩ := hy
        rw [Int.toNat_natCast] at hj
        have hjl : j < ms.length := by
          have := (List.getElem?_eq_some_iff.mp eo).1
          omega
        have et : ms[j]? = some ms[j] := List.getElem?_eq_getElem hjl
        have mvt := mv ms[j] (List.getElem_mem hjl)
        obtain ⟨vt, evt, dvt⟩ := hus.get (i := j) (d := vi ms[j]) (by rw [List.getElem?_map, et]; rfl)
        obtain ⟨at', rfl, hat⟩ := dvt.viI
        generalize ms[j] = two at et mvt hat
        refine ⟨_, rfl, _, rfl, a, _, _, .ref at', rfl, rfl, s4.tup ha, at_of (by omega) evt, ?_⟩
        refine ⟨_, rfl, _, rfl, ao, at', one, two, rfl, s4 _ _ hao, s4 _ _ hat, mvo, mvt, fun H6 s6 => ?_⟩
        have s6' := s4.trans s6
        refine ⟨_, rfl, _, rfl, at', af, two, first, rfl, s6' _ _ hat, s6' _ _ haf, mvt, mvf, fun H7 s7 => ?_⟩
        have s7' := s6'.trans s7
        refine ⟨_, rfl, _, rfl, af, ao, first, one, rfl, s7' _ _ haf, s7' _ _ hao, mvf, mvo, fun H8 s8 => ⟨ll rfl, fun l hl => ?_⟩⟩
        have s8' : Same H (upd H8 l (.lst [.int (crossI one two), .int (crossI two first), .int (crossI first one)])) := (s7'.trans s8).trans (same_upd hl)
        have hl9 : (upd H8 l (.lst [.int (crossI one two), .int (crossI two first), .int (crossI first one)])) l = some (.lst ([crossI one two, crossI two first, crossI first one].map V.int)) := upd_same
        generalize upd H8 l (.lst [.int (crossI one two), .int (crossI two first), .int (crossI first one)]) = H9 at s8' hl9 ⊢
        have fin : ¬ Good first one two → ∀ H7, Same H H7 → Same H H7 ∧ (∀ (j' : Nat) (two : List Int), j' < j + 1 → ms[j']? = some two → ¬ Good first one two) ∧ ∃ z3 z4 z5, [some (V.ref a), some (.ref af), some (.int (i : Nat)), some (.ref ao), some (.int (0 + (j : Nat))), some (.ref at'), some (.ref l), none] =
            [some (V.ref a), some (.ref af), some (.int (i : Nat)), some (.ref ao), z3, z4, z5, none] := fun hx H7 s7 =>
          ⟨s7, fun j' two' hj' e' => by
            by_cases ej : j' = j
            · subst ej
              rw [et] at e'
              cases e'
              exact hx
            · exact hno2 j' two' (by omega) e', _, _, _, rfl⟩
        have good : Good first one two → ∀ H10, Same H9 H10 → ∀ v, (∀ p ps H', Same H10 H' → H' p = some (.lst ps) → Dts H' ps ([(0, absI (crossI one two)), (i, absI (crossI two first)), (j, absI (crossI first one))].map pairD) → v = V.ref p → Q v H') := fun hg H10 s10 v p ps H' s' h1 h2 e => by
          rw [e]
          exact q1 i j one two p ps H' hj eo et hg (fun b o e => s' _ _ (s10 _ _ (s8' _ _ e))) h1 h2
        -- return [...]
        have ret : Good first one two → ∀ H10, Same H9 H10 → ∀ {R : VK}, R = Q → tLst (tCons (tTup (tCons (tC (.int 0)) (tCons (tCB (fun xs H Q => ∃ i, xs = [V.int i] ∧ Q (V.int (if i < 0 then -i else i)) H) (tCons (tOp (rIxL K) (tVar 6) (tC (.int 0))) tNil)) tNil)))
            (tCons (tTup (tCons (tVar 2) (tCons (tCB (fun xs H Q => ∃ i, xs = [V.int i] ∧ Q (V.int (if i < 0 then -i else i)) H) (tCons (tOp (rIxL K) (tVar 6) (tC (.int 1))) tNil)) tNil)))
            (tCons (tTup (tCons (tVar 4) (tCons (tCB (fun xs H Q => ∃ i, xs = [V.int i] ∧ Q (V.int (if i < 0 then -i else i)) H) (tCons (tOp (rIxL K) (tVar 6) (tC (.int 2))) tNil)) tNil))) tNil)))
            [some (V.ref a), some (.ref af), some (.int (i : Nat)), some (.ref ao), some (.int (0 + (j : Nat))), some (.ref at'), some (.ref l), none] H10 R := fun hg H10 s10 R eR => by
          subst eR
          have hl10 := s10 _ _ hl9
          refine ⟨_, rfl, l, _, 0, .int (crossI one two), rfl, rfl, SqL.of hl10, rfl, _, rfl, ll rfl, fun p1 hp1 => ?_⟩
          refine ⟨_, rfl, _, rfl, l, _, 1, .int (crossI two first), rfl, rfl, SqL.of (upd_some hp1 hl10), rfl, _, rfl, ll rfl, fun p2 hp2 => ?_⟩
          refine ⟨_, rfl, _, rfl, l, _, 2, .int (crossI first one), rfl, rfl, SqL.of (upd_some hp2 (upd_some hp1 hl10)), rfl, _, rfl, ll rfl, fun p3 hp3 => ⟨ll rfl, fun p4 hp4 => ?_⟩⟩
          refine q1 i j one two p4 _ _ hj eo et hg (fun b o e => upd_some hp4 (upd_some hp3 (upd_some hp2 (upd_some hp1 (s10 _ _ (s8' _ _ e)))))) upd_same (.cons (dt_vi (upd_some hp4 (upd_some hp3 (upd_some hp2 upd_same)))) (.cons (dt_vi (upd_some hp4 (upd_some hp3 upd_same))) (.cons (dt_vi (upd_some hp4 ?_)) .nil)))
          rw [upd_same]
          show some (HO.tup [V.int (0 + (j : Nat)), .int _]) = some (HO.tup [V.int (j : Nat), .int _])
          rw [Int.zero_add]
          rfl
        refine ⟨_, rfl, l, rfl, ⟨_, SqL.of hl9⟩, fun D hD => ?_⟩
        refine lc_bools (walk_list (xs := [crossI one two, crossI two first, crossI first one].map V.int)) (bAt [crossI one two, crossI two first, crossI first one] fun x => decide (0 < x)) hD (small1000 (Nat.le_of_ble_eq_true rfl)) (fun H' s => s.lst hl9) (fun i3 x3 H10 H11 k kn hi3 s10 hy3 hk => ?_) fun H10 s10 h10 => ?_
        · obtain ⟨rfl, ex3⟩ := hy3
          obtain ⟨u, g, rfl⟩ := map_int_at ex3
          have q := hk H11 (Same.refl _)
          rw [bAt_some g] at q
          exact ⟨rfl, _, rfl, _, _, rfl, rfl, q⟩
        refine ⟨D, _, rfl, SqL.of h10, _, rfl, ?_⟩
        rw [List.length_map, all_bAt]
        by_cases c1 : ([crossI one two, crossI two first, crossI first one].all fun x => decide (0 < x)) = true
        · rw [c1]
          have hg : Good first one two := by
            refine .inl ?_
            simpa using c1
          exact ret hg H10 s10 rfl
        · have c1' := c1
          rw [Bool.not_eq_true] at c1'
          rw [c1']
          refine iteF ⟨_, rfl, l, rfl, ⟨_, SqL.of (s10 _ _ hl9)⟩, fun D2 hD2 => ?_⟩
          refine lc_bools (walk_list (xs := [crossI one two, crossI two first, crossI first one].map V.int)) (bAt [crossI one two, crossI two first, crossI first one] fun x => decide (x < 0)) hD2 (small1000 (Nat.le_of_ble_eq_true rfl)) (fun H' s => (s10.trans s).lst hl9) (fun i3 x3 H12 H11 k kn hi3 s10 hy3 hk => ?_) fun H12 s12 h12 => ?_
          · obtain ⟨rfl, ex3⟩ := hy3
            obtain ⟨u, g, rfl⟩ := map_int_at ex3
            have q := hk H11 (Same.refl _)
            rw [bAt_some g] at q
            exact ⟨rfl, _, rfl, _, _, rfl, rfl, q⟩
          refine ⟨D2, _, rfl, SqL.of h12, _, rfl, ?_⟩
          rw [List.length_map, all_bAt]
          have s13 := s10.trans s12
          by_cases c2 : ([crossI one two, crossI two first, crossI first one].all fun x => decide (x < 0)) = true
          · rw [c2]
            have hg : Good first one two := by
              refine .inr ?_
              simpa using c2
            exact ret hg H12 s13 rfl
          · have c2' := c2
            rw [Bool.not_eq_true] at c2'
            rw [c2']
            refine iteF ?_
            refine fin (fun hg => ?_) H12 (s8'.trans s13)
            rcases hg with hg | hg
            · exact c1 (by simpa using hg)
            · exact c2 (by simpa using hg)
      · obtain ⟨s4, hno2, y4, y5, y6, rfl⟩ := p
        rw [Int.toNat_natCast] at hno2
        refine ⟨s4, fun i' j one' two hi' hj e1 e3 => ?_, _, _, _, _, _, rfl⟩
        by_cases ei : i' = i
        · subst ei
          rw [eo] at e1
          cases e1
          exact hno2 j two hj e3
        · exact hno i' j one' two (by omega) hj e1 e3
    · obtain ⟨s2, hno, y2, y3, y4, y5, y6, rfl⟩ := p
      obtain ⟨i, j, one, two, hj, e1, e3, hg⟩ := hex
      exact absurd hg (hno i j one two (by rw [hul]; exact (List.getElem?_eq_some_iff.mp e1).1) hj e1 e3)
end
end Wb
namespace Wb
open PySem PySem.Spec PyProof.Rows L2

/-! ### vectors of the plane, in plain numbers -/
theorem nn_of {a b : Int} (h : 0 < a) (q : 0 ≤ a * b) : 0 ≤ b := Int.not_lt.mp fun c => by
  have := Int.mul_neg_of_pos_of_neg h c
  omega
theorem pos_of {a b : Int} (h : 0 < a) (q : 0 < a * b) : 0 < b := Int.not_le.mp fun c => by
  have := Int.mul_nonpos_of_nonneg_of_nonpos (Int.le_of_lt h) c
  omega
theorem zero_of {a b : Int} (h : 0 < a) (q : a * b = 0) : b = 0 := by
  rcases Int.mul_eq_zero.mp q with e | e
  · omega
  · exact e
theorem sq_nn (a : Int) : 0 ≤ a * a := by
  rcases Int.le_total 0 a with h | h
  · exact Int.mul_nonneg h h
  · have := Int.mul_nonneg (show 0 ≤ -a by omega) (show 0 ≤ -a by omega)
    rw [Int.neg_mul_neg] at this
    exact this
theorem sq_pos {a : Int} (h : a ≠ 0) : 0 < a * a := by
  have h1 := sq_nn a
  have h2 : a * a ≠ 0 := fun e => by
    rcases Int.mul_eq_zero.mp e with e | e <;> exact h e
  omega
def dot2 (u v : List Int) : Int := u.getD 0 0 * v.getD 0 0 + u.getD 1 0 * v.getD 1 0
theorem dotI_two {u v : List Int} (hu : u.length = 2) (hv : v.length = 2) : dotI u v = dot2 u v := by
  match u, v, hu, hv with
  | [a, b], [c, d], _, _ =>
    show a * c + (b * d + 0) = a * c + b * d
    rw [Int.add_zero]
theorem dotI_one {u v : List Int} (hu : u.length = 1) (hv : v.length = 1) : dotI u v = u.getD 0 0 * v.getD 0 0 := by
  match u, v, hu, hv with
  | [a], [c], _, _ =>
    show a * c + 0 = a * c
    rw [Int.add_zero]
theorem plu (f u v w : List Int) : crossI f v * crossI u w = crossI f u * crossI v w + crossI f w * crossI u v := by
  unfold crossI
  generalize f.getD 0 0 = f0
  generalize f.getD 1 0 = f1
  generalize u.getD 0 0 = u0
  generalize u.getD 1 0 = u1
  generalize v.getD 0 0 = v0
  generalize v.getD 1 0 = v1
  generalize w.getD 0 0 = w0
  generalize w.getD 1 0 = w1
  grind
theorem nCross (f u w : List Int) : dot2 f f * crossI u w = dot2 f u * crossI f w - crossI f u * dot2 f w := by
  unfold crossI dot2
  generalize f.getD 0 0 = f0
  generalize f.getD 1 0 = f1
  generalize u.getD 0 0 = u0
  generalize u.getD 1 0 = u1
  generalize w.getD 0 0 = w0
  generalize w.getD 1 0 = w1
  grind
theorem nDot (f u w : List Int) : dot2 f f * dot2 u w = dot2 f u * dot2 f w + crossI f u * crossI f w := by
  unfold crossI dot2
  generalize f.getD 0 0 = f0
  generalize f.getD 1 0 = f1
  generalize u.getD 0 0 = u0
  generalize u.getD 1 0 = u1
  generalize w.getD 0 0 = w0
  generalize w.getD 1 0 = w1
  grind
theorem cross_anti (u v : List Int) : crossI u v = - crossI v u := by
  unfold crossI
  generalize u.getD 0 0 = u0
  generalize u.getD 1 0 = u1
  generalize v.getD 0 0 = v0
  generalize v.getD 1 0 = v1
  grind
theorem cross_self (u : List Int) : crossI u u = 0 := by
  unfold crossI
  grind
theorem dot2_comm (u v : List Int) : dot2 u v = dot2 v u := by
  unfold dot2
  grind
/-- not the zero vector -/
def Nz (u : List Int) : Prop := 0 < dot2 u u
theorem nz_of {u : List Int} (h : u.getD 0 0 ≠ 0 ∨ u.getD 1 0 ≠ 0) : Nz u := by
  unfold Nz dot2
  have h1 := sq_nn (u.getD 0 0)
  have h2 := sq_nn (u.getD 1 0)
  rcases h with h | h
  · have := sq_pos h
    omega
  · have := sq_pos h
    omega
/-- within the half plane of f: from its way on to the left, short of its back -/
def Hf (f m : List Int) : Prop := 0 < crossI f m ∨ (crossI f m = 0 ∧ 0 < dot2 f m)
theorem Hf.nn {f m : List Int} (h : Hf f m) : 0 ≤ crossI f m := by
  rcases h with h | h
  · omega
  · omega
theorem hf_tr {f u v w : List Int} (nf : Nz f) (hu : Hf f u) (hv : Hf f v) (hw : Hf f w) (h1 : 0 ≤ crossI u v) (h2 : 0 ≤ crossI v w) : 0 ≤ crossI u w := by
  rcases hv with c | ⟨c, d⟩
  · refine nn_of c ?_
    rw [plu]
    have := Int.mul_nonneg hu.nn h2
    have := Int.mul_nonneg hw.nn h1
    omega
  · have e := nCross f u v
    rw [c, Int.mul_zero] at e
    have p1 := Int.mul_nonneg (Int.le_of_lt nf) h1
    have p2 := Int.mul_nonneg hu.nn (Int.le_of_lt d)
    have p3 : dot2 f v * crossI f u = 0 := by rw [Int.mul_comm]; omega
    have e2 := zero_of d p3
    rcases hu with hu | ⟨_, hu⟩
    · omega
    refine nn_of nf ?_
    rw [nCross, e2, Int.zero_mul]
    have := Int.mul_nonneg (Int.le_of_lt hu) hw.nn
    omega
theorem hf_dot {f u v : List Int} (nf : Nz f) (hu : Hf f u) (hv : Hf f v) (h0 : crossI u v = 0) : 0 < dot2 u v := by
  refine pos_of nf ?_
  rw [nDot]
  have e := nCross f u v
  rw [h0, Int.mul_zero] at e
  rcases hu with c1 | ⟨c1, d1⟩
  · rcases hv with c2 | ⟨c2, d2⟩
    · refine pos_of c1 ?_
      have e2 : crossI f u * (dot2 f u * dot2 f v + crossI f u * crossI f v) = crossI f v * (dot2 f u * dot2 f u + crossI f u * crossI f u) := by
        generalize dot2 f u = a at e ⊢
        generalize crossI f u = b at e ⊢
        generalize dot2 f v = c at e ⊢
        generalize crossI f v = d at e ⊢
        grind
      rw [e2]
      refine Int.mul_pos c2 ?_
      have := sq_nn (dot2 f u)
      have := Int.mul_pos c1 c1
      omega
    · rw [c2, Int.mul_zero] at e
      have := Int.mul_pos c1 d2
      omega
  · rcases hv with c2 | ⟨c2, d2⟩
    · rw [c1, Int.zero_mul] at e
      have := Int.mul_pos d1 c2
      omega
    · rw [c1, Int.zero_mul]
      have := Int.mul_pos d1 d2
      omega
theorem before_iff {u v : List Int} (hu : u.length = 2) (hv : v.length = 2) : beforeI u v = true ↔ Hf u v := by
  unfold beforeI Hf
  rw [dotI_two hu hv]
  simp
theorem ext_of {α : Type} (R : α → α → Prop) : ∀ (l : List α), (∀ a ∈ l, ∀ b ∈ l, R a b ∨ R b a) → (∀ a ∈ l, ∀ b ∈ l, ∀ c ∈ l, R a b → R b c → R a c) → l ≠ [] → ∃ m ∈ l, ∀ x ∈ l, R x m
  | [], _, _, h => absurd rfl h
  | a :: r, tot, tr, _ => by
    by_cases hr : r = []
    · subst hr
      refine ⟨a, by simp, fun x hx => ?_⟩
      have e : x = a := by simpa using hx
      subst e
      rcases tot x (by simp) x (by simp) with h | h <;> exact h
    · obtain ⟨m, hm, hx⟩ := ext_of R r (fun a ha b hb => tot a (by simp [ha]) b (by simp [hb])) (fun a ha b hb c hc => tr a (by simp [ha]) b (by simp [hb]) c (by simp [hc])) hr
      rcases tot a (by simp) m (by simp [hm]) with h | h
      · refine ⟨m, by simp [hm], fun x hx' => ?_⟩
        rcases List.mem_cons.mp hx' with rfl | hx'
        · exact h
        · exact hx x hx'
      · refine ⟨a, by simp, fun x hx' => ?_⟩
        rcases List.mem_cons.mp hx' with rfl | hx'
        · rcases tot x (by simp) x (by simp) with h | h <;> exact h
        · exact tr x (by simp [hx']) m (by simp [hm]) a (by simp) (hx x hx') h
/-- vectors of the plane, none of them zero -/
def Vecs (ms : List (List Int)) : Prop := ∀ m ∈ ms, m.length = 2 ∧ Nz m
theorem mem_firsts {ms : List (List Int)} (V : Vecs ms) {f : List Int} : f ∈ firstsOf ms ↔ f ∈ ms ∧ ∀ m ∈ ms, Hf f m := by
  unfold firstsOf
  rw [List.mem_filter, List.all_eq_true]
  constructor
  · rintro ⟨h1, h2⟩
    exact ⟨h1, fun m hm => (before_iff (V f h1).1 (V m hm).1).mp (h2 m hm)⟩
  · rintro ⟨h1, h2⟩
    exact ⟨h1, fun m hm => (before_iff (V f h1).1 (V m hm).1).mpr (h2 m hm)⟩
theorem mem_lasts {ms : List (List Int)} (V : Vecs ms) {l : List Int} : l ∈ lastsOf ms ↔ l ∈ ms ∧ ∀ m ∈ ms, Hf m l := by
  unfold lastsOf
  rw [List.mem_filter, List.all_eq_true]
  constructor
  · rintro ⟨h1, h2⟩
    exact ⟨h1, fun m hm => (before_iff (V m hm).1 (V l h1).1).mp (h2 m hm)⟩
  · rintro ⟨h1, h2⟩
    exact ⟨h1, fun m hm => (before_iff (V m hm).1 (V l h1).1).mpr (h2 m hm)⟩
theorem hf_of_nn {f u v : List Int} (nf : Nz f) (hu : Hf f u) (hv : Hf f v) (h : 0 ≤ crossI u v) : Hf u v := by
  by_cases c : 0 < crossI u v
  · exact .inl c
  · have e : crossI u v = 0 := by omega
    exact .inr ⟨e, hf_dot nf hu hv e⟩
theorem lasts_of_firsts {ms : List (List Int)} (V : Vecs ms) (h : firstsOf ms ≠ []) : lastsOf ms ≠ [] := by
  obtain ⟨f, fr, e⟩ := List.exists_cons_of_ne_nil h
  obtain ⟨hf, hall⟩ := (mem_firsts V).mp (show f ∈ firstsOf ms by rw [e]; simp)
  have nf := (V f hf).2
  obtain ⟨l, hl, hx⟩ := ext_of (fun u v => 0 ≤ crossI u v) ms (fun a _ b _ => by
    have := cross_anti a b
    omega) (fun a ha b hb c hc h1 h2 => hf_tr nf (hall a ha) (hall b hb) (hall c hc) h1 h2) (List.ne_nil_of_mem hf)
  have : l ∈ lastsOf ms := (mem_lasts V).mpr ⟨hl, fun m hm => hf_of_nn nf (hall m hm) (hall l hl) (hx m hm)⟩
  exact List.ne_nil_of_mem this
theorem plane_right {ms : List (List Int)} (V : Vecs ms) {f l : List Int} (hf : f ∈ firstsOf ms) (hl : l ∈ lastsOf ms) {m : List Int} (hm : m ∈ ms) : 1 ≤ dotI (planeOrder f l) m := by
  obtain ⟨hf1, hf2⟩ := (mem_firsts V).mp hf
  obtain ⟨hl1, hl2⟩ := (mem_lasts V).mp hl
  have nf := (V f hf1).2
  have h1 := hf2 m hm
  have h2 := hl2 m hm
  unfold planeOrder
  by_cases c : crossI f l = 0
  · rw [if_pos c, dotI_two (V f hf1).1 (V m hm).1]
    have e := nCross f m l
    have p0 : 0 < dot2 f l := by
      rcases hf2 l hl1 with q | ⟨_, q⟩
      · omega
      · exact q
    have p1 := Int.mul_nonneg (Int.le_of_lt nf) h2.nn
    rw [e, c, Int.mul_zero] at p1
    have p2 := Int.mul_nonneg h1.nn (Int.le_of_lt p0)
    have p3 : dot2 f l * crossI f m = 0 := by rw [Int.mul_comm]; omega
    have p4 := zero_of p0 p3
    rcases h1 with q | ⟨_, q⟩
    · omega
    · omega
  · rw [if_neg c, dotI_two rfl (V m hm).1]
    have e : dot2 [l.getD 1 0 - f.getD 1 0, f.getD 0 0 - l.getD 0 0] m = crossI m l + crossI f m := by
      show (l.getD 1 0 - f.getD 1 0) * m.getD 0 0 + (f.getD 0 0 - l.getD 0 0) * m.getD 1 0 = _
      unfold crossI
      generalize l.getD 1 0 = l1
      generalize l.getD 0 0 = l0
      generalize f.getD 1 0 = f1
      generalize f.getD 0 0 = f0
      generalize m.getD 1 0 = m1
      generalize m.getD 0 0 = m0
      grind
    rw [e]
    have q1 := h1.nn
    have q2 := h2.nn
    by_cases z1 : crossI f m = 0
    · by_cases z2 : crossI m l = 0
      · exfalso
        have e2 := nCross f m l
        have d1 : 0 < dot2 f m := by
          rcases h1 with q | ⟨_, q⟩
          · omega
          · exact q
        rw [z1, z2, Int.zero_mul, Int.mul_zero] at e2
        exact c (zero_of d1 (by omega))
      · omega
    · omega
theorem good_swap {f u v : List Int} (h : Good f u v) : Good f v u := by
  unfold Good at h ⊢
  have h1 := cross_anti u v
  have h2 := cross_anti v f
  have h3 := cross_anti f u
  rcases h with h | h
  · exact .inr (by omega)
  · exact .inl (by omega)
/-- no first and no opposite pair: three that turn round -/
theorem triple_right {ms : List (List Int)} (V : Vecs ms) {f : List Int} (hf : f ∈ ms) (h0 : firstsOf ms = []) (hno : ∀ u ∈ ms, ∀ v ∈ ms, crossI u v = 0 → 0 ≤ dot2 u v) : ∃ u ∈ ms, ∃ v ∈ ms, Good f u v := by
  apply Classical.byContradiction
  intro hc
  have nof : ∀ x, x ∉ firstsOf ms := fun x => by rw [h0]; simp
  have dpos : ∀ u ∈ ms, ∀ v ∈ ms, crossI u v = 0 → 0 < dot2 u v := fun u hu v hv e => by
    have h1 := hno u hu v hv e
    have h2 := nDot u u v
    rw [cross_self, Int.zero_mul, Int.add_zero] at h2
    by_cases z : dot2 u v = 0
    · exfalso
      have h3 := nDot u v v
      rw [z, e, Int.zero_mul] at h3
      have := Int.mul_pos (V u hu).2 (V v hv).2
      omega
    · omega
  by_cases hR : ms.filter (fun m => decide (crossI f m < 0)) = []
  · refine nof f ((mem_firsts V).mpr ⟨hf, fun m hm => ?_⟩)
    have q : ¬ crossI f m < 0 := fun q => by
      have : m ∈ ms.filter (fun m => decide (crossI f m < 0)) := List.mem_filter.mpr ⟨hm, decide_eq_true q⟩
      rw [hR] at this
      simp at this
    by_cases z : crossI f m = 0
    · exact .inr ⟨z, dpos f hf m hm z⟩
    · exact .inl (by omega)
  · obtain ⟨r, hr, hx⟩ := ext_of (fun u v => 0 ≤ crossI v u) (ms.filter fun m => decide (crossI f m < 0)) (fun a _ b _ => by
      have := cross_anti a b
      omega) (fun a ha b hb c hc h1 h2 => by
      have ha' := of_decide_eq_true (List.mem_filter.mp ha).2
      have hb' := of_decide_eq_true (List.mem_filter.mp hb).2
      have hc' := of_decide_eq_true (List.mem_filter.mp hc).2
      have e := plu f c b a
      have p1 := Int.mul_nonneg (show 0 ≤ - crossI f c by omega) h1
      have p2 := Int.mul_nonneg (show 0 ≤ - crossI f a by omega) h2
      refine nn_of (show 0 < - crossI f b by omega) ?_
      rw [Int.neg_mul] at p1 p2 ⊢
      omega) hR
    have hrm := (List.mem_filter.mp hr).1
    have hrc := of_decide_eq_true (List.mem_filter.mp hr).2
    refine nof r ((mem_firsts V).mpr ⟨hrm, fun m hm => ?_⟩)
    have key : 0 ≤ crossI r m := by
      by_cases c1 : crossI f m < 0
      · exact hx m (List.mem_filter.mpr ⟨hm, decide_eq_true c1⟩)
      · by_cases c2 : crossI f m = 0
        · have d := dpos f hf m hm c2
          have e := nCross f r m
          rw [c2, Int.mul_zero] at e
          refine nn_of (V f hf).2 ?_
          rw [e]
          have := Int.mul_nonneg (show 0 ≤ - crossI f r by omega) (Int.le_of_lt d)
          rw [Int.neg_mul] at this
          omega
        · refine Int.not_lt.mp fun c3 => hc ⟨m, hm, r, hrm, .inl ⟨?_, ?_, by omega⟩⟩
          · have := cross_anti m r
            omega
          · have := cross_anti r f
            omega
    by_cases z : crossI r m = 0
    · exact .inr ⟨z, dpos r hrm m hm z⟩
    · exact .inl (by omega)
end Wb
namespace Wb
open PySem PySem.Spec PyProof.Rows L2

/-! ### which vectors the moves are -/
def InItems : List (Int × Int) → List Int → Prop
  | [], [] => True
  | p :: l, x :: m => x ∈ itemsOf p.1 p.2 ∧ InItems l m
  | _, _ => False
theorem mem_foldItems {m : List Int} : ∀ {l : List (Int × Int)} {rows : List (List Int)}, m ∈ l.foldl addItems rows ↔ ∃ r ∈ rows, ∃ t, m = r ++ t ∧ InItems l t
  | [], rows => by
    constructor
    · intro h
      exact ⟨m, h, [], by simp, trivial⟩
    · rintro ⟨r, hr, t, rfl, ht⟩
      cases t with
      | nil => simpa using hr
      | cons a t => exact ht.elim
  | p :: l, rows => by
    rw [List.foldl_cons, mem_foldItems (l := l)]
    constructor
    · rintro ⟨r, hr, t, rfl, ht⟩
      obtain ⟨row, h1, h2⟩ := List.mem_flatMap.mp hr
      obtain ⟨x, hx, rfl⟩ := List.mem_map.mp h2
      exact ⟨row, h1, x :: t, by simp, hx, ht⟩
    · rintro ⟨r, hr, t, rfl, ht⟩
      cases t with
      | nil => exact ht.elim
      | cons x t => exact ⟨r ++ [x], List.mem_flatMap.mpr ⟨r, hr, List.mem_map.mpr ⟨x, ht.1, rfl⟩⟩, t, by simp, ht.2⟩
theorem mem_stepRows {sides st m : List Int} : m ∈ stepRows sides st ↔ InItems (st.zip sides) m := by
  unfold stepRows
  rw [mem_foldItems]
  constructor
  · rintro ⟨r, hr, t, rfl, ht⟩
    have e : r = [] := by simpa using hr
    subst e
    exact ht
  · intro h
    exact ⟨[], by simp, m, rfl, h⟩
theorem mem_movesOf {steps : List (List Int)} {sides m : List Int} : m ∈ movesOf steps sides ↔ nzero m = true ∧ ∃ st ∈ steps, InItems (st.zip sides) m := by
  unfold movesOf
  rw [List.mem_filter, List.mem_mergeSort, moveKeys_mem]
  constructor
  · rintro ⟨⟨st, h1, h2⟩, h3⟩
    exact ⟨h3, st, h1, mem_stepRows.mp h2⟩
  · rintro ⟨h3, st, h1, h2⟩
    exact ⟨⟨st, h1, mem_stepRows.mpr h2⟩, h3⟩
/-- steps of small entries -/
def Sm (steps : List (List Int)) : Prop := ∀ st ∈ steps, ∀ x ∈ st, -1000 ≤ x ∧ x ≤ 1000
theorem itemsOf_small {x s y : Int} (hs : 1 ≤ s) (hx : -1000 ≤ x ∧ x ≤ 1000) (hy : y ∈ itemsOf x s) : -2000 ≤ y ∧ y ≤ 2000 := by
  have h1 : -1000 ≤ Int.fdiv x s ∧ Int.fdiv x s ≤ 1000 := by
    rw [Int.fdiv_eq_ediv_of_nonneg _ (by omega)]
    constructor
    · rw [Int.le_ediv_iff_mul_le (by omega)]
      have := Int.mul_le_mul_of_nonneg_left hs (show (0 : Int) ≤ 1000 by omega)
      omega
    · have h2 : x / s < 1001 := by
        rw [Int.ediv_lt_iff_lt_mul (by omega)]
        have := Int.mul_le_mul_of_nonneg_left hs (show (0 : Int) ≤ 1001 by omega)
        omega
      omega
  unfold itemsOf at hy
  split at hy
  · have e : y = Int.fdiv x s := by simpa using hy
    omega
  · have e : y = Int.fdiv x s ∨ y = Int.fdiv x s + 1 := by simpa using hy
    omega
theorem inItems_small : ∀ {st sides m : List Int}, (∀ s ∈ sides, 1 ≤ s ∧ s ≤ 1000) → (∀ x ∈ st, -1000 ≤ x ∧ x ≤ 1000) → InItems (st.zip sides) m → m.length = (st.zip sides).length ∧ ∀ x ∈ m, -2000 ≤ x ∧ x ≤ 2000
  | [], _, [], _, _, _ => ⟨rfl, fun _ h => nomatch h⟩
  | _ :: _, [], [], _, _, _ => ⟨rfl, fun _ h => nomatch h⟩
  | a :: st, s :: sides, x :: m, h1, h2, h => by
    obtain ⟨q1, q2⟩ := inItems_small (st := st) (sides := sides) (m := m) (fun s hs => h1 s (by simp [hs])) (fun x hx => h2 x (by simp [hx])) h.2
    refine ⟨by rw [List.zip_cons_cons, List.length_cons, List.length_cons, q1], fun y hy => ?_⟩
    rcases List.mem_cons.mp hy with rfl | hy
    · exact itemsOf_small (h1 s (by simp)).1 (h2 a (by simp)) h.1
    · exact q2 y hy
  | [], _, _ :: _, _, _, h => h.elim
  | _ :: _, [], _ :: _, _, _, h => h.elim
  | _ :: _, _ :: _, [], _, _, h => h.elim
theorem movesOf_mv {steps : List (List Int)} {sides : List Int} (ok : StepsOk steps sides) (sm : Sm steps) : ∀ m ∈ movesOf steps sides, Mv sides.length m := fun m hm => by
  obtain ⟨_, st, h1, h2⟩ := mem_movesOf.mp hm
  obtain ⟨q1, q2⟩ := inItems_small ok.2.2.2.1 (sm st h1) h2
  refine ⟨?_, q2⟩
  rw [q1, List.length_zip, (ok.2.2.2.2 st h1).1]
  omega
theorem movesOf_len {steps : List (List Int)} {sides : List Int} (ok : StepsOk steps sides) : (movesOf steps sides).length ≤ 72 := by
  unfold movesOf
  have h1 := moveKeys_len ok steps.length
  rw [List.take_length] at h1
  have h2 := List.length_filter_le nzero ((moveKeys steps sides).mergeSort leVi)
  rw [List.length_mergeSort] at h2
  unfold moveKeys at h2 ⊢
  omega
theorem nzero_nz {m : List Int} (h : nzero m = true) (hl : m.length = 2) : Nz m := by
  match m, hl with
  | [a, b], _ =>
    refine nz_of ?_
    have q : a ≠ 0 ∨ b ≠ 0 := by simpa [nzero] using h
    exact q
theorem movesOf_vecs {steps : List (List Int)} {sides : List Int} (ok : StepsOk steps sides) (sm : Sm steps) (h2 : sides.length = 2) : Vecs (movesOf steps sides) := fun m hm => by
  have := movesOf_mv ok sm m hm
  rw [h2] at this
  exact ⟨this.1, nzero_nz (mem_movesOf.mp hm).1 this.1⟩

/-! ### rings -/
theorem dotI_nil (xs : List Int) : dotI [] xs = 0 := rfl
theorem dotI_cons (a x : Int) (f xs : List Int) : dotI (a :: f) (x :: xs) = a * x + dotI f xs := rfl
theorem dotI_set : ∀ (f xs : List Int) (i : Nat) (v : Int), i < f.length → dotI (f.set i v) xs = dotI f xs + (v - f.getD i 0) * xs.getD i 0
  | [], _, _, _, h => absurd h (Nat.not_lt_zero _)
  | a :: f, [], i, v, h => by
    have e : ∀ l : List Int, dotI l [] = 0 := fun l => by cases l <;> rfl
    rw [e, e]
    simp
  | a :: f, x :: xs, 0, v, h => by
    rw [List.set_cons_zero, dotI_cons, dotI_cons]
    show v * x + dotI f xs = a * x + dotI f xs + (v - a) * x
    rw [Int.sub_mul]
    omega
  | a :: f, x :: xs, i + 1, v, h => by
    rw [List.set_cons_succ, dotI_cons, dotI_cons, dotI_set f xs i v (by simpa using h)]
    show a * x + (dotI f xs + (v - f.getD i 0) * xs.getD i 0) = a * x + dotI f xs + (v - f.getD i 0) * xs.getD i 0
    omega
theorem sum_set : ∀ (f : List Int) (i : Nat) (v : Int), i < f.length → (f.set i v).sum = f.sum + (v - f.getD i 0)
  | [], _, _, h => absurd h (Nat.not_lt_zero _)
  | a :: f, 0, v, h => by
    rw [List.set_cons_zero, List.sum_cons, List.sum_cons]
    show v + f.sum = a + f.sum + (v - a)
    omega
  | a :: f, i + 1, v, h => by
    rw [List.set_cons_succ, List.sum_cons, List.sum_cons, sum_set f i v (by simpa using h)]
    show a + (f.sum + (v - f.getD i 0)) = a + f.sum + (v - f.getD i 0)
    omega
/-- the pairs' counts, weighed -/
def wsum (g : Int) (xs : List Int) (pairs : List (Nat × Int)) : Int := (pairs.map fun p => Int.fdiv p.2 g * xs.getD p.1 0).sum
def gsum (g : Int) (pairs : List (Nat × Int)) : Int := (pairs.map fun p => Int.fdiv p.2 g).sum
theorem setAll_sums (g : Int) (xs : List Int) : ∀ (l : List (Nat × Int)) (f : List Int), (∀ p ∈ l, p.1 < f.length ∧ f.getD p.1 0 = 0) → (l.map (·.1)).Nodup →
    dotI (l.foldl (fun f p => f.set p.1 (Int.fdiv p.2 g)) f) xs = dotI f xs + wsum g xs l ∧ (l.foldl (fun f p => f.set p.1 (Int.fdiv p.2 g)) f).sum = f.sum + gsum g l
  | [], f, _, _ => by simp [wsum, gsum]
  | p :: l, f, h, nd => by
    rw [List.map_cons, List.nodup_cons] at nd
    have hp := h p (by simp)
    obtain ⟨q1, q2⟩ := setAll_sums g xs l (f.set p.1 (Int.fdiv p.2 g)) (fun r hr => by
      have hr' := h r (by simp [hr])
      refine ⟨by rw [List.length_set]; exact hr'.1, ?_⟩
      have hne : p.1 ≠ r.1 := fun e => nd.1 (List.mem_map.mpr ⟨r, hr, e.symm⟩)
      rw [List.getD_eq_getElem?_getD, List.getElem?_set_ne hne, ← List.getD_eq_getElem?_getD]
      exact hr'.2) nd.2
    rw [List.foldl_cons, q1, q2, dotI_set f xs _ _ hp.1, sum_set f _ _ hp.1, hp.2]
    unfold wsum gsum
    rw [List.map_cons, List.sum_cons, List.map_cons, List.sum_cons]
    constructor <;> simp <;> omega
theorem setAll_bd (g : Int) (hg : 0 < g) : ∀ (l : List (Nat × Int)) (f : List Int), (∀ p ∈ l, 0 ≤ p.2 ∧ p.2 ≤ 1000000000) → (∀ c ∈ f, 0 ≤ c ∧ c ≤ 1000000000) → ∀ c ∈ l.foldl (fun f p => f.set p.1 (Int.fdiv p.2 g)) f, 0 ≤ c ∧ c ≤ 1000000000
  | [], f, _, h2 => h2
  | p :: l, f, h1, h2 => by
    rw [List.foldl_cons]
    refine setAll_bd g hg l _ (fun r hr => h1 r (by simp [hr])) fun c hc => ?_
    rcases List.mem_or_eq_of_mem_set hc with h | h
    · exact h2 c h
    · subst h
      have hp := h1 p (by simp)
      rw [Int.fdiv_eq_ediv_of_nonneg _ (Int.le_of_lt hg)]
      refine ⟨Int.ediv_nonneg hp.1 (Int.le_of_lt hg), Int.le_trans (Int.ediv_le_self _ hp.1) hp.2⟩
/-- a ring of moves, as the law asks it -/
def RingOk (n : Nat) (ms : List (List Int)) (cs : List Int) : Prop := cs.length = ms.length ∧ (∀ c ∈ cs, 0 ≤ c ∧ c ≤ 1000000000) ∧ 1 < cs.sum ∧ ∀ ax, ax < n → dotI cs (ms.map fun m => m.getD ax 0) = 0
theorem map_getD (ms : List (List Int)) (ax i : Nat) : (ms.map fun m => m.getD ax 0).getD i 0 = (ms.getD i []).getD ax 0 := by
  rw [List.getD_eq_getElem?_getD, List.getElem?_map, List.getD_eq_getElem?_getD (l := ms)]
  cases ms[i]? with
  | none => rfl
  | some m => rfl
/-- the weighed sum of the pairs' moves at an axis, undivided -/
def rawSum (ms : List (List Int)) (ax : Nat) (pairs : List (Nat × Int)) : Int := (pairs.map fun p => p.2 * (ms.getD p.1 []).getD ax 0).sum
theorem wsum_raw {ms : List (List Int)} {ax : Nat} {g : Int} (hg : 0 < g) : ∀ {pairs : List (Nat × Int)}, (∀ p ∈ pairs, g ∣ p.2) → g * wsum g (ms.map fun m => m.getD ax 0) pairs = rawSum ms ax pairs
  | [], _ => by simp [wsum, rawSum]
  | p :: l, h => by
    have q := wsum_raw (ms := ms) (ax := ax) hg (pairs := l) fun r hr => h r (by simp [hr])
    unfold wsum rawSum at q ⊢
    rw [List.map_cons, List.sum_cons, List.map_cons, List.sum_cons, ← q, Int.mul_add, map_getD, ← Int.mul_assoc, Int.mul_fdiv_cancel' (h p (by simp))]
theorem gsum_ge {g : Int} (hg : 0 < g) : ∀ {pairs : List (Nat × Int)}, (∀ p ∈ pairs, g ∣ p.2 ∧ 0 < p.2) → (pairs.length : Int) ≤ gsum g pairs
  | [], _ => by simp [gsum]
  | p :: l, h => by
    have q := gsum_ge hg (pairs := l) fun r hr => h r (by simp [hr])
    have hp := h p (by simp)
    have h1 : 1 ≤ Int.fdiv p.2 g := by
      have e := Int.mul_fdiv_cancel' hp.1
      have : 0 < Int.fdiv p.2 g := pos_of hg (by rw [e]; exact hp.2)
      omega
    unfold gsum at q ⊢
    rw [List.map_cons, List.sum_cons, List.length_cons]
    omega
theorem ring_of {n : Nat} {ms : List (List Int)} {pairs : List (Nat × Int)} (nd : (pairs.map (·.1)).Nodup) (hl : 2 ≤ pairs.length) (hp : ∀ p ∈ pairs, p.1 < ms.length ∧ 0 < p.2 ∧ p.2 ≤ 1000000000) (h0 : ∀ ax, ax < n → rawSum ms ax pairs = 0) : RingOk n ms (countsOf ms.length pairs) := by
  match pairs, hl with
  | p0 :: l, hl =>
    have hg := (gOf_pos (pairs := p0 :: l) (p := p0) (by simp) (hp p0 (by simp)).2.1).1
    have key := fun xs => setAll_sums (gOf (p0 :: l)) xs (p0 :: l) (List.replicate ms.length 0) (fun p hp' => ⟨by rw [List.length_replicate]; exact (hp p hp').1, by
      rw [List.getD_eq_getElem?_getD, List.getElem?_replicate]
      split <;> rfl⟩) nd
    have hd0 : ∀ (k : Nat) (xs : List Int), dotI (List.replicate k 0) xs = 0 := fun k => by
      induction k with
      | zero => intro xs; rfl
      | succ k ih =>
        intro xs
        cases xs with
        | nil => rfl
        | cons x xs =>
          rw [List.replicate_succ, dotI_cons, ih, Int.zero_mul]
          rfl
    have hs0 : ∀ k : Nat, (List.replicate k (0 : Int)).sum = 0 := fun k => by
      induction k with
      | zero => rfl
      | succ k ih => rw [List.replicate_succ, List.sum_cons, ih]; rfl
    refine ⟨setAll_len _ _ _, ?_, ?_, fun ax hax => ?_⟩
    · refine setAll_bd _ hg (p0 :: l) _ (fun p hp' => ⟨Int.le_of_lt (hp p hp').2.1, (hp p hp').2.2⟩) fun c hc => ?_
      have e := (List.mem_replicate.mp hc).2
      omega
    · unfold countsOf setAll
      rw [(key []).2, hs0]
      have := gsum_ge hg (pairs := p0 :: l) fun p hp' => ⟨gOf_dvd hp', (hp p hp').2.1⟩
      omega
    · unfold countsOf setAll
      rw [(key _).1, hd0, Int.zero_add]
      have e := wsum_raw (ms := ms) (ax := ax) hg (pairs := p0 :: l) fun p hp' => gOf_dvd hp'
      rw [h0 ax hax] at e
      exact zero_of hg e

/-! ### opposite pairs, triples -/
theorem absI_nn (x : Int) : 0 ≤ absI x := by
  unfold absI
  split <;> omega
theorem absI_mul {n : Int} (h : 0 ≤ n) (x : Int) : absI (n * x) = n * absI x := by
  unfold absI
  by_cases c : x < 0
  · rw [if_pos c]
    by_cases c2 : n * x < 0
    · rw [if_pos c2, Int.mul_neg]
    · rw [if_neg c2]
      have := Int.mul_nonneg h (show 0 ≤ -x by omega)
      rw [Int.mul_neg] at this ⊢
      omega
  · rw [if_neg c]
    have := Int.mul_nonneg h (show 0 ≤ x by omega)
    rw [if_neg (by omega)]
theorem absI_neg (x : Int) : absI (-x) = absI x := by
  unfold absI
  split <;> split <;> omega
theorem getD_mem {m : List Int} {k : Nat} (h : k < m.length) : m.getD k 0 ∈ m := by
  rw [List.getD_eq_getElem?_getD, List.getElem?_eq_getElem h]
  exact List.getElem_mem h
theorem mem_getD {m : List Int} {x : Int} (h : x ∈ m) : ∃ k, k < m.length ∧ x = m.getD k 0 := by
  obtain ⟨k, hk, e⟩ := List.mem_iff_getElem.mp h
  exact ⟨k, hk, by rw [List.getD_eq_getElem?_getD, List.getElem?_eq_getElem hk]; exact e.symm⟩
/-- two vectors on one line, against each other -/
theorem line_sum {n : Nat} {one two : List Int} {c1 c2 N D : Int} (hN : 0 < N) (hD : D < 0) (h1 : one.length = n) (h2 : two.length = n) (h : ∀ k, k < n → N * two.getD k 0 = D * one.getD k 0) (m1 : MaxAbs two c1) (m2 : MaxAbs one c2) :
    ∀ k, k < n → c1 * one.getD k 0 + c2 * two.getD k 0 = 0 := by
  have ab : ∀ k, k < n → N * absI (two.getD k 0) = -D * absI (one.getD k 0) := fun k hk => by
    rw [← absI_mul (Int.le_of_lt hN), h k hk, ← absI_mul (by omega), Int.neg_mul, absI_neg]
  have e : N * c1 = -D * c2 := by
    refine Int.le_antisymm ?_ ?_
    · obtain ⟨x, hx, rfl⟩ := m1.1
      obtain ⟨k, hk, rfl⟩ := mem_getD hx
      rw [ab k (by omega)]
      exact Int.mul_le_mul_of_nonneg_left (m2.2 _ (getD_mem (by omega))) (by omega)
    · obtain ⟨x, hx, rfl⟩ := m2.1
      obtain ⟨k, hk, rfl⟩ := mem_getD hx
      rw [← ab k (by omega)]
      exact Int.mul_le_mul_of_nonneg_left (m1.2 _ (getD_mem (by omega))) (by omega)
  intro k hk
  refine zero_of hN ?_
  have hk' := h k hk
  generalize one.getD k 0 = a at hk' ⊢
  generalize two.getD k 0 = b at hk' ⊢
  grind
theorem max_pos {n : Nat} {one two : List Int} {c : Int} (m : MaxAbs two c) (h : ∃ x ∈ two, x ≠ 0) : 0 < c := by
  obtain ⟨x, hx, hz⟩ := h
  have h1 := m.2 x hx
  have h2 : 0 < absI x := by
    unfold absI
    split <;> omega
  omega
theorem max_le {n : Nat} {two : List Int} {c : Int} (m : MaxAbs two c) (mv : Mv n two) : c ≤ 2000 := by
  obtain ⟨x, hx, rfl⟩ := m.1
  have := mv.2 x hx
  unfold absI
  split <;> omega
theorem opp_ring {n : Nat} {ms : List (List Int)} (hn : n = 1 ∨ n = 2) (mv : ∀ m ∈ ms, Mv n m) {i j : Nat} {one two : List Int} {c1 c2 : Int} (hij : j < i) (e1 : ms[i]? = some one) (e2 : ms[j]? = some two) (ho : Opp n one two) (m1 : MaxAbs two c1) (m2 : MaxAbs one c2) :
    RingOk n ms (countsOf ms.length [(i, c1), (j, c2)]) ∧ ∀ p ∈ [(i, c1), (j, c2)], p.1 < ms.length ∧ 0 < p.2 ∧ p.2 ≤ 1000000000 := by
  have v1 := mv one (List.mem_of_getElem? e1)
  have v2 := mv two (List.mem_of_getElem? e2)
  have hex : (∃ x ∈ one, x ≠ 0) ∧ ∃ x ∈ two, x ≠ 0 := by
    obtain ⟨_, hd⟩ := ho
    refine ⟨Classical.byContradiction fun hc => ?_, Classical.byContradiction fun hc => ?_⟩
    · have hz : ∀ (u v : List Int), (∀ x ∈ u, x = 0) → dotI u v = 0 := fun u => by
        induction u with
        | nil => intro v _; rfl
        | cons a u ih =>
          intro v hu
          cases v with
          | nil => rfl
          | cons b v => rw [dotI_cons, ih v fun x hx => hu x (by simp [hx]), hu a (by simp)]; simp
      have := hz one two fun x hx => Classical.byContradiction fun q => hc ⟨x, hx, q⟩
      omega
    · have hz : ∀ (u v : List Int), (∀ x ∈ v, x = 0) → dotI u v = 0 := fun u => by
        induction u with
        | nil => intro v _; rfl
        | cons a u ih =>
          intro v hu
          cases v with
          | nil => rfl
          | cons b v => rw [dotI_cons, ih v fun x hx => hu x (by simp [hx]), hu b (by simp)]; simp
      have := hz one two fun x hx => Classical.byContradiction fun q => hc ⟨x, hx, q⟩
      omega
  have p1 : 0 < c1 := max_pos (n := n) (one := one) m1 hex.2
  have p2 : 0 < c2 := max_pos (n := n) (one := two) m2 hex.1
  have hp : ∀ p ∈ [(i, c1), (j, c2)], p.1 < ms.length ∧ 0 < p.2 ∧ p.2 ≤ 1000000000 := fun p hp => by
    have l1 := max_le m1 v2
    have l2 := max_le m2 v1
    have i1 := (List.getElem?_eq_some_iff.mp e1).1
    rcases (show p = (i, c1) ∨ p = (j, c2) by simpa using hp) with rfl | rfl
    · exact ⟨i1, p1, by show c1 ≤ _; omega⟩
    · exact ⟨by show j < _; omega, p2, by show c2 ≤ _; omega⟩
  refine ⟨ring_of (by simp; omega) (Nat.le_refl 2) hp fun ax hax => ?_, hp⟩
  have lin : ∃ N D : Int, 0 < N ∧ D < 0 ∧ ∀ k, k < n → N * two.getD k 0 = D * one.getD k 0 := by
    obtain ⟨hl, hd⟩ := ho
    rcases hn with rfl | rfl
    · rw [dotI_one v1.1 v2.1] at hd
      refine ⟨one.getD 0 0 * one.getD 0 0, one.getD 0 0 * two.getD 0 0, sq_pos fun z => ?_, hd, fun k hk => ?_⟩
      · rw [z, Int.zero_mul] at hd
        omega
      · have e : k = 0 := by omega
        subst e
        generalize one.getD 0 0 = a
        generalize two.getD 0 0 = b
        grind
    · have hc : crossI one two = 0 := by
        rcases hl with q | q
        · omega
        · exact q
      rw [dotI_two v1.1 v2.1] at hd
      have nz : Nz one := by
        refine nz_of (Classical.byContradiction fun q => ?_)
        have z0 : one.getD 0 0 = 0 := Classical.byContradiction fun z => q (.inl z)
        have z1 : one.getD 1 0 = 0 := Classical.byContradiction fun z => q (.inr z)
        unfold dot2 at hd
        rw [z0, z1, Int.zero_mul, Int.zero_mul] at hd
        omega
      refine ⟨dot2 one one, dot2 one two, nz, hd, fun k hk => ?_⟩
      unfold crossI at hc
      unfold dot2
      rcases (show k = 0 ∨ k = 1 by omega) with rfl | rfl
      · generalize one.getD 0 0 = a at hc ⊢
        generalize one.getD 1 0 = b at hc ⊢
        generalize two.getD 0 0 = c at hc ⊢
        generalize two.getD 1 0 = d at hc ⊢
        grind
      · generalize one.getD 0 0 = a at hc ⊢
        generalize one.getD 1 0 = b at hc ⊢
        generalize two.getD 0 0 = c at hc ⊢
        generalize two.getD 1 0 = d at hc ⊢
        grind
  obtain ⟨N, D, hN, hD, hk⟩ := lin
  have q := line_sum hN hD v1.1 v2.1 hk m1 m2 ax hax
  have g1 : ms.getD i [] = one := by rw [List.getD_eq_getElem?_getD, e1]; rfl
  have g2 : ms.getD j [] = two := by rw [List.getD_eq_getElem?_getD, e2]; rfl
  show c1 * (ms.getD i []).getD ax 0 + (c2 * (ms.getD j []).getD ax 0 + 0) = 0
  rw [g1, g2]
  omega
theorem cross_le {u v : List Int} (hu : Mv 2 u) (hv : Mv 2 v) : -100000000 ≤ crossI u v ∧ crossI u v ≤ 100000000 := by
  obtain ⟨a, b, rfl, ha, hb⟩ := hu.two
  obtain ⟨c, d, rfl, hc, hd⟩ := hv.two
  have bd : ∀ x y : Int, (-2000 ≤ x ∧ x ≤ 2000) → (-2000 ≤ y ∧ y ≤ 2000) → -4000000 ≤ x * y ∧ x * y ≤ 4000000 := fun x y hx hy => by
    have h1 := Int.mul_nonneg (show 0 ≤ x + 2000 by omega) (show 0 ≤ y + 2000 by omega)
    have h2 := Int.mul_nonneg (show 0 ≤ 2000 - x by omega) (show 0 ≤ 2000 - y by omega)
    have h3 := Int.mul_nonneg (show 0 ≤ x + 2000 by omega) (show 0 ≤ 2000 - y by omega)
    have h4 := Int.mul_nonneg (show 0 ≤ 2000 - x by omega) (show 0 ≤ y + 2000 by omega)
    simp only [Int.mul_add, Int.add_mul, Int.mul_sub, Int.sub_mul] at h1 h2 h3 h4
    omega
  show -100000000 ≤ a * d - b * c ∧ a * d - b * c ≤ 100000000
  have := bd a d ha hd
  have := bd b c hb hc
  omega
theorem good_ring {ms : List (List Int)} (mv : ∀ m ∈ ms, Mv 2 m) {i j : Nat} {first one two : List Int} (hij : j < i) (e0 : ms[0]? = some first) (e1 : ms[i]? = some one) (e2 : ms[j]? = some two) (hg : Good first one two) :
    RingOk 2 ms (countsOf ms.length [(0, absI (crossI one two)), (i, absI (crossI two first)), (j, absI (crossI first one))]) ∧
    ∀ p ∈ [(0, absI (crossI one two)), (i, absI (crossI two first)), (j, absI (crossI first one))], p.1 < ms.length ∧ 0 < p.2 ∧ p.2 ≤ 1000000000 := by
  have v0 := mv first (List.mem_of_getElem? e0)
  have v1 := mv one (List.mem_of_getElem? e1)
  have v2 := mv two (List.mem_of_getElem? e2)
  have hj : j ≠ 0 := fun z => by
    subst z
    rw [e0] at e2
    cases e2
    unfold Good at hg
    rw [cross_self] at hg
    omega
  have i1 := (List.getElem?_eq_some_iff.mp e1).1
  have b1 := cross_le v1 v2
  have b2 := cross_le v2 v0
  have b3 := cross_le v0 v1
  have pl : ∀ x : Int, (-100000000 ≤ x ∧ x ≤ 100000000) → x ≠ 0 → 0 < absI x ∧ absI x ≤ 1000000000 := fun x h1 h2 => by
    unfold absI
    split <;> omega
  have nz : crossI one two ≠ 0 ∧ crossI two first ≠ 0 ∧ crossI first one ≠ 0 := by
    unfold Good at hg
    omega
  have hp : ∀ p ∈ [(0, absI (crossI one two)), (i, absI (crossI two first)), (j, absI (crossI first one))], p.1 < ms.length ∧ 0 < p.2 ∧ p.2 ≤ 1000000000 := fun p hp => by
    rcases (show p = (0, absI (crossI one two)) ∨ p = (i, absI (crossI two first)) ∨ p = (j, absI (crossI first one)) by simpa using hp) with rfl | rfl | rfl
    · exact ⟨by show 0 < _; omega, pl _ b1 nz.1⟩
    · exact ⟨i1, pl _ b2 nz.2.1⟩
    · exact ⟨by show j < _; omega, pl _ b3 nz.2.2⟩
  refine ⟨ring_of (by simp; omega) (Nat.le_of_ble_eq_true rfl) hp fun ax hax => ?_, hp⟩
  have g0 : ms.getD 0 [] = first := by rw [List.getD_eq_getElem?_getD, e0]; rfl
  have g1 : ms.getD i [] = one := by rw [List.getD_eq_getElem?_getD, e1]; rfl
  have g2 : ms.getD j [] = two := by rw [List.getD_eq_getElem?_getD, e2]; rfl
  show absI (crossI one two) * (ms.getD 0 []).getD ax 0 + (absI (crossI two first) * (ms.getD i []).getD ax 0 + (absI (crossI first one) * (ms.getD j []).getD ax 0 + 0)) = 0
  rw [g0, g1, g2]
  have idn : crossI one two * first.getD ax 0 + (crossI two first * one.getD ax 0 + crossI first one * two.getD ax 0) = 0 := by
    unfold crossI
    rcases (show ax = 0 ∨ ax = 1 by omega) with rfl | rfl
    · generalize first.getD 0 0 = a
      generalize first.getD 1 0 = b
      generalize one.getD 0 0 = c
      generalize one.getD 1 0 = d
      generalize two.getD 0 0 = e
      generalize two.getD 1 0 = f
      grind
    · generalize first.getD 0 0 = a
      generalize first.getD 1 0 = b
      generalize one.getD 0 0 = c
      generalize one.getD 1 0 = d
      generalize two.getD 0 0 = e
      generalize two.getD 1 0 = f
      grind
  have ap : ∀ x : Int, 0 < x → absI x = x := fun x h => by unfold absI; rw [if_neg (by omega)]
  have an : ∀ x : Int, x < 0 → absI x = -x := fun x h => by unfold absI; rw [if_pos h]
  rcases hg with ⟨q1, q2, q3⟩ | ⟨q1, q2, q3⟩
  · rw [ap _ q1, ap _ q2, ap _ q3]
    omega
  · rw [an _ q1, an _ q2, an _ q3, Int.neg_mul, Int.neg_mul, Int.neg_mul]
    omega
end Wb
namespace Wb
open PySem PySem.Spec PyProof.Rows L2

theorem vis_len {H : Hp} {us : List V} {ms : List (List Int)} (h : Dts H us (ms.map vi)) : us.length = ms.length := by rw [h.length, List.length_map]
theorem moves_nil {steps : List (List Int)} {sides : List Int} (h : (movesOf steps sides).isEmpty = true) : ∀ m, m ∉ movesOf steps sides := fun m hm => by
  rw [List.isEmpty_iff.mp h] at hm
  simp at hm
theorem row_right {ms : List (List Int)} (mv : ∀ m ∈ ms, Mv 1 m) {h : List Int} (e : orderRow ms = some h) : h.length = 1 ∧ Bd h ∧ ∀ m ∈ ms, 1 ≤ dotI h m := by
  unfold orderRow at e
  split at e
  · rename_i c
    cases e
    refine ⟨rfl, fun x hx => ?_, fun m hm => ?_⟩
    · have : x = 1 := by simpa using hx
      omega
    · have q := of_decide_eq_true (List.all_eq_true.mp c m hm)
      rw [dotI_one rfl (mv m hm).1]
      show 1 ≤ 1 * _
      omega
  · split at e
    · rename_i c
      cases e
      refine ⟨rfl, fun x hx => ?_, fun m hm => ?_⟩
      · have : x = -1 := by simpa using hx
        omega
      · have q := of_decide_eq_true (List.all_eq_true.mp c m hm)
        rw [dotI_one rfl (mv m hm).1]
        show 1 ≤ -1 * _
        omega
    · cases e
theorem idx_two {α : Type} {ms : List α} {u v : α} (hu : u ∈ ms) (hv : v ∈ ms) (hne : u ≠ v) : ∃ i j : Nat, ms[i]? = some u ∧ ms[j]? = some v ∧ i ≠ j := by
  obtain ⟨i, hi, e1⟩ := List.mem_iff_getElem.mp hu
  obtain ⟨j, hj, e2⟩ := List.mem_iff_getElem.mp hv
  refine ⟨i, j, by rw [List.getElem?_eq_getElem hi, e1], by rw [List.getElem?_eq_getElem hj, e2], fun e => hne ?_⟩
  subst e
  rw [← e1, e2]
theorem row_opp {ms : List (List Int)} (mv : ∀ m ∈ ms, Mv 1 m) (nz : ∀ m ∈ ms, nzero m = true) (e : orderRow ms = none) : ∃ (i j : Nat) (one two : List Int), j < i ∧ ms[i]? = some one ∧ ms[j]? = some two ∧ Opp 1 one two := by
  unfold orderRow at e
  split at e
  · cases e
  · rename_i c1
    split at e
    · cases e
    · rename_i c2
      have z : ∀ m ∈ ms, m.getD 0 0 ≠ 0 := fun m hm => by
        obtain ⟨x, rfl, _⟩ := (mv m hm).one
        simpa [nzero] using nz _ hm
      have h1 : ∃ u ∈ ms, u.getD 0 0 < 0 := Classical.byContradiction fun q => c1 (List.all_eq_true.mpr fun m hm => decide_eq_true (by
        have := z m hm
        have : ¬ m.getD 0 0 < 0 := fun h => q ⟨m, hm, h⟩
        omega))
      have h2 : ∃ u ∈ ms, 0 < u.getD 0 0 := Classical.byContradiction fun q => c2 (List.all_eq_true.mpr fun m hm => decide_eq_true (by
        have := z m hm
        have : ¬ 0 < m.getD 0 0 := fun h => q ⟨m, hm, h⟩
        omega))
      obtain ⟨u, hu, pu⟩ := h1
      obtain ⟨v, hv, pv⟩ := h2
      have d1 : dotI u v < 0 := by
        rw [dotI_one (mv u hu).1 (mv v hv).1]
        exact Int.mul_neg_of_neg_of_pos pu pv
      have d2 : dotI v u < 0 := by
        rw [dotI_one (mv v hv).1 (mv u hu).1]
        exact Int.mul_neg_of_pos_of_neg pv pu
      obtain ⟨i, j, e1, e2, hne⟩ := idx_two hu hv (fun e => by subst e; omega)
      by_cases c : j < i
      · exact ⟨i, j, u, v, c, e1, e2, .inl rfl, d1⟩
      · exact ⟨j, i, v, u, by omega, e2, e1, .inl rfl, d2⟩
theorem plane_good {ms : List (List Int)} (V : Vecs ms) (hno : ∀ (i j : Nat) (one two : List Int), j < i → ms[i]? = some one → ms[j]? = some two → ¬ Opp 2 one two) (h0 : firstsOf ms = []) {first : List Int} (ef : ms[0]? = some first) :
    ∃ (i j : Nat) (one two : List Int), j < i ∧ ms[i]? = some one ∧ ms[j]? = some two ∧ Good first one two := by
  obtain ⟨u, hu, v, hv, hg⟩ := triple_right V (List.mem_of_getElem? ef) h0 fun u hu v hv c => Int.not_lt.mp fun d => by
    by_cases e : u = v
    · subst e
      have := (V u hu).2
      unfold Nz at this
      omega
    · obtain ⟨i, j, e1, e2, hne⟩ := idx_two hu hv e
      by_cases c2 : j < i
      · exact hno i j u v c2 e1 e2 ⟨.inr c, by rw [dotI_two (V u hu).1 (V v hv).1]; exact d⟩
      · refine hno j i v u (by omega) e2 e1 ⟨.inr ?_, by rw [dotI_two (V v hv).1 (V u hu).1, dot2_comm]; exact d⟩
        rw [cross_anti, c]
        rfl
  obtain ⟨i, j, e1, e2, hne⟩ := idx_two hu hv (fun e => by
    subst e
    unfold Good at hg
    rw [cross_self] at hg
    omega)
  by_cases c : j < i
  · exact ⟨i, j, u, v, c, e1, e2, hg⟩
  · exact ⟨j, i, v, u, by omega, e2, e1, good_swap hg⟩
theorem plane_bd {f l : List Int} (hf : Mv 2 f) (hl : Mv 2 l) : (planeOrder f l).length = 2 ∧ Bd (planeOrder f l) := by
  unfold planeOrder
  split
  · exact ⟨hf.1, hf.bd⟩
  · obtain ⟨a, b, rfl, ha, hb⟩ := hf.two
    obtain ⟨c, d, rfl, hc, hd⟩ := hl.two
    refine ⟨rfl, fun x hx => ?_⟩
    have : x = d - b ∨ x = a - c := by simpa using hx
    omega
theorem zeros_flat : ∀ n : Nat, (List.replicate n [V.int 0]).flatten = (List.replicate n (0 : Int)).map V.int
  | 0 => rfl
  | n + 1 => by
    rw [List.replicate_succ, List.flatten_cons, zeros_flat n, List.replicate_succ]
    rfl
section
variable {P : Program} {w : World} {K : PySem.W.Frag} {mg : Str → Option Value} {base : Heap}
theorem ifE_ok {tt : TT} {ta tb : TE} {σ : L2.St} {H : Hp} {Q : VK} (P : VK → Prop) (h : ∀ Q0 : VK, P Q0 → tIf tt ta tb σ H Q0) (hp : P Q) : tIf tt ta tb σ H Q := h Q hp
def spFindOrder : Sp := fun vs H Q _ => ∃ (a b : Addr) (us : List V) (steps : List (List Int)) (sides : List Int), vs = [.ref a, .ref b] ∧ H a = some (.tup us) ∧ Dts H us (steps.map vi) ∧ H b = some (.tup (sides.map V.int)) ∧ StepsOk steps sides ∧ Sm steps ∧
  (∀ (h : List Int) (p q : Addr) (H' : Hp), h.length = sides.length → Bd h → (∀ m ∈ movesOf steps sides, 1 ≤ dotI h m) → Same H H' → H' q = some (.tup (h.map V.int)) → H' p = some (.tup [.str "order", .ref q]) → Q (.ref p) H') ∧
  (∀ (cs : List Int) (p q : Addr) (H' : Hp), RingOk sides.length (movesOf steps sides) cs → Same H H' → H' q = some (.tup (cs.map V.int)) → H' p = some (.tup [.str "ring", .ref q]) → Q (.ref p) H')
theorem ok_findOrder (F : Has K mg "find_order" s_findOrder ["steps", "sides"]) (B : Blt mg) (C : Consts mg) (c_movesOf : Callee P w K mg base 2 "moves_of" ["steps", "sides"] spMovesOf) (c_orderOnRow : Callee P w K mg base 1 "order_on_row" ["moves"] spOrderOnRow)
    (c_orderInPlane : Callee P w K mg base 3 "order_in_plane" ["moves"] spOrderInPlane) (c_oppositePair : Callee P w K mg base 2 "opposite_pair" ["moves"] spOppositePair) (c_countsFor : Callee P w K mg base 2 "counts_for" ["moves", "pairs"] spCountsFor)
    (c_tripleWith : Callee P w K mg base 2 "triple_with" ["moves"] spTripleWith) : Callee P w K mg base 4 "find_order" ["steps", "sides"] spFindOrder := by
  have nd := sc_findOrder.nd
  refine callee_of F sc_findOrder (fun vs H Q E h => ?_) (fun f cdv A outer s H vs Q E hr h => ?_)
  · obtain ⟨a, b, us, steps, sides, rfl, _⟩ := h
    rfl
  · obtain ⟨a, b, us, steps, sides, rfl, ha, hus, hb, ok, sm, q1, q2⟩ := h
    have c_movesOf := c_movesOf.mono (show 2 ≤ 3 by decide)
    have c_orderOnRow := c_orderOnRow.mono (show 1 ≤ 3 by decide)
    have c_oppositePair := c_oppositePair.mono (show 2 ≤ 3 by decide)
    have c_countsFor := c_countsFor.mono (show 2 ≤ 3 by decide)
    have c_tripleWith := c_tripleWith.mono (show 2 ≤ 3 by decide)
    refine ⟨_, (pss_cons
      (ps_set (i := 2) nd rfl (Or.inl rfl) (pe_fn c_movesOf hr rfl (pa_cons (pv 0) (pa_cons (pv 1) pa_nil))))
    (pss_cons
      (ps_if (pt_cmpR (op_eqK K rfl hr.units) (pv 2) (pe_tup pa_nil) (nomark _))
        (pss_one
          (ps_ret (pe_tup (pa_cons (pe_const C.ORDER rfl) (pa_cons (pe_op (op_repK K rfl) (pe_tup (pa_cons pe_int pa_nil)) (pe_callB (len_K K rfl) (by rfl) B.len (by decide +kernel) (pa_cons (pv 1) pa_nil))) pa_nil)))))
        pss_nil)
    (pss_cons
      (ps_set (i := 3) nd rfl (Or.inl rfl) (pe_ifExp (pt_cmpR op_eq (pe_callB (len_K K rfl) (by rfl) B.len (by decide +kernel) (pa_cons (pv 1) pa_nil)) pe_int (nomark _)) (pe_fn c_orderOnRow hr rfl (pa_cons (pv 2) pa_nil)) (pe_fn c_orderInPlane hr rfl (pa_cons (pv 2) pa_nil))))
    (pss_cons
      (ps_if (pt_cmpR op_notN (pv 3) pe_non (nomark _))
        (pss_one
          (ps_ret (pe_tup (pa_cons (pe_const C.ORDER rfl) (pa_cons (pv 3) pa_nil)))))
        pss_nil)
    (pss_cons
      (ps_set (i := 4) nd rfl (Or.inl rfl) (pe_fn c_oppositePair hr rfl (pa_cons (pv 2) pa_nil)))
    (pss_one
      (ps_ret (pe_tup (pa_cons (pe_const C.RING rfl) (pa_cons (pe_fn c_countsFor hr rfl (pa_cons (pv 2) (pa_cons (pe_ifExp (pt_cmpR op_isN (pv 4) pe_non (nomark _)) (pe_fn c_tripleWith hr rfl (pa_cons (pv 2) pa_nil)) (pv 4)) pa_nil))) pa_nil)))))))))), ?_⟩
    refine ⟨_, rfl, _, rfl, a, b, us, steps, sides, rfl, ha, hus, hb, ok, fun pm ms H2 s2 hpm hms => ?_⟩
    have mv := movesOf_mv ok sm
    have mlen := movesOf_len ok
    have nzs : ∀ m ∈ movesOf steps sides, nzero m = true := fun m hm => (mem_movesOf.mp hm).1
    have vecs := movesOf_vecs ok sm
    have nomove := @moves_nil steps sides
    have hn : sides.length = 1 ∨ sides.length = 2 := by
      have h1 := ok.2.1
      have h2 := ok.2.2.1
      omega
    generalize movesOf steps sides = mm at *
    refine ⟨_, rfl, Nat.zero_le _, fun e0 he0 => ?_⟩
    have hm3 : upd H2 e0 (.tup []) pm = some (.tup ms) := upd_some he0 hpm
    have s3 : Same H (upd H2 e0 (.tup [])) := s2.trans (same_upd he0)
    have hms3 := hms.same (same_upd (o := .tup []) he0)
    refine ⟨vv mm, .tuple [], (Dt.tup hm3 hms3).dp, (Dt.tup upd_same .nil).dp, shaped_vv _, shaped_vv [], _, rfl, ?_⟩
    rw [eqv_nil_t]
    generalize upd H2 e0 (.tup []) = H3 at hm3 s3 hms3 ⊢
    by_cases hempty : mm.isEmpty = true
    · rw [hempty]
      have hnone := nomove hempty
      have hz : ∀ m ∈ mm, 1 ≤ dotI (List.replicate sides.length 0) m := fun m hm => absurd hm (hnone m)
      have hzb : Bd (List.replicate sides.length 0) := fun x hx => by
        have := (List.mem_replicate.mp hx).2
        omega
      refine iteT ⟨ll rfl, fun z hz0 => ⟨_, rfl, b, _, rfl, .inr (SqT.of (upd_some hz0 (s3 _ _ hb))), ?_⟩⟩
      have sz : Same H (upd H3 z (.tup [.int 0])) := s3.trans (same_upd hz0)
      have hzt : upd H3 z (.tup [.int 0]) z = some (.tup [.int 0]) := upd_same
      generalize upd H3 z (.tup [.int 0]) = H4 at sz hzt ⊢
      rw [List.length_map]
      rcases hn with hn | hn
      · rw [hn] at hz hzb q1 ⊢
        exact .inl ⟨z, _, rfl, rfl, SqT.of hzt, by simp, ll rfl, fun p hp => q1 _ p z _ rfl hzb hz (sz.trans (same_upd hp)) (upd_some hp hzt) upd_same⟩
      · rw [hn] at hz hzb q1 ⊢
        refine .inr ⟨z, 2, _, rfl, rfl, SqT.of hzt, by simp, by omega, by omega, Nat.le_of_ble_eq_true rfl, fun y hy => ⟨ll rfl, fun p hp => q1 _ p y _ rfl hzb hz ((sz.trans (same_upd hy)).trans (same_upd hp)) (upd_some hp ?_) upd_same⟩⟩
        rw [upd_same]
        rfl
    · rw [Bool.not_eq_true] at hempty
      rw [hempty]
      refine iteF ?_
      dsimp only [tNext, gName, tSeq, tAsg]
      refine ifE_ok (fun Q0 => (∀ (h : List Int) (q : Addr) (H4 : Hp), h.length = sides.length → Bd h → (∀ m ∈ mm, 1 ≤ dotI h m) → Same H3 H4 → H4 q = some (.tup (h.map V.int)) → Q0 (.ref q) H4) ∧
        ((sides.length = 1 → orderRow mm = none) → (sides.length = 2 → firstsOf mm = []) → ∀ H4, Same H3 H4 → Q0 .non H4)) (fun Q0 hmain => ?_) ?_
      · refine ⟨_, rfl, b, _, rfl, .inr (SqT.of (s3 _ _ hb)), rfl, _, rfl, ?_⟩
        rw [List.length_map]
        rcases hn with hn | hn
        · rw [hn] at mv hmain ⊢
          rw [decide_eq_true (show V.int ((1 : Nat) : Int) = V.int 1 from rfl)]
          refine iteT ⟨_, rfl, pm, ms, mm, rfl, hm3, hms3, by omega, mv, fun h p H4 e s4 hp => ?_, fun e H4 s4 => ?_⟩
          · obtain ⟨r1, r2, r3⟩ := row_right mv e
            exact hmain.1 h p H4 r1 r2 r3 s4 hp
          · exact hmain.2 (fun _ => e) (fun z => by omega) H4 s4
        · have vc := vecs hn
          rw [hn] at mv hmain ⊢
          rw [decide_eq_false (show ¬ V.int ((2 : Nat) : Int) = V.int 1 from fun z => by have := V.int.inj z; omega)]
          refine iteF ⟨_, rfl, pm, ms, mm, rfl, hm3, hms3, by omega, mv, lasts_of_firsts vc, fun e H4 s4 => ?_, fun f1 fr l lr p H4 e1 e2 s4 hp => ?_⟩
          · exact hmain.2 (fun z => by omega) (fun _ => e) H4 s4
          · have f1m : f1 ∈ firstsOf mm := by rw [e1]; simp
            have lm : l ∈ lastsOf mm := by rw [e2]; simp
            obtain ⟨r1, r2⟩ := plane_bd (mv f1 ((mem_firsts vc).mp f1m).1) (mv l ((mem_lasts vc).mp lm).1)
            exact hmain.1 _ p H4 r1 r2 (fun m hm => plane_right vc f1m lm hm) s4 hp
      · refine ⟨fun h q H4 h1 h2 h3 s4 hq => ?_, fun h1 h2 H4 s4 => ?_⟩
        · refine ⟨_, rfl, rfl, _, rfl, iteT ⟨_, rfl, ll rfl, fun p hp => ?_⟩⟩
          exact q1 h p q _ h1 h2 h3 ((s3.trans s4).trans (same_upd hp)) (upd_some hp hq) upd_same
        · refine ⟨_, rfl, rfl, _, rfl, iteF ?_⟩
          have s5 := s3.trans s4
          refine ⟨_, rfl, pm, ms, mm, sides.length, rfl, s4 _ _ hm3, hms3.same s4, by omega, hn, mv, fun i j one two c1 c2 p ps H5 hij e1 e2 ho m1 m2 s6 hp hps => ?_, fun hno H5 s6 => ?_⟩
          · have rg := opp_ring hn mv hij e1 e2 ho m1 m2
            refine ⟨_, rfl, _, rfl, rfl, _, rfl, iteF ⟨_, rfl, pm, p, ms, ps, [(i, c1), (j, c2)], rfl, s6 _ _ (s4 _ _ hm3), hp, hps, by rw [vis_len hms3]; omega, Nat.le_of_ble_eq_true rfl, ?_, fun q H6 s7 hq => ⟨ll rfl, fun p2 hp2 => ?_⟩⟩⟩
            · rw [vis_len hms3]
              exact rg.2
            · rw [vis_len hms3] at hq
              exact q2 _ p2 q _ rg.1 (((s5.trans s6).trans s7).trans (same_upd hp2)) (upd_some hp2 hq) upd_same
          · rcases hn with hn | hn
            · exfalso
              rw [hn] at mv hno
              obtain ⟨i, j, one, two, hij, e1, e2, ho⟩ := row_opp mv nzs (h1 hn)
              exact hno i j one two hij e1 e2 ho
            · have vc := vecs hn
              rw [hn] at mv hno q2
              obtain ⟨first, rest, er⟩ := List.exists_cons_of_ne_nil (l := mm) (fun z => by rw [z] at hempty; cases hempty)
              have ef : mm[0]? = some first := by rw [er]; rfl
              refine ⟨_, rfl, _, rfl, rfl, _, rfl, iteT ⟨_, rfl, pm, ms, mm, first, rfl, s6 _ _ (s4 _ _ hm3), (hms3.same s4).same s6, by omega, mv, ef, plane_good vc hno (h2 hn) ef, fun i j one two p ps H6 hij e1 e2 hg s7 hp hps => ?_⟩⟩
              have rg := good_ring mv hij ef e1 e2 hg
              refine ⟨pm, p, ms, ps, _, rfl, s7 _ _ (s6 _ _ (s4 _ _ hm3)), hp, hps, by rw [vis_len hms3]; omega, Nat.le_of_ble_eq_true rfl, ?_, fun q H7 s8 hq => ⟨ll rfl, fun p2 hp2 => ?_⟩⟩
              · rw [vis_len hms3]
                exact rg.2
              · rw [vis_len hms3] at hq
                exact q2 _ p2 q _ rg.1 ((((s5.trans s6).trans s7).trans s8).trans (same_upd hp2)) (upd_some hp2 hq) upd_same
end
end Wb
namespace Wb
open PySem PySem.Spec PyProof.Rows L2

def blocksOf (rs : List (List Int)) (sides box : List Int) : List (List Int) := (((pointsOf box).map (blockAt rs sides)).foldl keysIns []).mergeSort leVi
/-- rows, sides and a box that fit -/
def LayOk (rs : List (List Int)) (sides box : List Int) : Prop := RowsOk rs box.length ∧ rs.length = sides.length ∧ 1 ≤ sides.length ∧ sides.length ≤ 1000 ∧ SidesOk sides ∧ BoxOk box
theorem mem_blocksOf {rs : List (List Int)} {sides box b : List Int} : b ∈ blocksOf rs sides box ↔ ∃ pt ∈ pointsOf box, b = blockAt rs sides pt := by
  unfold blocksOf
  rw [List.mem_mergeSort, foldIns_mem, List.mem_map]
  constructor
  · rintro (h | ⟨pt, h1, h2⟩)
    · simp at h
    · exact ⟨pt, h1, h2.symm⟩
  · rintro ⟨pt, h1, h2⟩
    exact .inr ⟨pt, h1, h2.symm⟩
theorem blocksOf_nodup (rs : List (List Int)) (sides box : List Int) : (blocksOf rs sides box).Nodup := by
  unfold blocksOf
  rw [(List.mergeSort_perm _ _).nodup_iff]
  exact foldIns_nodup List.nodup_nil
theorem points_len {box : List Int} (b : BoxOk box) : ((pointsOf box).length : Int) = prodI box ∧ (pointsOf box).length ≤ 240 := by
  have h := b.pre_len box.length
  rw [List.take_length] at h
  refine ⟨?_, h⟩
  have e := foldGrid_len box (fun n hn => (b.1 n hn).1) [[]]
  unfold pointsOf
  rw [e]
  simp
theorem points_row {box : List Int} : ∀ pt ∈ pointsOf box, pt.length = box.length := fun pt h => by
  have := grid_row_len (box := box) (rows := [[]]) (k := 0) (fun r hr => by simp at hr; simp [hr]) pt h
  omega
theorem blocksOf_len {rs : List (List Int)} {sides box : List Int} (b : BoxOk box) : ((blocksOf rs sides box).length : Int) ≤ prodI box ∧ (blocksOf rs sides box).length ≤ 240 := by
  unfold blocksOf
  rw [List.length_mergeSort]
  have h1 := foldIns_len ((pointsOf box).map (blockAt rs sides)) []
  have h2 := points_len b
  rw [List.length_map, List.length_nil] at h1
  omega
theorem blockAt_len {rs : List (List Int)} {sides pt : List Int} (h : rs.length = sides.length) : (blockAt rs sides pt).length = sides.length := by
  unfold blockAt blockOf
  rw [List.length_zipWith, List.length_map, h, Nat.min_self]
theorem blocksOf_row {rs : List (List Int)} {sides box : List Int} (h : rs.length = sides.length) : ∀ b ∈ blocksOf rs sides box, b.length = sides.length := fun b hb => by
  obtain ⟨pt, _, rfl⟩ := mem_blocksOf.mp hb
  exact blockAt_len h
/-- keys of a dict of the kind -/
theorem enc_keys (kvs : List (List Int × V)) : (encK kvs).map (·.1) = (kvs.map (·.1)).map (·.map Sum.inl) := by
  rw [encK, List.map_map, List.map_map]
  rfl
theorem dts_refs {H : Hp} : ∀ {L : List (Addr × List Int)}, (∀ q ∈ L, H q.1 = some (.tup (q.2.map V.int))) → Dts H (L.map fun q => .ref q.1) ((L.map (·.2)).map vi)
  | [], _ => .nil
  | q :: L, h => .cons (dt_vi (h q (by simp))) (dts_refs fun r hr => h r (by simp [hr]))
theorem small_box {box : List Int} (b : BoxOk box) : box.length ≤ 1000 := by
  have := b.2.1
  omega
theorem ne_len {ks : List Int} {n : Nat} (h : ks.length = n) (hn : 1 ≤ n) : ks ≠ [] := fun e => by
  rw [e] at h
  simp at h
  omega
section
variable {P : Program} {w : World} {K : PySem.W.Frag} {mg : Str → Option Value} {base : Heap}
def spBlocksOf : Sp := fun vs H Q _ => ∃ (a b c : Addr) (us : List V) (rs : List (List Int)) (sides box : List Int), vs = [.ref a, .ref b, .ref c] ∧ H a = some (.tup us) ∧ Dts H us (rs.map vi) ∧ H b = some (.tup (sides.map V.int)) ∧ H c = some (.tup (box.map V.int)) ∧
  LayOk rs sides box ∧ ∀ p ws H', Same H H' → H' p = some (.tup ws) → Dts H' ws ((blocksOf rs sides box).map vi) → Q (.ref p) H'
theorem ok_blocksOf (F : Has K mg "blocks_of" s_blocksOf ["rows", "sides", "box"]) (B : Blt mg) (c_pointsOf : Callee P w K mg base 3 "points_of" ["box"] spPointsOf) (c_blockAt : Callee P w K mg base 2 "block_at" ["rows", "sides", "point"] spBlockAt) :
    Callee P w K mg base 4 "blocks_of" ["rows", "sides", "box"] spBlocksOf := by
  have nd := sc_blocksOf.nd
  refine callee_of F sc_blocksOf (fun vs H Q E h => ?_) (fun f cdv A outer s H vs Q E hr h => ?_)
  · obtain ⟨a, b, c, us, rs, sides, box, rfl, _⟩ := h
    rfl
  · obtain ⟨a, b, c, us, rs, sides, box, rfl, ha, hus, hb, hc, ok, q⟩ := h
    have hu := hu_of hr
    have c_blockAt := c_blockAt.mono (show 2 ≤ 3 by decide)
    obtain ⟨ok1, ok2, ok3, ok4, ok5, ok6⟩ := ok
    refine ⟨_, (pss_cons
      (ps_setDcT (i := 3) (own := [("point", 4)]) hu rfl nd rfl rfl (sw_trueD rfl rfl rfl (by decide +kernel)) (pi_tupK K rfl (pe_fn c_pointsOf hr rfl (pa_cons (pv 2) pa_nil))) (blkOk_by (by kernel_rfl)) (fun _ _ _ _ _ => (pg_name (i := 4) nd rfl (Or.inl rfl))) (fun _ _ _ _ _ => pts_nil) (fun _ _ _ _ _ => (pe_fn c_blockAt hr rfl (pa_cons (pv 0) (pa_cons (pv 1) (pa_cons (pv 4) pa_nil))))) (fun _ _ _ _ _ => pe_bl))
    (pss_one
      (ps_ret (pe_tupleK K rfl rfl B.tuple (pe_callB (sortedDT_K K rfl rfl hr.units) (by rfl) B.sorted (by decide +kernel) (pa_cons (pv 3) pa_nil)))))), ?_⟩
    refine ⟨_, rfl, c, box, rfl, hc, ok6, fun p us2 H1 s1 hp hus2 => ⟨p, rfl, ⟨us2, SqT.of hp⟩, fun D hD => ?_⟩⟩
    have hl2 := vis_len hus2
    refine dc_itT (walk_tup (xs := us2)) (fun i H' => Same H1 H' ∧ ∃ kvs : List (List Int × V), H' D = some (.dT (encK kvs)) ∧ kvs.map (·.1) = (((pointsOf box).take i).map (blockAt rs sides)).foldl keysIns []) ⟨same_upd hD, [], upd_same, rfl⟩ (fun i H' _ p' => p'.1.tup hp) (fun i x H2 H3 hi p' hy => ?_) fun H2 p' => ?_
    · obtain ⟨s2, kvs, hd2, hk2⟩ := p'
      obtain ⟨rfl, ex⟩ := hy
      obtain ⟨ap, pt, rfl, ept, hpt⟩ := dts_vis hus2 ex
      have hptl := points_row pt (List.mem_of_getElem? ept)
      refine ⟨rfl, _, rfl, _, rfl, _, rfl, a, b, ap, us, rs, sides, pt, rfl, s2 _ _ (s1 _ _ ha), (hus.same s1).same s2, s2 _ _ (s1 _ _ hb), s2 _ _ hpt, ok2, ok4, by rw [hptl]; exact small_box ok6, ok5, by rw [hptl]; exact ok1, fun pb H4 s4 hpb => ?_⟩
      have hlen : kvs.length ≤ 240 := by
        have q1 := foldIns_len (((pointsOf box).take i).map (blockAt rs sides)) []
        have q2 := (points_len ok6).2
        rw [← hk2, List.length_map, List.length_map, List.length_take, List.length_nil] at q1
        omega
      refine ⟨_, dput_t (s4 _ _ hd2) hpb (small_of hlen (by decide)), fun b' o e => ?_, _, upd_same, ?_⟩
      · rw [upd_ne (ne_of_none e hD)]
        exact s4 _ _ (s2 _ _ e)
      · rw [put_keys, hk2, take_next' ept, List.map_append, List.foldl_append]
        rfl
    · obtain ⟨s2, kvs, hd2, hk2⟩ := p'
      rw [hl2, List.take_length] at hk2
      refine ⟨_, rfl, D, encK kvs, kvs.map (·.1), rfl, .inl hd2, enc_keys kvs, fun ks hks => ?_, fun pl L hpl hL hLs => ?_⟩
      · rw [hk2] at hks
        rcases foldIns_mem.mp hks with h | h
        · simp at h
        · obtain ⟨pt, _, rfl⟩ := List.mem_map.mp h
          exact ne_len (blockAt_len ok2) ok3
      · refine .inl ⟨pl, _, rfl, SqL.of upd_same, fun pt hpt => ?_⟩
        have s3 : Same H (upd H2 pl (.lst ((L.mergeSort (PySem.W.dataLe false fun q => vi q.2)).map fun q => .ref q.1))) := (s1.trans s2).trans (same_upd hpl)
        refine q pt _ _ (s3.trans (same_upd hpt)) upd_same ?_
        have e1 : (L.mergeSort (PySem.W.dataLe false fun q => vi q.2)).map (·.2) = blocksOf rs sides box := by
          rw [sort_snd, hL, hk2]
          rfl
        rw [← e1]
        exact dts_refs fun q hq => upd_some hpt (upd_some hpl (hLs q (List.mem_mergeSort.mp hq)))
end
end Wb
namespace Wb
open PySem PySem.Spec PyProof.Rows L2

theorem val_mem {kvs : List (List Int × V)} {k : List Int} {v : V} (h : valV kvs k = some v) : (k, v) ∈ kvs := by
  unfold valV at h
  cases e : kvs.find? fun p => decide (p.1 = k) with
  | none =>
    rw [e] at h
    cases h
  | some p =>
    rw [e] at h
    have h1 := List.mem_of_find?_eq_some e
    have h2 : p.1 = k := by simpa using List.find?_some e
    have h3 : p.2 = v := Option.some.inj h
    rw [← h2, ← h3]
    exact h1
theorem val_some {kvs : List (List Int × V)} {k : List Int} (h : k ∈ kvs.map (·.1)) : ∃ v, valV kvs k = some v ∧ (k, v) ∈ kvs := by
  cases e : valV kvs k with
  | some v => exact ⟨v, rfl, val_mem e⟩
  | none =>
    exfalso
    unfold valV at e
    obtain ⟨p, hp, rfl⟩ := List.mem_map.mp h
    cases e2 : kvs.find? fun q => decide (q.1 = p.1) with
    | some q => rw [e2] at e; cases e
    | none =>
      have := List.find?_eq_none.mp e2 p hp
      simp at this
theorem put_new {kvs : List (List Int × V)} {k : List Int} {v : V} (h : k ∉ kvs.map (·.1)) : putK kvs k v = kvs ++ [(k, v)] := by
  unfold putK
  rw [if_neg fun c => ?_]
  obtain ⟨p, hp, e⟩ := List.any_eq_true.mp c
  exact h (List.mem_map.mpr ⟨p, hp, of_decide_eq_true e⟩)
theorem key_uniq : ∀ {kvs : List (List Int × V)}, (kvs.map (·.1)).Nodup → ∀ p ∈ kvs, ∀ q ∈ kvs, p.1 = q.1 → p = q
  | [], _, p, hp, _, _, _ => by simp at hp
  | a :: r, h, p, hp, q, hq, e => by
    rw [List.map_cons, List.nodup_cons] at h
    rcases List.mem_cons.mp hp with e1 | hp2 <;> rcases List.mem_cons.mp hq with e2 | hq2
    · rw [e1, e2]
    · exact absurd (show a.1 ∈ r.map (·.1) from List.mem_map.mpr ⟨q, hq2, by rw [← e1]; exact e.symm⟩) h.1
    · exact absurd (show a.1 ∈ r.map (·.1) from List.mem_map.mpr ⟨p, hp2, by rw [← e2]; exact e⟩) h.1
    · exact key_uniq h.2 p hp2 q hq2 e
/-- the tuples stand -/
def KeepT (H H' : Hp) : Prop := ∀ b xs, H b = some (.tup xs) → H' b = some (.tup xs)
theorem KeepT.refl (H : Hp) : KeepT H H := fun _ _ e => e
theorem KeepT.trans {H H1 H2 : Hp} (a : KeepT H H1) (b : KeepT H1 H2) : KeepT H H2 := fun c xs e => b c xs (a c xs e)
theorem KeepT.of {H H' : Hp} (s : Same H H') : KeepT H H' := fun _ _ e => s _ _ e
theorem Dts.kt {H H' : Hp} (s : KeepT H H') {vs : List V} {nss : List (List Int)} (h : Dts H vs (nss.map vi)) : Dts H' vs (nss.map vi) := Dts.keep s (onlyTs_vis nss) h
/-- a dict of blocks, each with a dict of the blocks it waits for; made since H0 -/
def WInv (H0 : Hp) (d : Addr) (bs : List (List Int)) (R : List Int → List Int → Prop) (kvs : List (List Int × V)) (H : Hp) : Prop :=
  H0 d = none ∧ Same H0 H ∧ H d = some (.dT (encK kvs)) ∧ (kvs.map (·.2)).Nodup ∧ ∀ p ∈ kvs, ∃ e iks, p.2 = .ref e ∧ H0 e = none ∧ e ≠ d ∧ H e = some (.dT (encK iks)) ∧ (iks.map (·.1)).Nodup ∧ ∀ w ∈ iks.map (·.1), w ∈ bs ∧ R w p.1
theorem WInv.same {H0 : Hp} {d : Addr} {bs : List (List Int)} {R : List Int → List Int → Prop} {kvs : List (List Int × V)} {H H' : Hp} (h : WInv H0 d bs R kvs H) (s : Same H H') : WInv H0 d bs R kvs H' := by
  obtain ⟨h1, h2, h3, h4, h5⟩ := h
  refine ⟨h1, h2.trans s, s _ _ h3, h4, fun p hp => ?_⟩
  obtain ⟨e, iks, e1, e2, e3, e4, e5⟩ := h5 p hp
  exact ⟨e, iks, e1, e2, e3, s _ _ e4, e5⟩
theorem WInv.grow {H0 : Hp} {d e : Addr} {bs : List (List Int)} {R : List Int → List Int → Prop} {kvs : List (List Int × V)} {H : Hp} {bl : List Int} (h : WInv H0 d bs R kvs H) (he : H e = none) :
    WInv H0 d bs R (kvs ++ [(bl, .ref e)]) (upd (upd H e (.dT (encK []))) d (.dT (encK (kvs ++ [(bl, .ref e)])))) := by
  obtain ⟨h1, h2, h3, h4, h5⟩ := h
  have hed : e ≠ d := fun z => by
    rw [z, h3] at he
    cases he
  refine ⟨h1, fun b o q => ?_, upd_same, ?_, fun p hp => ?_⟩
  · rw [upd_ne (ne_of_none q h1), upd_ne (ne_of_none (h2 _ _ q) he)]
    exact h2 _ _ q
  · rw [List.map_append, List.nodup_append]
    refine ⟨h4, by simp, fun v hv u hu z => ?_⟩
    obtain ⟨p, hp, rfl⟩ := List.mem_map.mp hv
    obtain ⟨g, jks, g1, g2, g3, g4, g5⟩ := h5 p hp
    have eu : u = .ref e := by simpa using hu
    rw [g1, eu] at z
    cases z
    rw [g4] at he
    cases he
  · rcases List.mem_append.mp hp with hp | hp
    · obtain ⟨g, jks, g1, g2, g3, g4, g5⟩ := h5 p hp
      exact ⟨g, jks, g1, g2, g3, by rw [upd_ne g3, upd_ne (ne_of_none g4 he)]; exact g4, g5⟩
    · have ep : p = (bl, .ref e) := by simpa using hp
      subst ep
      exact ⟨e, [], rfl, h2.free he, hed, by rw [upd_ne hed, upd_same], List.nodup_nil, fun _ h => nomatch h⟩
theorem take_new {α : Type} {l : List α} {i : Nat} {x : α} (h : l.Nodup) (e : l[i]? = some x) : x ∉ l.take i := fun hx => by
  have h1 := (List.take_sublist (i + 1) l).nodup h
  rw [take_next' e, List.nodup_append] at h1
  exact h1.2.2 x hx x (by simp) rfl
theorem nodup_sub_len {l m : List (List Int)} (h : l.Nodup) (hs : ∀ x ∈ l, x ∈ m) : l.length ≤ m.length := by
  induction l generalizing m with
  | nil => exact Nat.zero_le _
  | cons a r ih =>
    have hr := List.nodup_cons.mp h
    have h4 := ih (m := m.erase a) hr.2 fun x hx => (List.mem_erase_of_ne (fun e => hr.1 (by rw [← e]; exact hx))).mpr (hs x (List.mem_cons_of_mem _ hx))
    rw [List.length_erase_of_mem (hs a List.mem_cons_self)] at h4
    have h5 := List.length_pos_of_mem (hs a List.mem_cons_self)
    rw [List.length_cons]
    omega
theorem snd_uniq : ∀ {kvs : List (List Int × V)}, (kvs.map (·.2)).Nodup → ∀ p ∈ kvs, ∀ q ∈ kvs, p.2 = q.2 → p = q
  | [], _, p, hp, _, _, _ => by simp at hp
  | a :: r, h, p, hp, q, hq, e => by
    rw [List.map_cons, List.nodup_cons] at h
    rcases List.mem_cons.mp hp with e1 | hp2 <;> rcases List.mem_cons.mp hq with e2 | hq2
    · rw [e1, e2]
    · exact absurd (show a.2 ∈ r.map (·.2) from List.mem_map.mpr ⟨q, hq2, by rw [← e1]; exact e.symm⟩) h.1
    · exact absurd (show a.2 ∈ r.map (·.2) from List.mem_map.mpr ⟨p, hp2, by rw [← e2]; exact e⟩) h.1
    · exact snd_uniq h.2 p hp2 q hq2 e
theorem WInv.put {H0 : Hp} {d : Addr} {bs : List (List Int)} {R : List Int → List Int → Prop} {kvs : List (List Int × V)} {H : Hp} (h : WInv H0 d bs R kvs H) {p : List Int × V} (hp : p ∈ kvs) :
    ∃ e iks, p.2 = .ref e ∧ H e = some (.dT (encK iks)) ∧ iks.length ≤ bs.length ∧ ∀ w v, w ∈ bs → R w p.1 → WInv H0 d bs R kvs (upd H e (.dT (encK (putK iks w v)))) ∧ KeepT H (upd H e (.dT (encK (putK iks w v)))) := by
  obtain ⟨h1, h2, h3, h4, h5⟩ := h
  obtain ⟨e, iks, e1, e2, e3, e4, e5, e6⟩ := h5 p hp
  refine ⟨e, iks, e1, e4, ?_, fun w v hw hR => ⟨⟨h1, fun b o q => ?_, ?_, h4, fun q hq => ?_⟩, fun b xs q => ?_⟩⟩
  · have := nodup_sub_len e5 fun x hx => (e6 x hx).1
    rw [List.length_map] at this
    exact this
  · rw [upd_ne (ne_of_none q e2)]
    exact h2 _ _ q
  · rw [upd_ne (Ne.symm e3)]
    exact h3
  · obtain ⟨g, jks, g1, g2, g3, g4, g5, g6⟩ := h5 q hq
    by_cases c : g = e
    · subst c
      have epq : p = q := snd_uniq h4 p hp q hq (e1.trans g1.symm)
      subst epq
      refine ⟨g, _, g1, g2, g3, upd_same, ?_, fun x hx => ?_⟩
      · rw [put_keys]
        exact keysIns_nodup e5
      · rw [put_keys] at hx
        rcases keysIns_mem.mp hx with hx | rfl
        · exact e6 x hx
        · exact ⟨hw, hR⟩
    · exact ⟨g, jks, g1, g2, g3, by rw [upd_ne c]; exact g4, g5, g6⟩
  · rw [upd_ne (ne_of q e4 (by intro z; cases z))]
    exact q
/-- a dict of blocks, each with the list of the blocks it waits for -/
def WAt (H : Hp) (d : Addr) (bs : List (List Int)) (wf : List Int → List (List Int)) : Prop :=
  ∃ kvs : List (List Int × V), H d = some (.dT (encK kvs)) ∧ kvs.map (·.1) = bs ∧ ∀ p ∈ kvs, ∃ l us, p.2 = .ref l ∧ H l = some (.lst us) ∧ Dts H us ((wf p.1).map vi)
theorem WAt.same {H H' : Hp} {d : Addr} {bs : List (List Int)} {wf : List Int → List (List Int)} (h : WAt H d bs wf) (s : Same H H') : WAt H' d bs wf := by
  obtain ⟨kvs, h1, h2, h3⟩ := h
  refine ⟨kvs, s _ _ h1, h2, fun p hp => ?_⟩
  obtain ⟨l, us, e1, e2, e3⟩ := h3 p hp
  exact ⟨l, us, e1, s _ _ e2, e3.same s⟩
theorem wat_of {H : Hp} {d : Addr} {bs : List (List Int)} {kvs : List (List Int × V)} {Φ : List Int → List (List Int) → Prop} (hd : H d = some (.dT (encK kvs))) (hk : kvs.map (·.1) = bs) (nd : bs.Nodup)
    (h : ∀ p ∈ kvs, ∃ l us ws, p.2 = .ref l ∧ H l = some (.lst us) ∧ Dts H us (ws.map vi) ∧ Φ p.1 ws) : ∃ wf, WAt H d bs wf ∧ ∀ b ∈ bs, Φ b (wf b) := by
  have hc : ∀ b : List Int, ∃ ws : List (List Int), ∀ p ∈ kvs, p.1 = b → ∃ l us, p.2 = .ref l ∧ H l = some (.lst us) ∧ Dts H us (ws.map vi) ∧ Φ b ws := fun b => by
    by_cases hb : b ∈ kvs.map (·.1)
    · obtain ⟨p, hp, e⟩ := List.mem_map.mp hb
      obtain ⟨l, us, ws, e1, e2, e3, e4⟩ := h p hp
      refine ⟨ws, fun q hq e5 => ?_⟩
      have epq : p = q := key_uniq (by rw [hk]; exact nd) p hp q hq (e.trans e5.symm)
      subst epq
      exact ⟨l, us, e1, e2, e3, e ▸ e4⟩
    · exact ⟨[], fun q hq e5 => absurd (List.mem_map.mpr ⟨q, hq, e5⟩) hb⟩
  refine ⟨fun b => Classical.choose (hc b), ⟨kvs, hd, hk, fun p hp => ?_⟩, fun b hb => ?_⟩
  · obtain ⟨l, us, e1, e2, e3, _⟩ := Classical.choose_spec (hc p.1) p hp rfl
    exact ⟨l, us, e1, e2, e3⟩
  · rw [← hk] at hb
    obtain ⟨p, hp, e⟩ := List.mem_map.mp hb
    obtain ⟨l, us, e1, e2, e3, e4⟩ := Classical.choose_spec (hc b) p hp e
    exact e4
theorem eqvAll_ints : ∀ a b : List Int, PyData.eqvAll (a.map .int) (b.map .int) = decide (a = b)
  | [], [] => by simp [PyData.eqvAll]
  | [], _ :: _ => by simp [PyData.eqvAll]
  | _ :: _, [] => by simp [PyData.eqvAll]
  | x :: a, y :: b => by
    have ih := eqvAll_ints a b
    rw [List.map_cons, List.map_cons, PyData.eqvAll, ih]
    by_cases c : x = y <;> by_cases c2 : a = b <;> simp [PyData.eqv, c, c2]
theorem eqv_vi (a b : List Int) : PyData.eqv (vi a) (vi b) = decide (a = b) := by
  rw [vi, vi, PyData.eqv]
  exact eqvAll_ints a b
theorem inside_mem : ∀ {box v : List Int}, v.length = box.length → insideI box v = true → ∀ rows, ∀ r ∈ rows, r ++ v ∈ box.foldl gridRows rows
  | [], [], _, _, rows, r, hr => by simpa using hr
  | s :: box, x :: v, hl, h, rows, r, hr => by
    have h' : decide (0 ≤ x ∧ x < s) = true ∧ insideI box v = true := by
      have : ((x, s) :: v.zip box).all (fun p => decide (0 ≤ p.1 ∧ p.1 < p.2)) = true := h
      rw [List.all_cons, Bool.and_eq_true] at this
      exact this
    have hx := of_decide_eq_true h'.1
    rw [List.foldl_cons, show r ++ x :: v = (r ++ [x]) ++ v by simp]
    refine inside_mem (by simpa using hl) h'.2 _ _ (List.mem_flatMap.mpr ⟨r, hr, List.mem_map.mpr ⟨x.toNat, List.mem_range.mpr (by omega), ?_⟩⟩)
    have e : (x.toNat : Int) = x := by omega
    rw [e]
  | [], _ :: _, hl, _, _, _, _ => by simp at hl
  | _ :: _, [], hl, _, _, _, _ => by simp at hl
theorem inside_point {box v : List Int} (hl : v.length = box.length) (h : insideI box v = true) : v ∈ pointsOf box := by
  have := inside_mem hl h [[]] [] (by simp)
  exact this
end Wb
namespace Wb
open PySem PySem.Spec PyProof.Rows L2

section
variable {P : Program} {w : World} {K : PySem.W.Frag} {mg : Str → Option Value} {base : Heap}
/-- what a relation of blocks owes to a flow's reads -/
def RelOk (rules : List Rule) (rs : List (List Int)) (sides box : List Int) (R : List Int → List Int → Prop) : Prop :=
  ∀ pt ∈ pointsOf box, ∀ r ∈ rules, ∀ rd ∈ r.2, insideI box (diffI pt rd.2) = true → blockAt rs sides (diffI pt rd.2) ≠ blockAt rs sides pt → R (blockAt rs sides (diffI pt rd.2)) (blockAt rs sides pt)
def WfOk (bs : List (List Int)) (R : List Int → List Int → Prop) (wf : List Int → List (List Int)) : Prop := ∀ b ∈ bs, (wf b).length ≤ 240 ∧ ∀ w ∈ wf b, w ∈ bs ∧ R w b
def spWaitsOf : Sp := fun vs H Q _ => ∃ (a0 a b c : Addr) (us : List V) (dims : Int) (rules : List Rule) (rs : List (List Int)) (sides box : List Int) (R : List Int → List Int → Prop), vs = [.ref a0, .ref a, .ref b, .ref c] ∧ Dt H (.ref a0) (flowD dims rules) ∧ FlowOk box.length rules ∧
  H a = some (.tup us) ∧ Dts H us (rs.map vi) ∧ H b = some (.tup (sides.map V.int)) ∧ H c = some (.tup (box.map V.int)) ∧ LayOk rs sides box ∧ RelOk rules rs sides box R ∧
  ∀ d wf H', Same H H' → H d = none → WAt H' d (blocksOf rs sides box) wf → WfOk (blocksOf rs sides box) R wf → Q (.ref d) H'
theorem ok_waitsOf (F : Has K mg "waits_of" s_waitsOf ["flow", "rows", "sides", "box"]) (B : Blt mg) (c_blocksOf : Callee P w K mg base 4 "blocks_of" ["rows", "sides", "box"] spBlocksOf) (c_pointsOf : Callee P w K mg base 3 "points_of" ["box"] spPointsOf)
    (c_blockAt : Callee P w K mg base 2 "block_at" ["rows", "sides", "point"] spBlockAt) (c_readsOf : Callee P w K mg base 1 "reads_of" ["flow"] spReadsOf) (c_difference : Callee P w K mg base 1 "difference" ["one", "other"] spDifference)
    (c_isInside : Callee P w K mg base 1 "is_inside" ["box", "vector"] spIsInside) : Callee P w K mg base 5 "waits_of" ["flow", "rows", "sides", "box"] spWaitsOf := by
  have nd := sc_waitsOf.nd
  refine callee_of F sc_waitsOf (fun vs H Q E h => ?_) (fun f cdv A outer s H vs Q E hr h => ?_)
  · obtain ⟨a0, a, b, c, us, dims, rules, rs, sides, box, R, rfl, _⟩ := h
    rfl
  · obtain ⟨a0, a, b, c, us, dims, rules, rs, sides, box, R, rfl, hfl, fok, ha, hus, hb, hc, ok, rok, q⟩ := h
    have hu := hu_of hr
    have c_pointsOf := c_pointsOf.mono (show 3 ≤ 4 by decide)
    have c_blockAt := c_blockAt.mono (show 2 ≤ 4 by decide)
    have c_readsOf := c_readsOf.mono (show 1 ≤ 4 by decide)
    have c_difference := c_difference.mono (show 1 ≤ 4 by decide)
    have c_isInside := c_isInside.mono (show 1 ≤ 4 by decide)
    obtain ⟨ok1, ok2, ok3, ok4, ok5, ok6⟩ := id ok
    have bnd := blocksOf_nodup rs sides box
    have blen := (blocksOf_len (rs := rs) (sides := sides) ok6).2
    have bmem : ∀ pt ∈ pointsOf box, blockAt rs sides pt ∈ blocksOf rs sides box := fun pt hpt => mem_blocksOf.mpr ⟨pt, hpt, rfl⟩
    have brow := blocksOf_row (sides := sides) (box := box) ok2
    refine ⟨_, (pss_cons
      (ps_set (i := 4) nd rfl (Or.inr rfl) (pe_dcT (own := [("block", 6)]) hu rfl nd (pi_tupK K rfl (pe_fn c_blocksOf hr rfl (pa_cons (pv 1) (pa_cons (pv 2) (pa_cons (pv 3) pa_nil))))) (blkOk_by (by kernel_rfl)) (fun _ _ _ _ _ => (pg_name (i := 6) nd rfl (Or.inl rfl))) (fun _ _ _ _ _ => pts_nil) (fun _ _ _ _ _ => (pv 6)) (fun _ _ _ _ _ => pe_dnewT)))
    (pss_cons
      (ps_for PassesOwn.never rfl (pi_tupK K rfl (pe_fn c_pointsOf hr rfl (pa_cons (pv 3) pa_nil))) (pg_name (i := 5) nd rfl (Or.inl rfl))
        (pss_cons
          (ps_set (i := 6) nd rfl (Or.inl rfl) (pe_fn c_blockAt hr rfl (pa_cons (pv 1) (pa_cons (pv 2) (pa_cons (pv 5) pa_nil)))))
        (pss_one
          (ps_for PassesOwn.never rfl (pi_tupK K rfl (pe_fn c_readsOf hr rfl (pa_cons (pv 0) pa_nil))) (pg_tupK K 4 rfl rfl (pgs_cons (pg_name (i := 7) nd rfl (Or.inl rfl)) (pgs_cons (pg_name (i := 8) nd rfl (Or.inl rfl)) (pgs_cons (pg_name (i := 9) nd rfl (Or.inl rfl)) (pgs_cons (pg_name (i := 10) nd rfl (Or.inl rfl)) pgs_nil)))))
            (pss_cons
              (ps_set (i := 11) nd rfl (Or.inl rfl) (pe_fn c_difference hr rfl (pa_cons (pv 5) (pa_cons (pv 10) pa_nil))))
            (pss_one
              (ps_if (PW.pt (pw_and (pt_val (pe_fn c_isInside hr rfl (pa_cons (pv 3) (pa_cons (pv 11) pa_nil)))) (pw_and1 (pt_cmpR (op_neK K rfl hr.units) (pe_fn c_blockAt hr rfl (pa_cons (pv 1) (pa_cons (pv 2) (pa_cons (pv 11) pa_nil)))) (pv 6) (nomark _)))))
                (pss_one
                  (ps_asg pe_bl (pg_sub (pe_dget hu (pv 4) (pv 6) (fun _ _ => rfl)) (pe_fn c_blockAt hr rfl (pa_cons (pv 1) (pa_cons (pv 2) (pa_cons (pv 11) pa_nil)))) (set_dict hu))))
                pss_nil)))))))
    (pss_one
      (ps_ret (pe_lock (pe_dcT (own := [("block", 6)]) hu rfl nd (pi_keys (pv 4)) (blkOk_by (by kernel_rfl)) (fun _ _ _ _ _ => (pg_name (i := 6) nd rfl (Or.inl rfl))) (fun _ _ _ _ _ => pts_nil) (fun _ _ _ _ _ => (pv 6)) (fun _ _ _ _ _ => (pe_callB (sortedDT_K K rfl rfl hr.units) (by rfl) B.sorted (by decide +kernel) (pa_cons (pe_dget hu (pv 4) (pv 6) (fun _ _ => rfl)) pa_nil))))))))), ?_⟩
    refine ⟨_, rfl, _, rfl, _, rfl, a, b, c, us, rs, sides, box, rfl, ha, hus, hb, hc, ok, fun p us2 H1 s1 hp hus2 => ⟨p, rfl, ⟨us2, SqT.of hp⟩, fun D hD => ?_⟩⟩
    generalize blocksOf rs sides box = bs at *
    have hl2 := vis_len hus2
    have hD0 : H D = none := s1.free hD
    refine dc_itT (walk_tup (xs := us2)) (fun i H' => Same H1 H' ∧ ∃ kvs : List (List Int × V), WInv H D bs R kvs H' ∧ kvs.map (·.1) = bs.take i) ⟨same_upd hD, [], ⟨hD0, s1.trans (same_upd hD), upd_same, List.nodup_nil, fun _ h => nomatch h⟩, rfl⟩ (fun i H' _ p' => p'.1.tup hp) (fun i x H2 H3 hi p' hy => ?_) fun H2 p' => ?_
    · obtain ⟨s2, kvs, wi, hk2⟩ := p'
      obtain ⟨rfl, ex⟩ := hy
      obtain ⟨ab, bl, rfl, ebl, hab⟩ := dts_vis hus2 ex
      have hnew : bl ∉ kvs.map (·.1) := fun z => by
        rw [hk2] at z
        exact take_new bnd ebl z
      refine ⟨rfl, _, rfl, fun e he => ?_⟩
      have hwi := wi.grow (bl := bl) he
      rw [← put_new hnew] at hwi
      have hkl : kvs.length < sizeLine := by
        have e1 := congrArg List.length hk2
        rw [List.length_map, List.length_take] at e1
        exact small_of (m := 240) (by omega) (by decide)
      refine ⟨_, dput_t (upd_some he wi.2.2.1) (upd_some he (s2 _ _ hab)) hkl, fun b o q => ?_, _, hwi, ?_⟩
      · rw [upd_ne (ne_of_none q hD)]
        exact upd_some he (s2 _ _ q)
      · rw [put_new hnew, List.map_append, hk2, take_next' ebl]
        rfl
    · obtain ⟨s2, kvs, wi, hk2⟩ := p'
      rw [hl2, List.take_length] at hk2
      have kin : ∀ b ∈ bs, ∃ v, valV kvs b = some v ∧ (b, v) ∈ kvs := fun b hb' => val_some (by rw [hk2]; exact hb')
      refine ⟨_, rfl, c, box, rfl, wi.2.1 _ _ hc, ok6, fun pp us3 H3 s3 hpp hus3 => ⟨pp, rfl, ⟨us3, SqT.of hpp⟩, ?_⟩⟩
      have hl3 := vis_len hus3
      refine for_it (walk_tup (xs := us3)) (fun i σ H' => KeepT H3 H' ∧ WInv H D bs R kvs H' ∧ ∃ y5 y6 y7 y8 y9 y10 y11, σ = [some (.ref a0), some (.ref a), some (.ref b), some (.ref c), some (.ref D), y5, y6, y7, y8, y9, y10, y11])
        ⟨KeepT.refl _, wi.same s3, _, _, _, _, _, _, _, rfl⟩ (fun i σ H' _ p' => SqT.of (p'.1 _ _ hpp)) (fun i x σ H4 H5 hi p' hy => ?_) fun σ H4 p' => ?_
      · obtain ⟨k4, w4, y5, y6, y7, y8, y9, y10, y11, rfl⟩ := p'
        obtain ⟨rfl, ex⟩ := hy
        obtain ⟨ap, pt, rfl, ept, hpt⟩ := dts_vis hus3 ex
        have hptm := List.mem_of_getElem? ept
        have hptl := points_row pt hptm
        have hpt4 := k4 _ _ hpt
        have sH4 := w4.2.1
        have ha4 := sH4 _ _ ha
        have hus4 := hus.same sH4
        have hb4 := sH4 _ _ hb
        have hptb : pt.length ≤ 1000 := by rw [hptl]; exact small_box ok6
        refine ⟨_, rfl, _, rfl, _, rfl, a, b, ap, us, rs, sides, pt, rfl, ha4, hus4, hb4, hpt4, ok2, ok4, hptb, ok5, by rw [hptl]; exact ok1, fun pb H6 s6 hpb => ?_⟩
        have hbb := bmem pt hptm
        refine ⟨_, rfl, a0, box.length, dims, rules, rfl, (hfl.same sH4).same s6, fok, fun pr us4 H7 s7 hpr hus4' => ⟨pr, rfl, ⟨us4, SqT.of hpr⟩, ?_⟩⟩
        refine for_it (walk_tup (xs := us4)) (fun j σ H' => KeepT H7 H' ∧ WInv H D bs R kvs H' ∧ ∃ y7 y8 y9 y10 y11, σ = [some (.ref a0), some (.ref a), some (.ref b), some (.ref c), some (.ref D), some (.ref ap), some (.ref pb), y7, y8, y9, y10, y11])
          ⟨KeepT.refl _, (w4.same s6).same s7, _, _, _, _, _, rfl⟩ (fun i σ H' _ p' => SqT.of (p'.1 _ _ hpr)) (fun j x σ H8 H9 hj p' hy => ?_) fun σ H8 p' => ?_
        · obtain ⟨k8, w8, y7, y8, y9, y10, y11, rfl⟩ := p'
          obtain ⟨rfl, ex4⟩ := hy
          have k48 : KeepT H5 H9 := (KeepT.of (s6.trans s7)).trans k8
          obtain ⟨d, ed, hdd⟩ := hus4'.get' ex4
          obtain ⟨i', j', rd, rfl, r, hr1, hr2⟩ := readsRows_mem (List.mem_of_getElem? ed)
          obtain ⟨cr, dr, rfl, hcr, hdr⟩ := dt_rdI hdd
          have hrd := (fok.2 r hr1).2 rd hr2
          have hcr8 := k8 _ _ hcr
          have hdr8 := k8 _ _ hdr
          have hpt8 := k48 _ _ hpt4
          refine ⟨cr, _, rfl, SqT.of hcr8, rfl, _, _, rfl, _, _, rfl, _, _, rfl, _, _, rfl, rfl, ?_⟩
          refine ⟨_, rfl, _, rfl, ap, dr, pt, rd.2, rfl, hpt8, hdr8, by rw [hptl, hrd.1], hptb, fun pv H10 s10 hpv => ?_⟩
          have sH8 := w8.2.1
          have hvl : (diffI pt rd.2).length = box.length := by
            unfold diffI
            rw [List.length_zipWith, hptl, hrd.1, Nat.min_self]
          have w10 := w8.same s10
          have sH10 := w10.2.1
          refine ⟨_, rfl, _, rfl, c, pv, box, diffI pt rd.2, rfl, sH10 _ _ hc, hpv, hvl, small_box ok6, fun H11 s11 => ?_⟩
          have w11 := w10.same s11
          have k711 : KeepT H7 H11 := k8.trans ((KeepT.of s10).trans (KeepT.of s11))
          have k511 : KeepT H5 H11 := k48.trans ((KeepT.of s10).trans (KeepT.of s11))
          refine ⟨_, rfl, ?_⟩
          by_cases c1 : insideI box (diffI pt rd.2) = true
          · rw [c1]
            have hvm := inside_point hvl c1
            have hpv11 := s11 _ _ hpv
            have sH11 := w11.2.1
            refine iteT ⟨_, rfl, _, rfl, _, rfl, a, b, pv, us, rs, sides, diffI pt rd.2, rfl, sH11 _ _ ha, hus.same sH11, sH11 _ _ hb, hpv11, ok2, ok4, by rw [hvl]; exact small_box ok6, ok5, by rw [hvl]; exact ok1, fun pc H12 s12 hpc => ?_⟩
            have w12 := w11.same s12
            have sH12 := w12.2.1
            have hpb12 : H12 pb = some (.tup ((blockAt rs sides pt).map V.int)) := s12 _ _ (k711 _ _ (s7 _ _ hpb))
            refine ⟨_, rfl, vi (blockAt rs sides (diffI pt rd.2)), vi (blockAt rs sides pt), (dt_vi hpc).dp, (dt_vi hpb12).dp, shaped_vi _, shaped_vi _, _, rfl, ?_⟩
            rw [eqv_vi]
            by_cases c2 : blockAt rs sides (diffI pt rd.2) = blockAt rs sides pt
            · rw [decide_eq_true c2]
              exact iteF ⟨k711.trans (KeepT.of s12), w12, _, _, _, _, _, rfl⟩
            · rw [decide_eq_false c2]
              obtain ⟨v, ev, hvm2⟩ := kin _ hbb
              have hg := dget_t (.inl w12.2.2.1) hpb12
              rw [ev] at hg
              refine iteT ⟨_, rfl, _, rfl, D, v, rfl, hg, _, rfl, _, rfl, _, rfl, a, b, pv, us, rs, sides, diffI pt rd.2, rfl, sH12 _ _ ha, hus.same sH12, sH12 _ _ hb, s12 _ _ hpv11, ok2, ok4, by rw [hvl]; exact small_box ok6, ok5, by rw [hvl]; exact ok1, fun pd H13 s13 hpd => ?_⟩
              have w13 := w12.same s13
              obtain ⟨e, iks, e1, e2, e3, e4⟩ := w13.put hvm2
              obtain ⟨w14, k14⟩ := e4 (blockAt rs sides (diffI pt rd.2)) (.bl true) (bmem _ hvm) (rok pt hptm r hr1 rd hr2 c1 c2)
              exact ⟨e, _, e1, dput_t e2 hpd (small_of (m := 240) (by omega) (by decide)), k711.trans ((KeepT.of (s12.trans s13)).trans k14), w14, _, _, _, _, _, rfl⟩
          · rw [Bool.not_eq_true] at c1
            rw [c1]
            exact iteF ⟨k711, w11, _, _, _, _, _, rfl⟩
        · obtain ⟨k8, w8, y7, y8, y9, y10, y11, rfl⟩ := p'
          exact ⟨k4.trans ((KeepT.of (s6.trans s7)).trans k8), w8, _, _, _, _, _, _, _, rfl⟩
      · obtain ⟨k4, w4, y5, y6, y7, y8, y9, y10, y11, rfl⟩ := p'
        have hD4 := w4.2.2.1
        have hlow : ∀ {b o}, b ≠ D → H4 b = some o → ∀ od, upd H4 D (.frz od (.dT (encK kvs))) b = some o := fun {b o} hb e od => by
          rw [upd_ne hb]
          exact e
        refine ⟨D, _, hD4, trivial, fun od => ⟨_, rfl, D, od, rfl, .inr ⟨_, upd_same, fun D2 hD2 => ?_⟩⟩⟩
        have hD2D : D2 ≠ D := fun e => by
          rw [e, upd_same] at hD2
          cases hD2
        have hD24 : H4 D2 = none := by
          rw [upd_ne hD2D] at hD2
          exact hD2
        have ekl : (encK kvs).length = bs.length := by
          rw [encK, List.length_map, ← hk2, List.length_map]
        refine dc_itT walk_keysT (fun i H' => Same (upd H4 D (.frz od (.dT (encK kvs)))) H' ∧ ∃ kvs2 : List (List Int × V), H' D2 = some (.dT (encK kvs2)) ∧ kvs2.map (·.1) = bs.take i ∧
          ∀ p ∈ kvs2, ∃ (l : Addr) (us : List V) (ws : List (List Int)), p.2 = .ref l ∧ H' l = some (.lst us) ∧ Dts H' us (ws.map vi) ∧ (ws.length ≤ 240 ∧ ∀ w ∈ ws, w ∈ bs ∧ R w p.1)) ⟨same_upd hD2, [], upd_same, rfl, fun _ h => nomatch h⟩ (fun i H' _ p' => p'.1 _ _ upd_same) (fun i x H5 H6 hi p' hy => ?_) fun H5 p' => ?_
        · obtain ⟨s5, kvs2, hd2, hk3, hall⟩ := p'
          obtain ⟨rfl, k, v, qk, ek, rfl, hqk⟩ := hy
          have ek2 : ∃ bk, kvs[i]? = some (bk, v) ∧ k = bk.map Sum.inl := by
            rw [encK, List.getElem?_map] at ek
            cases e : kvs[i]? with
            | none => rw [e] at ek; cases ek
            | some z =>
              rw [e] at ek
              cases ek
              exact ⟨z.1, rfl, rfl⟩
          obtain ⟨bk, ebk, rfl⟩ := ek2
          rw [inl_kV] at hqk
          have hmem := List.mem_of_getElem? ebk
          have ebs : bs[i]? = some bk := by
            rw [← hk2, List.getElem?_map, ebk]
            rfl
          have evk : valV kvs bk = some v := by
            obtain ⟨v', h1, h2⟩ := kin bk (List.mem_of_getElem? ebs)
            have e := key_uniq (by rw [hk2]; exact bnd) _ hmem _ h2 rfl
            cases e
            exact h1
          have hg : DGet H6 D (.ref qk) (valV kvs bk) := dget_t (.inr ⟨od, s5 _ _ upd_same⟩) hqk
          rw [evk] at hg
          obtain ⟨e, iks, e1, e2, e3, e4, e5, e6⟩ := w4.2.2.2.2 _ hmem
          cases e1
          have he6 := s5 _ _ (hlow e3 e4 od)
          refine ⟨rfl, _, rfl, _, rfl, _, rfl, D, _, rfl, hg, e, encK iks, iks.map (·.1), rfl, .inl he6, enc_keys iks, fun ks hks => ne_len (brow ks (e6 ks hks).1) ok3, fun pl L hpl hL hLs => ?_⟩
          have hnew : bk ∉ kvs2.map (·.1) := by
            rw [hk3]
            exact take_new bnd ebs
          have hkl : kvs2.length < sizeLine := by
            have e1 := congrArg List.length hk3
            rw [List.length_map, List.length_take] at e1
            exact small_of (m := 240) (by omega) (by decide)
          have hplD : pl ≠ D2 := fun z => by
            rw [z, hd2] at hpl
            cases hpl
          have eL : (L.mergeSort (PySem.W.dataLe false fun q => vi q.2)).map (·.2) = (iks.map (·.1)).mergeSort leVi := by rw [sort_snd, hL]
          have kt : KeepT H6 (upd (upd H6 pl (.lst ((L.mergeSort (PySem.W.dataLe false fun q => vi q.2)).map fun q => .ref q.1))) D2 (.dT (encK (putK kvs2 bk (.ref pl))))) := fun b xs z => by
            rw [upd_ne (ne_of z hd2 (by intro y; cases y))]
            exact upd_some hpl z
          refine ⟨_, dput_t (upd_some hpl hd2) (upd_some hpl hqk) hkl, fun b o z => ?_, _, upd_same, ?_, fun p2 hp2 => ?_⟩
          · rw [upd_ne (ne_of_none z hD2)]
            exact upd_some hpl (s5 _ _ z)
          · rw [put_new hnew, List.map_append, hk3, take_next' ebs]
            rfl
          · rw [put_new hnew] at hp2
            rcases List.mem_append.mp hp2 with hp2 | hp2
            · obtain ⟨l, us5, ws, g1, g2, g3, g4⟩ := hall p2 hp2
              refine ⟨l, us5, ws, g1, ?_, g3.kt kt, g4⟩
              rw [upd_ne (ne_of g2 hd2 (by intro y; cases y))]
              exact upd_some hpl g2
            · have ep : p2 = (bk, .ref pl) := by simpa using hp2
              subst ep
              refine ⟨pl, _, (iks.map (·.1)).mergeSort leVi, rfl, by rw [upd_ne hplD, upd_same], ?_, ?_, fun x hx => e6 x (List.mem_mergeSort.mp hx)⟩
              · rw [← eL]
                exact Dts.kt kt (dts_refs fun q hq => hLs q (List.mem_mergeSort.mp hq))
              · rw [List.length_mergeSort]
                have := nodup_sub_len e5 fun x hx => (e6 x hx).1
                omega
        · obtain ⟨s5, kvs2, hd2, hk3, hall⟩ := p'
          rw [ekl, List.take_length] at hk3
          have hD5 := s5 _ _ (upd_same (H := H4) (a := D) (o := .frz od (.dT (encK kvs))))
          refine ⟨hD5, ?_⟩
          have kt : KeepT H5 (upd H5 D (.dT (encK kvs))) := fun b xs z => by
            rw [upd_ne (ne_of z hD5 (by intro y; cases y))]
            exact z
          obtain ⟨wf, hw1, hw2⟩ := wat_of (H := upd H5 D (.dT (encK kvs))) (d := D2) (Φ := fun b ws => ws.length ≤ 240 ∧ ∀ w ∈ ws, w ∈ bs ∧ R w b) (by rw [upd_ne hD2D]; exact hd2) hk3 bnd (fun p hp => by
            obtain ⟨l, us5, ws, g1, g2, g3, g4⟩ := hall p hp
            refine ⟨l, us5, ws, g1, ?_, g3.kt kt, g4⟩
            rw [upd_ne (ne_of g2 hD5 (by intro y; cases y))]
            exact g2)
          refine q D2 wf _ (fun b o z => ?_) (w4.2.1.free hD24) hw1 hw2
          have hbD := ne_of_none z hD0
          rw [upd_ne hbD]
          exact s5 _ _ (hlow hbD (w4.2.1 _ _ z) od)
end
end Wb
namespace Wb
open PySem PySem.Spec PyProof.Rows L2

/-- who waits for o -/
def folF (l : List (List Int)) (wf : List Int → List (List Int)) (o : List Int) : List (List Int) := l.flatMap fun b => List.replicate ((wf b).count o) b
def folP (l : List (List Int)) (wf : List Int → List (List Int)) (b : List Int) (ws : List (List Int)) (o : List Int) : List (List Int) := folF l wf o ++ List.replicate (ws.count o) b
theorem folP_nil (l : List (List Int)) (wf : List Int → List (List Int)) (b : List Int) : folP l wf b [] = folF l wf := by
  funext o
  simp [folP]
theorem folP_step (l : List (List Int)) (wf : List Int → List (List Int)) (b : List Int) (ws : List (List Int)) (x : List Int) : folP l wf b (ws ++ [x]) = fun o => if o = x then folP l wf b ws o ++ [b] else folP l wf b ws o := by
  funext o
  unfold folP
  rw [List.count_append]
  by_cases c : o = x
  · rw [if_pos c, c, List.append_assoc, List.count_singleton_self, List.replicate_succ']
  · have e : List.count o [x] = 0 := by
      rw [List.count_eq_zero]
      simpa using c
    rw [if_neg c, e, Nat.add_zero]
theorem folF_succ (l : List (List Int)) (wf : List Int → List (List Int)) (b : List Int) : folF (l ++ [b]) wf = folP l wf b (wf b) := by
  funext o
  unfold folF folP
  rw [List.flatMap_append]
  simp [folF]
theorem folF_len {wf : List Int → List (List Int)} {o : List Int} : ∀ {l : List (List Int)}, (∀ b ∈ l, (wf b).length ≤ 240) → (folF l wf o).length ≤ l.length * 240
  | [], _ => by simp [folF]
  | b :: l, h => by
    have q := folF_len (wf := wf) (o := o) (l := l) fun x hx => h x (by simp [hx])
    have q2 := h b (by simp)
    have q3 := List.count_le_length (a := o) (l := wf b)
    unfold folF at q ⊢
    rw [List.flatMap_cons, List.length_append, List.length_replicate, List.length_cons]
    omega
/-- a dict of blocks, each with a list of blocks; made since H0 -/
def FInv (H0 : Hp) (d : Addr) (ff : List Int → List (List Int)) (kvs : List (List Int × V)) (H : Hp) : Prop :=
  H0 d = none ∧ Same H0 H ∧ H d = some (.dT (encK kvs)) ∧ (kvs.map (·.2)).Nodup ∧ ∀ p ∈ kvs, ∃ e us, p.2 = .ref e ∧ H0 e = none ∧ e ≠ d ∧ H e = some (.lst us) ∧ Dts H us ((ff p.1).map vi)
theorem FInv.same {H0 : Hp} {d : Addr} {ff : List Int → List (List Int)} {kvs : List (List Int × V)} {H H' : Hp} (h : FInv H0 d ff kvs H) (s : Same H H') : FInv H0 d ff kvs H' := by
  obtain ⟨h1, h2, h3, h4, h5⟩ := h
  refine ⟨h1, h2.trans s, s _ _ h3, h4, fun p hp => ?_⟩
  obtain ⟨e, iks, e1, e2, e3, e4, e5⟩ := h5 p hp
  exact ⟨e, iks, e1, e2, e3, s _ _ e4, e5.same s⟩
theorem FInv.grow {H0 : Hp} {d e : Addr} {kvs : List (List Int × V)} {H : Hp} {bl : List Int} (h : FInv H0 d (fun _ => []) kvs H) (he : H e = none) :
    FInv H0 d (fun _ => []) (kvs ++ [(bl, .ref e)]) (upd (upd H e (.lst [])) d (.dT (encK (kvs ++ [(bl, .ref e)])))) := by
  obtain ⟨h1, h2, h3, h4, h5⟩ := h
  have hed : e ≠ d := fun z => by
    rw [z, h3] at he
    cases he
  refine ⟨h1, fun b o q => ?_, upd_same, ?_, fun p hp => ?_⟩
  · rw [upd_ne (ne_of_none q h1), upd_ne (ne_of_none (h2 _ _ q) he)]
    exact h2 _ _ q
  · rw [List.map_append, List.nodup_append]
    refine ⟨h4, by simp, fun v hv u hu z => ?_⟩
    obtain ⟨p, hp, rfl⟩ := List.mem_map.mp hv
    obtain ⟨g, jks, g1, g2, g3, g4, g5⟩ := h5 p hp
    have eu : u = .ref e := by simpa using hu
    rw [g1, eu] at z
    cases z
    rw [g4] at he
    cases he
  · rcases List.mem_append.mp hp with hp | hp
    · obtain ⟨g, jks, g1, g2, g3, g4, g5⟩ := h5 p hp
      refine ⟨g, jks, g1, g2, g3, by rw [upd_ne g3, upd_ne (ne_of_none g4 he)]; exact g4, ?_⟩
      cases g5
      exact .nil
    · have ep : p = (bl, .ref e) := by simpa using hp
      subst ep
      exact ⟨e, [], rfl, h2.free he, hed, by rw [upd_ne hed, upd_same], .nil⟩
theorem FInv.put {H0 : Hp} {d : Addr} {ff : List Int → List (List Int)} {kvs : List (List Int × V)} {H : Hp} (h : FInv H0 d ff kvs H) (nd : (kvs.map (·.1)).Nodup) {p : List Int × V} (hp : p ∈ kvs) :
    ∃ e us, p.2 = .ref e ∧ H e = some (.lst us) ∧ us.length = (ff p.1).length ∧ ∀ a b, H a = some (.tup (b.map V.int)) → FInv H0 d (fun k => if k = p.1 then ff k ++ [b] else ff k) kvs (upd H e (.lst (us ++ [.ref a]))) ∧ KeepT H (upd H e (.lst (us ++ [.ref a]))) := by
  obtain ⟨h1, h2, h3, h4, h5⟩ := h
  obtain ⟨e, us, e1, e2, e3, e4, e5⟩ := h5 p hp
  refine ⟨e, us, e1, e4, vis_len e5, fun a b ha => ?_⟩
  have kt : KeepT H (upd H e (.lst (us ++ [.ref a]))) := fun b xs q => by
    rw [upd_ne (ne_of q e4 (by intro z; cases z))]
    exact q
  refine ⟨⟨h1, fun b o q => ?_, ?_, h4, fun q hq => ?_⟩, kt⟩
  · rw [upd_ne (ne_of_none q e2)]
    exact h2 _ _ q
  · rw [upd_ne (Ne.symm e3)]
    exact h3
  · obtain ⟨g, jks, g1, g2, g3, g4, g5⟩ := h5 q hq
    by_cases c : g = e
    · subst c
      have epq : p = q := snd_uniq h4 p hp q hq (e1.trans g1.symm)
      subst epq
      rw [e4] at g4
      cases g4
      refine ⟨g, _, g1, g2, g3, upd_same, ?_⟩
      show Dts _ _ ((if p.1 = p.1 then ff p.1 ++ [b] else ff p.1).map vi)
      rw [if_pos rfl, List.map_append]
      exact Dts.app (e5.kt kt) (.cons (dt_vi (kt _ _ ha)) .nil)
    · refine ⟨g, jks, g1, g2, g3, by rw [upd_ne c]; exact g4, ?_⟩
      have hne : q.1 ≠ p.1 := fun z => by
        have epq := key_uniq nd q hq p hp z
        subst epq
        rw [e1] at g1
        cases g1
        exact c rfl
      show Dts _ _ ((if q.1 = p.1 then ff q.1 ++ [b] else ff q.1).map vi)
      rw [if_neg hne]
      exact g5.kt kt
theorem kt_frz {H : Hp} {d : Addr} {u o : HO} (e : H d = some u) (hu : ∀ xs, u ≠ .tup xs) : KeepT H (upd H d o) := fun b xs q => by
  rw [upd_ne (ne_of q e (fun z => hu xs z.symm))]
  exact q
theorem FInv.lock {H0 : Hp} {d d0 : Addr} {u v : HO} {ff : List Int → List (List Int)} {kvs : List (List Int × V)} {H : Hp} (h : FInv H0 d ff kvs H) (e0 : H0 d0 = some u) (hu : ∀ xs, u ≠ .tup xs) : FInv (upd H0 d0 v) d ff kvs (upd H d0 v) := by
  obtain ⟨h1, h2, h3, h4, h5⟩ := h
  have hd := ne_of_none e0 h1
  refine ⟨by rw [upd_ne (Ne.symm hd)]; exact h1, fun b o q => ?_, by rw [upd_ne (Ne.symm hd)]; exact h3, h4, fun p hp => ?_⟩
  · by_cases c : b = d0
    · subst c
      rw [upd_same] at q ⊢
      exact q
    · rw [upd_ne c] at q ⊢
      exact h2 _ _ q
  · obtain ⟨g, jks, g1, g2, g3, g4, g5⟩ := h5 p hp
    have hg := ne_of_none e0 g2
    exact ⟨g, jks, g1, by rw [upd_ne (Ne.symm hg)]; exact g2, g3, by rw [upd_ne (Ne.symm hg)]; exact g4, g5.kt (kt_frz (h2 _ _ e0) hu)⟩
theorem FInv.unlock {H0 : Hp} {d d0 : Addr} {u v : HO} {ff : List Int → List (List Int)} {kvs : List (List Int × V)} {H : Hp} (h : FInv (upd H0 d0 v) d ff kvs H) (e0 : H0 d0 = some u) (hv : ∀ xs, v ≠ .tup xs) : FInv H0 d ff kvs (upd H d0 u) := by
  have q := h.lock (v := u) (d0 := d0) (u := v) upd_same hv
  have e : upd (upd H0 d0 v) d0 u = H0 := by
    funext b
    by_cases c : b = d0
    · subst c
      rw [upd_same, e0]
    · rw [upd_ne c, upd_ne c]
  rw [e] at q
  exact q
theorem WAt.get {H : Hp} {bs : List (List Int)} {wf : List Int → List (List Int)} {kvs : List (List Int × V)} (h2 : kvs.map (·.1) = bs) (h3 : ∀ p ∈ kvs, ∃ l us, p.2 = .ref l ∧ H l = some (.lst us) ∧ Dts H us ((wf p.1).map vi)) {b : List Int} (hb : b ∈ bs) :
    ∃ l us, valV kvs b = some (.ref l) ∧ H l = some (.lst us) ∧ Dts H us ((wf b).map vi) := by
  obtain ⟨v, e1, e2⟩ := val_some (kvs := kvs) (k := b) (by rw [h2]; exact hb)
  obtain ⟨l, us, g1, g2, g3⟩ := h3 _ e2
  exact ⟨l, us, by rw [e1]; exact congrArg some g1, g2, g3⟩
end Wb
namespace Wb
open PySem PySem.Spec PyProof.Rows L2

section
variable {P : Program} {w : World} {K : PySem.W.Frag} {mg : Str → Option Value} {base : Heap}
def spFollowersOf : Sp := fun vs H Q _ => ∃ (a : Addr) (bs : List (List Int)) (wf : List Int → List (List Int)), vs = [.ref a] ∧ WAt H a bs wf ∧ bs.Nodup ∧ bs.length ≤ 240 ∧ (∀ b ∈ bs, (wf b).length ≤ 240 ∧ ∀ w ∈ wf b, w ∈ bs) ∧
  ∀ d H', Same H H' → H d = none → WAt H' d bs (folF bs wf) → Q (.ref d) H'
theorem ok_followersOf (F : Has K mg "followers_of" s_followersOf ["waits"]) (B : Blt mg) : Callee P w K mg base 1 "followers_of" ["waits"] spFollowersOf := by
  have nd := sc_followersOf.nd
  refine callee_of F sc_followersOf (fun vs H Q E h => ?_) (fun f cdv A outer s H vs Q E hr h => ?_)
  · obtain ⟨a, bs, wf, rfl, _⟩ := h
    rfl
  · obtain ⟨a, bs, wf, rfl, hw, bnd, blen, hwf, q⟩ := h
    obtain ⟨wk, ha, hk, hall⟩ := hw
    have hu := hu_of hr
    have hnt : ∀ xs, HO.dT (encK wk) ≠ .tup xs := fun xs z => nomatch z
    have ewl : (encK wk).length = bs.length := by rw [encK, List.length_map, ← hk, List.length_map]
    have wat : ∀ {i : Nat} {k : List Key} {v : V}, (encK wk)[i]? = some (k, v) → ∃ bk, wk[i]? = some (bk, v) ∧ k = bk.map Sum.inl ∧ bs[i]? = some bk := fun {i k v} e => by
      rw [encK, List.getElem?_map] at e
      cases e2 : wk[i]? with
      | none => rw [e2] at e; cases e
      | some z =>
        rw [e2] at e
        cases e
        exact ⟨z.1, rfl, rfl, by rw [← hk, List.getElem?_map, e2]; rfl⟩
    refine ⟨_, (pss_cons
      (ps_lock (ps_setDcT (i := 1) (own := [("block", 2)]) hu rfl nd rfl rfl (sw_trueD rfl rfl rfl (by decide +kernel)) (pi_keys (pv 0)) (blkOk_by (by kernel_rfl)) (fun _ _ _ _ _ => (pg_name (i := 2) nd rfl (Or.inl rfl))) (fun _ _ _ _ _ => pts_nil) (fun _ _ _ _ _ => (pv 2)) (fun _ _ _ _ _ => (pe_lst pa_nil))))
    (pss_cons
      (ps_lock (ps_for PassesOwn.never rfl (pi_keys (pv 0)) (pg_name (i := 2) nd rfl (Or.inl rfl))
        (pss_one
          (ps_for PassesOwn.never rfl (pi_listK K rfl (pe_dget hu (pv 0) (pv 2) (fun _ _ => rfl))) (pg_name (i := 3) nd rfl (Or.inl rfl))
            (pss_one
              (ps_expr (pe_bm PySem.F.plainAttrs_list PySem.F.slot_list_append PySem.F.type_list_append mt_append (pe_dget hu (pv 1) (pv 3) (fun _ _ => rfl)) (pa_cons (pv 2) pa_nil))))))))
    (pss_one
      (ps_ret (pv 1))))), ?_⟩
    refine ⟨a, _, ha, trivial, fun od => ⟨_, rfl, a, od, rfl, .inr ⟨_, upd_same, fun D hD => ?_⟩⟩⟩
    refine dc_itT walk_keysT (fun i H' => ∃ kvs, FInv (upd H a (.frz od (.dT (encK wk)))) D (fun _ => []) kvs H' ∧ kvs.map (·.1) = bs.take i) ⟨[], ⟨hD, same_upd hD, upd_same, List.nodup_nil, fun _ h => nomatch h⟩, rfl⟩ (fun i H' _ p' => ?_) (fun i x H2 H3 hi p' hy => ?_) fun H2 p' => ?_
    · obtain ⟨kvs, fi, _⟩ := p'
      exact fi.2.1 _ _ upd_same
    · obtain ⟨kvs, fi, hk2⟩ := p'
      obtain ⟨rfl, k, v, qk, ek, rfl, hqk⟩ := hy
      obtain ⟨bk, ebk, rfl, ebs⟩ := wat ek
      rw [inl_kV] at hqk
      have hnew : bk ∉ kvs.map (·.1) := by
        rw [hk2]
        exact take_new bnd ebs
      have hkl : kvs.length < sizeLine := by
        have e1 := congrArg List.length hk2
        rw [List.length_map, List.length_take] at e1
        exact small_of (m := 240) (by omega) (by decide)
      refine ⟨rfl, _, rfl, ll rfl, fun e he => ⟨_, dput_t (upd_some he fi.2.2.1) (upd_some he hqk) hkl, kvs ++ [(bk, .ref e)], ?_, ?_⟩⟩
      · rw [put_new hnew]
        exact fi.grow he
      · rw [List.map_append, hk2, take_next' ebs]
        rfl
    · obtain ⟨kvs, fi, hk2⟩ := p'
      rw [ewl, List.take_length] at hk2
      have ha2 := fi.2.1 _ _ (upd_same (H := H) (a := a) (o := .frz od (.dT (encK wk))))
      have fi2 := fi.unlock ha (fun xs z => nomatch z)
      refine ⟨ha2, a, _, upd_same, trivial, fun od2 => ⟨_, rfl, a, od2, rfl, .inr ⟨_, upd_same, ?_⟩⟩⟩
      have fi3 := fi2.lock (v := .frz od2 (.dT (encK wk))) ha hnt
      have hD0 : H D = none := fi2.1
      have haD : a ≠ D := ne_of_none ha hD0
      have hlow : ∀ {b o}, b ≠ a → H b = some o → upd H a (.frz od2 (.dT (encK wk))) b = some o := fun {b o} hb e => by
        rw [upd_ne hb]
        exact e
      refine for_it walk_keysT (fun i σ H' => (∃ y2 y3, σ = [some (.ref a), some (.ref D), y2, y3]) ∧ FInv (upd H a (.frz od2 (.dT (encK wk)))) D (folF (bs.take i) wf) kvs H') ⟨⟨_, _, rfl⟩, fi3⟩ (fun i σ H' _ p' => p'.2.2.1 _ _ upd_same) (fun i x σ H4 H5 hi p' hy => ?_) fun σ H4 p' => ?_
      · obtain ⟨⟨y2, y3, rfl⟩, f4⟩ := p'
        obtain ⟨rfl, k, v, qk, ek, rfl, hqk⟩ := hy
        obtain ⟨bk, ebk, rfl, ebs⟩ := wat ek
        rw [inl_kV] at hqk
        have hbk := List.mem_of_getElem? ebs
        obtain ⟨l, us, e1, e2, e3⟩ := WAt.get hk hall hbk
        have hla : l ≠ a := ne_of e2 ha (by intro z; cases z)
        have hl5 := f4.2.1 _ _ (hlow hla e2)
        have hus5 : Dts H5 us ((wf bk).map vi) := (e3.kt (kt_frz ha hnt)).kt (KeepT.of f4.2.1)
        have hg : DGet H5 a (.ref qk) (valV wk bk) := dget_t (.inr ⟨od2, f4.2.1 _ _ upd_same⟩) hqk
        rw [e1] at hg
        refine ⟨_, rfl, _, rfl, a, _, rfl, hg, l, rfl, ⟨us, SqL.of hl5⟩, ?_⟩
        refine for_it (walk_list (xs := us)) (fun j σ H' => KeepT H5 H' ∧ (∃ y3, σ = [some (.ref a), some (.ref D), some (.ref qk), y3]) ∧ FInv (upd H a (.frz od2 (.dT (encK wk)))) D (folP (bs.take i) wf bk ((wf bk).take j)) kvs H')
          ⟨KeepT.refl _, ⟨_, rfl⟩, by rw [List.take_zero, folP_nil]; exact f4⟩ (fun j σ H' _ p' => SqL.of (p'.2.2.2.1 _ _ (hlow hla e2))) (fun j x σ H6 H7 hj p' hy => ?_) fun σ H6 p' => ?_
        · obtain ⟨k6, ⟨y3, rfl⟩, f6⟩ := p'
          obtain ⟨rfl, ex⟩ := hy
          obtain ⟨ao, o, rfl, eo, hao⟩ := dts_vis hus5 ex
          have hobs := (hwf bk hbk).2 o (List.mem_of_getElem? eo)
          obtain ⟨v2, e4, e5⟩ := val_some (kvs := kvs) (k := o) (by rw [hk2]; exact hobs)
          obtain ⟨e, us2, g1, g2, g3, g4⟩ := f6.put (by rw [hk2]; exact bnd) e5
          have g1' : v2 = .ref e := g1
          subst g1'
          have hg2 : DGet H7 D (.ref ao) (valV kvs o) := dget_t (.inl f6.2.2.1) (k6 _ _ hao)
          rw [e4] at hg2
          obtain ⟨f8, k8⟩ := g4 qk bk (k6 _ _ hqk)
          have hsz : us2.length < sizeLine := by
            rw [g3]
            show (folF (bs.take i) wf o ++ List.replicate (((wf bk).take j).count o) bk).length < sizeLine
            have q1 := folF_len (wf := wf) (o := o) (l := bs.take i) fun b hb => (hwf b (List.mem_of_mem_take hb)).1
            have q2 := (hwf bk hbk).1
            have q3 := List.count_le_length (a := o) (l := (wf bk).take j)
            rw [List.length_take] at q1 q3
            rw [List.length_append, List.length_replicate]
            have q4 : min i bs.length * 240 ≤ 240 * 240 := Nat.mul_le_mul_right _ (by omega)
            have q5 : (100000 : Nat) < sizeLine := by decide
            omega
          refine ⟨_, rfl, _, rfl, D, _, rfl, hg2, .inl ⟨rfl, us2, SqL.of g2⟩, _, rfl, e, us2, .ref qk, rfl, rfl, g2, hsz, ?_⟩
          refine ⟨k6.trans k8, ⟨_, rfl⟩, ?_⟩
          rw [take_next' eo, folP_step]
          exact f8
        · obtain ⟨k6, ⟨y3, rfl⟩, f6⟩ := p'
          refine ⟨⟨_, _, rfl⟩, ?_⟩
          rw [vis_len hus5, List.take_length] at f6
          rw [take_next' ebs, folF_succ]
          exact f6
      · obtain ⟨⟨y2, y3, rfl⟩, f4⟩ := p'
        rw [ewl, List.take_length] at f4
        have f5 := f4.unlock ha (fun xs z => nomatch z)
        refine ⟨f4.2.1 _ _ upd_same, _, rfl, q D _ f5.2.1 hD0 ⟨kvs, f5.2.2.1, hk2, fun p hp => ?_⟩⟩
        obtain ⟨e, us, g1, g2, g3, g4, g5⟩ := f5.2.2.2.2 p hp
        exact ⟨e, us, g1, g4, g5⟩
end
end Wb
namespace Wb
open PySem PySem.Spec PyProof.Rows L2

/-- how many of those that b waits for are not done -/
def lackN (wf : List Int → List (List Int)) (done : List (List Int)) (b : List Int) : Nat := (wf b).countP fun w => decide (w ∉ done)
theorem count_flat {wf : List Int → List (List Int)} {o b : List Int} : ∀ {l : List (List Int)}, l.Nodup → (folF l wf o).count b = if b ∈ l then (wf b).count o else 0
  | [], _ => by simp [folF]
  | a :: l, h => by
    have hn := List.nodup_cons.mp h
    have q := count_flat (wf := wf) (o := o) (b := b) hn.2
    unfold folF at q ⊢
    rw [List.flatMap_cons, List.count_append, q, List.count_replicate]
    by_cases c : a = b
    · subst c
      simp [hn.1]
    · have c2 : b ≠ a := fun e => c e.symm
      by_cases c3 : b ∈ l <;> simp [c, c2, c3]
theorem count_fol {wf : List Int → List (List Int)} {o b : List Int} {l : List (List Int)} (h : l.Nodup) (hb : b ∈ l) : (folF l wf o).count b = (wf b).count o := by
  rw [count_flat h, if_pos hb]
theorem lack_step {wf : List Int → List (List Int)} {done : List (List Int)} {o b : List Int} (ho : o ∉ done) : lackN wf done b = lackN wf (done ++ [o]) b + (wf b).count o := by
  unfold lackN
  generalize wf b = l
  induction l with
  | nil => rfl
  | cons a l ih =>
    rw [List.countP_cons, List.countP_cons, List.count_cons, ih]
    by_cases c : a = o
    · subst c
      simp [ho]
      omega
    · have c2 : ¬ (a == o) = true := by simpa using c
      by_cases c3 : a ∈ done
      · simp [c3, c]
      · simp [c3, c]
        omega
theorem lack_nil (wf : List Int → List (List Int)) (b : List Int) : lackN wf [] b = (wf b).length := by
  unfold lackN
  rw [List.countP_eq_length.mpr fun a _ => by simp]
theorem lack_zero {wf : List Int → List (List Int)} {done : List (List Int)} {b : List Int} : lackN wf done b = 0 ↔ ∀ w ∈ wf b, w ∈ done := by
  unfold lackN
  rw [List.countP_eq_zero]
  simp
/-- who is found, and what lacks -/
structure KInv (bs : List (List Int)) (lk : List Int → Int) (found : List (List Int)) : Prop where
  nd : found.Nodup
  sub : ∀ b ∈ found, b ∈ bs
  iff : ∀ b ∈ bs, (b ∈ found ↔ lk b = 0)
theorem KInv.len {bs : List (List Int)} {lk : List Int → Int} {found : List (List Int)} (k : KInv bs lk found) : found.length ≤ bs.length := nodup_sub_len k.nd k.sub
def decAt (lk : List Int → Int) (b : List Int) (z : Int) : List Int → Int := fun x => if x = b then z else lk x
theorem KInv.add {bs : List (List Int)} {lk : List Int → Int} {found : List (List Int)} (k : KInv bs lk found) {b : List Int} (hb : b ∈ bs) (h : lk b = 1) : KInv bs (decAt lk b 0) (found ++ [b]) := by
  have hn : b ∉ found := fun z => by
    have := (k.iff b hb).mp z
    omega
  refine ⟨?_, fun x hx => ?_, fun x hx => ?_⟩
  · rw [List.nodup_append]
    refine ⟨k.nd, by simp, fun a ha c hc e => hn ?_⟩
    have e2 : c = b := by simpa using hc
    rw [← e2, ← e]
    exact ha
  · rcases List.mem_append.mp hx with hx | hx
    · exact k.sub x hx
    · have e2 : x = b := by simpa using hx
      rw [e2]
      exact hb
  · unfold decAt
    by_cases c : x = b
    · rw [if_pos c, c]
      simp
    · rw [if_neg c, List.mem_append, k.iff x hx]
      simp [c]
theorem KInv.dec {bs : List (List Int)} {lk : List Int → Int} {found : List (List Int)} (k : KInv bs lk found) {b : List Int} (hb : b ∈ bs) (h : 1 ≤ lk b) (h2 : lk b - 1 ≠ 0) : KInv bs (decAt lk b (lk b - 1)) found := by
  refine ⟨k.nd, k.sub, fun x hx => ?_⟩
  unfold decAt
  by_cases c : x = b
  · rw [if_pos c, c, k.iff b hb]
    omega
  · rw [if_neg c]
    exact k.iff x hx
/-- all are found, where none waits for itself over others -/
theorem all_found {bs found : List (List Int)} {wf : List Int → List (List Int)} {φ : List Int → Int} (k : KInv bs (fun b => (lackN wf found b : Int)) found) (h : ∀ b ∈ bs, ∀ w ∈ wf b, w ∈ bs ∧ φ w < φ b) (nd : bs.Nodup) : found.length = bs.length := by
  have all : ∀ b ∈ bs, b ∈ found := fun b0 hb0 => Classical.byContradiction fun hn => by
    obtain ⟨b, hb, hmin⟩ := ext_of (fun u v : List Int => φ v ≤ φ u) (bs.filter fun x => decide (x ∉ found)) (fun a _ b _ => by omega) (fun a _ b _ c _ h1 h2 => by omega) (List.ne_nil_of_mem (a := b0) (List.mem_filter.mpr ⟨hb0, decide_eq_true hn⟩))
    have hb1 := (List.mem_filter.mp hb).1
    have hb2 := of_decide_eq_true (List.mem_filter.mp hb).2
    refine hb2 ((k.iff b hb1).mpr ?_)
    have e : lackN wf found b = 0 := lack_zero.mpr fun w hw => Classical.byContradiction fun hw2 => by
      have q := h b hb1 w hw
      have := hmin w (List.mem_filter.mpr ⟨q.1, decide_eq_true hw2⟩)
      omega
    omega
  have h1 := nodup_sub_len k.nd k.sub
  have h2 := nodup_sub_len nd all
  omega
/-- a dict of blocks with ints -/
def lkv (bs : List (List Int)) (lk : List Int → Int) : List (List Int × V) := bs.map fun b => (b, V.int (lk b))
theorem lkv_keys (bs : List (List Int)) (lk : List Int → Int) : (lkv bs lk).map (·.1) = bs := by
  rw [lkv, List.map_map]
  exact List.map_id _
theorem lkv_get {bs : List (List Int)} {lk : List Int → Int} {b : List Int} (h : b ∈ bs) : valV (lkv bs lk) b = some (.int (lk b)) := by
  obtain ⟨v, e1, e2⟩ := val_some (kvs := lkv bs lk) (k := b) (by rw [lkv_keys]; exact h)
  obtain ⟨c, _, e3⟩ := List.mem_map.mp e2
  cases e3
  exact e1
theorem lkv_put {bs : List (List Int)} {lk : List Int → Int} {b : List Int} {z : Int} (h : b ∈ bs) : putK (lkv bs lk) b (.int z) = lkv bs (decAt lk b z) := by
  unfold putK
  have c : ((lkv bs lk).any fun kv => decide (kv.1 = b)) = true := List.any_eq_true.mpr ⟨(b, .int (lk b)), List.mem_map.mpr ⟨b, h, rfl⟩, by simp⟩
  rw [if_pos c]
  unfold lkv
  rw [List.map_map]
  apply List.map_congr_left
  intro x _
  show (if x = b then (x, V.int z) else (x, V.int (lk x))) = (x, V.int (decAt lk b z x))
  unfold decAt
  by_cases q : x = b
  · rw [if_pos q, if_pos q]
  · rw [if_neg q, if_neg q]
end Wb
namespace Wb
open PySem PySem.Spec PyProof.Rows L2

theorem len_A {X : Cx} (K) (h : X.K = K) : CallR X (.builtin "len") (fun xs H Q => rLenS K xs H Q ∨ rLenT xs H Q) := CallR.or (len_K K h) call_len_dT
theorem key_at {wk : List (List Int × V)} {bs : List (List Int)} (hk : wk.map (·.1) = bs) {i : Nat} {k : List Key} {v : V} (e : (encK wk)[i]? = some (k, v)) : ∃ bk, wk[i]? = some (bk, v) ∧ k = bk.map Sum.inl ∧ bs[i]? = some bk := by
  rw [encK, List.getElem?_map] at e
  cases e2 : wk[i]? with
  | none => rw [e2] at e; cases e
  | some z =>
    rw [e2] at e
    cases e
    exact ⟨z.1, rfl, rfl, by rw [← hk, List.getElem?_map, e2]; rfl⟩
theorem enc_len {wk : List (List Int × V)} {bs : List (List Int)} (hk : wk.map (·.1) = bs) : (encK wk).length = bs.length := by rw [encK, List.length_map, ← hk, List.length_map]
theorem lkv_len (bs : List (List Int)) (lk : List Int → Int) : (lkv bs lk).length = bs.length := by rw [lkv, List.length_map]
theorem KInv.congr {bs : List (List Int)} {lk lk2 : List Int → Int} {found : List (List Int)} (k : KInv bs lk found) (h : ∀ b ∈ bs, lk b = lk2 b) : KInv bs lk2 found := ⟨k.nd, k.sub, fun b hb => by rw [k.iff b hb, h b hb]⟩
theorem same_unlock {H H' : Hp} {d : Addr} {u v : HO} (e : H d = some u) (s : Same (upd H d v) H') : Same H (upd H' d u) := fun b o z => by
  by_cases c : b = d
  · subst c
    rw [upd_same, ← e]
    exact z
  · rw [upd_ne c]
    exact s _ _ (by rw [upd_ne c]; exact z)
section
variable {P : Program} {w : World} {K : PySem.W.Frag} {mg : Str → Option Value} {base : Heap}
def spFindPlan : Sp := fun vs H Q _ => ∃ (a0 a b c : Addr) (us : List V) (dims : Int) (rules : List Rule) (rs : List (List Int)) (sides box : List Int) (φ : List Int → Int), vs = [.ref a0, .ref a, .ref b, .ref c] ∧ Dt H (.ref a0) (flowD dims rules) ∧ FlowOk box.length rules ∧
  H a = some (.tup us) ∧ Dts H us (rs.map vi) ∧ H b = some (.tup (sides.map V.int)) ∧ H c = some (.tup (box.map V.int)) ∧ LayOk rs sides box ∧ RelOk rules rs sides box (fun w b => φ w < φ b) ∧
  ∀ p t H', Same H H' → H' p = some (.tup [.str "plan", .ref t]) → Q (.ref p) H'
theorem ok_findPlan (F : Has K mg "find_plan" s_findPlan ["flow", "rows", "sides", "box"]) (B : Blt mg) (C : Consts mg) (c_waitsOf : Callee P w K mg base 5 "waits_of" ["flow", "rows", "sides", "box"] spWaitsOf) (c_followersOf : Callee P w K mg base 1 "followers_of" ["waits"] spFollowersOf) :
    Callee P w K mg base 6 "find_plan" ["flow", "rows", "sides", "box"] spFindPlan := by
  have nd := sc_findPlan.nd
  refine callee_of F sc_findPlan (fun vs H Q E h => ?_) (fun f cdv A outer s H vs Q E hr h => ?_)
  · obtain ⟨a0, a, b, c, us, dims, rules, rs, sides, box, R, rfl, _⟩ := h
    rfl
  · obtain ⟨a0, a, b, c, us, dims, rules, rs, sides, box, φ, rfl, hfl, fok, ha, hus, hb, hc, ok, rok, q⟩ := h
    have hu := hu_of hr
    have c_followersOf := c_followersOf.mono (show 1 ≤ 5 by decide)
    have bnd := blocksOf_nodup rs sides box
    have blen := (blocksOf_len (rs := rs) (sides := sides) ok.2.2.2.2.2).2
    refine ⟨_, (pss_cons
      (ps_set (i := 4) nd rfl (Or.inr rfl) (pe_fn c_waitsOf hr rfl (pa_cons (pv 0) (pa_cons (pv 1) (pa_cons (pv 2) (pa_cons (pv 3) pa_nil))))))
    (pss_cons
      (ps_asg (pe_tup (pa_cons (pe_fn c_followersOf hr rfl (pa_cons (pv 4) pa_nil)) (pa_cons (pe_lock (pe_dcT (own := [("block", 10)]) hu rfl nd (pi_keys (pv 4)) (blkOk_by (by kernel_rfl)) (fun _ _ _ _ _ => (pg_name (i := 10) nd rfl (Or.inl rfl))) (fun _ _ _ _ _ => pts_nil) (fun _ _ _ _ _ => (pv 10)) (fun _ _ _ _ _ => (pe_callB (len_A K rfl) (by rfl) B.len (by decide +kernel) (pa_cons (pe_dget hu (pv 4) (pv 10) (fun _ _ => rfl)) pa_nil))))) pa_nil))) (pg_tupK K 2 rfl rfl (pgs_cons (pg_name (i := 5) nd rfl (Or.inl rfl)) (pgs_cons (pg_name (i := 6) nd rfl (Or.inr rfl)) pgs_nil))))
    (pss_cons
      (ps_par (i := 7) (j := 8) rfl nd rfl rfl (by decide) rfl rfl (pa_cons (pe_lock (pe_lc (own := [("block", 10)]) rfl nd (pi_keys (pv 4)) (blkOk_by (by kernel_rfl)) (fun _ _ _ _ _ => (pg_name (i := 10) nd rfl (Or.inl rfl))) (fun _ _ _ _ _ => (pts_one (pt_cmpR op_eq (pe_dget hu (pv 6) (pv 10) (fun _ _ => rfl)) pe_int (nomark _)))) (fun _ _ _ _ _ => (pv 10)))) (pa_cons pe_int pa_nil)) (by rfl))
    (pss_cons
      (ps_while PassesOwn.never (pt_cmpR op_lt (pv 8) (pe_callB (len_A K rfl) (by rfl) B.len (by decide +kernel) (pa_cons (pv 7) pa_nil)) (nomark _))
        (pss_cons
          (ps_for PassesOwn.never rfl (pi_listK K rfl (pe_dget hu (pv 5) (pe_ix (ix_listK K rfl) (pv 7) (pv 8) (fun _ _ => rfl)) (fun _ _ => rfl))) (pg_name (i := 9) nd rfl (Or.inl rfl))
            (pss_cons
              (ps_dput hu (pv 6) (pv 9) (pe_op op_sub (pe_dget hu (pv 6) (pv 9) (fun _ _ => rfl)) pe_int) rfl)
            (pss_one
              (ps_if (pt_cmpR op_eq (pe_dget hu (pv 6) (pv 9) (fun _ _ => rfl)) pe_int (nomark _))
                (pss_one
                  (ps_expr (pe_bm PySem.F.plainAttrs_list PySem.F.slot_list_append PySem.F.type_list_append mt_append (pv 7) (pa_cons (pv 9) pa_nil))))
                pss_nil))))
        (pss_one
          (ps_set (i := 8) nd rfl (Or.inl rfl) (pe_op op_add (pv 8) pe_int)))))
    (pss_cons
      (ps_if (pt_cmpR op_lt (pe_callB (len_A K rfl) (by rfl) B.len (by decide +kernel) (pa_cons (pv 7) pa_nil)) (pe_callB (len_A K rfl) (by rfl) B.len (by decide +kernel) (pa_cons (pv 4) pa_nil)) (nomark _))
        (pss_one
          ps_never)
        pss_nil)
    (pss_one
      (ps_ret (pe_tup (pa_cons (pe_const C.PLAN rfl) (pa_cons (pe_tupleK K rfl rfl B.tuple (pv 7)) pa_nil)))))))))), ?_⟩
    refine ⟨_, rfl, _, rfl, _, rfl, _, rfl, a0, a, b, c, us, dims, rules, rs, sides, box, _, rfl, hfl, fok, ha, hus, hb, hc, ok, rok, fun dw wf H1 s1 hdw hwat hwf => ?_⟩
    generalize blocksOf rs sides box = bs at *
    refine ⟨_, rfl, dw, bs, wf, rfl, hwat, bnd, blen, fun b hb => ⟨(hwf b hb).1, fun w hw => ((hwf b hb).2 w hw).1⟩, fun df H2 s2 hdf hfat => ?_⟩
    have hwat2 := hwat.same s2
    obtain ⟨wk, hw2, hk, hall⟩ := hwat2
    have hnt : ∀ xs, HO.dT (encK wk) ≠ .tup xs := fun xs z => nomatch z
    have ewl := enc_len hk
    refine ⟨dw, _, hw2, trivial, fun od => ⟨_, rfl, dw, od, rfl, .inr ⟨_, upd_same, fun DL hDL => ?_⟩⟩⟩
    have hDLw : DL ≠ dw := fun e => by
      rw [e, upd_same] at hDL
      cases hDL
    have hlow : ∀ {b o od}, b ≠ dw → H2 b = some o → upd H2 dw (.frz od (.dT (encK wk))) b = some o := fun {b o od} hb e => by
      rw [upd_ne hb]
      exact e
    refine dc_itT walk_keysT (fun i H' => Same (upd H2 dw (.frz od (.dT (encK wk)))) H' ∧ H' DL = some (.dT (encK (lkv (bs.take i) fun b => ((wf b).length : Nat))))) ⟨same_upd hDL, upd_same⟩ (fun i H' _ p' => p'.1 _ _ upd_same) (fun i x H3 H4 hi p' hy => ?_) fun H3 p' => ?_
    · obtain ⟨s3, hd3⟩ := p'
      obtain ⟨rfl, k, v, qk, ek, rfl, hqk⟩ := hy
      obtain ⟨bk, ebk, rfl, ebs⟩ := key_at hk ek
      rw [inl_kV] at hqk
      have hbk := List.mem_of_getElem? ebs
      obtain ⟨l, us5, e1, e2, e3⟩ := WAt.get hk hall hbk
      have hlw : l ≠ dw := ne_of e2 hw2 (by intro z; cases z)
      have hl4 := s3 _ _ (hlow (od := od) hlw e2)
      have hg : DGet H4 dw (.ref qk) (valV wk bk) := dget_t (.inr ⟨od, s3 _ _ upd_same⟩) hqk
      rw [e1] at hg
      have hnew : bk ∉ (lkv (bs.take i) fun b => ((wf b).length : Nat)).map (·.1) := by
        rw [lkv_keys]
        exact take_new bnd ebs
      refine ⟨rfl, _, rfl, _, rfl, _, rfl, dw, _, rfl, hg, .inl ⟨l, us5, rfl, .inl (SqL.of hl4), _, dput_t hd3 hqk (by rw [lkv_len, List.length_take]; exact small_of (m := 240) (by omega) (by decide)), fun b o z => ?_, ?_⟩⟩
      · rw [upd_ne (ne_of_none z hDL)]
        exact s3 _ _ z
      · rw [upd_same, put_new hnew, take_next' ebs, vis_len e3]
        unfold lkv
        rw [List.map_append]
        rfl
    · obtain ⟨s3, hd3⟩ := p'
      rw [ewl, List.take_length] at hd3
      refine ⟨s3 _ _ upd_same, ?_⟩
      have sU := same_unlock hw2 s3
      have hdU : upd H3 dw (.dT (encK wk)) DL = some (.dT (encK (lkv bs fun b => ((wf b).length : Nat)))) := by
        rw [upd_ne hDLw]
        exact hd3
      have hDL2 : H2 DL = none := by
        rw [upd_ne hDLw] at hDL
        exact hDL
      generalize upd H3 dw (.dT (encK wk)) = HU at sU hdU ⊢
      refine ⟨ll rfl, fun T hT => ⟨T, _, rfl, SqT.of upd_same, rfl, _, _, rfl, _, _, rfl, rfl, ?_⟩⟩
      have sT : Same H2 (upd HU T (.tup [.ref df, .ref DL])) := sU.trans (same_upd hT)
      have hdT : upd HU T (.tup [.ref df, .ref DL]) DL = some (.dT (encK (lkv bs fun b => ((wf b).length : Nat)))) := upd_some hT hdU
      generalize upd HU T (.tup [.ref df, .ref DL]) = HT at sT hdT ⊢
      have hwT := sT _ _ hw2
      refine ⟨dw, _, hwT, trivial, fun od2 => ⟨_, rfl, dw, od2, rfl, .inr ⟨_, upd_same, fun fa hfa => ?_⟩⟩⟩
      have hfaw : fa ≠ dw := fun e => by
        rw [e, upd_same] at hfa
        cases hfa
      have hfaT : HT fa = none := by
        rw [upd_ne hfaw] at hfa
        exact hfa
      refine lc_fm walk_keysT (fun i => (bs[i]?).bind fun m => if decide ((((wf m).length : Nat) : Int) = 0) then some (vi m) else none) hfa (by rw [ewl]; exact small_of blen (by decide)) (fun H' s => s _ _ upd_same) (fun i x H4 H5 k kn hi s4 hy hk2 hkn => ?_) (fun H4 zs s4 h4 d4 _ => ?_)
      · obtain ⟨rfl, k, v, qk, ek, rfl, hqk⟩ := hy
        obtain ⟨bk, ebk, rfl, ebs⟩ := key_at hk ek
        rw [inl_kV] at hqk
        have hbk := List.mem_of_getElem? ebs
        have hg : DGet H5 DL (.ref qk) (valV (lkv bs fun b => ((wf b).length : Nat)) bk) := dget_t (.inl (s4 _ _ (by rw [upd_ne hDLw]; exact hdT))) hqk
        rw [lkv_get hbk] at hg
        refine ⟨rfl, _, rfl, _, rfl, DL, _, rfl, hg, rfl, _, rfl, ?_⟩
        by_cases c : (((wf bk).length : Nat) : Int) = 0
        · rw [decide_eq_true (congrArg V.int c)]
          exact iteT ⟨_, rfl, hk2 _ _ (vi bk) (by show Option.bind (bs[i]?) _ = _; rw [ebs]; exact if_pos (decide_eq_true c)) (Same.refl _) (only_vi _) (dt_vi hqk)⟩
        · rw [decide_eq_false fun z => c (V.int.inj z)]
          exact iteF (hkn _ (by show Option.bind (bs[i]?) _ = _; rw [ebs]; exact if_neg (by rw [decide_eq_false c]; exact Bool.false_ne_true)) (Same.refl _))
      · rw [ewl, fm_if bs fun m => decide ((((wf m).length : Nat) : Int) = 0)] at d4
        refine ⟨s4 _ _ upd_same, ?_⟩
        have sV := same_unlock hwT s4
        have hfV : upd H4 dw (.dT (encK wk)) fa = some (.lst zs) := by
          rw [upd_ne hfaw]
          exact h4
        have dV := d4.kt (kt_frz (o := .dT (encK wk)) (s4 _ _ upd_same) (fun xs z => nomatch z))
        generalize upd H4 dw (.dT (encK wk)) = HV at sV hfV dV ⊢
        have s2V : Same H2 HV := sT.trans sV
        have hdV := sV _ _ hdT
        have hfaD : fa ≠ DL := ne_of hfV hdV (by intro z; cases z)
        have h2fa : H2 fa = none := sT.free hfaT
        have emp : ∀ b ∈ bs, (((wf b).length : Nat) : Int) = (lackN wf ((bs.filter fun m => decide ((((wf m).length : Nat) : Int) = 0)).take 0) b : Nat) := fun b _ => by
          rw [List.take_zero, lack_nil]
        have kin0 : KInv bs (fun b => ((wf b).length : Nat)) (bs.filter fun m => decide ((((wf m).length : Nat) : Int) = 0)) := ⟨(List.filter_sublist).nodup bnd, fun b hb => (List.mem_filter.mp hb).1, fun b hb => by
          rw [List.mem_filter]
          simp [hb]⟩
        generalize (bs.filter fun m => decide ((((wf m).length : Nat) : Int) = 0)) = found0 at emp kin0 dV
        refine ⟨_, _, rfl, ?_⟩
        refine ⟨fun m σ H' => ∃ (i : Nat) (found : List (List Int)) (lk : List Int → Int) (vs : List V) (y9 : Option V), m = bs.length - i ∧ σ = [some (.ref a0), some (.ref a), some (.ref b), some (.ref c), some (.ref dw), some (.ref df), some (.ref DL), some (.ref fa), some (.int (i : Nat)), y9, none] ∧
          Same H2 H' ∧ H' DL = some (.dT (encK (lkv bs lk))) ∧ H' fa = some (.lst vs) ∧ Dts H' vs (found.map vi) ∧ KInv bs lk found ∧ i ≤ found.length ∧ ∀ b ∈ bs, lk b = (lackN wf (found.take i) b : Nat),
          ⟨_, 0, found0, _, zs, none, rfl, rfl, s2V, hdV, hfV, dV, kin0, Nat.zero_le _, emp⟩, fun m σ H' hW => ?_⟩
        obtain ⟨i, found, lk, vs, y9, rfl, rfl, s5, hd5, hf5, d5, kv, hi, hlk⟩ := hW
        have hvl := vis_len d5
        have hfl2 := kv.len
        refine ⟨_, rfl, _, rfl, .inl ⟨fa, vs, rfl, .inl (SqL.of hf5), _, _, rfl, rfl, _, rfl, ?_⟩⟩
        by_cases ci : i < found.length
        · rw [decide_eq_true (show ((i : Nat) : Int) < (vs.length : Nat) by omega)]
          have eo : found[i]? = some found[i] := List.getElem?_eq_getElem ci
          have hom := List.getElem_mem ci
          obtain ⟨vo, evo, dvo⟩ := d5.get (i := i) (d := vi found[i]) (by rw [List.getElem?_map, eo]; rfl)
          obtain ⟨ao, rfl, hao⟩ := dvo.viI
          have hon : found[i] ∉ found.take i := take_new kv.nd eo
          generalize found[i] = o at eo hom evo dvo hao hon
          have hob := kv.sub o hom
          obtain ⟨fk, hfd, hfk, hfall⟩ := hfat
          obtain ⟨l, us5, e1, e2, e3⟩ := WAt.get hfk hfall hob
          have hg := dget_t (.inl (s5 _ _ hfd)) hao
          rw [e1] at hg
          refine ⟨fun σ H' => ∃ m', m' < bs.length - i ∧ ∃ (i' : Nat) (found : List (List Int)) (lk : List Int → Int) (vs : List V) (y9 : Option V), m' = bs.length - i' ∧ σ = [some (.ref a0), some (.ref a), some (.ref b), some (.ref c), some (.ref dw), some (.ref df), some (.ref DL), some (.ref fa), some (.int (i' : Nat)), y9, none] ∧
            Same H2 H' ∧ H' DL = some (.dT (encK (lkv bs lk))) ∧ H' fa = some (.lst vs) ∧ Dts H' vs (found.map vi) ∧ KInv bs lk found ∧ i' ≤ found.length ∧ ∀ b ∈ bs, lk b = (lackN wf (found.take i') b : Nat), fun σ' H' h => h, ?_⟩
          refine ⟨_, rfl, _, rfl, _, rfl, fa, vs, i, .ref ao, rfl, rfl, SqL.of hf5, atI_nat evo, df, _, rfl, hg, l, rfl, ⟨us5, SqL.of (s5 _ _ e2)⟩, ?_⟩
          refine for_it (walk_list (xs := us5)) (fun j σ H' => ∃ (found2 : List (List Int)) (lk2 : List Int → Int) (vs2 : List V) (y9 : Option V), σ = [some (.ref a0), some (.ref a), some (.ref b), some (.ref c), some (.ref dw), some (.ref df), some (.ref DL), some (.ref fa), some (.int (i : Nat)), y9, none] ∧
            Same H2 H' ∧ H' DL = some (.dT (encK (lkv bs lk2))) ∧ H' fa = some (.lst vs2) ∧ Dts H' vs2 (found2.map vi) ∧ KInv bs lk2 found2 ∧ found2.take (i + 1) = found.take (i + 1) ∧ i + 1 ≤ found2.length ∧ ∀ b ∈ bs, lk2 b = (lackN wf (found.take i) b : Nat) - (((folF bs wf o).take j).count b : Nat))
            ⟨found, lk, vs, y9, rfl, s5, hd5, hf5, d5, kv, rfl, ci, fun b hb => by rw [hlk b hb]; simp⟩ (fun j σ H' _ p' => ?_) (fun j x σ H6 H7 hj p' hy => ?_) fun σ H6 p' => ?_
          · obtain ⟨_, _, _, _, _, s6, _⟩ := p'
            exact SqL.of (s6 _ _ e2)
          · obtain ⟨found2, lk2, vs2, y9', rfl, s6, hd6, hf6, d6, kv6, etk, hi6, hlk6⟩ := p'
            obtain ⟨rfl, ex⟩ := hy
            obtain ⟨ab, bl, rfl, ebl, hab⟩ := dts_vis e3 ex
            have hab7 := s6 _ _ hab
            have hblm := List.mem_of_getElem? ebl
            have hbb : bl ∈ bs := Classical.byContradiction fun z => by
              have q1 := count_flat (wf := wf) (o := o) (b := bl) bnd
              rw [if_neg z, List.count_eq_zero] at q1
              exact q1 hblm
            have hge : 1 ≤ lk2 bl := by
              have q1 := hlk6 bl hbb
              have q2 := lack_step (wf := wf) (b := bl) hon
              have q3 := count_fol (wf := wf) (o := o) bnd hbb
              have q4 := (List.take_sublist (j + 1) (folF bs wf o)).count_le bl
              rw [take_next' ebl, List.count_append, List.count_singleton_self] at q4
              omega
            have hg6 := dget_t (.inl hd6) hab7
            rw [lkv_get hbb] at hg6
            have hput := dput_t (v := .int (lk2 bl - 1)) hd6 hab7 (by rw [lkv_len]; exact small_of blen (by decide))
            rw [lkv_put hbb] at hput
            refine ⟨_, rfl, _, rfl, DL, _, rfl, hg6, _, _, rfl, rfl, _, rfl, _, rfl, DL, _, rfl, hput, ?_⟩
            have kt8 : KeepT H7 (upd H7 DL (.dT (encK (lkv bs (decAt lk2 bl (lk2 bl - 1)))))) := kt_frz hd6 (fun xs z => nomatch z)
            have s8 : Same H2 (upd H7 DL (.dT (encK (lkv bs (decAt lk2 bl (lk2 bl - 1)))))) := fun b o z => by
              rw [upd_ne (ne_of_none z hDL2)]
              exact s6 _ _ z
            have hf8 : upd H7 DL (.dT (encK (lkv bs (decAt lk2 bl (lk2 bl - 1))))) fa = some (.lst vs2) := by
              rw [upd_ne hfaD]
              exact hf6
            have hd8 : upd H7 DL (.dT (encK (lkv bs (decAt lk2 bl (lk2 bl - 1))))) DL = some (.dT (encK (lkv bs (decAt lk2 bl (lk2 bl - 1))))) := upd_same
            have d8 := d6.kt kt8
            have hab8 := kt8 _ _ hab7
            generalize upd H7 DL (.dT (encK (lkv bs (decAt lk2 bl (lk2 bl - 1))))) = H8 at s8 hf8 hd8 d8 hab8 ⊢
            have hg8 := dget_t (.inl hd8) hab8
            rw [lkv_get hbb] at hg8
            have edec : decAt lk2 bl (lk2 bl - 1) bl = lk2 bl - 1 := if_pos rfl
            have hlk8 : ∀ b ∈ bs, decAt lk2 bl (lk2 bl - 1) b = (lackN wf (found.take i) b : Nat) - (((folF bs wf o).take (j + 1)).count b : Nat) := fun b hb => by
              have q1 := hlk6 b hb
              rw [take_next' ebl, List.count_append]
              unfold decAt
              by_cases cb : b = bl
              · subst cb
                rw [if_pos rfl, List.count_singleton_self]
                omega
              · have e0 : List.count b [bl] = 0 := by
                  rw [List.count_eq_zero]
                  simpa using cb
                rw [if_neg cb, e0]
                omega
            refine ⟨_, rfl, _, rfl, DL, _, rfl, hg8, rfl, _, rfl, ?_⟩
            rw [edec]
            by_cases cz : lk2 bl - 1 = 0
            · rw [decide_eq_true (congrArg V.int cz)]
              have kv8 := kv6.add hbb (show lk2 bl = 1 by omega)
              have hl8 := kv8.len
              rw [← cz] at kv8
              have hsz : vs2.length < sizeLine := by
                rw [vis_len d8]
                rw [List.length_append] at hl8
                exact small_of (m := 240) (by omega) (by decide)
              refine iteT ⟨_, rfl, .inl ⟨rfl, vs2, SqL.of hf8⟩, _, rfl, fa, vs2, _, rfl, rfl, hf8, hsz, ?_⟩
              have kt9 : KeepT H8 (upd H8 fa (.lst (vs2 ++ [.ref ab]))) := kt_frz hf8 (fun xs z => nomatch z)
              refine ⟨found2 ++ [bl], _, _, _, rfl, fun b o z => ?_, ?_, upd_same, ?_, kv8, ?_, ?_, hlk8⟩
              · rw [upd_ne (ne_of_none z h2fa)]
                exact s8 _ _ z
              · rw [upd_ne (Ne.symm hfaD)]
                exact hd8
              · rw [List.map_append]
                exact Dts.app (d8.kt kt9) (.cons (dt_vi (kt9 _ _ hab8)) .nil)
              · rw [List.take_append_of_le_length hi6, etk]
              · rw [List.length_append]
                omega
            · rw [decide_eq_false fun z => cz (V.int.inj z)]
              exact iteF ⟨found2, _, vs2, _, rfl, s8, hd8, hf8, d8, kv6.dec hbb hge cz, etk, hi6, hlk8⟩
          · obtain ⟨found2, lk2, vs2, y9', rfl, s6, hd6, hf6, d6, kv6, etk, hi6, hlk6⟩ := p'
            have hl5 := vis_len e3
            rw [hl5, List.take_length] at hlk6
            have hl6 := kv6.len
            refine ⟨_, rfl, _, _, rfl, rfl, bs.length - (i + 1), by omega, i + 1, found2, lk2, vs2, y9', rfl, rfl, s6, hd6, hf6, d6, kv6, hi6, fun b hb => ?_⟩
            rw [hlk6 b hb, etk, take_next' eo, count_fol bnd hb, lack_step (o := o) hon]
            omega
        · rw [decide_eq_false (show ¬ ((i : Nat) : Int) < (vs.length : Nat) by omega)]
          have ei : i = found.length := by omega
          subst ei
          rw [List.take_length] at hlk
          have hall2 := all_found (φ := φ) (kv.congr hlk) (fun b hb => (hwf b hb).2) bnd
          refine ⟨_, rfl, .inl ⟨fa, vs, rfl, .inl (SqL.of hf5), _, rfl, .inr ⟨dw, _, rfl, s5 _ _ hw2, _, _, rfl, rfl, _, rfl, ?_⟩⟩⟩
          rw [decide_eq_false (by omega)]
          refine iteF ⟨_, rfl, .inl ⟨fa, vs, rfl, SqL.of hf5, fun t ht => ⟨ll rfl, fun p hp => ?_⟩⟩⟩
          exact q p t _ (((s1.trans s2).trans s5).trans ((same_upd ht).trans (same_upd hp))) upd_same
end
end Wb
namespace Wb
open PySem PySem.Spec PyProof.Rows L2

theorem dts_pairs {H : Hp} : ∀ {us : List V} {nss : List (List Int)}, Dts H us (nss.map vi) → ∃ L : List (Addr × List Int), us = L.map (fun p => V.ref p.1) ∧ L.map (·.2) = nss ∧ ∀ p ∈ L, H p.1 = some (.tup (p.2.map V.int))
  | _, [], h => by
    cases h
    exact ⟨[], rfl, rfl, fun _ h => nomatch h⟩
  | _, ns :: nss, h => by
    obtain ⟨v, us, rfl, h1, h2⟩ := Dts.consI (d := vi ns) (ds := nss.map vi) h
    obtain ⟨a, rfl, ha⟩ := h1.viI
    obtain ⟨L, e1, e2, e3⟩ := dts_pairs h2
    refine ⟨(a, ns) :: L, by rw [e1]; rfl, by rw [List.map_cons, e2], fun p hp => ?_⟩
    rcases List.mem_cons.mp hp with rfl | hp
    · exact ha
    · exact e3 p hp
theorem any_eqv {nss : List (List Int)} {b : List Int} (h : b ∈ nss) : ((nss.map vi).any fun z => PyData.eqv z (vi b)) = true := List.any_eq_true.mpr ⟨vi b, List.mem_map_of_mem h, by rw [eqv_vi]; simp⟩
theorem hu65_of {A : Around} {k : Nat} (hr : Room k A) : A.units + 65 < cLine := by
  have := hr.un
  omega
section
variable {P : Program} {w : World} {K : PySem.W.Frag} {mg : Str → Option Value} {base : Heap}
def spAreBlocks : Sp := fun vs H Q _ => ∃ (a b : Addr) (us ws : List V) (known bl : List (List Int)) (n : Nat), vs = [.ref a, .ref b] ∧ H a = some (.lst us) ∧ Dts H us (known.map vi) ∧ H b = some (.tup ws) ∧ Dts H ws (bl.map vi) ∧ known ≠ [] ∧ known.length ≤ 1000 ∧ bl.length < 64 ∧ bl.length ≤ known.length ∧ bl.Nodup ∧
  n ≤ 1000 ∧ (∀ k ∈ known, k.length = n ∧ ∀ x ∈ k, -(10 ^ 40) ≤ x ∧ x ≤ 10 ^ 40) ∧ (∀ k ∈ bl, k ∈ known) ∧ ∀ H', Same H H' → Q (.bl true) H'
theorem ok_areBlocks (F : Has K mg "are_blocks" s_areBlocks ["known", "value"]) (B : Blt mg) (C : Consts mg) (c_areIntegers : Callee P w K mg base 2 "are_integers" ["value", "many", "low", "high"] spAreIntegers) : Callee P w K mg base 3 "are_blocks" ["known", "value"] spAreBlocks := by
  have nd := sc_areBlocks.nd
  refine callee_of F sc_areBlocks (fun vs H Q E h => ?_) (fun f cdv A outer s H vs Q E hr h => ?_)
  · obtain ⟨a, b, us, ws, known, bl, n, rfl, _⟩ := h
    rfl
  · obtain ⟨a, b, us, ws, known, bl, n, rfl, ha, hus, hb, hws, hne, hkl, h64, hle, hnd, hn, hk, hin, q⟩ := h
    have hu65 := hu65_of hr
    have hul := vis_len hus
    have hwl := vis_len hws
    obtain ⟨k0, kr, ek⟩ := List.exists_cons_of_ne_nil hne
    have hk0 := hk k0 (by rw [ek]; simp)
    obtain ⟨v0, e0, d0⟩ := hus.get (i := 0) (d := vi k0) (by rw [ek]; rfl)
    obtain ⟨a0, rfl, ha0⟩ := d0.viI
    refine ⟨_, (pss_cons
      (ps_if (PW.pt (pw_or (pt_not (pt_val (pe_callB (isi_K K rfl) (by rfl) B.isinstance (by decide +kernel) (pa_cons (pv 1) (pa_cons (pe_bltn (v := .ty "tuple") (u := .type "tuple") (by rfl) B.tuple (by decide +kernel) rfl) pa_nil))))) (pw_or1 (pt_cmpR op_gt (pe_callB (len_K K rfl) (by rfl) B.len (by decide +kernel) (pa_cons (pv 1) pa_nil)) (pe_callB (len_K K rfl) (by rfl) B.len (by decide +kernel) (pa_cons (pv 0) pa_nil)) (nomark _)))))
        (pss_one
          (ps_ret pe_bl))
        pss_nil)
    (pss_cons
      (ps_if (pt_not (pt_val (pe_callB (all_K K rfl rfl) (by rfl) B.all (by decide +kernel) (pa_cons (pe_lc (own := [("block", 2)]) rfl nd (pi_tupK K rfl (pv 1)) (blkOk_by (by kernel_rfl)) (fun _ _ _ _ _ => (pg_name (i := 2) nd rfl (Or.inl rfl))) (fun _ _ _ _ _ => pts_nil) (fun _ _ _ _ _ => (pe_and (pe_fn c_areIntegers hr rfl (pa_cons (pv 2) (pa_cons (pe_callB (len_K K rfl) (by rfl) B.len (by decide +kernel) (pa_cons (pe_ix (ix_listK K rfl) (pv 0) pe_int (fun _ _ => rfl)) pa_nil)) (pa_cons (pe_un un_neg (pe_const C.LARGE rfl)) (pa_cons (pe_const C.LARGE rfl) pa_nil))))) (pe_one (pe_cmpR (op_inK K rfl hu65) (pv 2) (pv 0) (by with_unfolding_all rfl)))))) pa_nil))))
        (pss_one
          (ps_ret pe_bl))
        pss_nil)
    (pss_one
      (ps_ret (pe_cmpR op_eq (pe_lenSetT rfl B.len rfl B.set hr.units rfl (pv 1)) (pe_callB (len_K K rfl) (by rfl) B.len (by decide +kernel) (pa_cons (pv 1) pa_nil)) (nomark _)))))), ?_⟩
    refine ⟨_, rfl, .ref b, .ty "tuple", .type "tuple", .type "tuple", true, rfl, .ty _, .base (.tup hb), kit_ty (by decide +kernel), true, rfl, iteF ?_⟩
    refine ⟨_, rfl, b, _, rfl, .inr (SqT.of hb), _, rfl, a, _, rfl, .inl (SqL.of ha), _, _, rfl, rfl, _, rfl, ?_⟩
    rw [decide_eq_false (by omega)]
    refine iteF ⟨_, rfl, b, rfl, ⟨_, SqT.of hb⟩, fun D hD => ?_⟩
    refine lc_bools (walk_tup (xs := ws)) (fun _ => true) hD (small_of (m := 64) (by omega) (by decide)) (fun H' s => s.tup hb) (fun i x H2 H3 k kn hi s1 hy hk2 => ?_) fun H2 s2 h2 => ?_
    · obtain ⟨rfl, ex⟩ := hy
      obtain ⟨ab, bk, rfl, ebk, hab⟩ := dts_vis hws ex
      have hbk := hin bk (List.mem_of_getElem? ebk)
      have hkb := hk bk hbk
      refine ⟨rfl, _, rfl, _, rfl, a, _, 0, .ref a0, rfl, rfl, SqL.of (s1 _ _ ha), atI_nat (j := 0) e0, a0, _, rfl, .inr (SqT.of (s1 _ _ ha0)), 10 ^ 40, rfl, ab, bk, -(10 ^ 40), 10 ^ 40, ?_, s1 _ _ hab, by rw [hkb.1]; exact hn, hkb.2, fun H4 s4 => ⟨true, rfl, iteT ?_⟩⟩
      · rw [List.length_map, hk0.1, hkb.1]
        rfl
      · refine ⟨_, rfl, _, rfl, vi bk, known.map vi, (dt_vi (s4 _ _ (s1 _ _ hab))).dp, (Dt.lst (s4 _ _ (s1 _ _ ha)) ((hus.same s1).same s4)).dp, shaped_vi _, shaped_lv _, ?_⟩
        rw [any_eqv hbk]
        exact hk2 H4 s4
    · refine ⟨D, _, rfl, SqL.of h2, ?_⟩
      have e : (((List.range ws.length).map fun _ => true).all id) = true := by simp
      rw [e]
      refine ⟨true, rfl, iteF ?_⟩
      obtain ⟨L, e1, e2, e3⟩ := dts_pairs hws
      have hll : L.length = bl.length := by rw [← e2, List.length_map]
      subst e1
      refine ⟨_, rfl, b, L, rfl, s2 _ _ hb, fun p hp => s2 _ _ (e3 p hp), by omega, by rw [e2]; exact hnd, _, rfl, b, _, rfl, .inr (SqT.of (s2 _ _ hb)), rfl, ?_⟩
      rw [List.length_map, decide_eq_true rfl]
      exact q _ s2
end
end Wb
namespace Wb
open PySem PySem.Spec PyProof.Rows L2

theorem dts_keys {H : Hp} : ∀ {kvs : List (List Int × V)} {bs : List Addr}, IsKeys H (encK kvs) bs → Dts H (bs.map V.ref) ((kvs.map (·.1)).map vi)
  | [], [], _ => .nil
  | p :: kvs, b :: bs, h => by
    cases h with
    | cons h1 h2 =>
      refine .cons (dt_vi ?_) (dts_keys h2)
      have e : H b = some (.tup ((p.1.map Sum.inl : List Key).map kV)) := h1
      rw [inl_kV] at e
      exact e
  | [], _ :: _, h => by cases h
  | _ :: _, [], h => by cases h
theorem dts_trues {H : Hp} : ∀ {vs : List V} {ds : List PyData}, (∀ d ∈ ds, d = .bool true) → Dts H vs ds → vs = (List.replicate ds.length true).map V.bl
  | _, [], _, h => by
    cases h
    rfl
  | _, d :: ds, hd, h => by
    obtain ⟨v, us, rfl, h1, h2⟩ := h.consI
    have e := hd d (by simp)
    subst e
    cases h1
    rw [dts_trues (fun x hx => hd x (by simp [hx])) h2]
    rfl
theorem all_rep (n : Nat) : (List.replicate n true).all id = true := by simp
theorem idx_lt {pl : List (List Int)} {φ : List Int → Int} (hs : pl.Pairwise fun x y => φ x ≤ φ y) {x y : List Int} (hx : x ∈ pl) (hy : y ∈ pl) (h : φ x < φ y) : pl.idxOf x < pl.idxOf y := by
  have h1 := List.idxOf_lt_length_of_mem hx
  have h2 := List.idxOf_lt_length_of_mem hy
  apply Classical.byContradiction
  intro c
  have e1 : pl[pl.idxOf x] = x := List.getElem_idxOf h1
  have e2 : pl[pl.idxOf y] = y := List.getElem_idxOf h2
  by_cases e : pl.idxOf y = pl.idxOf x
  · have : y = x := by rw [← e1, ← e2]; congr 1
    subst this
    omega
  · have := List.pairwise_iff_getElem.mp hs (pl.idxOf y) (pl.idxOf x) h2 h1 (by omega)
    rw [e1, e2] at this
    omega
theorem idx_at {pl : List (List Int)} (h : pl.Nodup) {i : Nat} {x : List Int} (e : pl[i]? = some x) : pl.idxOf x = i := by
  obtain ⟨hi, e1⟩ := List.getElem?_eq_some_iff.mp e
  rw [← e1]
  exact h.idxOf_getElem i hi
theorem len_iff {l m : List (List Int)} (h1 : l.Nodup) (h2 : m.Nodup) (h : ∀ x, x ∈ l ↔ x ∈ m) : l.length = m.length :=
  Nat.le_antisymm (nodup_sub_len h1 fun x hx => (h x).mp hx) (nodup_sub_len h2 fun x hx => (h x).mpr hx)
section
variable {P : Program} {w : World} {K : PySem.W.Frag} {mg : Str → Option Value} {base : Heap}
def spPlanHolds : Sp := fun vs H Q _ => ∃ (a0 a b c v t : Addr) (us ws : List V) (dims : Int) (rules : List Rule) (rs : List (List Int)) (sides box : List Int) (φ : List Int → Int) (pl : List (List Int)), vs = [.ref a0, .ref a, .ref b, .ref c, .ref v] ∧ Dt H (.ref a0) (flowD dims rules) ∧ FlowOk box.length rules ∧
  H a = some (.tup us) ∧ Dts H us (rs.map vi) ∧ H b = some (.tup (sides.map V.int)) ∧ H c = some (.tup (box.map V.int)) ∧ LayOk rs sides box ∧ RelOk rules rs sides box (fun w b => φ w < φ b) ∧ (blocksOf rs sides box).length < 64 ∧ blocksOf rs sides box ≠ [] ∧
  (∀ k ∈ blocksOf rs sides box, ∀ x ∈ k, -(10 ^ 40) ≤ x ∧ x ≤ 10 ^ 40) ∧ H v = some (.tup [.str "plan", .ref t]) ∧ H t = some (.tup ws) ∧ Dts H ws (pl.map vi) ∧ pl.Nodup ∧ (∀ k, k ∈ pl ↔ k ∈ blocksOf rs sides box) ∧ pl.Pairwise (fun x y => φ x ≤ φ y) ∧
  ∀ H', Same H H' → Q (.bl true) H'
set_option maxHeartbeats 1000000 in
theorem ok_planHolds (F : Has K mg "plan_holds" s_planHolds ["flow", "rows", "sides", "box", "value"]) (B : Blt mg) (C : Consts mg) (c_waitsOf : Callee P w K mg base 5 "waits_of" ["flow", "rows", "sides", "box"] spWaitsOf) (c_areBlocks : Callee P w K mg base 3 "are_blocks" ["known", "value"] spAreBlocks) :
    Callee P w K mg base 6 "plan_holds" ["flow", "rows", "sides", "box", "value"] spPlanHolds := by
  have nd := sc_planHolds.nd
  refine callee_of F sc_planHolds (fun vs H Q E h => ?_) (fun f cdv A outer s H vs Q E hr h => ?_)
  · obtain ⟨a0, a, b, c, v, t, us, ws, dims, rules, rs, sides, box, φ, pl, rfl, _⟩ := h
    rfl
  · obtain ⟨a0, a, b, c, v, t, us, ws, dims, rules, rs, sides, box, φ, pl, rfl, hfl, fok, ha, hus, hb, hc, ok, rok, h64, hbne, hbd, hv, ht, hws, hpn, hpm, hps, q⟩ := h
    have hu := hu_of hr
    have c_areBlocks := c_areBlocks.mono (show 3 ≤ 5 by decide)
    have bnd := blocksOf_nodup rs sides box
    have brow := blocksOf_row (sides := sides) (box := box) ok.2.1
    have hsl := ok.2.2.2.1
    refine ⟨_, (pss_cons
      (ps_set (i := 5) nd rfl (Or.inr rfl) (pe_fn c_waitsOf hr rfl (pa_cons (pv 0) (pa_cons (pv 1) (pa_cons (pv 2) (pa_cons (pv 3) pa_nil))))))
    (pss_cons
      (ps_if (PW.pt (pw_or (pt_not (pt_val (pe_callB (isi_K K rfl) (by rfl) B.isinstance (by decide +kernel) (pa_cons (pv 4) (pa_cons (pe_bltn (v := .ty "tuple") (u := .type "tuple") (by rfl) B.tuple (by decide +kernel) rfl) pa_nil))))) (pw_or (pt_cmpR op_ne (pe_callB (len_A K rfl) (by rfl) B.len (by decide +kernel) (pa_cons (pv 4) pa_nil)) pe_int (nomark _)) (pw_or1 (pt_not (pt_val (pe_callB (isi_K K rfl) (by rfl) B.isinstance (by decide +kernel) (pa_cons (pe_ix (ix_tupK K rfl) (pv 4) pe_int (fun _ _ => rfl)) (pa_cons (pe_bltn (v := .ty "str") (u := .type "str") (by rfl) B.str (by decide +kernel) rfl) pa_nil)))))))))
        (pss_one
          (ps_ret pe_bl))
        pss_nil)
    (pss_cons
      (ps_if (PW.pt (pw_or (pt_cmpR (op_notInK K rfl) (pe_ix (ix_tupK K rfl) (pv 4) pe_int (fun _ _ => rfl)) (pe_tup (pa_cons (pe_const C.PLAN rfl) (pa_cons (pe_const C.RING rfl) pa_nil))) (by with_unfolding_all rfl)) (pw_or1 (pt_not (pt_val (pe_fn c_areBlocks hr rfl (pa_cons (pe_callTy (call_list_dT rfl) (by rfl) B.list (by decide +kernel) (pa_cons (pv 5) pa_nil)) (pa_cons (pe_ix (ix_tupK K rfl) (pv 4) pe_int (fun _ _ => rfl)) pa_nil))))))))
        (pss_one
          (ps_ret pe_bl))
        pss_nil)
    (pss_cons
      (ps_set (i := 6) nd rfl (Or.inl rfl) (pe_ix (ix_tupK K rfl) (pv 4) pe_int (fun _ _ => rfl)))
    (pss_cons
      (ps_if (pt_cmpR op_eq (pe_ix (ix_tupK K rfl) (pv 4) pe_int (fun _ _ => rfl)) (pe_const C.RING rfl) (nomark _))
        (pss_cons
          (ps_set (i := 7) nd rfl (Or.inl rfl) (pe_tup (pa_starK K rfl (pe_slice (sl_tupK K rfl) (pv 6) (po_some (pe_un un_neg pe_int)) po_none) (pa_starK K rfl (pe_slice (sl_tupK K rfl) (pv 6) po_none (po_some (pe_un un_neg pe_int))) pa_nil))))
        (pss_one
          ps_never))
        pss_nil)
    (pss_cons
      (ps_if (pt_cmpR op_ne (pe_callB (len_A K rfl) (by rfl) B.len (by decide +kernel) (pa_cons (pv 6) pa_nil)) (pe_callB (len_A K rfl) (by rfl) B.len (by decide +kernel) (pa_cons (pv 5) pa_nil)) (nomark _))
        (pss_one
          (ps_ret pe_bl))
        pss_nil)
    (pss_cons
      (ps_set (i := 8) nd rfl (Or.inr rfl) (pe_dcT (own := [("index", 11), ("block", 9)]) hu rfl nd (pi_enumK K rfl rfl B.enumerate (pa_cons (pv 6) pa_nil)) (blkOk_by (by kernel_rfl)) (fun _ _ _ _ _ => (pg_tupK K 2 rfl rfl (pgs_cons (pg_name (i := 11) nd rfl (Or.inl rfl)) (pgs_cons (pg_name (i := 9) nd rfl (Or.inl rfl)) pgs_nil)))) (fun _ _ _ _ _ => pts_nil) (fun _ _ _ _ _ => (pv 9)) (fun _ _ _ _ _ => (pv 11))))
    (pss_one
      (ps_ret (pe_callB (all_K K rfl rfl) (by rfl) B.all (by decide +kernel) (pa_cons (pe_lc2 (own := [("block", 9), ("other", 10)]) (vs1 := [10]) rfl nd (pi_tupK K rfl (pv 6)) (blkOk_by (by kernel_rfl)) (by decide) (fun _ _ _ _ _ => (pg_name (i := 9) nd rfl (Or.inl rfl))) (fun _ _ _ _ _ => pts_nil) (fun _ _ _ _ _ => (pi_listK K rfl (pe_dget hu (pv 5) (pv 9) (fun _ _ => rfl)))) (fun _ _ _ _ _ => (pg_name (i := 10) nd rfl (Or.inl rfl))) (fun _ _ _ _ _ => pts_nil) (fun _ _ _ _ _ => (pe_cmpR op_lt (pe_dget hu (pv 8) (pv 10) (fun _ _ => rfl)) (pe_dget hu (pv 8) (pv 9) (fun _ _ => rfl)) (nomark _)))) pa_nil))))))))))), ?_⟩
    refine ⟨_, rfl, _, rfl, _, rfl, _, rfl, a0, a, b, c, us, dims, rules, rs, sides, box, _, rfl, hfl, fok, ha, hus, hb, hc, ok, rok, fun dw wf H1 s1 hdw hwat hwf => ?_⟩
    generalize blocksOf rs sides box = bs at *
    obtain ⟨wk, hw1, hk, hall⟩ := hwat
    have epl : pl.length = bs.length := len_iff hpn bnd hpm
    have hv1 := s1 _ _ hv
    have ht1 := s1 _ _ ht
    have hws1 := hws.same s1
    have hwl := vis_len hws1
    refine ⟨_, rfl, .ref v, .ty "tuple", .type "tuple", .type "tuple", true, rfl, .ty _, .base (.tup hv1), kit_ty (by decide +kernel), true, rfl, iteF ?_⟩
    refine ⟨_, rfl, .inl ⟨v, _, rfl, .inr (SqT.of hv1), rfl, _, rfl, iteF ?_⟩⟩
    refine ⟨_, rfl, v, _, 0, .str "plan", rfl, rfl, SqT.of hv1, rfl, .str "plan", .ty "str", .type "str", .type "str", true, rfl, .ty _, .base (.str _), kit_ty (by decide +kernel), true, rfl, iteF ?_⟩
    refine ⟨_, rfl, v, _, 0, .str "plan", rfl, rfl, SqT.of hv1, rfl, ll rfl, fun e0 he0 => ⟨e0, _, rfl, .inr (SqT.of upd_same), rfl, rfl, false, rfl, iteF ?_⟩⟩
    have s2 : Same H1 (upd H1 e0 (.tup [.str "plan", .str "ring"])) := same_upd he0
    generalize upd H1 e0 (.tup [.str "plan", .str "ring"]) = H2 at s2 ⊢
    have hw2 := s2 _ _ hw1
    refine ⟨_, rfl, dw, _, rfl, .inl hw2, fun kl ka hkl hka => ⟨_, rfl, v, _, 1, .ref t, rfl, rfl, SqT.of (upd_some hkl (s2 _ _ hv1)), rfl, ?_⟩⟩
    have dk := dts_keys hka
    rw [hk] at dk
    have s3 := same_upd (o := .lst (ka.map V.ref)) hkl
    refine ⟨kl, t, _, ws, bs, pl, sides.length, rfl, upd_same, dk.same s3, s3 _ _ (s2 _ _ ht1), (hws1.same s2).same s3, hbne, by omega, by omega, by omega, hpn, hsl, fun k hk => ⟨brow k hk, hbd k hk⟩, fun k hk => (hpm k).mp hk, fun H4 s4 => ⟨true, rfl, iteF ?_⟩⟩
    have s14 : Same H1 H4 := (s2.trans s3).trans s4
    have hv4 := s14 _ _ hv1
    have ht4 := s14 _ _ ht1
    have hw4 := s14 _ _ hw1
    have hws4 := hws1.same s14
    refine ⟨_, rfl, v, _, 1, .ref t, rfl, rfl, SqT.of hv4, rfl, _, rfl, v, _, 0, .str "plan", rfl, rfl, SqT.of hv4, rfl, rfl, _, rfl, ?_⟩
    rw [show decide (V.str "plan" = V.str "ring") = false from decide_eq_false fun z => absurd (V.str.inj z) (by decide)]
    refine iteF ⟨_, rfl, .inl ⟨t, _, rfl, .inr (SqT.of ht4), _, rfl, .inr ⟨dw, _, rfl, hw4, rfl, _, rfl, ?_⟩⟩⟩
    have ewl := enc_len hk
    rw [decide_eq_true (congrArg V.int (show ((ws.length : Nat) : Int) = ((encK wk).length : Nat) by omega))]
    refine iteF ⟨_, rfl, t, ws, rfl, SqT.of ht4, fun DS hDS => ?_⟩
    refine dc_itT (walk_enumT (xs := ws)) (fun i H' => Same H4 H' ∧ H' DS = some (.dT (encK (lkv (pl.take i) fun b => ((pl.idxOf b : Nat) : Int))))) ⟨same_upd hDS, upd_same⟩ (fun i H' _ p' => p'.1.tup ht4) (fun i x H5 H6 hi p' hy => ?_) fun H5 p' => ?_
    · obtain ⟨s5, hd5⟩ := p'
      obtain ⟨T, x1, x2, rfl, hT, rfl, e1, e2⟩ := hy
      cases e1
      obtain ⟨ab, bk, rfl, ebk, hab⟩ := dts_vis hws4 e2
      have hidx := idx_at hpn ebk
      have hnew : bk ∉ (lkv (pl.take i) fun b => ((pl.idxOf b : Nat) : Int)).map (·.1) := by
        rw [lkv_keys]
        exact take_new hpn ebk
      refine ⟨T, _, rfl, SqT.of upd_same, rfl, _, _, rfl, _, _, rfl, rfl, rfl, _, rfl, _, rfl, _, dput_t (upd_some hT hd5) (upd_some hT (s5 _ _ hab)) (by rw [lkv_len, List.length_take]; exact small_of (m := 64) (by omega) (by decide)), fun b o z => ?_, ?_⟩
      · rw [upd_ne (ne_of_none z hDS)]
        exact upd_some hT (s5 _ _ z)
      · rw [upd_same, put_new hnew, take_next' ebk]
        unfold lkv
        rw [List.map_append, ← hidx]
        rfl
    · obtain ⟨s5, hd5⟩ := p'
      rw [hwl, List.take_length] at hd5
      have ht5 := s5 _ _ ht4
      refine ⟨_, rfl, t, rfl, ⟨ws, SqT.of ht5⟩, fun D hD => ?_⟩
      have hw5 := s5 _ _ hw4
      refine lc_fm2 (walk_tup (xs := ws)) (fun i => (List.range (((pl[i]?).map fun b => (wf b).length).getD 0)).filterMap fun _ => some (.bool true)) hD ?_ (fun H' s => s.tup ht5) (fun i x H6 H7 k kn hi s6 hDD hy hk2 => ?_) (fun H6 zs s6 h6 d6 _ => ?_)
      · refine Nat.lt_of_le_of_lt (flat_bound _ 240 (fun i => Nat.le_trans (fm_len_le _ _) ?_) _) ?_
        · cases e : pl[i]? with
          | none => exact Nat.zero_le _
          | some z => exact (hwf z ((hpm z).mp (List.mem_of_getElem? e))).1
        · have : (100000 : Nat) < sizeLine := by decide
          omega
      · obtain ⟨rfl, ex⟩ := hy
        obtain ⟨ab, bk, rfl, ebk, hab⟩ := dts_vis hws4 ex
        have hbk := (hpm bk).mp (List.mem_of_getElem? ebk)
        obtain ⟨l, us5, e1, e2, e3⟩ := WAt.get hk hall hbk
        have s17 : Same H1 H7 := s14.trans (s5.trans s6)
        have hab7 := s6 _ _ (s5 _ _ hab)
        have hg := dget_t (.inl (s17 _ _ hw1)) hab7
        rw [e1] at hg
        have eg : ((pl[i]?).map fun b => (wf b).length).getD 0 = (wf bk).length := by
          rw [ebk]
          rfl
        refine ⟨rfl, _, rfl, _, rfl, dw, _, rfl, hg, l, rfl, ⟨us5, SqL.of (s17 _ _ e2)⟩, ?_⟩
        have hlD : l ≠ D := ne_of_none (s5 _ _ (s14 _ _ e2)) hD
        refine hk2 _ _ _ ⟨us5.length, _, _, fun _ => some (.bool true), walk_list (xs := us5), Same.refl _, fun H8 kp => SqL.of (kp _ _ hlD (s17 _ _ e2)), by rw [eg, vis_len e3], fun j x2 H8 H9 k3 kn3 hj3 kp hy3 hk3 _ => ?_⟩
        obtain ⟨rfl, ex2⟩ := hy3
        obtain ⟨ao, o, rfl, eo, hao⟩ := dts_vis e3 ex2
        have hoW := List.mem_of_getElem? eo
        obtain ⟨hob, hlt⟩ := (hwf bk hbk).2 o hoW
        have hD0 : ∀ {z : Addr} {u : HO}, H5 z = some u → H9 z = some u := fun {z u} hz => kp _ _ (ne_of_none hz hD) (s6 _ _ hz)
        have hg1 := dget_t (.inl (hD0 hd5)) (hD0 (s5 _ _ (s14 _ _ hao)))
        rw [lkv_get ((hpm o).mpr hob)] at hg1
        have hg2 := dget_t (.inl (hD0 hd5)) (hD0 (s5 _ _ hab))
        rw [lkv_get ((hpm bk).mpr hbk)] at hg2
        refine ⟨rfl, _, rfl, _, rfl, DS, _, rfl, hg1, _, rfl, _, rfl, DS, _, rfl, hg2, _, _, rfl, rfl, ?_⟩
        have hi2 := idx_lt hps ((hpm o).mpr hob) ((hpm bk).mpr hbk) hlt
        show k3 (V.bl (decide (((pl.idxOf o : Nat) : Int) < (pl.idxOf bk : Nat)))) H9
        rw [decide_eq_true (show ((pl.idxOf o : Nat) : Int) < (pl.idxOf bk : Nat) by omega)]
        exact hk3 _ _ (.bool true) rfl (Same.refl _) (.bl _) (.bl _)
      · have e := dts_trues (fun d hd => by
          obtain ⟨i, _, h2⟩ := List.mem_flatMap.mp hd
          obtain ⟨_, _, h3⟩ := List.mem_filterMap.mp h2
          exact (Option.some.inj h3).symm) d6
        subst e
        refine ⟨D, _, rfl, SqL.of h6, ?_⟩
        rw [all_rep]
        exact q _ ((s1.trans s14).trans (s5.trans s6))
end
end Wb
namespace Wb
open PySem PySem.Spec PyProof.Rows L2

/-- the mill at m, its cells at c -/
def MillAt (H : Hp) (m c : Addr) : Prop := m ≠ c ∧ ∃ (cs : List Int) (mixed count : Int), H m = some (.lst [.ref c, .int mixed, .int count]) ∧ H c = some (.lst (cs.map V.int)) ∧ 0 ≤ mixed ∧ mixed ≤ 2147483647
/-- all stands but the mill -/
def MS (m c : Addr) (H H' : Hp) : Prop := (∀ b o, b ≠ m → b ≠ c → H b = some o → H' b = some o) ∧ MillAt H' m c
theorem MS.refl {m c : Addr} {H : Hp} (h : MillAt H m c) : MS m c H H := ⟨fun _ _ _ _ e => e, h⟩
theorem MS.trans {m c : Addr} {H H1 H2 : Hp} (a : MS m c H H1) (b : MS m c H1 H2) : MS m c H H2 := ⟨fun x o h1 h2 e => b.1 x o h1 h2 (a.1 x o h1 h2 e), b.2⟩
theorem MillAt.same {m c : Addr} {H H' : Hp} (h : MillAt H m c) (s : Same H H') : MillAt H' m c := by
  obtain ⟨h1, cs, mi, co, h2, h3, h4⟩ := h
  exact ⟨h1, cs, mi, co, s _ _ h2, s _ _ h3, h4⟩
theorem MS.same {m c : Addr} {H H1 H2 : Hp} (a : MS m c H H1) (s : Same H1 H2) : MS m c H H2 := ⟨fun x o h1 h2 e => s _ _ (a.1 x o h1 h2 e), a.2.same s⟩
theorem MillAt.kept {m c : Addr} {H H' : Hp} (h : MillAt H m c) (s : Same H H') : MS m c H H' := ⟨fun x o _ _ e => s _ _ e, h.same s⟩
theorem MillAt.ne {m c b : Addr} {H : Hp} (h : MillAt H m c) {xs : List V} (e : H b = some (.tup xs)) : b ≠ m ∧ b ≠ c := by
  obtain ⟨_, cs, mi, co, h2, h3, _⟩ := h
  exact ⟨ne_of e h2 (by intro z; cases z), ne_of e h3 (by intro z; cases z)⟩
theorem MillAt.neN {m c b : Addr} {H : Hp} (h : MillAt H m c) (e : H b = none) : b ≠ m ∧ b ≠ c := by
  obtain ⟨_, cs, mi, co, h2, h3, _⟩ := h
  exact ⟨(ne_of_none h2 e).symm, (ne_of_none h3 e).symm⟩
theorem MS.kt {m c : Addr} {H H' : Hp} (h : MillAt H m c) (s : MS m c H H') : KeepT H H' := fun b xs e => s.1 b _ (h.ne e).1 (h.ne e).2 e
theorem same_updS {H H1 : Hp} {p : Addr} {o : HO} (s : Same H H1) (h : H1 p = none) : Same H (upd H1 p o) := s.trans (same_upd h)
/-- a list comprehension that turns the mill -/
theorem lc_mill {J : It} {n : Nat} {G : Hp → Prop} {Y : Nat → Hp → V → Hp → Prop} (w : Walk J n G Y) {g : TG} {te : TE} {vs : List Nat} {σ : L2.St} {H1 : Hp} {D m c : Addr} {Qd : Hp → Prop} (Φ : Nat → PyData → Prop)
    (hm : MillAt H1 m c) (hn : H1 D = none) (hsz : n < sizeLine) (hG : ∀ H, MS m c H1 H → G H)
    (hs : ∀ (i : Nat) (x : V) (H H' : Hp) (k : V → Hp → Prop), i < n → MS m c H1 H → Y i H x H' → (∀ y H4 d, Φ i d → MS m c H H4 → OnlyT d → Dt H4 y d → k y H4) →
      g x (wipe σ vs) H' fun σ2 H2 => wipe σ2 vs = wipe σ vs ∧ te σ2 H2 k)
    (hd : ∀ H ys ds, MS m c H1 H → H D = some (.lst ys) → Dts H ys ds → OnlyTs ds → ds.length = n → (∀ i d, ds[i]? = some d → Φ i d) → Qd H) :
    ∃ W : Nat → Nat → Hp → Prop, (∃ m, W 0 m (upd H1 D (.lst []))) ∧ ∀ i m H, W i m H →
      (J.stop i H ∧ Qd H) ∨ (J.go i H ∧ ∃ Nx : Hp → Prop, (∀ H', Nx H' → ∃ m', m' < m ∧ W (i + 1) m' H') ∧ ∀ x H', J.yld i H x H' → g x (wipe σ vs) H' fun σ2 H2 => wipe σ2 vs = wipe σ vs ∧ tYes σ2 H2 fun b H3 =>
        if b = true then te σ2 H3 fun y H4 => ∃ acc, H4 D = some (.lst acc) ∧ acc.length < sizeLine ∧ Nx (upd H4 D (.lst (acc ++ [y]))) else Nx H3) := by
  have hDm := hm.neN hn
  have hupd : ∀ {H4 : Hp} {xs : List V}, MillAt H4 m c → MillAt (upd H4 D (.lst xs)) m c := fun {H4 xs} h => by
    obtain ⟨h1, cs, mi, co, h2, h3, h4⟩ := h
    exact ⟨h1, cs, mi, co, by rw [upd_ne (Ne.symm hDm.1)]; exact h2, by rw [upd_ne (Ne.symm hDm.2)]; exact h3, h4⟩
  refine lc_it w (fun i H => MS m c H1 H ∧ ∃ ys ds, H D = some (.lst ys) ∧ ys.length ≤ i ∧ Dts H ys ds ∧ OnlyTs ds ∧ ds.length = i ∧ ∀ i d, ds[i]? = some d → Φ i d) ⟨hm.kept (same_upd hn), [], [], upd_same, Nat.le_refl _, .nil, .nil, rfl, fun _ _ e => by simp at e⟩ (fun i H _ p => hG H p.1) (fun i x H H' hi p y => ?_) fun H p => ?_
  · obtain ⟨s1, ys, ds, hD, hl, hd1, ho, hdl, hΦ⟩ := p
    have q := hs i x H H' (fun y H4 => ∃ acc, H4 D = some (.lst acc) ∧ acc.length < sizeLine ∧ (MS m c H1 (upd H4 D (.lst (acc ++ [y]))) ∧ ∃ ys ds, (upd H4 D (.lst (acc ++ [y]))) D = some (.lst ys) ∧ ys.length ≤ i + 1 ∧ Dts (upd H4 D (.lst (acc ++ [y]))) ys ds ∧ OnlyTs ds ∧ ds.length = i + 1 ∧ ∀ i d, ds[i]? = some d → Φ i d)) hi s1 y (fun y H4 d e s4 od hy => ?_)
    · exact q
    · refine ⟨ys, s4.1 _ _ hDm.1 hDm.2 hD, by omega, ⟨fun b o b1 b2 e => ?_, hupd s4.2⟩, ys ++ [y], ds ++ [d], upd_same, by simp; omega, ?_, ?_, by simp [hdl], fun j d' e' => ?_⟩
      · rw [upd_ne (ne_of_none e hn)]
        exact s4.1 _ _ b1 b2 (s1.1 _ _ b1 b2 e)
      · have st : ∀ b xs, H4 b = some (.tup xs) → (upd H4 D (.lst (ys ++ [y]))) b = some (.tup xs) := fun b xs e => by
          rw [upd_ne (ne_of e (s4.1 _ _ hDm.1 hDm.2 hD) (by intro z; cases z))]
          exact e
        refine Dts.app (Dts.keep st ho (Dts.keep (MS.kt s1.2 s4) ho hd1)) (.cons (Dt.keep st od hy) .nil)
      · exact OnlyTs.app ho (OnlyTs.one od)
      · by_cases cj : j < ds.length
        · rw [List.getElem?_append_left cj] at e'
          exact hΦ j d' e'
        · rw [List.getElem?_append_right (by omega)] at e'
          have ej : j - ds.length = 0 := by
            apply Classical.byContradiction
            intro z
            rw [List.getElem?_eq_none (by simp; omega)] at e'
            cases e'
          rw [ej] at e'
          cases e'
          have : j = i := by omega
          rw [this]
          exact e
  · obtain ⟨s1, ys, ds, hD, hl, hd1, ho, hdl, hΦ⟩ := p
    exact hd H ys ds s1 hD hd1 ho hdl hΦ
theorem shaped_li (ns : List Int) : SeqAt.shaped (.list (ns.map .int)) = true := by
  unfold SeqAt.shaped
  have h : PyData.depthAll (ns.map .int) ≤ 1 := by
    have := depth_vi ns
    rw [vi, PyData.depth] at this
    omega
  rw [PyData.canLay0, lay_ints, PyData.depth, Bool.true_and]
  exact decide_eq_true (by omega)
theorem eqv_nil_i (ns : List Int) : PyData.eqv (.list (ns.map .int)) (.list []) = ns.isEmpty := by
  cases ns with
  | nil => rw [List.map_nil, PyData.eqv, PyData.eqvAll]; rfl
  | cons a r => rw [List.map_cons, PyData.eqv, PyData.eqvAll]; rfl
section
variable {P : Program} {w : World} {K : PySem.W.Frag} {mg : Str → Option Value} {base : Heap}
def spGrind : Sp := fun vs H Q _ => ∃ (m c : Addr) (n : Int), vs = [.ref m, .int n] ∧ MillAt H m c ∧ 1 ≤ n ∧ n ≤ 1000 ∧ ∀ v H', MS m c H H' → 0 ≤ v → v < n → Q (.int v) H'
theorem ok_lGrind (F : Has K mg "_law_grind" s_lGrind ["_law_mill_here", "_law_many"]) (B : Blt mg) : Callee P w K mg base 1 "_law_grind" ["_law_mill_here", "_law_many"] spGrind := by
  have nd := sc_lGrind.nd
  refine callee_of F sc_lGrind (fun vs H Q E h => ?_) (fun f cdv A outer s H vs Q E hr h => ?_)
  · obtain ⟨m, c, n, rfl, _⟩ := h
    rfl
  · obtain ⟨m, c, n, rfl, hm, h1, h2, q⟩ := h
    refine ⟨_, (pss_cons
      (ps_while PassesOwn.never (pt_cmpR (op_neK K rfl hr.units) (pe_ix (ix_listK K rfl) (pv 0) pe_int (fun _ _ => rfl)) (pe_lst pa_nil) (nomark _))
        (pss_cons
          (ps_set (i := 2) nd rfl (Or.inl rfl) (pe_ix (ix_listK K rfl) (pe_ix (ix_listK K rfl) (pv 0) pe_int (fun _ _ => rfl)) pe_int (fun _ _ => rfl)))
        (pss_cons
          (ps_if (pt_cmpR op_gt (pv 2) pe_int (nomark _))
            (pss_cons
              (ps_asg (pe_op op_fdivN (pv 2) (pv 1)) (pg_sub (pe_ix (ix_listK K rfl) (pv 0) pe_int (fun _ _ => rfl)) pe_int set_list))
            (pss_one
              (ps_ret (pe_op op_modN (pe_callTy call_int1 (by rfl) B.int (by decide +kernel) (pa_cons (pv 2) pa_nil)) (pv 1)))))
            pss_nil)
        (pss_one
          (ps_expr (pe_bm PySem.F.plainAttrs_list PySem.F.slot_list_pop PySem.F.type_list_pop mt_popAt (pe_ix (ix_listK K rfl) (pv 0) pe_int (fun _ _ => rfl)) (pa_cons pe_int pa_nil)))))))
    (pss_cons
      (ps_asg (pe_op op_add (pe_ix (ix_listK K rfl) (pv 0) pe_int (fun _ _ => rfl)) pe_int) (pg_sub (pv 0) pe_int set_list))
    (pss_cons
      (ps_asg (pe_op op_modN (pe_callTy call_int1 (by rfl) B.int (by decide +kernel) (pa_cons (pe_op op_add (pe_op op_add (pe_op op_mul (pe_ix (ix_listK K rfl) (pv 0) pe_int (fun _ _ => rfl)) pe_int) (pe_op op_mul (pe_ix (ix_listK K rfl) (pv 0) pe_int (fun _ _ => rfl)) pe_int)) pe_int) pa_nil)) pe_int) (pg_sub (pv 0) pe_int set_list))
    (pss_one
      (ps_ret (pe_op op_modN (pe_op op_fdivN (pe_op op_modN (pe_callTy call_int1 (by rfl) B.int (by decide +kernel) (pa_cons (pe_op op_mul (pe_ix (ix_listK K rfl) (pv 0) pe_int (fun _ _ => rfl)) (pe_ix (ix_listK K rfl) (pv 0) pe_int (fun _ _ => rfl))) pa_nil)) pe_int) pe_int) (pv 1))))))), ?_⟩
    refine ⟨fun k σ H' => ∃ cs mixed count y2, k = List.length cs ∧ σ = [some (.ref m), some (.int n), y2] ∧ (∀ b o, b ≠ m → b ≠ c → H b = some o → H' b = some o) ∧ m ≠ c ∧ H' m = some (.lst [.ref c, .int mixed, .int count]) ∧ H' c = some (.lst (cs.map V.int)) ∧ 0 ≤ mixed ∧ mixed ≤ 2147483647, ?_, fun k σ H' hW => ?_⟩
    · obtain ⟨hmc, cs, mixed, count, e1, e2, e3, e4⟩ := hm
      exact ⟨cs.length, cs, mixed, count, none, rfl, rfl, fun _ _ _ _ e => e, hmc, e1, e2, e3, e4⟩
    · obtain ⟨cs, mixed, count, y2, rfl, rfl, kp, hmc, e1, e2, e3, e4⟩ := hW
      refine ⟨_, rfl, m, _, 0, .ref c, rfl, rfl, SqL.of e1, rfl, Nat.zero_le _, fun z hz => ?_⟩
      have e1' := upd_some (o := .lst []) hz e1
      have e2' := upd_some (o := .lst []) hz e2
      have kp' : ∀ b o, b ≠ m → b ≠ c → H b = some o → upd H' z (.lst []) b = some o := fun b o b1 b2 e => upd_some hz (kp b o b1 b2 e)
      refine ⟨.list (cs.map .int), .list [], (Dt.lst e2' (dts_ints _ cs)).dp, (Dt.lst upd_same .nil).dp, shaped_li _, shaped_li [], _, rfl, ?_⟩
      rw [eqv_nil_i]
      generalize upd H' z (.lst []) = H2 at e1' e2' kp' ⊢
      cases cs with
      | cons x r =>
        refine iteT ⟨fun σ' H' => ∃ y2, σ' = [some (.ref m), some (.int n), y2] ∧ (∀ b o, b ≠ m → b ≠ c → H b = some o → H' b = some o) ∧ H' m = some (.lst [.ref c, .int mixed, .int count]) ∧ H' c = some (.lst (r.map V.int)), fun σ' H' hN => ?_, ?_⟩
        · obtain ⟨y2, rfl, k1, k2, k3⟩ := hN
          exact ⟨r.length, Nat.lt_succ_self _, r, mixed, count, y2, rfl, rfl, k1, hmc, k2, k3, e3, e4⟩
        · refine ⟨_, rfl, m, _, 0, .ref c, rfl, rfl, SqL.of e1', rfl, c, _, 0, .int x, rfl, rfl, SqL.of e2', atI_nat (j := 0) rfl, ?_⟩
          refine ⟨_, rfl, x, 0, rfl, rfl, _, rfl, ?_⟩
          have ixz : ixN ((x :: r).map V.int).length 0 = some 0 := by
            rw [List.length_map, List.length_cons, ixN, if_pos (by omega), if_pos (by omega)]
            rfl
          by_cases hx : 0 < x
          · rw [decide_eq_true hx]
            refine iteT ⟨_, rfl, _, rfl, x, n, rfl, rfl, ⟨by omega, by omega⟩, _, rfl, m, _, 0, .ref c, rfl, rfl, SqL.of e1', rfl, c, _, 0, 0, rfl, rfl, e2', ixz, ?_⟩
            refine ⟨_, rfl, .inl ⟨x, rfl, _, rfl, x, n, rfl, rfl, by omega, ?_⟩⟩
            refine q _ _ ⟨fun b o b1 b2 e => ?_, hmc, Int.fdiv x n :: r, mixed, count, ?_, upd_same, e3, e4⟩ (Int.fmod_nonneg_of_pos _ (by omega)) (Int.fmod_lt_of_pos _ (by omega))
            · rw [upd_ne b2]
              exact kp' b o b1 b2 e
            · rw [upd_ne hmc]
              exact e1'
          · rw [decide_eq_false hx]
            refine iteF ⟨_, rfl, m, _, 0, .ref c, rfl, rfl, SqL.of e1', rfl, .inl ⟨rfl, _, SqL.of e2'⟩, c, _, 0, 0, .int x, rfl, rfl, e2', by omega, by omega, (ixN_seq ixz).1, rfl, ?_⟩
            refine ⟨_, rfl, fun b o b1 b2 e => ?_, ?_, upd_same⟩
            · rw [upd_ne b2]
              exact kp' b o b1 b2 e
            · rw [upd_ne hmc]
              exact e1'
      | nil =>
        refine iteF ?_
        refine ⟨_, rfl, m, _, 2, .int count, rfl, rfl, SqL.of e1', rfl, count, 1, rfl, rfl, _, rfl, m, _, 2, 2, rfl, rfl, e1', rfl, ?_⟩
        have f1 : upd H2 m (.lst [.ref c, .int mixed, .int (count + 1)]) m = some (.lst [.ref c, .int mixed, .int (count + 1)]) := upd_same
        have f2 : upd H2 m (.lst [.ref c, .int mixed, .int (count + 1)]) c = some (.lst []) := by
          rw [upd_ne (Ne.symm hmc)]
          exact e2'
        have f3 : ∀ b o, b ≠ m → b ≠ c → H b = some o → upd H2 m (.lst [.ref c, .int mixed, .int (count + 1)]) b = some o := fun b o b1 b2 e => by
          rw [upd_ne b1]
          exact kp' b o b1 b2 e
        dsimp only [List.set_cons_succ, List.set_cons_zero]
        generalize upd H2 m (.lst [.ref c, .int mixed, .int (count + 1)]) = H3 at f1 f2 f3 ⊢
        refine ⟨_, rfl, m, _, 1, .int mixed, rfl, rfl, SqL.of f1, rfl, mixed, 40692, rfl, rfl, .inr ⟨by omega, by omega⟩, _, rfl, m, _, 2, .int (count + 1), rfl, rfl, SqL.of f1, rfl, count + 1, 12211, rfl, rfl, .inr ⟨by omega, by omega⟩, _, _, rfl, rfl, _, _, rfl, rfl, .inl ⟨_, rfl, ?_⟩⟩
        refine ⟨_, 2147483399, rfl, rfl, by omega, _, rfl, m, _, 1, 1, rfl, rfl, f1, rfl, ?_⟩
        have h3 := Int.fmod_nonneg_of_pos (mixed * 40692 + (count + 1) * 12211 + 5) (show (0 : Int) < 2147483399 by omega)
        have h4 := Int.fmod_lt_of_pos (mixed * 40692 + (count + 1) * 12211 + 5) (show (0 : Int) < 2147483399 by omega)
        dsimp only [List.set_cons_succ, List.set_cons_zero]
        generalize Int.fmod (mixed * 40692 + (count + 1) * 12211 + 5) 2147483399 = v1 at h3 h4 ⊢
        have g1 : upd H3 m (.lst [.ref c, .int v1, .int (count + 1)]) m = some (.lst [.ref c, .int v1, .int (count + 1)]) := upd_same
        have g2 : upd H3 m (.lst [.ref c, .int v1, .int (count + 1)]) c = some (.lst []) := by
          rw [upd_ne (Ne.symm hmc)]
          exact f2
        have g3 : ∀ b o, b ≠ m → b ≠ c → H b = some o → upd H3 m (.lst [.ref c, .int v1, .int (count + 1)]) b = some o := fun b o b1 b2 e => by
          rw [upd_ne b1]
          exact f3 b o b1 b2 e
        generalize upd H3 m (.lst [.ref c, .int v1, .int (count + 1)]) = H4 at g1 g2 g3 ⊢
        refine ⟨_, rfl, m, _, 1, .int v1, rfl, rfl, SqL.of g1, rfl, _, rfl, m, _, 1, .int v1, rfl, rfl, SqL.of g1, rfl, v1, v1, rfl, rfl, .inl ⟨by omega, by omega⟩, .inl ⟨_, rfl, ?_⟩⟩
        refine ⟨_, 2147483647, rfl, rfl, by omega, _, 8, rfl, rfl, ⟨by omega, by omega⟩, _, rfl, _, n, rfl, rfl, by omega, ?_⟩
        exact q _ _ ⟨g3, hmc, [], v1, count + 1, g1, g2, by omega, by omega⟩ (Int.fmod_nonneg_of_pos _ (by omega)) (Int.fmod_lt_of_pos _ (by omega))
end
end Wb
namespace Wb
open PySem PySem.Spec PyProof.Rows L2

theorem fm_ints (ms : List Int) (p : Int → Bool) (g : Int → Int) : ms.filterMap (fun x => if p x then some (PyData.int (g x)) else none) = ((ms.filter p).map g).map PyData.int := by
  induction ms with
  | nil => rfl
  | cons a r ih =>
    rw [List.filterMap_cons, List.filter_cons]
    by_cases c : p a = true
    · rw [if_pos c, if_pos c, List.map_cons, List.map_cons, ih]
    · rw [if_neg c, if_neg c, ih]
theorem cut_ints (ns : List Int) (lo hi : Option Int) : ∃ ms : List Int, cutV (ns.map V.int) lo hi = ms.map V.int ∧ ms.length ≤ ns.length := by
  unfold cutV
  rw [← List.map_drop, ← List.map_take]
  refine ⟨_, rfl, ?_⟩
  rw [List.length_take, List.length_drop]
  omega
theorem dotI_range : ∀ (xs ys : List Int), xs.length = ys.length → ((List.range xs.length).map fun i => xs.getD i 0 * ys.getD i 0).sum = dotI xs ys
  | [], [], _ => rfl
  | x :: xs, y :: ys, h => by
    rw [List.length_cons, List.range_succ_eq_map, List.map_cons, List.map_map, List.sum_cons, dotI_cons, ← dotI_range xs ys (by simpa using h)]
    rfl
  | [], _ :: _, h => by simp at h
  | _ :: _, [], h => by simp at h
section
variable {P : Program} {w : World} {K : PySem.W.Frag} {mg : Str → Option Value} {base : Heap}
def spPick : Sp := fun vs H Q _ => ∃ (m c l : Addr) (us : List V), vs = [.ref m, .ref l] ∧ MillAt H m c ∧ H l = some (.lst us) ∧ l ≠ m ∧ l ≠ c ∧ 1 ≤ us.length ∧ us.length ≤ 1000 ∧ ∀ v H' (i : Nat), us[i]? = some v → MS m c H H' → Q v H'
theorem ok_lPick (F : Has K mg "_law_pick" s_lPick ["_law_mill_here", "_law_items"]) (B : Blt mg) (c_lGrind : Callee P w K mg base 1 "_law_grind" ["_law_mill_here", "_law_many"] spGrind) : Callee P w K mg base 2 "_law_pick" ["_law_mill_here", "_law_items"] spPick := by
  have nd := sc_lPick.nd
  refine callee_of F sc_lPick (fun vs H Q E h => ?_) (fun f cdv A outer s H vs Q E hr h => ?_)
  · obtain ⟨m, c, l, us, rfl, _⟩ := h
    rfl
  · obtain ⟨m, c, l, us, rfl, hm, hl, h1, h2, h3, h4, q⟩ := h
    refine ⟨_, (pss_one
      (ps_ret (pe_ix (ix_listK K rfl) (pv 1) (pe_fn c_lGrind hr rfl (pa_cons (pv 0) (pa_cons (pe_callB (len_K K rfl) (by rfl) B.len (by decide +kernel) (pa_cons (pv 1) pa_nil)) pa_nil))) (fun _ _ => rfl)))), ?_⟩
    refine ⟨_, rfl, _, rfl, _, rfl, l, _, rfl, .inl (SqL.of hl), m, c, us.length, rfl, hm, by omega, by omega, fun v H' ms v0 v1 => ?_⟩
    obtain ⟨i, rfl⟩ := Int.eq_ofNat_of_zero_le v0
    have hi : i < us.length := by omega
    exact ⟨l, us, (i : Nat), us[i], rfl, rfl, SqL.of (ms.1 _ _ h1 h2 hl), atI_nat (List.getElem?_eq_getElem hi), q _ _ i (List.getElem?_eq_getElem hi) ms⟩
def spLDot : Sp := fun vs H Q _ => ∃ (a b : Addr) (xs ys : List Int), vs = [.ref a, .ref b] ∧ H a = some (.tup (xs.map V.int)) ∧ H b = some (.tup (ys.map V.int)) ∧ xs.length = ys.length ∧ xs.length ≤ 1000 ∧ Bd xs ∧
  ∀ H', Same H H' → Q (.int (dotI xs ys)) H'
theorem ok_lDot (F : Has K mg "_law_dot" s_lDot ["_law_one", "_law_other"]) (B : Blt mg) : Callee P w K mg base 1 "_law_dot" ["_law_one", "_law_other"] spLDot := by
  have nd := sc_lDot.nd
  refine callee_of F sc_lDot (fun vs H Q E h => ?_) (fun f cdv A outer s H vs Q E hr h => ?_)
  · obtain ⟨a, b, xs, ys, rfl, _⟩ := h
    rfl
  · obtain ⟨a, b, xs, ys, rfl, ha, hb, hl, hz, bd, q⟩ := h
    refine ⟨_, (pss_one
      (ps_ret (pe_callB (sum_K K rfl rfl) (by rfl) B.sum (by decide +kernel) (pa_cons (pe_lc (own := [("_law_k", 2)]) rfl nd (pi_range1 rfl B.range (pa_cons (pe_callB (len_K K rfl) (by rfl) B.len (by decide +kernel) (pa_cons (pv 0) pa_nil)) pa_nil)) (blkOk_by (by kernel_rfl)) (fun _ _ _ _ _ => (pg_name (i := 2) nd rfl (Or.inl rfl))) (fun _ _ _ _ _ => pts_nil) (fun _ _ _ _ _ => (pe_op op_mul (pe_ix (ix_tupK K rfl) (pv 0) (pv 2) (fun _ _ => rfl)) (pe_ix (ix_tupK K rfl) (pv 1) (pv 2) (fun _ _ => rfl))))) pa_nil)))), ?_⟩
    refine ⟨_, rfl, a, _, rfl, .inr (SqT.of ha), _, rfl, by omega, by rw [List.length_map]; omega, fun D hD => ?_⟩
    rw [List.length_map, Int.toNat_natCast]
    refine lc_fm (walk_range (lo := 0) (n := xs.length)) (fun i => some (.int (xs.getD i 0 * ys.getD i 0))) hD (le1000 hz) (fun _ _ => trivial) (fun i x H2 H3 k kn hi s1 hy hk hkn => ?_) (fun H2 vs s2 h2 d2 _ => ?_)
    · obtain ⟨rfl, rfl⟩ := hy
      have g1 : xs[i]? = some xs[i] := List.getElem?_eq_getElem hi
      have g2 : ys[i]? = some ys[i] := List.getElem?_eq_getElem (by omega)
      have b1 := bd.at g1
      have at1 : atI (xs.map V.int) (0 + (i : Nat)) = some (.int xs[i]) := by
        rw [Int.zero_add]
        exact atI_nat (by rw [List.getElem?_map, g1]; rfl)
      have at2 : atI (ys.map V.int) (0 + (i : Nat)) = some (.int ys[i]) := by
        rw [Int.zero_add]
        exact atI_nat (by rw [List.getElem?_map, g2]; rfl)
      refine ⟨rfl, _, rfl, _, rfl, a, _, _, _, rfl, rfl, s1.tup ha, at1, _, rfl, _, rfl, b, _, _, _, rfl, rfl, s1.tup hb, at2, _, _, rfl, rfl, .inl ⟨by omega, by omega⟩, hk _ _ (.int (xs[i] * ys[i])) ?_ (Same.refl _) (.int _) (.int _)⟩
      rw [List.getD_eq_getElem?_getD, List.getD_eq_getElem?_getD, g1, g2]
      rfl
    · have e : (List.range xs.length).filterMap (fun i => some (PyData.int (xs.getD i 0 * ys.getD i 0))) = ((List.range xs.length).map fun i => xs.getD i 0 * ys.getD i 0).map PyData.int := by
        rw [List.filterMap_eq_map', List.map_map]
        rfl
      rw [e] at d2
      rw [d2.ints] at h2
      refine ⟨_, _, rfl, SqL.of h2, ?_⟩
      rw [dotI_range xs ys hl]
      exact q _ s2
def spMill (K : PySem.W.Frag) : Sp := fun vs H Q _ => ∃ (a : Addr) (ns : List Int), vs = [.ref a] ∧ SqL K H a (ns.map V.int) ∧ ns.length ≤ 63 ∧ ∀ m c H', Same H H' → H m = none → H c = none → MillAt H' m c → Q (.ref m) H'
theorem ok_lMill (F : Has K mg "_law_mill" s_lMill ["_law_script"]) (B : Blt mg) : Callee P w K mg base 1 "_law_mill" ["_law_script"] (spMill K) := by
  have nd := sc_lMill.nd
  refine callee_of F sc_lMill (fun vs H Q E h => ?_) (fun f cdv A outer s H vs Q E hr h => ?_)
  · obtain ⟨a, ns, rfl, _⟩ := h
    rfl
  · obtain ⟨a, ns, rfl, ha, hl, q⟩ := h
    obtain ⟨ms, ems, hml⟩ := cut_ints ns none (some 63)
    refine ⟨_, (pss_cons
      (ps_set (i := 1) nd rfl (Or.inl rfl) (pe_op op_add pe_int (pe_callB (len_K K rfl) (by rfl) B.len (by decide +kernel) (pa_cons (pv 0) pa_nil))))
    (pss_cons
      (ps_for PassesOwn.never rfl (pi_listK K rfl (pe_slice (sl_listK K rfl) (pv 0) po_none (po_some pe_int))) (pg_name (i := 2) nd rfl (Or.inl rfl))
        (pss_one
          (ps_set (i := 1) nd rfl (Or.inl rfl) (pe_op op_modN (pe_op op_add (pe_op op_add (pe_op op_mul (pv 1) pe_int) (pe_op op_modN (pe_callB call_abs (by rfl) B.abs (by decide +kernel) (pa_cons (pv 2) pa_nil)) pe_int)) (pe_callTy call_int1 (by rfl) B.int (by decide +kernel) (pa_cons (pe_cmpR op_lt (pv 2) pe_int (nomark _)) pa_nil))) pe_int))))
    (pss_one
      (ps_ret (pe_lst (pa_cons (pe_lc (own := [("_law_cell", 2)]) rfl nd (pi_listK K rfl (pe_slice (sl_listK K rfl) (pv 0) po_none (po_some pe_int))) (blkOk_by (by kernel_rfl)) (fun _ _ _ _ _ => (pg_name (i := 2) nd rfl (Or.inl rfl))) (fun _ _ _ _ _ => (pts_one (pt_cmpR op_ge (pe_callB call_abs (by rfl) B.abs (by decide +kernel) (pa_cons (pv 2) pa_nil)) (pe_op op_pow pe_int pe_int) (nomark _)))) (fun _ _ _ _ _ => (pe_callB call_abs (by rfl) B.abs (by decide +kernel) (pa_cons (pv 2) pa_nil)))) (pa_cons (pv 1) (pa_cons pe_int pa_nil)))))))), ?_⟩
    refine ⟨_, rfl, a, _, rfl, .inl ha, _, _, rfl, rfl, ?_⟩
    refine ⟨_, rfl, 63, rfl, a, _, rfl, ha, fun p hp => ?_⟩
    rw [ems]
    refine ⟨p, rfl, ⟨_, SqL.of upd_same⟩, ?_⟩
    have s1 : Same H (upd H p (.lst (ms.map V.int))) := same_upd hp
    have hp1 : upd H p (.lst (ms.map V.int)) p = some (.lst (ms.map V.int)) := upd_same
    generalize upd H p (.lst (ms.map V.int)) = H1 at s1 hp1 ⊢
    refine for_it (walk_list (xs := ms.map V.int)) (fun i σ H' => Same H1 H' ∧ ∃ mixed y2, σ = [some (.ref a), some (.int mixed), y2] ∧ 0 ≤ mixed ∧ mixed ≤ 2147483647) ⟨Same.refl _, _, _, rfl, by omega, by rw [List.length_map]; omega⟩ (fun i σ H' _ p' => p'.1.lst hp1) (fun i x σ H2 H3 hi p' hy => ?_) fun σ H2 p' => ?_
    · obtain ⟨s2, mixed, y2, rfl, h1, h2⟩ := p'
      obtain ⟨rfl, ex⟩ := hy
      obtain ⟨u, g, rfl⟩ := map_int_at ex
      refine ⟨_, rfl, mixed, 40014, rfl, rfl, .inr ⟨by omega, by omega⟩, _, rfl, u, rfl, _, 2147483563, rfl, rfl, by omega, _, _, rfl, rfl, _, rfl, u, 0, rfl, rfl, .inr ⟨_, rfl, _, _, rfl, rfl, _, 2147483563, rfl, rfl, by omega, s2, _, _, rfl, ?_, ?_⟩⟩
      · exact Int.fmod_nonneg_of_pos _ (by omega)
      · exact Int.le_of_lt (Int.lt_trans (Int.fmod_lt_of_pos _ (by omega)) (by omega))
    · obtain ⟨s2, mixed, y2, rfl, h1, h2⟩ := p'
      have s12 := s1.trans s2
      refine ⟨_, rfl, 63, rfl, a, _, rfl, s12.seq ha, fun p2 hp2 => ?_⟩
      rw [ems]
      have s3 : Same H (upd H2 p2 (.lst (ms.map V.int))) := s12.trans (same_upd hp2)
      have hp3 : upd H2 p2 (.lst (ms.map V.int)) p2 = some (.lst (ms.map V.int)) := upd_same
      generalize upd H2 p2 (.lst (ms.map V.int)) = H3 at s3 hp3 ⊢
      refine ⟨p2, rfl, ⟨_, SqL.of hp3⟩, fun D hD => ?_⟩
      refine lc_fm (walk_list (xs := ms.map V.int)) (fun i => (ms[i]?).bind fun x => if decide (10 ^ 18 ≤ (if x < 0 then -x else x)) then some (.int (if x < 0 then -x else x)) else none) hD (by rw [List.length_map]; exact small_of (m := 63) (by omega) (by decide)) (fun H' s => s.lst hp3) (fun i x H4 H5 k kn hi s4 hy hk hkn => ?_) (fun H4 vs s4 h4 d4 _ => ?_)
      · obtain ⟨rfl, ex⟩ := hy
        obtain ⟨u, g, rfl⟩ := map_int_at ex
        refine ⟨rfl, _, rfl, u, rfl, 10, 18, rfl, rfl, ⟨by omega, by omega, by decide⟩, _, _, rfl, rfl, _, rfl, ?_⟩
        have e18 : (10 : Int) ^ (18 : Int).toNat = 10 ^ 18 := rfl
        rw [e18]
        by_cases cx : (10 : Int) ^ 18 ≤ (if u < 0 then -u else u)
        · rw [decide_eq_true cx]
          exact iteT ⟨_, rfl, u, rfl, hk _ _ (.int (if u < 0 then -u else u)) (by show Option.bind (ms[i]?) _ = _; rw [g]; exact if_pos (decide_eq_true cx)) (Same.refl _) (.int _) (.int _)⟩
        · rw [decide_eq_false cx]
          exact iteF (hkn _ (by show Option.bind (ms[i]?) _ = _; rw [g]; exact if_neg (by rw [decide_eq_false cx]; exact Bool.false_ne_true)) (Same.refl _))
      · rw [List.length_map, fm_range ms (fun x => if decide (10 ^ 18 ≤ (if x < 0 then -x else x)) then some (PyData.int (if x < 0 then -x else x)) else none) _ (fun i x e => by rw [e]; rfl), fm_ints ms (fun x => decide (10 ^ 18 ≤ (if x < 0 then -x else x))) (fun x => if x < 0 then -x else x)] at d4
        rw [d4.ints] at h4
        refine ⟨_, rfl, ll rfl, fun mm hmm => ?_⟩
        have s5 : Same H (upd H4 mm (.lst [.ref D, .int mixed, .int 0])) := (s3.trans s4).trans (same_upd hmm)
        refine q mm D _ s5 ((s3.trans s4).free hmm) (s3.free hD) ⟨fun e => ?_, _, mixed, 0, upd_same, upd_some hmm h4, h1, h2⟩
        rw [e, h4] at hmm
        cases hmm
end
end Wb
namespace Wb
open PySem PySem.Spec PyProof.Rows L2

theorem seq_ok {a b : TS} {D : Ends} {σ : L2.St} {H : Hp} (P : L2.St → Hp → Prop) (h1 : ∀ D' : Ends, D'.rt = D.rt → (∀ σ' H', P σ' H' → D'.nx σ' H') → a D' σ H) (h2 : ∀ σ' H', P σ' H' → b D σ' H') : tSeq a b D σ H := h1 _ rfl h2
theorem ints_of {p : Int → Prop} : ∀ {ds : List PyData}, (∀ (i : Nat) d, ds[i]? = some d → ∃ x, d = .int x ∧ p x) → ∃ ws : List Int, ds = ws.map .int ∧ ∀ x ∈ ws, p x
  | [], _ => ⟨[], rfl, fun _ h => nomatch h⟩
  | d :: ds, h => by
    obtain ⟨x, rfl, hx⟩ := h 0 d rfl
    obtain ⟨ws, rfl, hws⟩ := ints_of (ds := ds) fun i d e => h (i + 1) d (by simpa using e)
    refine ⟨x :: ws, rfl, fun y hy => ?_⟩
    rcases List.mem_cons.mp hy with rfl | hy
    · exact hx
    · exact hws y hy
theorem ix_nat {n j : Nat} (h : j < n) : ixN n (j : Int) = some j := by
  rw [ixN, if_pos (by omega), if_pos (by omega), Int.toNat_natCast]
section
variable {P : Program} {w : World} {K : PySem.W.Frag} {mg : Str → Option Value} {base : Heap}
def spPlan : Sp := fun vs H Q _ => ∃ (m c : Addr) (dims many : Nat), vs = [.ref m, .int (dims : Nat), .int (many : Nat)] ∧ MillAt H m c ∧ 1 ≤ dims ∧ dims ≤ 10 ∧ many ≤ 100 ∧
  ∀ p a b H' (ws ss : List Int), MS m c H H' → H' p = some (.tup [.ref a, .ref b]) → H' a = some (.tup (ws.map V.int)) → H' b = some (.tup (ss.map V.int)) → ws.length = dims → ss.length = many → (∃ x ∈ ws, x ≠ 0) → (∀ x ∈ ws, -3 ≤ x ∧ x ≤ 3) → Q (.ref p) H'
theorem ok_lPlan (F : Has K mg "_law_plan" s_lPlan ["_law_mill_here", "_law_dims", "_law_many"]) (B : Blt mg) (c_lGrind : Callee P w K mg base 1 "_law_grind" ["_law_mill_here", "_law_many"] spGrind) (c_lPick : Callee P w K mg base 2 "_law_pick" ["_law_mill_here", "_law_items"] spPick) :
    Callee P w K mg base 3 "_law_plan" ["_law_mill_here", "_law_dims", "_law_many"] spPlan := by
  have nd := sc_lPlan.nd
  refine callee_of F sc_lPlan (fun vs H Q E h => ?_) (fun f cdv A outer s H vs Q E hr h => ?_)
  · obtain ⟨m, c, dims, many, rfl, _⟩ := h
    rfl
  · obtain ⟨m, c, dims, many, rfl, hm, h1, h2, h3, q⟩ := h
    have c_lGrind := c_lGrind.mono (show 1 ≤ 2 by decide)
    refine ⟨_, (pss_cons
      (ps_setLc (i := 3) (own := [("_law_axis", 4)]) rfl nd rfl rfl (sw_true rfl rfl rfl (by decide +kernel)) (pi_range1 rfl B.range (pa_cons (pv 1) pa_nil)) (blkOk_by (by kernel_rfl)) (fun _ _ _ _ _ => (pg_name (i := 4) nd rfl (Or.inl rfl))) (fun _ _ _ _ _ => pts_nil) (fun _ _ _ _ _ => (pe_op op_sub (pe_fn c_lGrind hr rfl (pa_cons (pv 0) (pa_cons pe_int pa_nil))) pe_int)))
    (pss_cons
      (ps_if (PW.pt (pw_and (pt_cmpR op_le (pe_callB (max_K K rfl rfl) (by rfl) B.max (by decide +kernel) (pa_cons (pv 3) pa_nil)) pe_int (nomark _)) (pw_and1 (pt_cmpR op_ge (pe_callB (min_K K rfl rfl) (by rfl) B.min (by decide +kernel) (pa_cons (pv 3) pa_nil)) pe_int (nomark _)))))
        (pss_one
          (ps_asg (pe_fn c_lPick hr rfl (pa_cons (pv 0) (pa_cons (pe_lst (pa_cons pe_int (pa_cons (pe_un un_neg pe_int) (pa_cons pe_int pa_nil)))) pa_nil))) (pg_sub (pv 3) (pe_fn c_lGrind hr rfl (pa_cons (pv 0) (pa_cons (pv 1) pa_nil))) set_list)))
        pss_nil)
    (pss_one
      (ps_ret (pe_tup (pa_cons (pe_tupleK K rfl rfl B.tuple (pv 3)) (pa_cons (pe_tupleK K rfl rfl B.tuple (pe_lc (own := [("_law_plane", 5)]) rfl nd (pi_range1 rfl B.range (pa_cons (pv 2) pa_nil)) (blkOk_by (by kernel_rfl)) (fun _ _ _ _ _ => (pg_name (i := 5) nd rfl (Or.inl rfl))) (fun _ _ _ _ _ => pts_nil) (fun _ _ _ _ _ => (pe_fn c_lGrind hr rfl (pa_cons (pv 0) (pa_cons pe_int pa_nil)))))) pa_nil))))))), ?_⟩
    refine ⟨_, rfl, (dims : Nat), rfl, by omega, by omega, fun D hD => ?_⟩
    rw [Int.toNat_natCast]
    refine lc_mill (walk_range (lo := 0) (n := dims)) (fun _ d => ∃ x, d = .int x ∧ (-3 ≤ x ∧ x ≤ 3)) hm hD (small_of (m := 10) h2 (by decide)) (fun _ _ => trivial) (fun i x H2 H3 k hi s2 hy hk => ?_) fun H2 ys ds s2 hD2 hds hods hdl hΦ => ?_
    · obtain ⟨rfl, rfl⟩ := hy
      refine ⟨rfl, _, rfl, m, c, 7, rfl, s2.2, by omega, by omega, fun v H4 s4 v0 v1 => ⟨_, _, rfl, rfl, hk _ _ (.int (v - 3)) ⟨_, rfl, by omega, by omega⟩ s4 (.int _) (.int _)⟩⟩
    · obtain ⟨ws, rfl, hws⟩ := ints_of hΦ
      rw [hds.ints] at hD2
      rw [List.length_map] at hdl
      dsimp only [gName]
      refine seq_ok (fun σ' H' => ∃ ws : List Int, σ' = [some (.ref m), some (.int (dims : Nat)), some (.int (many : Nat)), some (.ref D), none, none] ∧ MS m c H H' ∧ H' D = some (.lst (ws.map V.int)) ∧ ws.length = dims ∧ (∃ x ∈ ws, x ≠ 0) ∧ ∀ x ∈ ws, -3 ≤ x ∧ x ≤ 3) (fun D' _ hn => ?_) fun σ' H' p' => ?_
      · refine ⟨_, rfl, D, ws, rfl, SqL.of hD2, by omega, fun mx hmx hle => ⟨_, _, rfl, rfl, _, rfl, ?_⟩⟩
        by_cases c1 : mx ≤ 0
        · rw [decide_eq_true c1]
          refine iteT ⟨_, rfl, D, ws, rfl, SqL.of hD2, by omega, fun mn hmn hge => ⟨_, _, rfl, rfl, _, rfl, ?_⟩⟩
          by_cases c2 : 0 ≤ mn
          · rw [decide_eq_true c2]
            have hDm := hm.neN hD
            refine iteT ⟨_, rfl, _, rfl, ll rfl, fun l hl => ?_⟩
            have hl1 := s2.2.neN hl
            refine ⟨m, c, l, _, rfl, (s2.2.same (same_upd hl)), upd_same, hl1.1, hl1.2, Nat.le_of_ble_eq_true rfl, Nat.le_of_ble_eq_true rfl, fun v H4 i ev s4 => ?_⟩
            have hv : ∃ x : Int, v = .int x ∧ x ≠ 0 ∧ -3 ≤ x ∧ x ≤ 3 := by
              match i, ev with
              | 0, ev => cases ev; exact ⟨1, rfl, by omega⟩
              | 1, ev => cases ev; exact ⟨-1, rfl, by omega⟩
              | 2, ev => cases ev; exact ⟨2, rfl, by omega⟩
              | i + 3, ev => cases ev
            obtain ⟨x, rfl, hx0, hx1⟩ := hv
            refine ⟨_, rfl, _, rfl, _, rfl, m, c, (dims : Nat), rfl, s4.2, by omega, by omega, fun v5 H5 s5 v0 v1 => ?_⟩
            obtain ⟨j, rfl⟩ := Int.eq_ofNat_of_zero_le v0
            have hD5 := s5.1 _ _ hDm.1 hDm.2 (s4.1 _ _ hDm.1 hDm.2 (upd_some hl hD2))
            refine ⟨D, _, _, j, rfl, rfl, hD5, ?_, hn _ _ ⟨ws.set j x, rfl, ⟨fun b o b1 b2 e => ?_, ?_⟩, ?_, ?_, ⟨x, List.mem_of_getElem? (List.getElem?_set_self (i := j) (by omega)), hx0⟩, fun y hy => ?_⟩⟩
            · rw [List.length_map, hdl]
              exact ix_nat (by omega)
            · rw [upd_ne (ne_of_none e hD)]
              exact s5.1 _ _ b1 b2 (s4.1 _ _ b1 b2 (upd_some hl (s2.1 _ _ b1 b2 e)))
            · obtain ⟨g1, cs, mi, co, g2, g3, g4⟩ := s5.2
              exact ⟨g1, cs, mi, co, by rw [upd_ne (Ne.symm hDm.1)]; exact g2, by rw [upd_ne (Ne.symm hDm.2)]; exact g3, g4⟩
            · rw [upd_same, List.map_set]
            · rw [List.length_set]
              exact hdl
            · rcases List.mem_or_eq_of_mem_set hy with hy | hy
              · exact hws y hy
              · rw [hy]
                exact hx1
          · rw [decide_eq_false c2]
            exact iteF (hn _ _ ⟨ws, rfl, s2, hD2, hdl, ⟨mn, hmn, by omega⟩, hws⟩)
        · rw [decide_eq_false c1]
          exact iteF (hn _ _ ⟨ws, rfl, s2, hD2, hdl, ⟨mx, hmx, by omega⟩, hws⟩)
      · obtain ⟨ws, rfl, s4, hD4, hwl, hnz, hwb⟩ := p'
        refine ⟨_, rfl, .inl ⟨D, _, rfl, SqL.of hD4, fun pa hpa => ?_⟩⟩
        have s5 := s4.same (same_upd (o := .tup (ws.map V.int)) hpa)
        have ha5 : upd H' pa (.tup (ws.map V.int)) pa = some (.tup (ws.map V.int)) := upd_same
        generalize upd H' pa (.tup (ws.map V.int)) = H5 at s5 ha5 ⊢
        refine ⟨_, rfl, (many : Nat), rfl, by omega, by omega, fun D2 hD2 => ?_⟩
        rw [Int.toNat_natCast]
        refine lc_mill (walk_range (lo := 0) (n := many)) (fun _ d => ∃ x, d = .int x ∧ (0 ≤ x ∧ x < 3)) s5.2 hD2 (small_of (m := 100) h3 (by decide)) (fun _ _ => trivial) (fun i x H6 H7 k hi s6 hy hk => ?_) fun H6 ys2 ds2 s6 hD6 hds2 hods2 hdl2 hΦ2 => ?_
        · obtain ⟨rfl, rfl⟩ := hy
          exact ⟨rfl, _, rfl, m, c, 3, rfl, s6.2, by omega, by omega, fun v H4 s4 v0 v1 => hk _ _ (.int v) ⟨_, rfl, by omega, by omega⟩ s4 (.int _) (.int _)⟩
        · obtain ⟨ss, rfl, hss⟩ := ints_of hΦ2
          rw [hds2.ints] at hD6
          rw [List.length_map] at hdl2
          refine .inl ⟨D2, _, rfl, SqL.of hD6, fun pb hpb => ⟨ll rfl, fun p hp => ?_⟩⟩
          have ha6 := MS.kt s5.2 s6 _ _ ha5
          exact q p pa pb _ ws ss (((s5.trans s6).same (same_upd hpb)).same (same_upd hp)) upd_same (upd_some hp (upd_some hpb ha6)) (upd_some hp upd_same) hwl hdl2 hnz hwb
end
end Wb
namespace Wb
open PySem PySem.Spec PyProof.Rows L2

theorem ite_any {d : Bool} {A B : Prop} (h1 : A) (h2 : B) : if d = true then A else B := by
  cases d
  · rw [if_neg Bool.false_ne_true]
    exact h2
  · rw [if_pos rfl]
    exact h1
theorem fm_gen {α : Type} (l : List α) (p : α → Bool) (g : α → Int) : l.filterMap (fun x => if p x then some (PyData.int (g x)) else none) = ((l.filter p).map g).map PyData.int := by
  induction l with
  | nil => rfl
  | cons a r ih =>
    rw [List.filterMap_cons, List.filter_cons]
    by_cases c : p a = true
    · rw [if_pos c, if_pos c, List.map_cons, List.map_cons, ih]
    · rw [if_neg c, if_neg c, ih]
section
variable {P : Program} {w : World} {K : PySem.W.Frag} {mg : Str → Option Value} {base : Heap}
def spBox : Sp := fun vs H Q _ => ∃ (m c : Addr) (dims : Nat) (most : Int), vs = [.ref m, .int (dims : Nat), .int most] ∧ MillAt H m c ∧ dims ≤ 3 ∧ 1 ≤ most ∧ most ≤ 1000 ∧
  ∀ p H' (box : List Int), MS m c H H' → H' p = some (.tup (box.map V.int)) → box.length = dims → (∀ x ∈ box, 1 ≤ x ∧ x ≤ 1000) → prodI box ≤ most → Q (.ref p) H'
theorem prod_step {p most size : Int} (hp : 0 ≤ p) (h1 : 1 ≤ size) (h2 : size ≤ most) : 1 ≤ Int.fdiv most size ∧ p * size * Int.fdiv most size ≤ p * most := by
  rw [Int.fdiv_eq_ediv_of_nonneg _ (by omega)]
  constructor
  · rw [Int.le_ediv_iff_mul_le (by omega)]
    omega
  · rw [Int.mul_assoc]
    exact Int.mul_le_mul_of_nonneg_left (Int.mul_ediv_self_le (by omega)) hp
theorem ok_lBox (F : Has K mg "_law_box" s_lBox ["_law_mill_here", "_law_dims", "_law_most"]) (B : Blt mg) (c_lGrind : Callee P w K mg base 1 "_law_grind" ["_law_mill_here", "_law_many"] spGrind) (c_lPick : Callee P w K mg base 2 "_law_pick" ["_law_mill_here", "_law_items"] spPick) :
    Callee P w K mg base 3 "_law_box" ["_law_mill_here", "_law_dims", "_law_most"] spBox := by
  have nd := sc_lBox.nd
  refine callee_of F sc_lBox (fun vs H Q E h => ?_) (fun f cdv A outer s H vs Q E hr h => ?_)
  · obtain ⟨m, c, dims, most, rfl, _⟩ := h
    rfl
  · obtain ⟨m, c, dims, most, rfl, hm, h1, h2, h3, q⟩ := h
    have c_lGrind := c_lGrind.mono (show 1 ≤ 2 by decide)
    refine ⟨_, (pss_cons
      (ps_set (i := 3) nd rfl (Or.inl rfl) (pe_lst pa_nil))
    (pss_cons
      (ps_for PassesOwn.never rfl (pi_range1 rfl B.range (pa_cons (pv 1) pa_nil)) (pg_name (i := 4) nd rfl (Or.inl rfl))
        (pss_cons
          (ps_set (i := 5) nd rfl (Or.inl rfl) (pe_op op_add pe_int (pe_fn c_lGrind hr rfl (pa_cons (pv 0) (pa_cons (pe_callB (call_min2 rfl) (by rfl) B.min (by decide +kernel) (pa_cons (pv 2) (pa_cons (pe_fn c_lPick hr rfl (pa_cons (pv 0) (pa_cons (pe_lst (pa_cons pe_int (pa_cons pe_int (pa_cons pe_int pa_nil)))) pa_nil))) pa_nil))) pa_nil)))))
        (pss_cons
          (ps_expr (pe_bm PySem.F.plainAttrs_list PySem.F.slot_list_append PySem.F.type_list_append mt_append (pv 3) (pa_cons (pv 5) pa_nil)))
        (pss_one
          (ps_set (i := 2) nd rfl (Or.inl rfl) (pe_op op_fdivN (pv 2) (pv 5)))))))
    (pss_one
      (ps_ret (pe_tupleK K rfl rfl B.tuple (pv 3)))))), ?_⟩
    refine ⟨ll rfl, fun l hl => ?_⟩
    have hlm := hm.neN hl
    refine ⟨_, rfl, (dims : Nat), rfl, by omega, by omega, ?_⟩
    rw [Int.toNat_natCast]
    refine for_it (walk_range (lo := 0) (n := dims)) (fun i σ H' => MS m c H H' ∧ ∃ (mo : Int) (box : List Int) (y4 y5 : Option V), σ = [some (.ref m), some (.int (dims : Nat)), some (.int mo), some (.ref l), y4, y5] ∧ H' l = some (.lst (box.map V.int)) ∧ box.length = i ∧ (∀ x ∈ box, 1 ≤ x ∧ x ≤ 1000) ∧ 1 ≤ mo ∧ mo ≤ 1000 ∧ prodI box * mo ≤ most)
      ⟨hm.kept (same_upd hl), most, [], _, _, rfl, upd_same, rfl, (fun _ h => nomatch h), h2, h3, by show 1 * most ≤ most; omega⟩ (fun _ _ _ _ _ => trivial) (fun i x σ H2 H3 hi p' hy => ?_) fun σ H2 p' => ?_
    · obtain ⟨s2, mo, box, y4, y5, rfl, hl2, hbl, hbx, hm1, hm2, hpr⟩ := p'
      obtain ⟨rfl, rfl⟩ := hy
      refine ⟨_, rfl, _, rfl, _, rfl, ll rfl, fun pl hpl => ?_⟩
      have hplm := s2.2.neN hpl
      refine ⟨m, c, pl, _, rfl, s2.2.same (same_upd hpl), upd_same, hplm.1, hplm.2, Nat.le_of_ble_eq_true rfl, Nat.le_of_ble_eq_true rfl, fun v H4 j ev s4 => ?_⟩
      have hv : ∃ x : Int, v = .int x ∧ 2 ≤ x ∧ x ≤ 9 := by
        match j, ev with
        | 0, ev => cases ev; exact ⟨2, rfl, by omega⟩
        | 1, ev => cases ev; exact ⟨5, rfl, by omega⟩
        | 2, ev => cases ev; exact ⟨9, rfl, by omega⟩
        | j + 3, ev => cases ev
      obtain ⟨x, rfl, hx⟩ := hv
      have hmn : 1 ≤ (if x < mo then x else mo) ∧ (if x < mo then x else mo) ≤ mo ∧ (if x < mo then x else mo) ≤ 9 := by
        split <;> omega
      refine ⟨mo, x, rfl, m, c, _, rfl, s4.2, hmn.1, by omega, fun v H5 s5 v0 v1 => ?_⟩
      generalize (if x < mo then x else mo) = mn at hmn v1
      have hl5 := s5.1 _ _ hlm.1 hlm.2 (s4.1 _ _ hlm.1 hlm.2 (upd_some hpl hl2))
      refine ⟨_, _, rfl, rfl, ?_⟩
      refine ⟨_, rfl, .inl ⟨rfl, _, SqL.of hl5⟩, _, rfl, l, _, _, rfl, rfl, hl5, by rw [List.length_map]; exact small_of (m := 3) (by omega) (by decide), ?_⟩
      refine ⟨_, rfl, _, rfl, mo, 1 + v, rfl, rfl, ⟨by omega, by omega⟩, ?_⟩
      have hpp : 0 ≤ prodI box := by
        have := prodI_pos box fun n hn => (hbx n hn).1
        omega
      obtain ⟨r1, r2⟩ := prod_step (p := prodI box) (most := mo) (size := 1 + v) hpp (by omega) (by omega)
      have hle : Int.fdiv mo (1 + v) ≤ mo := by
        rw [Int.fdiv_eq_ediv_of_nonneg _ (by omega)]
        exact Int.ediv_le_self _ (by omega)
      refine ⟨⟨fun b o b1 b2 e => ?_, ?_⟩, _, box ++ [1 + v], _, _, rfl, ?_, ?_, fun y hy => ?_, r1, by omega, ?_⟩
      · rw [upd_ne (ne_of_none e hl)]
        exact s5.1 _ _ b1 b2 (s4.1 _ _ b1 b2 (upd_some hpl (s2.1 _ _ b1 b2 e)))
      · obtain ⟨g1, cs, mi, co, g2, g3, g4⟩ := s5.2
        exact ⟨g1, cs, mi, co, by rw [upd_ne (Ne.symm hlm.1)]; exact g2, by rw [upd_ne (Ne.symm hlm.2)]; exact g3, g4⟩
      · rw [upd_same, List.map_append]
        rfl
      · rw [List.length_append, hbl]
        rfl
      · rcases List.mem_append.mp hy with hy | hy
        · exact hbx y hy
        · have e : y = 1 + v := by simpa using hy
          omega
      · rw [prodI_app]
        omega
    · obtain ⟨s2, mo, box, y4, y5, rfl, hl2, hbl, hbx, hm1, hm2, hpr⟩ := p'
      refine ⟨_, rfl, .inl ⟨l, _, rfl, SqL.of hl2, fun p hp => q p _ box (s2.same (same_upd hp)) upd_same hbl hbx ?_⟩⟩
      have h4 := prodI_pos box fun n hn => (hbx n hn).1
      have h5 := Int.mul_le_mul_of_nonneg_left hm1 (show 0 ≤ prodI box by omega)
      omega
def spRead : Sp := fun vs H Q _ => ∃ (m c bt a b : Addr) (ws ss : List Int) (plane : Nat) (hi : Int), vs = [.ref m, .ref bt, .int (plane : Nat), .int hi] ∧ MillAt H m c ∧ H bt = some (.tup [.ref a, .ref b]) ∧ H a = some (.tup (ws.map V.int)) ∧ H b = some (.tup (ss.map V.int)) ∧ ws.length ≤ 10 ∧ (∃ x ∈ ws, x ≠ 0) ∧
  (∀ x ∈ ws, -3 ≤ x ∧ x ≤ 3) ∧ plane < ss.length ∧ ss.length ≤ 100 ∧ 0 ≤ hi ∧ hi ≤ 4 ∧
  ∀ p t H' (src : Int) (tn : List Int), MS m c H H' → H' p = some (.tup [.int src, .ref t]) → H' t = some (.tup (tn.map V.int)) → tn.length = ws.length → (∀ x ∈ tn, -4 ≤ x ∧ x ≤ 4) → Q (.ref p) H'
theorem ok_lRead (F : Has K mg "_law_read" s_lRead ["_law_mill_here", "_law_beats", "_law_plane", "_law_high"]) (B : Blt mg) (c_lGrind : Callee P w K mg base 1 "_law_grind" ["_law_mill_here", "_law_many"] spGrind) (c_lDot : Callee P w K mg base 1 "_law_dot" ["_law_one", "_law_other"] spLDot) :
    Callee P w K mg base 2 "_law_read" ["_law_mill_here", "_law_beats", "_law_plane", "_law_high"] spRead := by
  have nd := sc_lRead.nd
  refine callee_of F sc_lRead (fun vs H Q E h => ?_) (fun f cdv A outer s H vs Q E hr h => ?_)
  · obtain ⟨m, c, bt, a, b, ws, ss, plane, hi, rfl, _⟩ := h
    rfl
  · obtain ⟨m, c, bt, a, b, ws, ss, plane, hi, rfl, hm, hbt, ha, hb, hwl, hnz, hwb, hpl, hsl, hi0, hi4, q⟩ := h
    refine ⟨_, (pss_cons
      (ps_asg (pv 1) (pg_tupK K 2 rfl rfl (pgs_cons (pg_name (i := 4) nd rfl (Or.inr rfl)) (pgs_cons (pg_name (i := 5) nd rfl (Or.inl rfl)) pgs_nil))))
    (pss_cons
      (ps_set (i := 6) nd rfl (Or.inl rfl) (pe_fn c_lGrind hr rfl (pa_cons (pv 0) (pa_cons (pe_callB (len_K K rfl) (by rfl) B.len (by decide +kernel) (pa_cons (pv 5) pa_nil)) pa_nil))))
    (pss_cons
      (ps_set (i := 7) nd rfl (Or.inl rfl) (pe_tupleK K rfl rfl B.tuple (pe_lc (own := [("_law_item", 11)]) rfl nd (pi_tupK K rfl (pv 4)) (blkOk_by (by kernel_rfl)) (fun _ _ _ _ _ => (pg_name (i := 11) nd rfl (Or.inl rfl))) (fun _ _ _ _ _ => pts_nil) (fun _ _ _ _ _ => (pe_op op_sub (pe_fn c_lGrind hr rfl (pa_cons (pv 0) (pa_cons (pe_op op_add (pe_op (OpR.or op_mul op_rep) pe_int (pv 3)) pe_int) pa_nil))) (pv 3))))))
    (pss_cons
      (ps_for PassesOwn.never rfl (pi_tupK K rfl (pe_tup (pa_cons pe_int (pa_cons (pe_un un_neg pe_int) pa_nil)))) (pg_name (i := 8) nd rfl (Or.inr rfl))
        (pss_cons
          (ps_set (i := 9) nd rfl (Or.inl rfl) (pe_tupleK K rfl rfl B.tuple (pe_lc (own := [("_law_item", 11)]) rfl nd (pi_tupK K rfl (pv 7)) (blkOk_by (by kernel_rfl)) (fun _ _ _ _ _ => (pg_name (i := 11) nd rfl (Or.inl rfl))) (fun _ _ _ _ _ => pts_nil) (fun _ _ _ _ _ => (pe_op (OpR.or op_mul op_rep) (pv 8) (pv 11))))))
        (pss_one
          (ps_if (pt_cmpR op_gt (pe_op op_sub (pe_op op_add (pe_fn c_lDot hr rfl (pa_cons (pv 4) (pa_cons (pv 9) pa_nil))) (pe_ix (ix_tupK K rfl) (pv 5) (pv 2) (fun _ _ => rfl))) (pe_ix (ix_tupK K rfl) (pv 5) (pv 6) (fun _ _ => rfl))) pe_int (nomark _))
            (pss_one
              (ps_ret (pe_tup (pa_cons (pv 6) (pa_cons (pv 9) pa_nil)))))
            pss_nil))))
    (pss_cons
      (ps_set (i := 10) nd rfl (Or.inl rfl) (pe_ix (ix_listK K rfl) (pe_lc (own := [("_law_k", 12)]) rfl nd (pi_range1 rfl B.range (pa_cons (pe_callB (len_K K rfl) (by rfl) B.len (by decide +kernel) (pa_cons (pv 4) pa_nil)) pa_nil)) (blkOk_by (by kernel_rfl)) (fun _ _ _ _ _ => (pg_name (i := 12) nd rfl (Or.inl rfl))) (fun _ _ _ _ _ => (pts_one (pt_cmpR op_ne (pe_ix (ix_tupK K rfl) (pv 4) (pv 12) (fun _ _ => rfl)) pe_int (nomark _)))) (fun _ _ _ _ _ => (pv 12))) pe_int (fun _ _ => rfl)))
    (pss_cons
      (ps_set (i := 9) nd rfl (Or.inl rfl) (pe_op (OpR.or op_mul op_rep) (pe_lst (pa_cons pe_int pa_nil)) (pe_callB (len_K K rfl) (by rfl) B.len (by decide +kernel) (pa_cons (pv 4) pa_nil))))
    (pss_cons
      (ps_asg (pe_ifExp (pt_cmpR op_gt (pe_ix (ix_tupK K rfl) (pv 4) (pv 10) (fun _ _ => rfl)) pe_int (nomark _)) pe_int (pe_un un_neg pe_int)) (pg_sub (pv 9) (pv 10) set_list))
    (pss_one
      (ps_ret (pe_tup (pa_cons (pv 6) (pa_cons (pe_tupleK K rfl rfl B.tuple (pv 9)) pa_nil)))))))))))), ?_⟩
    refine ⟨_, rfl, bt, _, rfl, SqT.of hbt, rfl, _, _, rfl, _, _, rfl, rfl, ?_⟩
    refine ⟨_, rfl, _, rfl, b, _, rfl, .inr (SqT.of hb), m, c, _, rfl, hm, by rw [List.length_map]; omega, by rw [List.length_map]; omega, fun src H1 s1 v0 v1 => ?_⟩
    rw [List.length_map] at v1
    obtain ⟨sj, rfl⟩ := Int.eq_ofNat_of_zero_le v0
    have kt1 := MS.kt hm s1
    have ha1 := kt1 _ _ ha
    have hb1 := kt1 _ _ hb
    refine ⟨_, rfl, a, rfl, ⟨_, SqT.of ha1⟩, fun D hD => ?_⟩
    refine lc_mill (walk_tup (xs := ws.map V.int)) (fun _ d => ∃ x, d = .int x ∧ (-4 ≤ x ∧ x ≤ 4)) s1.2 hD (by rw [List.length_map]; exact small_of (m := 10) hwl (by decide)) (fun H' s => SqT.of (MS.kt s1.2 s _ _ ha1)) (fun i x H2 H3 k hi2 s2 hy hk => ?_) fun H2 ys ds s2 hD2 hds hods hdl hΦ => ?_
    · obtain ⟨rfl, ex⟩ := hy
      refine ⟨rfl, _, rfl, _, rfl, .inl ⟨2, hi, rfl, rfl, .inl ⟨by omega, by omega⟩, _, _, rfl, rfl, m, c, _, rfl, s2.2, by omega, by omega, fun v H4 s4 v0 v1 => ⟨_, rfl, _, _, rfl, rfl, hk _ _ (.int (v - hi)) ⟨_, rfl, by omega, by omega⟩ s4 (.int _) (.int _)⟩⟩⟩
    · obtain ⟨ds, rfl, hds2⟩ := ints_of hΦ
      rw [hds.ints] at hD2
      rw [List.length_map, List.length_map] at hdl
      refine .inl ⟨D, _, rfl, SqL.of hD2, fun pd hpd => ?_⟩
      have s3 := (s1.trans s2).same (same_upd (o := .tup (ds.map V.int)) hpd)
      have hd3 : upd H2 pd (.tup (ds.map V.int)) pd = some (.tup (ds.map V.int)) := upd_same
      have ha3 := upd_some (o := .tup (ds.map V.int)) hpd (MS.kt s1.2 s2 _ _ ha1)
      have hb3 := upd_some (o := .tup (ds.map V.int)) hpd (MS.kt s1.2 s2 _ _ hb1)
      generalize upd H2 pd (.tup (ds.map V.int)) = H3 at s3 hd3 ha3 hb3 ⊢
      refine ⟨1, rfl, ll rfl, fun T1 hT1 => ⟨T1, rfl, ⟨_, SqT.of upd_same⟩, ?_⟩⟩
      have s4 := s3.same (same_upd (o := .tup [.int 1, .int (-1)]) hT1)
      have hT4 : upd H3 T1 (.tup [.int 1, .int (-1)]) T1 = some (.tup [.int 1, .int (-1)]) := upd_same
      have hd4 := upd_some (o := .tup [.int 1, .int (-1)]) hT1 hd3
      have ha4 := upd_some (o := .tup [.int 1, .int (-1)]) hT1 ha3
      have hb4 := upd_some (o := .tup [.int 1, .int (-1)]) hT1 hb3
      generalize upd H3 T1 (.tup [.int 1, .int (-1)]) = H4 at s4 hT4 hd4 ha4 hb4 ⊢
      refine for_it (walk_tup (xs := [V.int 1, .int (-1)])) (fun i σ H' => Same H4 H' ∧ ∃ y8 y9, σ = [some (.ref m), some (.ref bt), some (.int (plane : Nat)), some (.int hi), some (.ref a), some (.ref b), some (.int (sj : Nat)), some (.ref pd), y8, y9, none, none, none]) ⟨Same.refl _, _, _, rfl⟩ (fun i σ H' _ p' => p'.1.tup hT4) (fun i x σ H5 H6 hi2 p' hy => ?_) fun σ H5 p' => ?_
      · obtain ⟨s5, y8, y9, rfl⟩ := p'
        obtain ⟨rfl, ex⟩ := hy
        have hsg : ∃ sg : Int, x = .int sg ∧ (sg = 1 ∨ sg = -1) := by
          match i, ex with
          | 0, ex => cases ex; exact ⟨1, rfl, .inl rfl⟩
          | 1, ex => cases ex; exact ⟨-1, rfl, .inr rfl⟩
          | i + 2, ex => cases ex
        obtain ⟨sg, rfl, hsg⟩ := hsg
        refine ⟨_, rfl, pd, rfl, ⟨_, SqT.of (s5 _ _ hd4)⟩, fun D2 hD2 => ?_⟩
        refine lc_fm (walk_tup (xs := ds.map V.int)) (fun i => (ds[i]?).map fun x => .int (sg * x)) hD2 (by rw [List.length_map]; exact small_of (m := 10) (by omega) (by decide)) (fun H' s => s.tup (s5 _ _ hd4)) (fun i x H7 H8 k kn hi s7 hy hk hkn => ?_) (fun H7 zs s7 h7 d7 _ => ?_)
        · obtain ⟨rfl, ex⟩ := hy
          obtain ⟨u, g, rfl⟩ := map_int_at ex
          exact ⟨rfl, _, rfl, _, rfl, .inl ⟨sg, u, rfl, rfl, .inl ⟨by omega, by omega⟩, hk _ _ (.int (sg * u)) (by show Option.map _ (ds[i]?) = _; rw [g]; rfl) (Same.refl _) (.int _) (.int _)⟩⟩
        · rw [List.length_map, fm_map ds (fun x => PyData.int (sg * x)) _ (fun i x e => by rw [e]; rfl)] at d7
          have e3 : ds.map (fun x => PyData.int (sg * x)) = (ds.map fun x => sg * x).map PyData.int := by
            rw [List.map_map]
            rfl
          rw [e3] at d7
          rw [d7.ints] at h7
          refine .inl ⟨D2, _, rfl, SqL.of h7, fun pt hpt => ?_⟩
          have s8 : Same H4 (upd H7 pt (.tup ((ds.map fun x => sg * x).map V.int))) := (s5.trans s7).trans (same_upd hpt)
          have hpt8 : upd H7 pt (.tup ((ds.map fun x => sg * x).map V.int)) pt = some (.tup ((ds.map fun x => sg * x).map V.int)) := upd_same
          generalize upd H7 pt (.tup ((ds.map fun x => sg * x).map V.int)) = H8 at s8 hpt8 ⊢
          have gp : ss[plane]? = some ss[plane] := List.getElem?_eq_getElem hpl
          have gs : ss[sj]? = some ss[sj] := List.getElem?_eq_getElem (by omega)
          have e1 : (ss.map V.int)[plane]? = some (.int ss[plane]) := by rw [List.getElem?_map, gp]; rfl
          have e2 : (ss.map V.int)[sj]? = some (.int ss[sj]) := by rw [List.getElem?_map, gs]; rfl
          refine ⟨_, rfl, _, rfl, a, pt, ws, _, rfl, s8 _ _ ha4, hpt8, by rw [List.length_map]; exact hdl.symm, by omega, fun x hx => by have := hwb x hx; omega, fun H9 s9 => ?_⟩
          have s49 := s8.trans s9
          refine ⟨_, rfl, _, rfl, b, _, _, _, rfl, rfl, s49.tup hb4, atI_nat e1, _, _, rfl, rfl, _, rfl, _, rfl, b, _, _, _, rfl, rfl, s49.tup hb4, atI_nat e2, _, _, rfl, rfl, _, _, rfl, rfl, _, rfl, ?_⟩
          refine ite_any ?_ ?_
          · refine ⟨_, rfl, _, rfl, ll rfl, fun p hp => ?_⟩
            refine q p pt _ _ _ ((s4.same s49).same (same_upd hp)) upd_same (upd_some hp (s9 _ _ hpt8)) (by rw [List.length_map]; exact hdl) fun x hx => ?_
            obtain ⟨y, hy, rfl⟩ := List.mem_map.mp hx
            have := hds2 y hy
            rcases hsg with rfl | rfl <;> omega
          · exact ⟨s49, _, _, rfl⟩
      · obtain ⟨s5, y8, y9, rfl⟩ := p'
        have ha5 := s5 _ _ ha4
        refine ⟨_, rfl, a, _, rfl, .inr (SqT.of ha5), _, rfl, by omega, by rw [List.length_map]; omega, fun D3 hD3 => ?_⟩
        rw [List.length_map, Int.toNat_natCast]
        refine lc_fm (walk_range (lo := 0) (n := ws.length)) (fun i => if !decide (V.int (ws.getD i 0) = V.int 0) then some (.int (0 + (i : Nat))) else none) hD3 (small_of (m := 10) hwl (by decide)) (fun _ _ => trivial) (fun i x H6 H7 k kn hi s6 hy hk hkn => ?_) (fun H6 zs s6 h6 d6 _ => ?_)
        · obtain ⟨rfl, rfl⟩ := hy
          have g1 : ws[i]? = some ws[i] := List.getElem?_eq_getElem hi
          have at1 : atI (ws.map V.int) (0 + (i : Nat)) = some (.int (ws.getD i 0)) := by
            rw [Int.zero_add]
            exact atI_nat (by rw [List.getElem?_map, List.getD_eq_getElem?_getD, g1]; rfl)
          refine ⟨rfl, _, rfl, _, rfl, a, _, _, _, rfl, rfl, s6.tup ha5, at1, rfl, _, rfl, ?_⟩
          cases hc : (!decide (V.int (ws.getD i 0) = V.int 0)) with
          | true => exact iteT ⟨_, rfl, hk _ _ (.int (0 + (i : Nat))) (if_pos hc) (Same.refl _) (.int _) (.int _)⟩
          | false => exact iteF (hkn _ (if_neg (by rw [hc]; exact Bool.false_ne_true)) (Same.refl _))
        · rw [fm_gen (List.range ws.length) (fun i => !decide (V.int (ws.getD i 0) = V.int 0)) fun i => 0 + ((i : Nat) : Int)] at d6
          rw [d6.ints] at h6
          have hne : (List.range ws.length).filter (fun i => !decide (V.int (ws.getD i 0) = V.int 0)) ≠ [] := by
            obtain ⟨x, hx, hx0⟩ := hnz
            obtain ⟨j, hj, rfl⟩ := mem_getD hx
            refine List.ne_nil_of_mem (a := j) (List.mem_filter.mpr ⟨List.mem_range.mpr hj, ?_⟩)
            rw [decide_eq_false fun z => hx0 (V.int.inj z)]
            rfl
          obtain ⟨k0, kr, ek⟩ := List.exists_cons_of_ne_nil hne
          have hk0 : k0 < ws.length := by
            have : k0 ∈ (List.range ws.length).filter (fun i => !decide (V.int (ws.getD i 0) = V.int 0)) := by rw [ek]; simp
            exact List.mem_range.mp (List.mem_filter.mp this).1
          rw [ek] at h6
          have s46 := s5.trans s6
          have ha6 := s6 _ _ ha5
          refine ⟨D3, _, 0, .int (0 + (k0 : Nat)), rfl, rfl, SqL.of h6, atI_nat (j := 0) rfl, ?_⟩
          refine ⟨ll rfl, fun z hz => ⟨_, rfl, a, _, rfl, .inr (SqT.of (upd_some hz ha6)), .inr ⟨z, _, _, rfl, rfl, upd_same, by omega, by rw [List.length_map]; omega, ?_, fun fo hfo => ?_⟩⟩⟩
          · rw [List.length_map, Int.toNat_natCast]
            exact Nat.le_of_lt (small_of (m := 10) (by simp; omega) (by decide))
          rw [List.length_map, Int.toNat_natCast, zeros_flat]
          have s47 : Same H4 (upd H6 z (.lst [.int 0])) := s46.trans (same_upd hz)
          generalize upd H6 z (.lst [.int 0]) = H7 at s47 hfo ⊢
          have s48 := s47.trans (same_upd (o := .lst ((List.replicate ws.length (0 : Int)).map V.int)) hfo)
          have hf8 : upd H7 fo (.lst ((List.replicate ws.length (0 : Int)).map V.int)) fo = some (.lst ((List.replicate ws.length (0 : Int)).map V.int)) := upd_same
          have hfo4 := s47.free hfo
          generalize upd H7 fo (.lst ((List.replicate ws.length (0 : Int)).map V.int)) = H8 at s48 hf8 ⊢
          have at2 : atI (ws.map V.int) (0 + (k0 : Nat)) = some (.int (ws.getD k0 0)) := by
            rw [Int.zero_add]
            exact atI_nat (by rw [List.getElem?_map, List.getD_eq_getElem?_getD, List.getElem?_eq_getElem hk0]; rfl)
          dsimp only [gName, tSeq, tAsg]
          refine ifE_ok (fun Q0 => ∀ z : Int, (z = 4 ∨ z = -4) → Q0 (.int z) H8) (fun Q0 hmain => ?_) fun z hz => ?_
          · refine ⟨_, rfl, _, rfl, a, _, _, _, rfl, rfl, s48.tup ha4, at2, _, _, rfl, rfl, _, rfl, ?_⟩
            exact ite_any (hmain 4 (.inl rfl)) ⟨_, rfl, hmain (-4) (.inr rfl)⟩
          · refine ⟨_, rfl, _, rfl, fo, _, _, k0, rfl, rfl, hf8, ?_, ?_⟩
            · rw [List.length_map, List.length_replicate, Int.zero_add]
              exact ix_nat hk0
            have hfm := s4.2.neN hfo4
            have s49 : Same H4 (upd H8 fo (.lst (((List.replicate ws.length (0 : Int)).map V.int).set k0 (.int z)))) := fun b o e => by
              rw [upd_ne (ne_of_none e hfo4)]
              exact s48 _ _ e
            have hf9 : upd H8 fo (.lst (((List.replicate ws.length (0 : Int)).map V.int).set k0 (.int z))) fo = some (.lst (((List.replicate ws.length (0 : Int)).set k0 z).map V.int)) := by rw [upd_same, List.map_set]
            generalize upd H8 fo (.lst (((List.replicate ws.length (0 : Int)).map V.int).set k0 (.int z))) = H9 at s49 hf9 ⊢
            refine ⟨_, rfl, _, rfl, .inl ⟨fo, _, rfl, SqL.of hf9, fun pt hpt => ⟨ll rfl, fun p hp => ?_⟩⟩⟩
            refine q p pt _ _ _ (((s4.same s49).same (same_upd hpt)).same (same_upd hp)) upd_same (upd_some hp upd_same) (by rw [List.length_set, List.length_replicate]) fun x hx => ?_
            rcases List.mem_or_eq_of_mem_set hx with hx | hx
            · have := (List.mem_replicate.mp hx).2
              omega
            · omega
end
end Wb
namespace Wb
open PySem PySem.Spec PyProof.Rows L2

theorem pick_of {α : Type} {g : α → PyData} {p : α → Prop} : ∀ {ds : List PyData}, (∀ (i : Nat) d, ds[i]? = some d → ∃ x, d = g x ∧ p x) → ∃ ws : List α, ds = ws.map g ∧ ∀ x ∈ ws, p x
  | [], _ => ⟨[], rfl, fun _ h => nomatch h⟩
  | d :: ds, h => by
    obtain ⟨x, rfl, hx⟩ := h 0 d rfl
    obtain ⟨ws, rfl, hws⟩ := pick_of (ds := ds) fun i d e => h (i + 1) d (by simpa using e)
    refine ⟨x :: ws, rfl, fun y hy => ?_⟩
    rcases List.mem_cons.mp hy with rfl | hy
    · exact hx
    · exact hws y hy
theorem only_readD (r : Int × List Int) : OnlyT (readD r) := .tup (.cons (.int _) (.cons (only_vi _) .nil))
theorem only_reads : ∀ rs : List (Int × List Int), OnlyTs (rs.map readD)
  | [] => .nil
  | r :: rs => .cons (only_readD r) (only_reads rs)
theorem only_ruleD (r : Rule) : OnlyT (ruleD r) := .tup (.cons (.str _) (only_reads _))
theorem only_rules : ∀ rs : List Rule, OnlyTs (rs.map ruleD)
  | [] => .nil
  | r :: rs => .cons (only_ruleD r) (only_rules rs)
def sizesK : List (Key × V) := [(.inr "copy", .int 1), (.inr "neg", .int 1), (.inr "add", .int 2), (.inr "sub", .int 2), (.inr "mul", .int 2), (.inr "least", .int 2), (.inr "most", .int 2), (.inr "madd", .int 3)]
def kindsV : List V := [.str "copy", .str "neg", .str "add", .str "sub", .str "mul", .str "least", .str "most", .str "madd"]
theorem kinds_get {i : Nat} {v : V} (e : kindsV[i]? = some v) : ∃ (kd : Str) (n : Nat), v = .str kd ∧ valV (mergeK [] sizesK) (.inr kd) = some (.int (n : Nat)) ∧ 1 ≤ n ∧ n ≤ 3 := by
  match i, e with
  | 0, e => cases e; exact ⟨_, 1, rfl, by decide +kernel, by decide, by decide⟩
  | 1, e => cases e; exact ⟨_, 1, rfl, by decide +kernel, by decide, by decide⟩
  | 2, e => cases e; exact ⟨_, 2, rfl, by decide +kernel, by decide, by decide⟩
  | 3, e => cases e; exact ⟨_, 2, rfl, by decide +kernel, by decide, by decide⟩
  | 4, e => cases e; exact ⟨_, 2, rfl, by decide +kernel, by decide, by decide⟩
  | 5, e => cases e; exact ⟨_, 2, rfl, by decide +kernel, by decide, by decide⟩
  | 6, e => cases e; exact ⟨_, 2, rfl, by decide +kernel, by decide, by decide⟩
  | 7, e => cases e; exact ⟨_, 3, rfl, by decide +kernel, by decide, by decide⟩
  | i + 8, e => cases e
/-- a flow of the law's -/
def LFlow (n : Nat) (rules : List Rule) : Prop := rules.length ≤ 3 ∧ ∀ r ∈ rules, r.2.length ≤ 3 ∧ ∀ rd ∈ r.2, rd.2.length = n ∧ ∀ x ∈ rd.2, -4 ≤ x ∧ x ≤ 4
theorem LFlow.ok {n : Nat} {rules : List Rule} (h : LFlow n rules) : FlowOk n rules := ⟨by have := h.1; omega, fun r hr => ⟨(h.2 r hr).1, fun rd hrd => ⟨((h.2 r hr).2 rd hrd).1, fun x hx => by
  have := ((h.2 r hr).2 rd hrd).2 x hx
  omega⟩⟩⟩
theorem upd_upd {H : Hp} {d : Addr} {o u : HO} : upd (upd H d o) d u = upd H d u := by
  funext b
  by_cases z : b = d
  · subst z
    rw [upd_same, upd_same]
  · rw [upd_ne z, upd_ne z, upd_ne z]
theorem MS.free {m c b : Addr} {H H' : Hp} (s : MS m c H H') (h : H' b = none) : H b = none := by
  cases e : H b with
  | none => rfl
  | some o =>
    have hb := s.2.neN h
    have := s.1 b o hb.1 hb.2 e
    rw [h] at this
    cases this
theorem MillAt.upd {m c d : Addr} {H : Hp} {o : HO} (h : MillAt H m c) (h1 : d ≠ m) (h2 : d ≠ c) : MillAt (upd H d o) m c := by
  obtain ⟨g1, cs, mi, co, g2, g3, g4⟩ := h
  exact ⟨g1, cs, mi, co, by rw [upd_ne (Ne.symm h1)]; exact g2, by rw [upd_ne (Ne.symm h2)]; exact g3, g4⟩
/-- a write to a thing that is younger -/
theorem MS.write {m c d : Addr} {H H' : Hp} {o : HO} (s : MS m c H H') (hd : H d = none) (h1 : d ≠ m) (h2 : d ≠ c) : MS m c H (upd H' d o) := ⟨fun b u b1 b2 e => by
  rw [upd_ne (ne_of_none e hd)]
  exact s.1 b u b1 b2 e, s.2.upd h1 h2⟩
section
variable {P : Program} {w : World} {K : PySem.W.Frag} {mg : Str → Option Value} {base : Heap}
def spFlow : Sp := fun vs H Q _ => ∃ (m c : Addr) (dims : Nat), vs = [.ref m, .int (dims : Nat), .int 3, .int 2] ∧ MillAt H m c ∧ 1 ≤ dims ∧ dims ≤ 3 ∧
  ∀ l f bt H' (rules : List Rule), MS m c H H' → H' l = some (.lst [.ref f, .ref bt]) → Dt H' (.ref f) (flowD (dims : Nat) rules) → LFlow dims rules → Q (.ref l) H'
theorem ok_lFlow (F : Has K mg "_law_flow" s_lFlow ["_law_mill_here", "_law_dims", "_law_most", "_law_high"]) (B : Blt mg) (c_lGrind : Callee P w K mg base 1 "_law_grind" ["_law_mill_here", "_law_many"] spGrind) (c_lPick : Callee P w K mg base 2 "_law_pick" ["_law_mill_here", "_law_items"] spPick)
    (c_lPlan : Callee P w K mg base 3 "_law_plan" ["_law_mill_here", "_law_dims", "_law_many"] spPlan) (c_lRead : Callee P w K mg base 2 "_law_read" ["_law_mill_here", "_law_beats", "_law_plane", "_law_high"] spRead) :
    Callee P w K mg base 4 "_law_flow" ["_law_mill_here", "_law_dims", "_law_most", "_law_high"] spFlow := by
  have nd := sc_lFlow.nd
  refine callee_of F sc_lFlow (fun vs H Q E h => ?_) (fun f cdv A outer s H vs Q E hr h => ?_)
  · obtain ⟨m, c, dims, rfl, _⟩ := h
    rfl
  · obtain ⟨m, c, dims, rfl, hm, h1, h2, q⟩ := h
    have hu := hu_of hr
    have c_lGrind := c_lGrind.mono (show 1 ≤ 3 by decide)
    have c_lPick := c_lPick.mono (show 2 ≤ 3 by decide)
    have c_lRead := c_lRead.mono (show 2 ≤ 3 by decide)
    refine ⟨_, (pss_cons
      (ps_set (i := 4) nd rfl (Or.inl rfl) (pe_op (OpR.or op_add (op_catK K rfl)) pe_int (pe_fn c_lGrind hr rfl (pa_cons (pv 0) (pa_cons (pv 2) pa_nil)))))
    (pss_cons
      (ps_asg (pe_tup (pa_cons (pe_fn c_lPlan hr rfl (pa_cons (pv 0) (pa_cons (pv 1) (pa_cons (pv 4) pa_nil)))) (pa_cons (pe_lst pa_nil) pa_nil))) (pg_tupK K 2 rfl rfl (pgs_cons (pg_name (i := 5) nd rfl (Or.inr rfl)) (pgs_cons (pg_name (i := 6) nd rfl (Or.inl rfl)) pgs_nil))))
    (pss_cons
      (ps_set (i := 7) nd rfl (Or.inl rfl) (pe_disp (pps_cons pe_str pe_int (pps_cons pe_str pe_int (pps_cons pe_str pe_int (pps_cons pe_str pe_int (pps_cons pe_str pe_int (pps_cons pe_str pe_int (pps_cons pe_str pe_int (pps_cons pe_str pe_int pps_nil)))))))) (by rfl) (by rfl) (fun z => by cases z) (by decide)))
    (pss_cons
      (ps_for PassesOwn.never rfl (pi_range1 rfl B.range (pa_cons (pv 4) pa_nil)) (pg_name (i := 8) nd rfl (Or.inr rfl))
        (pss_cons
          (ps_set (i := 9) nd rfl (Or.inl rfl) (pe_fn c_lPick hr rfl (pa_cons (pv 0) (pa_cons (pe_lst (pa_cons pe_str (pa_cons pe_str (pa_cons pe_str (pa_cons pe_str (pa_cons pe_str (pa_cons pe_str (pa_cons pe_str (pa_cons pe_str pa_nil))))))))) pa_nil))))
        (pss_one
          (ps_expr (pe_bm PySem.F.plainAttrs_list PySem.F.slot_list_append PySem.F.type_list_append mt_append (pv 6) (pa_cons (pe_op (OpR.or op_add (op_catK K rfl)) (pe_tup (pa_cons (pv 9) pa_nil)) (pe_tupleK K rfl rfl B.tuple (pe_lc (own := [("_law_operand", 10)]) rfl nd (pi_range1 rfl B.range (pa_cons (pe_dget hu (pv 7) (pv 9) (fun _ _ => rfl)) pa_nil)) (blkOk_by (by kernel_rfl)) (fun _ _ _ _ _ => (pg_name (i := 10) nd rfl (Or.inl rfl))) (fun _ _ _ _ _ => pts_nil) (fun _ _ _ _ _ => (pe_fn c_lRead hr rfl (pa_cons (pv 0) (pa_cons (pv 5) (pa_cons (pv 8) (pa_cons (pv 3) pa_nil))))))))) pa_nil))))))
    (pss_one
      (ps_ret (pe_lst (pa_cons (pe_tup (pa_cons (pv 1) (pa_cons (pe_tupleK K rfl rfl B.tuple (pv 6)) pa_nil))) (pa_cons (pv 5) pa_nil))))))))), ?_⟩
    refine ⟨_, rfl, _, rfl, m, c, 3, rfl, hm, by omega, by omega, fun v H1 s1 v0 v1 => .inl ⟨_, _, rfl, rfl, ?_⟩⟩
    obtain ⟨j, rfl⟩ := Int.eq_ofNat_of_zero_le v0
    have e1j : (1 : Int) + (j : Nat) = ((1 + j : Nat) : Int) := by omega
    refine ⟨_, rfl, _, rfl, _, rfl, m, c, dims, 1 + j, ?_, s1.2, by omega, by omega, by omega, fun bt a b H2 ws ss s2 hbt ha hb hwl hsl hnz hwb => ?_⟩
    · rw [← e1j]
      rfl
    refine ⟨ll rfl, fun lr hlr => ⟨ll rfl, fun T hT => ⟨T, _, rfl, SqT.of upd_same, rfl, _, _, rfl, _, _, rfl, rfl, fun dd hdd => ?_⟩⟩⟩
    refine ⟨upd_same, sizesK, rfl, by decide, ?_⟩
    have s12 := s1.trans s2
    have sT := (s12.same (same_upd (o := .lst []) hlr)).same (same_upd (o := .tup [.ref bt, .ref lr]) hT)
    have hlrT : upd (upd H2 lr (.lst [])) T (.tup [.ref bt, .ref lr]) lr = some (.lst []) := upd_some hT upd_same
    have keep : ∀ {z : Addr} {o : HO}, H2 z = some o → upd (upd H2 lr (.lst [])) T (.tup [.ref bt, .ref lr]) z = some o := fun {z o} hz => upd_some hT (upd_some hlr hz)
    rw [upd_upd]
    have sA := sT.same (same_upd (o := .dK (mergeK [] sizesK)) hdd)
    have hddA : upd (upd (upd H2 lr (.lst [])) T (.tup [.ref bt, .ref lr])) dd (.dK (mergeK [] sizesK)) dd = some (.dK (mergeK [] sizesK)) := upd_same
    have hlrA := upd_some (o := .dK (mergeK [] sizesK)) hdd hlrT
    have hbtA := upd_some (o := .dK (mergeK [] sizesK)) hdd (keep hbt)
    have haA := upd_some (o := .dK (mergeK [] sizesK)) hdd (keep ha)
    have hbA := upd_some (o := .dK (mergeK [] sizesK)) hdd (keep hb)
    have hddm := sT.2.neN hdd
    have hlrm := s12.2.neN hlr
    have hlr0 := s12.free hlr
    have hdd0 := sT.free hdd
    have hdl : dd ≠ lr := ne_of_none hlrT hdd |>.symm
    generalize upd (upd (upd H2 lr (.lst [])) T (.tup [.ref bt, .ref lr])) dd (.dK (mergeK [] sizesK)) = HA at sA hddA hlrA hbtA haA hbA ⊢
    refine ⟨_, rfl, _, rfl, by omega, by omega, ?_⟩
    show ∃ W, _
    rw [show ((fun i j : Int => V.int (i + j)) 1 (j : Nat)) = V.int ((1 + j : Nat) : Int) by rw [← e1j]]
    refine for_it (walk_range (lo := 0) (n := 1 + j)) (fun i σ H' => MS m c H H' ∧ KeepT HA H' ∧ H' dd = some (.dK (mergeK [] sizesK)) ∧ ∃ (us : List V) (rules : List Rule) (y8 y9 : Option V), σ = [some (.ref m), some (.int (dims : Nat)), some (.int 3), some (.int 2), some (.int ((1 + j : Nat) : Int)), some (.ref bt), some (.ref lr), some (.ref dd), y8, y9, none] ∧
      H' lr = some (.lst us) ∧ Dts H' us (rules.map ruleD) ∧ rules.length = i ∧ ∀ r ∈ rules, r.2.length ≤ 3 ∧ ∀ rd ∈ r.2, rd.2.length = dims ∧ ∀ x ∈ rd.2, -4 ≤ x ∧ x ≤ 4) ⟨sA, KeepT.refl _, hddA, [], [], _, _, rfl, hlrA, .nil, rfl, fun _ h => nomatch h⟩ (fun _ _ _ _ _ => trivial) (fun i x σ H3 H4 hi p' hy => ?_) fun σ H3 p' => ?_
    · obtain ⟨s3, k3, hd3, us, rules, y8, y9, rfl, hl3, hus, hrl, hrs⟩ := p'
      obtain ⟨rfl, rfl⟩ := hy
      refine ⟨_, rfl, ll rfl, fun pl hpl => ?_⟩
      have hplm := s3.2.neN hpl
      refine ⟨m, c, pl, kindsV, rfl, s3.2.same (same_upd hpl), upd_same, hplm.1, hplm.2, Nat.le_of_ble_eq_true rfl, Nat.le_of_ble_eq_true rfl, fun v H5 ik ev s5 => ?_⟩
      obtain ⟨kd, nk, rfl, hval, hn1, hn3⟩ := kinds_get ev
      have s35 : MS m c H4 H5 := (s3.2.kept (same_upd hpl)).trans s5
      have hl5 := s35.1 _ _ hlrm.1 hlrm.2 hl3
      have hd5 := s35.1 _ _ hddm.1 hddm.2 hd3
      have kA5 : KeepT HA H5 := k3.trans (MS.kt s3.2 s35)
      refine ⟨_, rfl, .inl ⟨rfl, us, SqL.of hl5⟩, _, rfl, ll rfl, fun t1 ht1 => ?_⟩
      have s6 := s35.same (same_upd (o := .tup [.str kd]) ht1)
      have ht6 : upd H5 t1 (.tup [.str kd]) t1 = some (.tup [.str kd]) := upd_same
      have hl6 := upd_some (o := .tup [.str kd]) ht1 hl5
      have hd6 := upd_some (o := .tup [.str kd]) ht1 hd5
      have kA6 : KeepT HA (upd H5 t1 (.tup [.str kd])) := kA5.trans (KeepT.of (same_upd ht1))
      generalize upd H5 t1 (.tup [.str kd]) = H6 at s6 ht6 hl6 hd6 kA6 ⊢
      have hg : DGet H6 dd (.str kd) (valV (mergeK [] sizesK) (.inr kd)) := DGet.k (k := .inr kd) hd6
      rw [hval] at hg
      refine ⟨_, rfl, _, rfl, dd, _, rfl, hg, (nk : Nat), rfl, by omega, by omega, fun D hD => ?_⟩
      rw [Int.toNat_natCast]
      refine lc_mill (walk_range (lo := 0) (n := nk)) (fun _ d => ∃ rd : Int × List Int, d = readD rd ∧ (rd.2.length = dims ∧ ∀ x ∈ rd.2, -4 ≤ x ∧ x ≤ 4)) s6.2 hD (small_of (m := 3) hn3 (by decide)) (fun _ _ => trivial) (fun i2 x H7 H8 k hi2 s7 hy hk => ?_) fun H7 ys ds s7 hD7 hds hods hdl2 hΦ => ?_
      · obtain ⟨rfl, rfl⟩ := hy
        have k68 := MS.kt s6.2 s7
        refine ⟨rfl, _, rfl, _, rfl, _, rfl, _, rfl, m, c, bt, a, b, ws, ss, i, 2, congrArg (fun z : Int => [V.ref m, V.ref bt, V.int z, V.int 2]) (Int.zero_add _), s7.2, k68 _ _ (kA6 _ _ hbtA), k68 _ _ (kA6 _ _ haA), k68 _ _ (kA6 _ _ hbA), by omega, hnz, hwb, by omega, by omega, by omega, by omega, fun p t H9 src tn s9 hp ht htl htb => ?_⟩
        exact hk _ _ (readD (src, tn)) ⟨(src, tn), rfl, htl.trans hwl, htb⟩ s9 (only_readD _) (.tup hp (.cons (.int _) (.cons (dt_vi ht) .nil)))
      · obtain ⟨rds, rfl, hrds⟩ := pick_of hΦ
        rw [List.length_map] at hdl2
        have hyl : ys.length = nk := by rw [hds.length, List.length_map]; exact hdl2
        refine .inl ⟨D, ys, rfl, SqL.of hD7, fun t2 ht2 => ?_⟩
        have s8 := s7.same (same_upd (o := .tup ys) ht2)
        have ht8 : upd H7 t2 (.tup ys) t2 = some (.tup ys) := upd_same
        have hds8 := hds.same (same_upd (o := .tup ys) ht2)
        generalize upd H7 t2 (.tup ys) = H8 at s8 ht8 hds8 ⊢
        have k68 := MS.kt s6.2 s8
        have hl8 := s8.1 _ _ hlrm.1 hlrm.2 hl6
        have hd8 := s8.1 _ _ hddm.1 hddm.2 hd6
        refine .inr ⟨t1, t2, _, _, rfl, rfl, SqT.of (k68 _ _ ht6), SqT.of ht8, by simp, by rw [hyl]; exact Nat.le_of_lt (small_of (m := 4) (by simp; omega) (by decide)), fun z => ?_, fun _ t3 ht3 => ?_⟩
        · rw [z] at hyl
          simp at hyl
          omega
        · have s9 := s8.same (same_upd (o := .tup ([.str kd] ++ ys)) ht3)
          have hl9 := upd_some (o := .tup ([.str kd] ++ ys)) ht3 hl8
          have hd9 := upd_some (o := .tup ([.str kd] ++ ys)) ht3 hd8
          have ht9 : upd H8 t3 (.tup ([.str kd] ++ ys)) t3 = some (.tup (.str kd :: ys)) := upd_same
          have hds9 := hds8.same (same_upd (o := .tup ([.str kd] ++ ys)) ht3)
          generalize upd H8 t3 (.tup ([.str kd] ++ ys)) = H9 at s9 hl9 hd9 ht9 hds9 ⊢
          have s39 := s3.trans (s6.trans s9)
          have k39 : KeepT H4 H9 := (MS.kt s3.2 s6).trans (MS.kt s6.2 s9)
          have hus9 := Dts.keep k39 (only_rules rules) hus
          refine ⟨lr, us, .ref t3, rfl, rfl, hl9, by rw [hus.length, List.length_map, hrl]; exact small_of (m := 3) (by omega) (by decide), ?_⟩
          have k10 : KeepT H9 (upd H9 lr (.lst (us ++ [.ref t3]))) := kt_frz hl9 (fun xs z => nomatch z)
          refine ⟨s39.write hlr0 hlrm.1 hlrm.2, (k3.trans k39).trans k10, by rw [upd_ne hdl]; exact hd9, us ++ [.ref t3], rules ++ [(kd, rds)], _, _, rfl, upd_same, ?_, by rw [List.length_append, hrl]; rfl, fun r hr' => ?_⟩
          · rw [List.map_append]
            exact Dts.app (Dts.keep k10 (only_rules rules) hus9) (.cons (.tup (k10 _ _ ht9) (.cons (.str _) (Dts.keep k10 (only_reads _) hds9))) .nil)
          · rcases List.mem_append.mp hr' with hr' | hr'
            · exact hrs r hr'
            · have e : r = (kd, rds) := by simpa using hr'
              subst e
              exact ⟨by show rds.length ≤ 3; omega, hrds⟩
    · obtain ⟨s3, k3, hd3, us, rules, y8, y9, rfl, hl3, hus, hrl, hrs⟩ := p'
      refine ⟨_, rfl, _, rfl, .inl ⟨lr, us, rfl, SqL.of hl3, fun pt hpt => ⟨ll rfl, fun pf hpf => ⟨_, rfl, ll rfl, fun l hl => ?_⟩⟩⟩⟩
      have hus2 := ((hus.same (same_upd (o := .tup us) hpt)).same (same_upd (o := .tup [.int (dims : Nat), .ref pt]) hpf)).same (same_upd (o := .lst [.ref pf, .ref bt]) hl)
      exact q l pf bt _ rules (((s3.same (same_upd hpt)).same (same_upd hpf)).same (same_upd hl)) upd_same (.tup (upd_some hl upd_same) (.cons (.int _) (.cons (.tup (upd_some hl (upd_some hpf upd_same)) hus2) .nil))) ⟨by omega, hrs⟩
end
end Wb
namespace Wb
open PySem PySem.Spec PyProof.Rows L2

def pairsL : List (List Int) := [[1, 0], [0, 1], [1, 1], [1, -1], [2, 1], [1, -2], [3, 2], [3, -4], [-1, 4], [-2, -3], [4, 1]]
theorem pairs_ok : ∀ ns ∈ pairsL, ns.length = 2 ∧ ∀ x ∈ ns, -4 ≤ x ∧ x ≤ 4 := by decide
/-- the data of the list of those that were laid so far, and one more -/
theorem Dts.more {H : Hp} {us : List V} {nss : List (List Int)} {p : Addr} {ns : List Int} (h : Dts H us (nss.map vi)) (hp : H p = none) : Dts (upd H p (.tup (ns.map V.int))) (us ++ [.ref p]) ((nss ++ [ns]).map vi) := by
  rw [List.map_append]
  exact Dts.app (h.same (same_upd hp)) (.cons (dt_vi upd_same) .nil)
/-- rows of a plan -/
def LRows (n : Nat) (rs : List (List Int)) : Prop := rs.length + 1 = n ∧ ∀ r ∈ rs, r.length = n ∧ ∀ x ∈ r, -10 ≤ x ∧ x ≤ 10
theorem mul_small {a b : Int} (ha : -2 ≤ a ∧ a ≤ 2) (hb : -2 ≤ b ∧ b ≤ 2) : -4 ≤ a * b ∧ a * b ≤ 4 := by
  have h : a = -2 ∨ a = -1 ∨ a = 0 ∨ a = 1 ∨ a = 2 := by omega
  rcases h with rfl | rfl | rfl | rfl | rfl <;> omega
theorem st_eq {t : TS} {D : Ends} {σ σ' : L2.St} {H : Hp} (e : σ = σ') (h : t D σ' H) : t D σ H := by
  subst e
  exact h
section
variable {P : Program} {w : World} {K : PySem.W.Frag} {mg : Str → Option Value} {base : Heap}
def spAim : Sp := fun vs H Q _ => ∃ (m c : Addr) (dims : Nat), vs = [.ref m, .int (dims : Nat)] ∧ MillAt H m c ∧ (dims = 2 ∨ dims = 3) ∧
  ∀ l x r H' (us : List V) (rs : List (List Int)), MS m c H H' → H' l = some (.lst [x, .ref r]) → H' r = some (.tup us) → Dts H' us (rs.map vi) → LRows dims rs → Q (.ref l) H'
set_option maxHeartbeats 1000000 in
theorem ok_lAim (F : Has K mg "_law_aim" s_lAim ["_law_mill_here", "_law_dims"]) (B : Blt mg) (c_lGrind : Callee P w K mg base 1 "_law_grind" ["_law_mill_here", "_law_many"] spGrind) (c_lPick : Callee P w K mg base 2 "_law_pick" ["_law_mill_here", "_law_items"] spPick) :
    Callee P w K mg base 3 "_law_aim" ["_law_mill_here", "_law_dims"] spAim := by
  have nd := sc_lAim.nd
  refine callee_of F sc_lAim (fun vs H Q E h => ?_) (fun f cdv A outer s H vs Q E hr h => ?_)
  · obtain ⟨m, c, dims, rfl, _⟩ := h
    rfl
  · obtain ⟨m, c, dims, rfl, hm, hdims, q⟩ := h
    have hu := hu_of hr
    have c_lGrind := c_lGrind.mono (show 1 ≤ 2 by decide)
    refine ⟨_, (pss_cons
      (ps_if (pt_cmpR op_eq (pv 1) pe_int (nomark _))
        (pss_cons
          (ps_set (i := 2) nd rfl (Or.inl rfl) (pe_lst (pa_cons (pe_tup (pa_cons pe_int (pa_cons pe_int pa_nil))) (pa_cons (pe_tup (pa_cons pe_int (pa_cons pe_int pa_nil))) (pa_cons (pe_tup (pa_cons pe_int (pa_cons pe_int pa_nil))) (pa_cons (pe_tup (pa_cons pe_int (pa_cons (pe_un un_neg pe_int) pa_nil))) (pa_cons (pe_tup (pa_cons pe_int (pa_cons pe_int pa_nil))) (pa_cons (pe_tup (pa_cons pe_int (pa_cons (pe_un un_neg pe_int) pa_nil))) (pa_cons (pe_tup (pa_cons pe_int (pa_cons pe_int pa_nil))) (pa_cons (pe_tup (pa_cons pe_int (pa_cons (pe_un un_neg pe_int) pa_nil))) (pa_cons (pe_tup (pa_cons (pe_un un_neg pe_int) (pa_cons pe_int pa_nil))) (pa_cons (pe_tup (pa_cons (pe_un un_neg pe_int) (pa_cons (pe_un un_neg pe_int) pa_nil))) (pa_cons (pe_tup (pa_cons pe_int (pa_cons pe_int pa_nil))) pa_nil)))))))))))))
        (pss_cons
          (ps_asg (pe_fn c_lPick hr rfl (pa_cons (pv 0) (pa_cons (pv 2) pa_nil))) (pg_tupK K 2 rfl rfl (pgs_cons (pg_name (i := 3) nd rfl (Or.inl rfl)) (pgs_cons (pg_name (i := 4) nd rfl (Or.inl rfl)) pgs_nil))))
        (pss_one
          (ps_ret (pe_lst (pa_cons (pe_tup (pa_cons (pv 3) (pa_cons (pv 4) pa_nil))) (pa_cons (pe_fn c_lPick hr rfl (pa_cons (pv 0) (pa_cons (pe_lst (pa_cons (pe_tup (pa_cons (pe_tup (pa_cons (pv 4) (pa_cons (pe_op op_sub pe_int (pv 3)) pa_nil))) pa_nil)) (pa_cons (pe_tup (pa_cons (pe_tup (pa_cons (pe_op op_sub pe_int (pv 4)) (pa_cons (pv 3) pa_nil))) pa_nil)) pa_nil))) pa_nil))) pa_nil)))))))
        pss_nil)
    (pss_cons
      (ps_asg (pe_tup (pa_cons (pe_op op_sub (pe_fn c_lGrind hr rfl (pa_cons (pv 0) (pa_cons pe_int pa_nil))) pe_int) (pa_cons (pe_op op_sub (pe_fn c_lGrind hr rfl (pa_cons (pv 0) (pa_cons pe_int pa_nil))) pe_int) (pa_cons (pe_fn c_lGrind hr rfl (pa_cons (pv 0) (pa_cons pe_int pa_nil))) pa_nil)))) (pg_tupK K 3 rfl rfl (pgs_cons (pg_name (i := 5) nd rfl (Or.inr rfl)) (pgs_cons (pg_name (i := 6) nd rfl (Or.inr rfl)) (pgs_cons (pg_name (i := 7) nd rfl (Or.inl rfl)) pgs_nil)))))
    (pss_cons
      (ps_asg (pe_tup (pa_cons (pe_fn c_lPick hr rfl (pa_cons (pv 0) (pa_cons (pe_lst (pa_cons pe_int (pa_cons (pe_un un_neg pe_int) pa_nil))) pa_nil))) (pa_cons (pe_op op_sub (pe_fn c_lGrind hr rfl (pa_cons (pv 0) (pa_cons pe_int pa_nil))) pe_int) pa_nil))) (pg_tupK K 2 rfl rfl (pgs_cons (pg_name (i := 8) nd rfl (Or.inr rfl)) (pgs_cons (pg_name (i := 9) nd rfl (Or.inr rfl)) pgs_nil))))
    (pss_cons
      (ps_asg (pe_tup (pa_cons (pe_lst (pa_cons pe_int (pa_cons pe_int (pa_cons (pe_op op_mul (pv 8) (pe_op op_sub pe_int (pv 5))) pa_nil)))) (pa_cons (pe_lst (pa_cons pe_int (pa_cons pe_int (pa_cons (pe_op op_mul (pv 8) (pe_op op_sub pe_int (pv 6))) pa_nil)))) pa_nil))) (pg_tupK K 2 rfl rfl (pgs_cons (pg_name (i := 10) nd rfl (Or.inr rfl)) (pgs_cons (pg_name (i := 11) nd rfl (Or.inr rfl)) pgs_nil))))
    (pss_cons
      (ps_set (i := 10) nd rfl (Or.inr rfl) (pe_lc (own := [("_law_k", 14)]) rfl nd (pi_range1 rfl B.range (pa_cons pe_int pa_nil)) (blkOk_by (by kernel_rfl)) (fun _ _ _ _ _ => (pg_name (i := 14) nd rfl (Or.inl rfl))) (fun _ _ _ _ _ => pts_nil) (fun _ _ _ _ _ => (pe_op op_add (pe_ix (ix_listK K rfl) (pv 10) (pv 14) (fun _ _ => rfl)) (pe_op op_mul (pv 9) (pe_ix (ix_listK K rfl) (pv 11) (pv 14) (fun _ _ => rfl)))))))
    (pss_cons
      (ps_set (i := 12) nd rfl (Or.inr rfl) (pe_ix (ix_listK K rfl) (pe_lst (pa_cons (pe_lst (pa_cons pe_int (pa_cons pe_int (pa_cons pe_int pa_nil)))) (pa_cons (pe_lst (pa_cons pe_int (pa_cons pe_int (pa_cons pe_int pa_nil)))) (pa_cons (pe_lst (pa_cons pe_int (pa_cons pe_int (pa_cons pe_int pa_nil)))) pa_nil)))) (pv 7) (fun _ _ => rfl)))
    (pss_cons
      (ps_setLc (i := 13) (own := [("_law_row", 15)]) rfl nd rfl rfl (sw_true rfl rfl rfl (by decide +kernel)) (pi_listK K rfl (pe_lst (pa_cons (pv 10) (pa_cons (pv 11) pa_nil)))) (blkOk_by (by kernel_rfl)) (fun _ _ _ _ _ => (pg_name (i := 15) nd rfl (Or.inr rfl))) (fun _ _ _ _ _ => pts_nil) (fun _ _ _ _ _ => (pe_tupleK K rfl rfl B.tuple (pe_lc (own := [("_law_k", 14)]) rfl nd (pi_listK K rfl (pv 12)) (blkOk_by (by kernel_rfl)) (fun _ _ _ _ _ => (pg_name (i := 14) nd rfl (Or.inl rfl))) (fun _ _ _ _ _ => pts_nil) (fun _ _ _ _ _ => (pe_ix (ix_listK K rfl) (pv 15) (pv 14) (fun _ _ => rfl)))))))
    (pss_cons
      (ps_if (pt_cmpR op_eq (pe_fn c_lGrind hr rfl (pa_cons (pv 0) (pa_cons pe_int pa_nil))) pe_int (nomark _))
        (pss_one
          (ps_set (i := 13) nd rfl (Or.inl rfl) (pe_lst (pa_cons (pe_ix (ix_listK K rfl) (pv 13) pe_int (fun _ _ => rfl)) (pa_cons (pe_tupleK K rfl rfl B.tuple (pe_lc (own := [("_law_item", 16)]) rfl nd (pi_tupK K rfl (pe_ix (ix_listK K rfl) (pv 13) pe_int (fun _ _ => rfl))) (blkOk_by (by kernel_rfl)) (fun _ _ _ _ _ => (pg_name (i := 16) nd rfl (Or.inl rfl))) (fun _ _ _ _ _ => pts_nil) (fun _ _ _ _ _ => (pe_op op_sub pe_int (pv 16))))) pa_nil)))))
        pss_nil)
    (pss_one
      (ps_ret (pe_lst (pa_cons (pe_tupleK K rfl rfl B.tuple (pe_lc (own := [("_law_k", 14)]) rfl nd (pi_listK K rfl (pv 12)) (blkOk_by (by kernel_rfl)) (fun _ _ _ _ _ => (pg_name (i := 14) nd rfl (Or.inl rfl))) (fun _ _ _ _ _ => pts_nil) (fun _ _ _ _ _ => (pe_ix (ix_listK K rfl) (pe_lst (pa_cons (pv 5) (pa_cons (pv 6) (pa_cons (pv 8) pa_nil)))) (pv 14) (fun _ _ => rfl))))) (pa_cons (pe_tupleK K rfl rfl B.tuple (pv 13)) pa_nil))))))))))))), ?_⟩
    refine ⟨_, rfl, rfl, _, rfl, ?_⟩
    by_cases hd : dims = 2
    · rw [decide_eq_true (show V.int (dims : Nat) = V.int 2 by rw [hd]; rfl)]
      refine iteT ?_
      have d0 : Dts H ([] : List V) (([] : List (List Int)).map vi) := .nil
      have k0 : Same H H := Same.refl _
      refine ⟨ll rfl, fun p0 hp0 => ?_⟩
      have d1 := d0.more (ns := [1, 0]) hp0
      have k1 := k0.trans (same_upd (o := .tup ([1, 0].map V.int)) hp0)
      replace d1 : Dts (upd H p0 (.tup [.int (1), .int (0)])) _ _ := d1
      replace k1 : Same H (upd H p0 (.tup [.int (1), .int (0)])) := k1
      generalize upd H p0 (.tup [.int (1), .int (0)]) = G0 at d1 k1 ⊢
      refine ⟨ll rfl, fun p1 hp1 => ?_⟩
      have d2 := d1.more (ns := [0, 1]) hp1
      have k2 := k1.trans (same_upd (o := .tup ([0, 1].map V.int)) hp1)
      replace d2 : Dts (upd G0 p1 (.tup [.int (0), .int (1)])) _ _ := d2
      replace k2 : Same H (upd G0 p1 (.tup [.int (0), .int (1)])) := k2
      generalize upd G0 p1 (.tup [.int (0), .int (1)]) = G1 at d2 k2 ⊢
      refine ⟨ll rfl, fun p2 hp2 => ?_⟩
      have d3 := d2.more (ns := [1, 1]) hp2
      have k3 := k2.trans (same_upd (o := .tup ([1, 1].map V.int)) hp2)
      replace d3 : Dts (upd G1 p2 (.tup [.int (1), .int (1)])) _ _ := d3
      replace k3 : Same H (upd G1 p2 (.tup [.int (1), .int (1)])) := k3
      generalize upd G1 p2 (.tup [.int (1), .int (1)]) = G2 at d3 k3 ⊢
      refine ⟨1, rfl, ll rfl, fun p3 hp3 => ?_⟩
      have d4 := d3.more (ns := [1, -1]) hp3
      have k4 := k3.trans (same_upd (o := .tup ([1, -1].map V.int)) hp3)
      replace d4 : Dts (upd G2 p3 (.tup [.int (1), .int (-1)])) _ _ := d4
      replace k4 : Same H (upd G2 p3 (.tup [.int (1), .int (-1)])) := k4
      generalize upd G2 p3 (.tup [.int (1), .int (-1)]) = G3 at d4 k4 ⊢
      refine ⟨ll rfl, fun p4 hp4 => ?_⟩
      have d5 := d4.more (ns := [2, 1]) hp4
      have k5 := k4.trans (same_upd (o := .tup ([2, 1].map V.int)) hp4)
      replace d5 : Dts (upd G3 p4 (.tup [.int (2), .int (1)])) _ _ := d5
      replace k5 : Same H (upd G3 p4 (.tup [.int (2), .int (1)])) := k5
      generalize upd G3 p4 (.tup [.int (2), .int (1)]) = G4 at d5 k5 ⊢
      refine ⟨2, rfl, ll rfl, fun p5 hp5 => ?_⟩
      have d6 := d5.more (ns := [1, -2]) hp5
      have k6 := k5.trans (same_upd (o := .tup ([1, -2].map V.int)) hp5)
      replace d6 : Dts (upd G4 p5 (.tup [.int (1), .int (-2)])) _ _ := d6
      replace k6 : Same H (upd G4 p5 (.tup [.int (1), .int (-2)])) := k6
      generalize upd G4 p5 (.tup [.int (1), .int (-2)]) = G5 at d6 k6 ⊢
      refine ⟨ll rfl, fun p6 hp6 => ?_⟩
      have d7 := d6.more (ns := [3, 2]) hp6
      have k7 := k6.trans (same_upd (o := .tup ([3, 2].map V.int)) hp6)
      replace d7 : Dts (upd G5 p6 (.tup [.int (3), .int (2)])) _ _ := d7
      replace k7 : Same H (upd G5 p6 (.tup [.int (3), .int (2)])) := k7
      generalize upd G5 p6 (.tup [.int (3), .int (2)]) = G6 at d7 k7 ⊢
      refine ⟨4, rfl, ll rfl, fun p7 hp7 => ?_⟩
      have d8 := d7.more (ns := [3, -4]) hp7
      have k8 := k7.trans (same_upd (o := .tup ([3, -4].map V.int)) hp7)
      replace d8 : Dts (upd G6 p7 (.tup [.int (3), .int (-4)])) _ _ := d8
      replace k8 : Same H (upd G6 p7 (.tup [.int (3), .int (-4)])) := k8
      generalize upd G6 p7 (.tup [.int (3), .int (-4)]) = G7 at d8 k8 ⊢
      refine ⟨1, rfl, ll rfl, fun p8 hp8 => ?_⟩
      have d9 := d8.more (ns := [-1, 4]) hp8
      have k9 := k8.trans (same_upd (o := .tup ([-1, 4].map V.int)) hp8)
      replace d9 : Dts (upd G7 p8 (.tup [.int (-1), .int (4)])) _ _ := d9
      replace k9 : Same H (upd G7 p8 (.tup [.int (-1), .int (4)])) := k9
      generalize upd G7 p8 (.tup [.int (-1), .int (4)]) = G8 at d9 k9 ⊢
      refine ⟨2, rfl, 3, rfl, ll rfl, fun p9 hp9 => ?_⟩
      have d10 := d9.more (ns := [-2, -3]) hp9
      have k10 := k9.trans (same_upd (o := .tup ([-2, -3].map V.int)) hp9)
      replace d10 : Dts (upd G8 p9 (.tup [.int (-2), .int (-3)])) _ _ := d10
      replace k10 : Same H (upd G8 p9 (.tup [.int (-2), .int (-3)])) := k10
      generalize upd G8 p9 (.tup [.int (-2), .int (-3)]) = G9 at d10 k10 ⊢
      refine ⟨ll rfl, fun p10 hp10 => ?_⟩
      have d11 := d10.more (ns := [4, 1]) hp10
      have k11 := k10.trans (same_upd (o := .tup ([4, 1].map V.int)) hp10)
      replace d11 : Dts (upd G9 p10 (.tup [.int (4), .int (1)])) _ _ := d11
      replace k11 : Same H (upd G9 p10 (.tup [.int (4), .int (1)])) := k11
      generalize upd G9 p10 (.tup [.int (4), .int (1)]) = G10 at d11 k11 ⊢
      refine ⟨ll rfl, fun pl hpl => ?_⟩
      have dl := d11.same (same_upd (o := .lst [.ref p0, .ref p1, .ref p2, .ref p3, .ref p4, .ref p5, .ref p6, .ref p7, .ref p8, .ref p9, .ref p10]) hpl)
      have kl := k11.trans (same_upd (o := .lst [.ref p0, .ref p1, .ref p2, .ref p3, .ref p4, .ref p5, .ref p6, .ref p7, .ref p8, .ref p9, .ref p10]) hpl)
      have hpl2 : upd G10 pl (.lst [.ref p0, .ref p1, .ref p2, .ref p3, .ref p4, .ref p5, .ref p6, .ref p7, .ref p8, .ref p9, .ref p10]) pl = some (.lst [.ref p0, .ref p1, .ref p2, .ref p3, .ref p4, .ref p5, .ref p6, .ref p7, .ref p8, .ref p9, .ref p10]) := upd_same
      have hplm := (hm.same k11).neN hpl
      generalize upd G10 pl (.lst [.ref p0, .ref p1, .ref p2, .ref p3, .ref p4, .ref p5, .ref p6, .ref p7, .ref p8, .ref p9, .ref p10]) = H1 at dl kl hpl2 ⊢
      have hm1 : MillAt H1 m c := hm.same kl
      refine ⟨_, rfl, _, rfl, m, c, pl, _, rfl, hm1, hpl2, hplm.1, hplm.2, Nat.le_of_ble_eq_true rfl, Nat.le_of_ble_eq_true rfl, fun v H2 i ev s2 => ?_⟩
      obtain ⟨at', ns, rfl, ens, hat⟩ := dts_vis dl ev
      obtain ⟨hnl, hnb⟩ := pairs_ok ns (List.mem_of_getElem? ens)
      match ns, hnl, hnb, hat with
      | [one, two], _, hnb, hat =>
        have b1 := hnb one (by simp)
        have b2 := hnb two (by simp)
        have hat2 := MS.kt hm1 s2 _ _ hat
        have sH2 : MS m c H H2 := (hm.kept kl).trans s2
        refine ⟨at', _, rfl, SqT.of hat2, rfl, _, _, rfl, _, _, rfl, rfl, ?_⟩
        refine ⟨_, rfl, _, rfl, ll rfl, fun pd hpd => ?_⟩
        have s3 := sH2.same (same_upd (o := .tup [.int one, .int two]) hpd)
        generalize upd H2 pd (.tup [.int one, .int two]) = H3 at s3 ⊢
        refine ⟨_, rfl, _, rfl, _, rfl, 0, one, rfl, rfl, ll rfl, fun q1 hq1 => ⟨ll rfl, fun q2 hq2 => ?_⟩⟩
        have s4 := (s3.same (same_upd (o := .tup [.int two, .int (0 - one)]) hq1)).same (same_upd (o := .tup [.ref q1]) hq2)
        have e1 : upd (upd H3 q1 (.tup [.int two, .int (0 - one)])) q2 (.tup [.ref q1]) q1 = some (.tup ([two, 0 - one].map V.int)) := upd_some hq2 upd_same
        have e2 : upd (upd H3 q1 (.tup [.int two, .int (0 - one)])) q2 (.tup [.ref q1]) q2 = some (.tup [.ref q1]) := upd_same
        generalize upd (upd H3 q1 (.tup [.int two, .int (0 - one)])) q2 (.tup [.ref q1]) = H4 at s4 e1 e2 ⊢
        refine ⟨_, rfl, 0, two, rfl, rfl, _, rfl, ll rfl, fun q3 hq3 => ⟨ll rfl, fun q4 hq4 => ?_⟩⟩
        have s5 := (s4.same (same_upd (o := .tup [.int (0 - two), .int one]) hq3)).same (same_upd (o := .tup [.ref q3]) hq4)
        have e3 : upd (upd H4 q3 (.tup [.int (0 - two), .int one])) q4 (.tup [.ref q3]) q3 = some (.tup ([0 - two, one].map V.int)) := upd_some hq4 upd_same
        have e4 : upd (upd H4 q3 (.tup [.int (0 - two), .int one])) q4 (.tup [.ref q3]) q4 = some (.tup [.ref q3]) := upd_same
        have e1' := upd_some (o := .tup [.ref q3]) hq4 (upd_some (o := .tup [.int (0 - two), .int one]) hq3 e1)
        have e2' := upd_some (o := .tup [.ref q3]) hq4 (upd_some (o := .tup [.int (0 - two), .int one]) hq3 e2)
        generalize upd (upd H4 q3 (.tup [.int (0 - two), .int one])) q4 (.tup [.ref q3]) = H5 at s5 e3 e4 e1' e2' ⊢
        refine ⟨ll rfl, fun pl2 hpl2' => ?_⟩
        have hplm2 := s5.2.neN hpl2'
        have s6 : Same H5 (upd H5 pl2 (.lst [.ref q2, .ref q4])) := same_upd hpl2'
        refine ⟨m, c, pl2, _, rfl, s5.2.same s6, upd_same, hplm2.1, hplm2.2, Nat.le_of_ble_eq_true rfl, Nat.le_of_ble_eq_true rfl, fun v H6 i2 ev2 s7 => ⟨ll rfl, fun l hl => ?_⟩⟩
        have k56 : KeepT H5 H6 := (KeepT.of s6).trans (MS.kt (s5.2.same s6) s7)
        have sf : MS m c H (upd H6 l (.lst [.ref pd, v])) := ((s5.same s6).trans s7).same (same_upd hl)
        match i2, ev2 with
        | 0, ev2 =>
          cases ev2
          refine q l _ q2 _ _ [[two, 0 - one]] sf upd_same (upd_some hl (k56 _ _ e2')) (.cons (dt_vi (upd_some hl (k56 _ _ e1'))) .nil) ⟨by rw [hd]; rfl, fun r hr => ?_⟩
          have e : r = [two, 0 - one] := by simpa using hr
          subst e
          refine ⟨by rw [hd]; rfl, fun x hx => ?_⟩
          have : x = two ∨ x = 0 - one := by simpa using hx
          omega
        | 1, ev2 =>
          cases ev2
          refine q l _ q4 _ _ [[0 - two, one]] sf upd_same (upd_some hl (k56 _ _ e4)) (.cons (dt_vi (upd_some hl (k56 _ _ e3))) .nil) ⟨by rw [hd]; rfl, fun r hr => ?_⟩
          have e : r = [0 - two, one] := by simpa using hr
          subst e
          refine ⟨by rw [hd]; rfl, fun x hx => ?_⟩
          have : x = 0 - two ∨ x = one := by simpa using hx
          omega
        | i2 + 2, ev2 => cases ev2
    · have hd3 : dims = 3 := by omega
      rw [decide_eq_false (show ¬ V.int (dims : Nat) = V.int 2 from fun z => hd (by have := V.int.inj z; omega))]
      refine iteF ?_
      -- first, second, axis
      refine ⟨_, rfl, m, c, 5, rfl, hm, by omega, by omega, fun g1 H1 s1 a0 a1 => ⟨_, _, rfl, rfl, ?_⟩⟩
      refine ⟨_, rfl, m, c, 5, rfl, s1.2, by omega, by omega, fun g2 H2 s2 b0 b1 => ⟨_, _, rfl, rfl, ?_⟩⟩
      refine ⟨_, rfl, m, c, 3, rfl, s2.2, by omega, by omega, fun g3 H3 s3 c0 c1 => ⟨ll rfl, fun T1 hT1 => ⟨T1, _, rfl, SqT.of upd_same, rfl, _, _, rfl, _, _, rfl, _, _, rfl, rfl, ?_⟩⟩⟩
      have s4 := ((s1.trans s2).trans s3).same (same_upd (o := .tup [.int (g1 - 2), .int (g2 - 2), .int g3]) hT1)
      generalize upd H3 T1 (.tup [.int (g1 - 2), .int (g2 - 2), .int g3]) = H4 at s4 ⊢
      have hf : -2 ≤ g1 - 2 ∧ g1 - 2 ≤ 2 := by omega
      have hs : -2 ≤ g2 - 2 ∧ g2 - 2 ≤ 2 := by omega
      -- sign, shear
      refine ⟨_, rfl, 1, rfl, ll rfl, fun pl hpl => ?_⟩
      have hplm := s4.2.neN hpl
      have s5 := s4.same (same_upd (o := .lst [.int 1, .int (-1)]) hpl)
      refine ⟨m, c, pl, _, rfl, s5.2, upd_same, hplm.1, hplm.2, Nat.le_of_ble_eq_true rfl, Nat.le_of_ble_eq_true rfl, fun v H5 i ev s6 => ?_⟩
      have hsg : ∃ sg : Int, v = .int sg ∧ (sg = 1 ∨ sg = -1) := by
        match i, ev with
        | 0, ev => cases ev; exact ⟨1, rfl, .inl rfl⟩
        | 1, ev => cases ev; exact ⟨-1, rfl, .inr rfl⟩
        | i + 2, ev => cases ev
      obtain ⟨sg, rfl, hsg⟩ := hsg
      have s7 := s5.trans s6
      refine ⟨_, rfl, m, c, 5, rfl, s7.2, by omega, by omega, fun g4 H6 s8 d0 d1 => ⟨_, _, rfl, rfl, ll rfl, fun T2 hT2 => ⟨T2, _, rfl, SqT.of upd_same, rfl, _, _, rfl, _, _, rfl, rfl, ?_⟩⟩⟩
      have s9 := (s7.trans s8).same (same_upd (o := .tup [.int sg, .int (g4 - 2)]) hT2)
      generalize upd H6 T2 (.tup [.int sg, .int (g4 - 2)]) = H7 at s9 ⊢
      have hsh : -2 ≤ g4 - 2 ∧ g4 - 2 ≤ 2 := by omega
      -- low, high
      refine ⟨_, rfl, _, rfl, 0, (g1 - 2), rfl, rfl, sg, 0 - (g1 - 2), rfl, rfl, .inl ⟨by omega, by omega⟩, ll rfl, fun lo hlo => ?_⟩
      have s10 := s9.same (same_upd (o := .lst [.int 1, .int 0, .int (sg * (0 - (g1 - 2)))]) hlo)
      have hlo1 : upd H7 lo (.lst [.int 1, .int 0, .int (sg * (0 - (g1 - 2)))]) lo = some (.lst ([1, 0, sg * (0 - (g1 - 2))].map V.int)) := upd_same
      generalize upd H7 lo (.lst [.int 1, .int 0, .int (sg * (0 - (g1 - 2)))]) = H8 at s10 hlo1 ⊢
      refine ⟨_, rfl, _, rfl, 0, (g2 - 2), rfl, rfl, sg, 0 - (g2 - 2), rfl, rfl, .inl ⟨by omega, by omega⟩, ll rfl, fun hg hhg => ?_⟩
      have s11 := s10.same (same_upd (o := .lst [.int 0, .int 1, .int (sg * (0 - (g2 - 2)))]) hhg)
      have hlo2 := upd_some (o := .lst [.int 0, .int 1, .int (sg * (0 - (g2 - 2)))]) hhg hlo1
      have hhg2 : upd H8 hg (.lst [.int 0, .int 1, .int (sg * (0 - (g2 - 2)))]) hg = some (.lst ([0, 1, sg * (0 - (g2 - 2))].map V.int)) := upd_same
      generalize upd H8 hg (.lst [.int 0, .int 1, .int (sg * (0 - (g2 - 2)))]) = H9 at s11 hlo2 hhg2 ⊢
      refine ⟨ll rfl, fun T3 hT3 => ⟨T3, _, rfl, SqT.of upd_same, rfl, _, _, rfl, _, _, rfl, rfl, ?_⟩⟩
      have s12 := s11.same (same_upd (o := .tup [.ref lo, .ref hg]) hT3)
      have hlo3 := upd_some (o := .tup [.ref lo, .ref hg]) hT3 hlo2
      have hhg3 := upd_some (o := .tup [.ref lo, .ref hg]) hT3 hhg2
      generalize upd H9 T3 (.tup [.ref lo, .ref hg]) = H10 at s12 hlo3 hhg3 ⊢
      have hp1 : -2 ≤ sg * (0 - (g1 - 2)) ∧ sg * (0 - (g1 - 2)) ≤ 2 := by rcases hsg with rfl | rfl <;> omega
      have hp2 : -2 ≤ sg * (0 - (g2 - 2)) ∧ sg * (0 - (g2 - 2)) ≤ 2 := by rcases hsg with rfl | rfl <;> omega
      generalize sg * (0 - (g1 - 2)) = p1 at hp1 hlo3 ⊢
      generalize sg * (0 - (g2 - 2)) = p2 at hp2 hhg3 ⊢
      -- low again
      refine st_eq (σ' := [some (.ref m), some (.int (dims : Nat)), none, none, none, some (.int (g1 - 2)), some (.int (g2 - 2)), some (.int g3), some (.int sg), some (.int (g4 - 2)), some (.ref lo), some (.ref hg), none, none, none, none, none]) rfl ?_
      refine ⟨3, rfl, by omega, by omega, fun D hD => ?_⟩
      refine lc_fm (walk_range (lo := 0) (n := 3)) (fun i => some (.int ([1, 0, p1].getD i 0 + (g4 - 2) * [0, 1, p2].getD i 0))) hD (small_of (m := 3) (Nat.le_refl 3) (by decide)) (fun _ _ => trivial) (fun i x H11 H12 k kn hi s13 hy hk hkn => ?_) (fun H11 zs s13 h11 d11 _ => ?_)
      · obtain ⟨rfl, rfl⟩ := hy
        have at1 : atI ([1, 0, p1].map V.int) (0 + (i : Nat)) = some (.int ([1, 0, p1].getD i 0)) := by
          rw [Int.zero_add]
          refine atI_nat ?_
          match i, hi with
          | 0, _ => rfl
          | 1, _ => rfl
          | 2, _ => rfl
        have at2 : atI ([0, 1, p2].map V.int) (0 + (i : Nat)) = some (.int ([0, 1, p2].getD i 0)) := by
          rw [Int.zero_add]
          refine atI_nat ?_
          match i, hi with
          | 0, _ => rfl
          | 1, _ => rfl
          | 2, _ => rfl
        exact ⟨rfl, _, rfl, _, rfl, lo, _, _, _, rfl, rfl, s13.lst hlo3, at1, _, rfl, _, rfl, _, rfl, hg, _, _, _, rfl, rfl, s13.lst hhg3, at2, _, _, rfl, rfl, .inl ⟨by omega, by omega⟩, _, _, rfl, rfl, hk _ _ (.int ([1, 0, p1].getD i 0 + (g4 - 2) * [0, 1, p2].getD i 0)) rfl (Same.refl _) (.int _) (.int _)⟩
      have d11 : Dts H11 zs ([1 + (g4 - 2) * 0, 0 + (g4 - 2) * 1, p1 + (g4 - 2) * p2].map PyData.int) := d11
      rw [d11.ints] at h11
      have hmul := mul_small hsh hp2
      have hhg11 := s13 _ _ hhg3
      have s14 := s12.same s13
      have hL2 : ∀ x ∈ [1 + (g4 - 2) * 0, 0 + (g4 - 2) * 1, p1 + (g4 - 2) * p2], -10 ≤ x ∧ x ≤ 10 := fun x hx => by
        have : x = 1 + (g4 - 2) * 0 ∨ x = 0 + (g4 - 2) * 1 ∨ x = p1 + (g4 - 2) * p2 := by simpa using hx
        omega
      have hL3 : ∀ x ∈ [0, 1, p2], -10 ≤ x ∧ x ≤ 10 := fun x hx => by
        have : x = 0 ∨ x = 1 ∨ x = p2 := by simpa using hx
        omega
      have hLl : [1 + (g4 - 2) * 0, 0 + (g4 - 2) * 1, p1 + (g4 - 2) * p2].length = 3 := rfl
      generalize [1 + (g4 - 2) * 0, 0 + (g4 - 2) * 1, p1 + (g4 - 2) * p2] = lowL at h11 hL2 hLl
      have hHl : [0, 1, p2].length = 3 := rfl
      generalize [0, 1, p2] = highL at hhg11 hL3 hHl
      clear hlo1 hlo2 hlo3 hhg2 hhg3 d11
      -- order
      dsimp only [gName]
      refine st_eq (σ' := [some (.ref m), some (.int (dims : Nat)), none, none, none, some (.int (g1 - 2)), some (.int (g2 - 2)), some (.int g3), some (.int sg), some (.int (g4 - 2)), some (.ref D), some (.ref hg), none, none, none, none, none]) rfl ?_
      refine ⟨ll rfl, fun o1 ho1 => ⟨ll rfl, fun o2 ho2 => ⟨ll rfl, fun o3 ho3 => ⟨ll rfl, fun o4 ho4 => ?_⟩⟩⟩⟩
      have sA : Same H11 (upd (upd (upd (upd H11 o1 (.lst [.int 2, .int 0, .int 1])) o2 (.lst [.int 0, .int 2, .int 1])) o3 (.lst [.int 0, .int 1, .int 2])) o4 (.lst [.ref o1, .ref o2, .ref o3])) := (((same_upd ho1).trans (same_upd ho2)).trans (same_upd ho3)).trans (same_upd ho4)
      have hord : ∃ (oo : Addr) (ordL : List Int), atI [V.ref o1, .ref o2, .ref o3] g3 = some (.ref oo) ∧ upd (upd (upd (upd H11 o1 (.lst [.int 2, .int 0, .int 1])) o2 (.lst [.int 0, .int 2, .int 1])) o3 (.lst [.int 0, .int 1, .int 2])) o4 (.lst [.ref o1, .ref o2, .ref o3]) oo = some (.lst (ordL.map V.int)) ∧ ordL.length = 3 ∧ H11 oo = none ∧ ∀ k ∈ ordL, 0 ≤ k ∧ k < 3 := by
        have hg : g3 = 0 ∨ g3 = 1 ∨ g3 = 2 := by omega
        rcases hg with rfl | rfl | rfl
        · exact ⟨o1, [2, 0, 1], rfl, upd_some ho4 (upd_some ho3 (upd_some ho2 upd_same)), rfl, ho1, by decide⟩
        · exact ⟨o2, [0, 2, 1], rfl, upd_some ho4 (upd_some ho3 upd_same), rfl, (upd_none ho2).2, by decide⟩
        · exact ⟨o3, [0, 1, 2], rfl, upd_some ho4 upd_same, rfl, (upd_none (upd_none ho3).2).2, by decide⟩
      obtain ⟨oo, ordL, eat, hoo, hordl, hoonone, hordb⟩ := hord
      have hoon := s14.2.neN hoonone
      have ho4' : upd (upd (upd (upd H11 o1 (.lst [.int 2, .int 0, .int 1])) o2 (.lst [.int 0, .int 2, .int 1])) o3 (.lst [.int 0, .int 1, .int 2])) o4 (.lst [.ref o1, .ref o2, .ref o3]) o4 = some (.lst [.ref o1, .ref o2, .ref o3]) := upd_same
      generalize upd (upd (upd (upd H11 o1 (.lst [.int 2, .int 0, .int 1])) o2 (.lst [.int 0, .int 2, .int 1])) o3 (.lst [.int 0, .int 1, .int 2])) o4 (.lst [.ref o1, .ref o2, .ref o3]) = H12 at sA hoo ho4' ⊢
      have s15 := s14.same sA
      have hD12 := sA _ _ h11
      have hh12 := sA _ _ hhg11
      refine ⟨_, rfl, o4, _, g3, .ref oo, rfl, rfl, SqL.of ho4', eat, ?_⟩
      -- rows
      dsimp only [gName]
      refine st_eq (σ' := [some (.ref m), some (.int (dims : Nat)), none, none, none, some (.int (g1 - 2)), some (.int (g2 - 2)), some (.int g3), some (.int sg), some (.int (g4 - 2)), some (.ref D), some (.ref hg), some (.ref oo), none, none, none, none]) rfl ?_
      refine ⟨_, rfl, _, rfl, ll rfl, fun pr hpr => ⟨pr, rfl, ⟨_, SqL.of upd_same⟩, fun D2 hD2 => ?_⟩⟩
      have s16 := s15.same (same_upd (o := .lst [.ref D, .ref hg]) hpr)
      have hpr1 : upd H12 pr (.lst [.ref D, .ref hg]) pr = some (.lst [.ref D, .ref hg]) := upd_same
      have hD13 := upd_some (o := .lst [.ref D, .ref hg]) hpr hD12
      have hh13 := upd_some (o := .lst [.ref D, .ref hg]) hpr hh12
      have hoo13 := upd_some (o := .lst [.ref D, .ref hg]) hpr hoo
      generalize upd H12 pr (.lst [.ref D, .ref hg]) = H13 at s16 hpr1 hD13 hh13 hoo13 hD2 ⊢
      refine lc_fm (walk_list (xs := [V.ref D, .ref hg])) (fun i => some (vi (ordL.map fun k => (if i = 0 then lowL else highL).getD k.toNat 0))) hD2 (small_of (m := 2) (Nat.le_refl 2) (by decide)) (fun H' s => s.lst hpr1) (fun i x H14 H15 k kn hi s17 hy hk hkn => ?_) (fun H14 zs s17 h14 d14 _ => ?_)
      · obtain ⟨rfl, ex⟩ := hy
        have hrow : ∃ (z : Addr), x = .ref z ∧ H13 z = some (.lst ((if i = 0 then lowL else highL).map V.int)) ∧ (if i = 0 then lowL else highL).length = 3 := by
          match i, ex with
          | 0, ex => cases ex; exact ⟨D, rfl, hD13, hLl⟩
          | 1, ex => cases ex; exact ⟨hg, rfl, hh13, hHl⟩
          | i + 2, ex => cases ex
        obtain ⟨z, rfl, hz, hzl⟩ := hrow
        refine ⟨rfl, _, rfl, oo, rfl, ⟨_, SqL.of (s17 _ _ hoo13)⟩, fun D3 hD3 => ?_⟩
        refine lc_fm (walk_list (xs := ordL.map V.int)) (fun j => (ordL[j]?).map fun k => .int ((if i = 0 then lowL else highL).getD k.toNat 0)) hD3 (by rw [List.length_map]; exact small_of (m := 3) (by omega) (by decide)) (fun H' s => s.lst (s17 _ _ hoo13)) (fun j x H16 H17 k2 kn2 hj s18 hy2 hk2 hkn2 => ?_) (fun H16 ws s18 h16 d16 _ => ?_)
        · obtain ⟨rfl, ex2⟩ := hy2
          obtain ⟨u, g, rfl⟩ := map_int_at ex2
          have hu2 := hordb u (List.mem_of_getElem? g)
          obtain ⟨n, rfl⟩ := Int.eq_ofNat_of_zero_le hu2.1
          have at1 : atI ((if i = 0 then lowL else highL).map V.int) ((n : Nat) : Int) = some (.int ((if i = 0 then lowL else highL).getD n 0)) := by
            refine atI_nat ?_
            rw [List.getElem?_map, List.getD_eq_getElem?_getD, List.getElem?_eq_getElem (by omega)]
            rfl
          exact ⟨rfl, _, rfl, _, rfl, z, _, _, _, rfl, rfl, SqL.of (s18 _ _ (s17 _ _ hz)), at1, hk2 _ _ (.int ((if i = 0 then lowL else highL).getD n 0)) (by show Option.map _ (ordL[j]?) = _; rw [g]; rfl) (Same.refl _) (.int _) (.int _)⟩
        · rw [List.length_map, fm_map ordL (fun k => PyData.int ((if i = 0 then lowL else highL).getD k.toNat 0)) _ (fun i x e => by rw [e]; rfl)] at d16
          have e3 : ordL.map (fun k => PyData.int ((if i = 0 then lowL else highL).getD k.toNat 0)) = (ordL.map fun k => (if i = 0 then lowL else highL).getD k.toNat 0).map PyData.int := by
            rw [List.map_map]
            rfl
          rw [e3] at d16
          rw [d16.ints] at h16
          exact .inl ⟨D3, _, rfl, SqL.of h16, fun pt hpt => hk _ _ (vi (ordL.map fun k => (if i = 0 then lowL else highL).getD k.toNat 0)) rfl (s18.trans (same_upd hpt)) (only_vi _) (dt_vi upd_same)⟩
      have d14 : Dts H14 zs ([ordL.map fun k => lowL.getD k.toNat 0, ordL.map fun k => highL.getD k.toNat 0].map vi) := d14
      have s18 := s16.same s17
      have hoo14 := s17 _ _ hoo13
      have bnd : ∀ (L : List Int), L.length = 3 → (∀ x ∈ L, -10 ≤ x ∧ x ≤ 10) → ∀ x ∈ ordL.map (fun k => L.getD k.toNat 0), -10 ≤ x ∧ x ≤ 10 := fun L hL hb x hx => by
        obtain ⟨k, hk, rfl⟩ := List.mem_map.mp hx
        have := hordb k hk
        exact hb _ (getD_mem (by omega))
      have b1 := bnd lowL hLl hL2
      have b2 := bnd highL hHl hL3
      have l1 : (ordL.map fun k => lowL.getD k.toNat 0).length = 3 := by rw [List.length_map]; exact hordl
      have l2 : (ordL.map fun k => highL.getD k.toNat 0).length = 3 := by rw [List.length_map]; exact hordl
      generalize (ordL.map fun k => lowL.getD k.toNat 0) = rA at d14 b1 l1
      generalize (ordL.map fun k => highL.getD k.toNat 0) = rB at d14 b2 l2
      dsimp only [gName]
      refine seq_ok (fun σ' H' => ∃ (rl : Addr) (us : List V) (rs : List (List Int)), σ' = [some (.ref m), some (.int (dims : Nat)), none, none, none, some (.int (g1 - 2)), some (.int (g2 - 2)), some (.int g3), some (.int sg), some (.int (g4 - 2)), some (.ref D), some (.ref hg), some (.ref oo), some (.ref rl), none, none, none] ∧
        MS m c H H' ∧ H' rl = some (.lst us) ∧ Dts H' us (rs.map vi) ∧ LRows 3 rs ∧ H' oo = some (.lst (ordL.map V.int))) (fun D' _ hn => ?_) fun σ' H' p' => ?_
      · obtain ⟨va, zs1, rfl, da, dr⟩ := Dts.consI (d := vi rA) (ds := [vi rB]) d14
        obtain ⟨vb, rfl, db⟩ := dr.one
        obtain ⟨ra, rfl, hra⟩ := da.viI
        obtain ⟨rb, rfl, hrb⟩ := db.viI
        have hL0 : LRows 3 [rA, rB] := ⟨rfl, fun r hr => by
          have e : r = rA ∨ r = rB := by simpa using hr
          rcases e with rfl | rfl
          · exact ⟨l1, b1⟩
          · exact ⟨l2, b2⟩⟩
        refine ⟨_, rfl, m, c, 2, rfl, s18.2, by omega, by omega, fun v H15 s19 v0 v1 => ⟨rfl, _, rfl, ite_any ?_ ?_⟩⟩
        · have hD2n : D2 ≠ m ∧ D2 ≠ c := s16.2.neN hD2
          have k1 := MS.kt s18.2 s19
          have hD15 := s19.1 _ _ hD2n.1 hD2n.2 h14
          have hoo15 := s19.1 _ _ hoon.1 hoon.2 hoo14
          refine ⟨_, rfl, D2, _, 1, .ref rb, rfl, rfl, SqL.of hD15, rfl, _, rfl, D2, _, 0, .ref ra, rfl, rfl, SqL.of hD15, rfl, ra, rfl, ⟨_, SqT.of (k1 _ _ hra)⟩, fun D4 hD4 => ?_⟩
          refine lc_fm (walk_tup (xs := rA.map V.int)) (fun j => (rA[j]?).map fun x => .int (0 - x)) hD4 (by rw [List.length_map]; exact small_of (m := 3) (by omega) (by decide)) (fun H' s => s.tup (k1 _ _ hra)) (fun j x H16 H17 k2 kn2 hj s20 hy2 hk2 hkn2 => ?_) (fun H16 ws s20 h16 d16 _ => ?_)
          · obtain ⟨rfl, ex2⟩ := hy2
            obtain ⟨u, g, rfl⟩ := map_int_at ex2
            exact ⟨rfl, _, rfl, 0, u, rfl, rfl, hk2 _ _ (.int (0 - u)) (by show Option.map _ (rA[j]?) = _; rw [g]; rfl) (Same.refl _) (.int _) (.int _)⟩
          · rw [List.length_map, fm_map rA (fun x => PyData.int (0 - x)) _ (fun i x e => by rw [e]; rfl)] at d16
            have e3 : rA.map (fun x => PyData.int (0 - x)) = (rA.map fun x => 0 - x).map PyData.int := by
              rw [List.map_map]
              rfl
            rw [e3] at d16
            rw [d16.ints] at h16
            refine .inl ⟨D4, _, rfl, SqL.of h16, fun pt hpt => ⟨ll rfl, fun rl hrl => ?_⟩⟩
            have sf := ((s18.trans (s19.same s20)).same (same_upd (o := .tup ((rA.map fun x => 0 - x).map V.int)) hpt)).same (same_upd (o := .lst [.ref rb, .ref pt]) hrl)
            refine hn _ _ ⟨rl, [.ref rb, .ref pt], [rB, rA.map fun x => 0 - x], rfl, sf, upd_same, .cons (dt_vi (upd_some hrl (upd_some hpt (s20 _ _ (k1 _ _ hrb))))) (.cons (dt_vi (upd_some hrl upd_same)) .nil), ⟨rfl, fun r hr => ?_⟩, upd_some hrl (upd_some hpt (s20 _ _ hoo15))⟩
            have e : r = rB ∨ r = rA.map fun x => 0 - x := by simpa using hr
            rcases e with rfl | rfl
            · exact ⟨l2, b2⟩
            · refine ⟨by rw [List.length_map]; exact l1, fun x hx => ?_⟩
              obtain ⟨y, hy, rfl⟩ := List.mem_map.mp hx
              have := b1 y hy
              omega
        · have hD2n : D2 ≠ m ∧ D2 ≠ c := s16.2.neN hD2
          have hoo15 := s19.1 _ _ hoon.1 hoon.2 hoo14
          exact hn _ _ ⟨D2, _, [rA, rB], rfl, s18.trans s19, s19.1 _ _ hD2n.1 hD2n.2 h14, Dts.kt (MS.kt s18.2 s19) d14, hL0, hoo15⟩
      · obtain ⟨rl, us, rs, rfl, s19, hrl, hus, hrs, hoo19⟩ := p'
        refine ⟨_, rfl, oo, rfl, ⟨_, SqL.of hoo19⟩, fun D5 hD5 => ?_⟩
        refine lc_fm (walk_list (xs := ordL.map V.int)) (fun j => (ordL[j]?).map fun k => .int ([g1 - 2, g2 - 2, sg].getD k.toNat 0)) hD5 (by rw [List.length_map]; exact small_of (m := 3) (by omega) (by decide)) (fun H' s => s.lst hoo19) (fun j x H16 H17 k2 kn2 hj s20 hy2 hk2 hkn2 => ?_) (fun H16 ws s20 h16 d16 _ => ?_)
        · obtain ⟨rfl, ex2⟩ := hy2
          obtain ⟨u, g, rfl⟩ := map_int_at ex2
          have hu2 := hordb u (List.mem_of_getElem? g)
          obtain ⟨n, rfl⟩ := Int.eq_ofNat_of_zero_le hu2.1
          have at1 : atI ([g1 - 2, g2 - 2, sg].map V.int) ((n : Nat) : Int) = some (.int ([g1 - 2, g2 - 2, sg].getD n 0)) := by
            refine atI_nat ?_
            have hn3 : n < 3 := by omega
            match n, hn3 with
            | 0, _ => rfl
            | 1, _ => rfl
            | 2, _ => rfl
          refine ⟨rfl, _, rfl, _, rfl, _, rfl, ll rfl, fun pl hpl => ⟨_, rfl, pl, _, _, _, rfl, rfl, SqL.of upd_same, at1, hk2 _ _ (.int ([g1 - 2, g2 - 2, sg].getD n 0)) (by show Option.map _ (ordL[j]?) = _; rw [g]; rfl) (same_upd hpl) (.int _) (.int _)⟩⟩
        · rw [List.length_map, fm_map ordL (fun k => PyData.int ([g1 - 2, g2 - 2, sg].getD k.toNat 0)) _ (fun i x e => by rw [e]; rfl)] at d16
          have e3 : ordL.map (fun k => PyData.int ([g1 - 2, g2 - 2, sg].getD k.toNat 0)) = (ordL.map fun k => [g1 - 2, g2 - 2, sg].getD k.toNat 0).map PyData.int := by
            rw [List.map_map]
            rfl
          rw [e3] at d16
          rw [d16.ints] at h16
          refine .inl ⟨D5, _, rfl, SqL.of h16, fun pt hpt => ?_⟩
          have s21 := (s19.same s20).same (same_upd (o := .tup ((ordL.map fun k => [g1 - 2, g2 - 2, sg].getD k.toNat 0).map V.int)) hpt)
          have hrl21 := upd_some (o := .tup ((ordL.map fun k => [g1 - 2, g2 - 2, sg].getD k.toNat 0).map V.int)) hpt (s20 _ _ hrl)
          have hus21 := (hus.same s20).same (same_upd (o := .tup ((ordL.map fun k => [g1 - 2, g2 - 2, sg].getD k.toNat 0).map V.int)) hpt)
          generalize upd H16 pt (.tup ((ordL.map fun k => [g1 - 2, g2 - 2, sg].getD k.toNat 0).map V.int)) = H17 at s21 hrl21 hus21 ⊢
          refine ⟨_, rfl, .inl ⟨rl, _, rfl, SqL.of hrl21, fun pr2 hpr2 => ⟨ll rfl, fun l hl => ?_⟩⟩⟩
          rw [hd3] at q
          exact q l _ pr2 _ us rs ((s21.same (same_upd hpr2)).same (same_upd hl)) upd_same (upd_some hl upd_same) ((hus21.same (same_upd hpr2)).same (same_upd hl)) hrs
end
end Wb
namespace Wb
open PySem PySem.Spec PyProof.Rows L2

def rSumTu (K : PySem.W.Frag) : List V → Hp → VK → Prop := fun vs H Q => ∃ (a : Addr) (ns : List Int), vs = [V.ref a] ∧ SqT K H a (ns.map V.int) ∧ Q (.int ns.sum) H
/-- sum of a tuple of ints -/
theorem sumT_K {X : Cx} (K) (h : X.K = K) (hc : X.calm = true) : CallR X (.builtin "sum") (rSumTu K) := by
  subst h
  intro pins s σ H vs us Q I r h
  obtain ⟨a, ns, rfl, hs, q⟩ := h
  obtain ⟨its, rv, hl, _⟩ := I.tuple hs
  rw [Vals.ref1 r]
  obtain ⟨xs, e⟩ := rv.ints.allInts.items
  have hn : numsOf (intItems xs).toList = ns := by rw [← e]; exact rv.ints.numsOf
  rw [nums_intItems] at hn
  rw [e] at hl
  refine PySem.W.ktm_sumG (I.ok.hd hc) hl fun h' tk t' hk => ?_
  rw [preSum_eq, List.take_of_length_le (by simp), hn]
  exact ⟨.int _, H, I.kept hk, ⟨_, rfl⟩, q⟩
theorem inItems_at : ∀ {st sides m : List Int} {k : Nat} {x s y : Int}, InItems (st.zip sides) m → st[k]? = some x → sides[k]? = some s → m[k]? = some y → y ∈ itemsOf x s
  | a :: st, b :: sides, c :: m, 0, x, s, y, h, e1, e2, e3 => by
    cases e1
    cases e2
    cases e3
    exact h.1
  | a :: st, b :: sides, c :: m, k + 1, x, s, y, h, e1, e2, e3 => inItems_at (st := st) (sides := sides) (m := m) h.2 (by simpa using e1) (by simpa using e2) (by simpa using e3)
  | [], _, _, _, _, _, _, _, e1, _, _ => by simp at e1
  | _ :: _, [], _, _, _, _, _, _, _, e2, _ => by simp at e2
  | _ :: _, _ :: _, [], _, _, _, _, _, _, _, e3 => by simp at e3
theorem items_place {x s y : Int} (hs : 1 ≤ s) (h : y ∈ itemsOf x s) : ∃ p, 0 ≤ p ∧ p < s ∧ Int.fdiv (p + x) s = y := by
  unfold itemsOf at h
  have h1 := Int.emod_nonneg x (show s ≠ 0 by omega)
  have h2 := Int.emod_lt_of_pos x (show 0 < s by omega)
  have h3 := Int.mul_ediv_add_emod x s
  rw [Int.fmod_eq_emod_of_nonneg _ (show 0 ≤ s by omega), Int.fdiv_eq_ediv_of_nonneg _ (show 0 ≤ s by omega)] at h
  have key : y = x / s ∨ (x % s ≠ 0 ∧ y = x / s + 1) := by
    by_cases c : x % s = 0
    · rw [if_pos c] at h
      exact .inl (by simpa using h)
    · rw [if_neg c] at h
      have : y = x / s ∨ y = x / s + 1 := by simpa using h
      rcases this with e | e
      · exact .inl e
      · exact .inr ⟨c, e⟩
  rcases key with rfl | ⟨c, rfl⟩
  · exact ⟨0, by omega, by omega, by rw [Int.zero_add, Int.fdiv_eq_ediv_of_nonneg _ (show 0 ≤ s by omega)]⟩
  · refine ⟨s - 1, by omega, by omega, ?_⟩
    rw [Int.fdiv_eq_ediv_of_nonneg _ (show 0 ≤ s by omega)]
    have e : s - 1 + x = (x % s - 1) + s * (x / s + 1) := by
      rw [Int.mul_add]
      omega
    rw [e, Int.add_mul_ediv_left _ _ (show s ≠ 0 by omega), Int.ediv_eq_zero_of_lt (by omega) (by omega), Int.zero_add]
section
variable {P : Program} {w : World} {K : PySem.W.Frag} {mg : Str → Option Value} {base : Heap}
def spLeads : Sp := fun vs H Q _ => ∃ (a b d : Addr) (st sides mv : List Int), vs = [.ref a, .ref b, .ref d] ∧ H a = some (.tup (st.map V.int)) ∧ H b = some (.tup (sides.map V.int)) ∧ H d = some (.tup (mv.map V.int)) ∧ st.length = sides.length ∧ mv.length = sides.length ∧ sides.length ≤ 10 ∧ SidesOk sides ∧
  ∀ (r : Bool) H', Same H H' → (InItems (st.zip sides) mv → r = true) → Q (.bl r) H'
theorem ok_lLeads (F : Has K mg "_law_leads" s_lLeads ["_law_step", "_law_sides", "_law_move"]) (B : Blt mg) : Callee P w K mg base 1 "_law_leads" ["_law_step", "_law_sides", "_law_move"] spLeads := by
  have nd := sc_lLeads.nd
  refine callee_of F sc_lLeads (fun vs H Q E h => ?_) (fun f cdv A outer s H vs Q E hr h => ?_)
  · obtain ⟨a, b, d, st, sides, mv, rfl, _⟩ := h
    rfl
  · obtain ⟨a, b, d, st, sides, mv, rfl, ha, hb, hd, h1, h2, h3, hso, q⟩ := h
    refine ⟨_, (pss_cons
      (ps_for PassesOwn.never rfl (pi_range1 rfl B.range (pa_cons (pe_callB (len_K K rfl) (by rfl) B.len (by decide +kernel) (pa_cons (pv 1) pa_nil)) pa_nil)) (pg_name (i := 3) nd rfl (Or.inr rfl))
        (pss_cons
          (ps_setLc (i := 4) (own := [("_law_place", 5)]) rfl nd rfl rfl (sw_true rfl rfl rfl (by decide +kernel)) (pi_range1 rfl B.range (pa_cons (pe_ix (ix_tupK K rfl) (pv 1) (pv 3) (fun _ _ => rfl)) pa_nil)) (blkOk_by (by kernel_rfl)) (fun _ _ _ _ _ => (pg_name (i := 5) nd rfl (Or.inl rfl))) (fun _ _ _ _ _ => (pts_one (pt_cmpR op_eq (pe_op op_fdivN (pe_op op_add (pv 5) (pe_ix (ix_tupK K rfl) (pv 0) (pv 3) (fun _ _ => rfl))) (pe_ix (ix_tupK K rfl) (pv 1) (pv 3) (fun _ _ => rfl))) (pe_ix (ix_tupK K rfl) (pv 2) (pv 3) (fun _ _ => rfl)) (nomark _)))) (fun _ _ _ _ _ => (pv 5)))
        (pss_one
          (ps_if (pt_cmpR (op_eqK K rfl hr.units) (pv 4) (pe_lst pa_nil) (nomark _))
            (pss_one
              (ps_ret pe_bl))
            pss_nil))))
    (pss_one
      (ps_ret pe_bl))), ?_⟩
    refine ⟨_, rfl, b, _, rfl, .inr (SqT.of hb), _, rfl, by omega, by rw [List.length_map]; omega, ?_⟩
    rw [List.length_map, Int.toNat_natCast]
    refine for_it (walk_range (lo := 0) (n := sides.length)) (fun i σ H' => Same H H' ∧ ∃ y3 y4, σ = [some (.ref a), some (.ref b), some (.ref d), y3, y4, none]) ⟨Same.refl _, _, _, rfl⟩ (fun _ _ _ _ _ => trivial) (fun i x σ H2 H3 hi p' hy => ?_) fun σ H2 p' => ?_
    · obtain ⟨s2, y3, y4, rfl⟩ := p'
      obtain ⟨rfl, rfl⟩ := hy
      have g1 : st[i]? = some st[i] := List.getElem?_eq_getElem (by omega)
      have g2 : sides[i]? = some sides[i] := List.getElem?_eq_getElem hi
      have g3 : mv[i]? = some mv[i] := List.getElem?_eq_getElem (by omega)
      have hsd := hso sides[i] (List.getElem_mem hi)
      have at1 : atI (st.map V.int) (0 + (i : Nat)) = some (.int st[i]) := by
        rw [Int.zero_add]
        exact atI_nat (by rw [List.getElem?_map, g1]; rfl)
      have at2 : atI (sides.map V.int) (0 + (i : Nat)) = some (.int sides[i]) := by
        rw [Int.zero_add]
        exact atI_nat (by rw [List.getElem?_map, g2]; rfl)
      have at3 : atI (mv.map V.int) (0 + (i : Nat)) = some (.int mv[i]) := by
        rw [Int.zero_add]
        exact atI_nat (by rw [List.getElem?_map, g3]; rfl)
      have hit := fun h => inItems_at (st := st) (sides := sides) (m := mv) h g1 g2 g3
      generalize st[i] = sx at at1 hit
      generalize sides[i] = sd at at2 hit hsd
      generalize mv[i] = my at at3 hit
      refine ⟨_, rfl, _, rfl, b, _, _, _, rfl, rfl, s2.tup hb, at2, sd, rfl, by omega, by omega, fun D hD => ?_⟩
      refine lc_fm (walk_range (lo := 0) (n := sd.toNat)) (fun j => if decide (V.int (Int.fdiv (0 + (j : Nat) + sx) sd) = V.int my) then some (.int (0 + (j : Nat))) else none) hD (small_of (m := 1000) (by omega) (by decide)) (fun _ _ => trivial) (fun j x H4 H5 k kn hj s4 hy hk hkn => ?_) (fun H4 zs s4 h4 d4 _ => ?_)
      · obtain ⟨rfl, rfl⟩ := hy
        refine ⟨rfl, _, rfl, _, rfl, _, rfl, a, _, _, _, rfl, rfl, s4.tup (s2 _ _ ha), at1, _, _, rfl, rfl, _, rfl, _, rfl, b, _, _, _, rfl, rfl, s4.tup (s2 _ _ hb), at2, _, sd, rfl, rfl, ⟨by omega, by omega⟩, _, rfl, _, rfl, d, _, _, _, rfl, rfl, s4.tup (s2 _ _ hd), at3, rfl, _, rfl, ?_⟩
        cases hc : decide (V.int (Int.fdiv (0 + (j : Nat) + sx) sd) = V.int my) with
        | true => exact iteT ⟨_, rfl, hk _ _ (.int (0 + (j : Nat))) (if_pos hc) (Same.refl _) (.int _) (.int _)⟩
        | false => exact iteF (hkn _ (if_neg (by rw [hc]; exact Bool.false_ne_true)) (Same.refl _))
      · rw [fm_gen (List.range sd.toNat) (fun j => decide (V.int (Int.fdiv (0 + (j : Nat) + sx) sd) = V.int my)) fun j => 0 + ((j : Nat) : Int)] at d4
        have hl4 := h4
        rw [d4.ints] at hl4
        have hempty : InItems (st.zip sides) mv → ((List.range sd.toNat).filter fun j => decide (V.int (Int.fdiv (0 + (j : Nat) + sx) sd) = V.int my)) ≠ [] := fun h => by
          obtain ⟨p, p0, p1, e⟩ := items_place hsd.1 (hit h)
          obtain ⟨n, rfl⟩ := Int.eq_ofNat_of_zero_le p0
          refine List.ne_nil_of_mem (a := n) (List.mem_filter.mpr ⟨List.mem_range.mpr (by omega), decide_eq_true ?_⟩)
          rw [Int.zero_add, e]
        refine ⟨_, rfl, Nat.zero_le _, fun e0 he0 => ?_⟩
        have s5 := s4.trans (same_upd (o := .lst []) he0)
        refine ⟨.list ((((List.range sd.toNat).filter fun j => decide (V.int (Int.fdiv (0 + (j : Nat) + sx) sd) = V.int my)).map fun j => 0 + ((j : Nat) : Int)).map .int), .list [], (Dt.lst (upd_some he0 hl4) (dts_ints _ _)).dp, (Dt.lst upd_same .nil).dp, shaped_li _, shaped_li [], _, rfl, ?_⟩
        rw [eqv_nil_i]
        cases hq : ((List.range sd.toNat).filter fun j => decide (V.int (Int.fdiv (0 + (j : Nat) + sx) sd) = V.int my)) with
        | nil => exact iteT (q false _ (s2.trans s5) fun h => absurd hq (hempty h))
        | cons z r => exact iteF ⟨s2.trans s5, _, _, rfl⟩
    · obtain ⟨s2, y3, y4, rfl⟩ := p'
      exact q true _ s2 fun _ => rfl
end
end Wb
namespace Wb
open PySem PySem.Spec PyProof.Rows L2

theorem eqv_li (a b : List Int) : PyData.eqv (.list (a.map .int)) (.list (b.map .int)) = decide (a = b) := by
  rw [PyData.eqv]
  exact eqvAll_ints a b
theorem dotI_snoc : ∀ (xs ys : List Int) (x y : Int), xs.length = ys.length → dotI (xs ++ [x]) (ys ++ [y]) = dotI xs ys + x * y
  | [], [], x, y, _ => by
    show x * y + 0 = 0 + x * y
    omega
  | a :: xs, b :: ys, x, y, h => by
    rw [List.cons_append, List.cons_append, dotI_cons, dotI_cons, dotI_snoc xs ys x y (by simpa using h)]
    omega
  | [], _ :: _, _, _, h => by simp at h
  | _ :: _, [], _, _, h => by simp at h
/-- where the ring's first k moves end -/
def endsK (n : Nat) (cs : List Int) (mm : List (List Int)) (k : Nat) : List Int := (List.range n).map fun ax => dotI (cs.take k) ((mm.take k).map fun m => m.getD ax 0)
theorem endsK_at {n : Nat} {cs : List Int} {mm : List (List Int)} {k ax : Nat} (h : ax < n) : (endsK n cs mm k).getD ax 0 = dotI (cs.take k) ((mm.take k).map fun m => m.getD ax 0) := by
  unfold endsK
  rw [List.getD_eq_getElem?_getD, List.getElem?_map, List.getElem?_range h]
  rfl
theorem endsK_succ {n : Nat} {cs : List Int} {mm : List (List Int)} {k : Nat} {c : Int} {m : List Int} (h1 : cs[k]? = some c) (h2 : mm[k]? = some m) : endsK n cs mm (k + 1) = (List.range n).map fun ax => (endsK n cs mm k).getD ax 0 + c * m.getD ax 0 := by
  rw [show endsK n cs mm (k + 1) = (List.range n).map fun ax => dotI (cs.take (k + 1)) ((mm.take (k + 1)).map fun m => m.getD ax 0) from rfl]
  apply List.map_congr_left
  intro ax hax
  have hax' := List.mem_range.mp hax
  rw [endsK_at hax', take_next' h1, take_next' h2, List.map_append]
  have hl : (cs.take k).length = ((mm.take k).map fun m => m.getD ax 0).length := by
    have e1 := (List.getElem?_eq_some_iff.mp h1).1
    have e2 := (List.getElem?_eq_some_iff.mp h2).1
    rw [List.length_take, List.length_map, List.length_take]
    omega
  show dotI (cs.take k ++ [c]) ((mm.take k).map (fun m => m.getD ax 0) ++ [m.getD ax 0]) = _
  rw [dotI_snoc _ _ _ _ hl]
theorem endsK_zero (n : Nat) (cs : List Int) (mm : List (List Int)) : endsK n cs mm 0 = List.replicate n 0 := by
  unfold endsK
  rw [List.eq_replicate_iff]
  refine ⟨by rw [List.length_map, List.length_range], fun b hb => ?_⟩
  obtain ⟨ax, _, rfl⟩ := List.mem_map.mp hb
  rfl
theorem endsK_all {n : Nat} {cs : List Int} {mm : List (List Int)} (h : RingOk n mm cs) : endsK n cs mm mm.length = List.replicate n 0 := by
  unfold endsK
  rw [List.eq_replicate_iff]
  refine ⟨by rw [List.length_map, List.length_range], fun b hb => ?_⟩
  obtain ⟨ax, hax, rfl⟩ := List.mem_map.mp hb
  rw [List.take_length, List.take_of_length_le (by rw [h.1]; exact Nat.le_refl _)]
  exact h.2.2.2 ax (List.mem_range.mp hax)
theorem endsK_len (n : Nat) (cs : List Int) (mm : List (List Int)) (k : Nat) : (endsK n cs mm k).length = n := by
  unfold endsK
  rw [List.length_map, List.length_range]
section
variable {P : Program} {w : World} {K : PySem.W.Frag} {mg : Str → Option Value} {base : Heap}
def spRingRight : Sp := fun vs H Q _ => ∃ (a b d : Addr) (us : List V) (steps : List (List Int)) (sides cs : List Int), vs = [.ref a, .ref b, .ref d] ∧ H a = some (.tup us) ∧ Dts H us (steps.map vi) ∧ H b = some (.tup (sides.map V.int)) ∧ H d = some (.tup (cs.map V.int)) ∧
  StepsOk steps sides ∧ Sm steps ∧ RingOk sides.length (movesOf steps sides) cs ∧ ∀ H', Same H H' → Q (.bl true) H'
theorem ok_lRingRight (F : Has K mg "_law_ring_right" s_lRingRight ["_law_steps", "_law_sides", "_law_counts"]) (B : Blt mg) (c_movesOf : Callee P w K mg base 2 "moves_of" ["steps", "sides"] spMovesOf) (c_lLeads : Callee P w K mg base 1 "_law_leads" ["_law_step", "_law_sides", "_law_move"] spLeads) :
    Callee P w K mg base 3 "_law_ring_right" ["_law_steps", "_law_sides", "_law_counts"] spRingRight := by
  have nd := sc_lRingRight.nd
  refine callee_of F sc_lRingRight (fun vs H Q E h => ?_) (fun f cdv A outer s H vs Q E hr h => ?_)
  · obtain ⟨a, b, d, us, steps, sides, cs, rfl, _⟩ := h
    rfl
  · obtain ⟨a, b, d, us, steps, sides, cs, rfl, ha, hus, hb, hd, ok, sm, rg, q⟩ := h
    have c_lLeads := c_lLeads.mono (show 1 ≤ 2 by decide)
    have hn : 1 ≤ sides.length ∧ sides.length ≤ 2 := ⟨ok.2.1, ok.2.2.1⟩
    refine ⟨_, (pss_cons
      (ps_set (i := 3) nd rfl (Or.inr rfl) (pe_fn c_movesOf hr rfl (pa_cons (pv 0) (pa_cons (pv 1) pa_nil))))
    (pss_cons
      (ps_set (i := 4) nd rfl (Or.inr rfl) (pe_op (OpR.or op_mul op_rep) (pe_lst (pa_cons pe_int pa_nil)) (pe_callB (len_K K rfl) (by rfl) B.len (by decide +kernel) (pa_cons (pv 1) pa_nil))))
    (pss_cons
      (ps_for PassesOwn.never rfl (pi_range1 rfl B.range (pa_cons (pe_callB (len_K K rfl) (by rfl) B.len (by decide +kernel) (pa_cons (pv 3) pa_nil)) pa_nil)) (pg_name (i := 5) nd rfl (Or.inr rfl))
        (pss_cons
          (ps_setLc (i := 6) (own := [("_law_step", 7)]) rfl nd rfl rfl (sw_true rfl rfl rfl (by decide +kernel)) (pi_tupK K rfl (pv 0)) (blkOk_by (by kernel_rfl)) (fun _ _ _ _ _ => (pg_name (i := 7) nd rfl (Or.inl rfl))) (fun _ _ _ _ _ => (pts_one (pt_val (pe_fn c_lLeads hr rfl (pa_cons (pv 7) (pa_cons (pv 1) (pa_cons (pe_ix (ix_tupK K rfl) (pv 3) (pv 5) (fun _ _ => rfl)) pa_nil))))))) (fun _ _ _ _ _ => (pv 7)))
        (pss_cons
          (ps_if (PW.pt (pw_and (pt_cmpR op_gt (pe_ix (ix_tupK K rfl) (pv 2) (pv 5) (fun _ _ => rfl)) pe_int (nomark _)) (pw_and1 (pt_cmpR (op_eqK K rfl hr.units) (pv 6) (pe_lst pa_nil) (nomark _)))))
            (pss_one
              (ps_ret pe_bl))
            pss_nil)
        (pss_one
          (ps_set (i := 4) nd rfl (Or.inr rfl) (pe_lc (own := [("_law_axis", 8)]) rfl nd (pi_range1 rfl B.range (pa_cons (pe_callB (len_K K rfl) (by rfl) B.len (by decide +kernel) (pa_cons (pv 1) pa_nil)) pa_nil)) (blkOk_by (by kernel_rfl)) (fun _ _ _ _ _ => (pg_name (i := 8) nd rfl (Or.inl rfl))) (fun _ _ _ _ _ => pts_nil) (fun _ _ _ _ _ => (pe_op op_add (pe_ix (ix_listK K rfl) (pv 4) (pv 8) (fun _ _ => rfl)) (pe_op (OpR.or op_mul op_rep) (pe_ix (ix_tupK K rfl) (pv 2) (pv 5) (fun _ _ => rfl)) (pe_ix (ix_tupK K rfl) (pe_ix (ix_tupK K rfl) (pv 3) (pv 5) (fun _ _ => rfl)) (pv 8) (fun _ _ => rfl)))))))))))
    (pss_one
      (ps_ret (pe_and (pe_cmpR (op_eqK K rfl hr.units) (pv 4) (pe_op (OpR.or op_mul op_rep) (pe_lst (pa_cons pe_int pa_nil)) (pe_callB (len_K K rfl) (by rfl) B.len (by decide +kernel) (pa_cons (pv 1) pa_nil))) (nomark _)) (pe_one (pe_cmpR op_gt (pe_callB (sumT_K K rfl rfl) (by rfl) B.sum (by decide +kernel) (pa_cons (pv 2) pa_nil)) pe_int (nomark _))))))))), ?_⟩
    refine ⟨_, rfl, _, rfl, a, b, us, steps, sides, rfl, ha, hus, hb, ok, fun pm ms H1 s1 hpm hms => ?_⟩
    have mv := movesOf_mv ok sm
    have mlen := movesOf_len ok
    have mled : ∀ m ∈ movesOf steps sides, ∃ st ∈ steps, InItems (st.zip sides) m := fun m hm => (mem_movesOf.mp hm).2
    generalize movesOf steps sides = mm at *
    have hcl := rg.1
    refine ⟨ll rfl, fun z hz => ⟨_, rfl, b, _, rfl, .inr (SqT.of (upd_some hz (s1 _ _ hb))), .inr ⟨z, _, _, rfl, rfl, upd_same, by omega, by rw [List.length_map]; omega, ?_, fun fo hfo => ?_⟩⟩⟩
    · rw [List.length_map, Int.toNat_natCast]
      exact Nat.le_of_lt (small_of (m := 2) (by simp; omega) (by decide))
    rw [List.length_map, Int.toNat_natCast, zeros_flat]
    have s2 : Same H (upd H1 z (.lst [.int 0])) := s1.trans (same_upd hz)
    have hms2 := hms.same (same_upd (o := .lst [.int 0]) hz)
    have hpm2 := upd_some (o := .lst [.int 0]) hz hpm
    generalize upd H1 z (.lst [.int 0]) = H2 at s2 hms2 hpm2 hfo ⊢
    have s3 := s2.trans (same_upd (o := .lst ((List.replicate sides.length (0 : Int)).map V.int)) hfo)
    have hms3 := hms2.same (same_upd (o := .lst ((List.replicate sides.length (0 : Int)).map V.int)) hfo)
    have hpm3 := upd_some (o := .lst ((List.replicate sides.length (0 : Int)).map V.int)) hfo hpm2
    have hfo3 : upd H2 fo (.lst ((List.replicate sides.length (0 : Int)).map V.int)) fo = some (.lst ((List.replicate sides.length (0 : Int)).map V.int)) := upd_same
    generalize upd H2 fo (.lst ((List.replicate sides.length (0 : Int)).map V.int)) = H3 at s3 hms3 hpm3 hfo3 ⊢
    have hml := vis_len hms3
    refine ⟨_, rfl, pm, _, rfl, .inr (SqT.of hpm3), _, rfl, by omega, by omega, ?_⟩
    rw [hml, Int.toNat_natCast]
    refine for_it (walk_range (lo := 0) (n := mm.length)) (fun i σ H' => Same H3 H' ∧ ∃ (eo : Addr) (y5 y6 : Option V), σ = [some (.ref a), some (.ref b), some (.ref d), some (.ref pm), some (.ref eo), y5, y6, none, none] ∧ H' eo = some (.lst ((endsK sides.length cs mm i).map V.int)))
      ⟨Same.refl _, fo, _, _, rfl, by rw [endsK_zero]; exact hfo3⟩ (fun _ _ _ _ _ => trivial) (fun i x σ H4 H5 hi p' hy => ?_) fun σ H4 p' => ?_
    · obtain ⟨s4, eo, y5, y6, rfl, heo⟩ := p'
      obtain ⟨rfl, rfl⟩ := hy
      have s35 := s3.trans s4
      have ha5 := s35 _ _ ha
      have hb5 := s35 _ _ hb
      have hd5 := s35 _ _ hd
      have hus5 := hus.same s35
      have gm : mm[i]? = some mm[i] := List.getElem?_eq_getElem hi
      have gc : cs[i]? = some cs[i] := List.getElem?_eq_getElem (by omega)
      have hmm := List.getElem_mem hi
      have hcb := rg.2.1 cs[i] (List.getElem_mem (by omega))
      obtain ⟨vm, evm, dvm⟩ := hms3.get (i := i) (d := vi mm[i]) (by rw [List.getElem?_map, gm]; rfl)
      obtain ⟨am, rfl, ham⟩ := dvm.viI
      have hmvi := mv mm[i] hmm
      have hled := mled mm[i] hmm
      have esucc := endsK_succ (n := sides.length) gc gm
      have at2 : atI (cs.map V.int) (0 + (i : Nat)) = some (.int cs[i]) := by
        rw [Int.zero_add]
        exact atI_nat (by rw [List.getElem?_map, gc]; rfl)
      have at3 : atI ms (0 + (i : Nat)) = some (.ref am) := by
        rw [Int.zero_add]
        exact atI_nat evm
      generalize mm[i] = mk at ham hmvi hled esucc
      generalize cs[i] = ck at at2 esucc hcb
      have ham5 := s4 _ _ ham
      refine ⟨_, rfl, a, rfl, ⟨us, SqT.of ha5⟩, fun D hD => ?_⟩
      refine lc_it (walk_tup (xs := us)) (fun j H' => Same H5 H' ∧ ∃ (ys : List V) (L : List (List Int)), H' D = some (.lst ys) ∧ ys.length ≤ j ∧ Dts H' ys (L.map vi) ∧ ∀ (j' : Nat) st, j' < j → steps[j']? = some st → InItems (st.zip sides) mk → L ≠ [])
        ⟨same_upd hD, [], [], upd_same, Nat.le_refl _, .nil, fun _ _ h => absurd h (Nat.not_lt_zero _)⟩ (fun j H' _ p => p.1.tup ha5) (fun j x H6 H7 hj p hy => ?_) fun H6 p => ?_
      · obtain ⟨s6, ys, L, hD6, hyl, hdl, hall⟩ := p
        obtain ⟨rfl, ex⟩ := hy
        obtain ⟨ast, st, rfl, est, hst⟩ := dts_vis hus5 ex
        have hst' := ok.2.2.2.2 st (List.mem_of_getElem? est)
        refine ⟨rfl, _, rfl, _, rfl, _, rfl, _, rfl, pm, _, _, _, rfl, rfl, SqT.of (s6 _ _ (s4 _ _ hpm3)), at3, ast, b, am, st, sides, mk, rfl, s6 _ _ hst, s6 _ _ hb5, s6 _ _ ham5, hst'.1, hmvi.1, by omega, ok.2.2.2.1, fun r H8 s8 hrr => ⟨r, rfl, ?_⟩⟩
        have s68 := s6.trans s8
        cases r with
        | true =>
          refine iteT ⟨_, rfl, ys, s8 _ _ hD6, ?_, ?_⟩
          · have : us.length ≤ 18 := by
              have := vis_len hus5
              have := ok.1
              omega
            exact small_of (m := 18) (by omega) (by decide)
          have kt : KeepT H8 (upd H8 D (.lst (ys ++ [.ref ast]))) := kt_frz (s8 _ _ hD6) (fun xs z => nomatch z)
          refine ⟨fun b' o e => ?_, ys ++ [.ref ast], L ++ [st], upd_same, by simp; omega, ?_, fun _ _ _ _ _ => by simp⟩
          · rw [upd_ne (ne_of_none e hD)]
            exact s68 _ _ e
          · rw [List.map_append]
            exact Dts.app ((hdl.same s8).kt kt) (.cons (dt_vi (kt _ _ (s68 _ _ hst))) .nil)
        | false =>
          refine iteF ⟨s68, ys, L, s8 _ _ hD6, by omega, hdl.same s8, fun j' st' hj' e' hin => ?_⟩
          by_cases ej : j' = j
          · subst ej
            rw [est] at e'
            cases e'
            exact absurd (hrr hin) Bool.false_ne_true
          · exact hall j' st' (by omega) e' hin
      · obtain ⟨s6, ys, L, hD6, hyl, hdl, hall⟩ := p
        have hLne : L ≠ [] := by
          obtain ⟨st, hst, hin⟩ := hled
          obtain ⟨j', hj', e'⟩ := List.mem_iff_getElem.mp hst
          exact hall j' st (by rw [vis_len hus5]; exact hj') (by rw [List.getElem?_eq_getElem hj', e']) hin
        have s36 := s35.trans s6
        dsimp only [gName]
        refine seq_ok (fun σ' H' => σ' = [some (.ref a), some (.ref b), some (.ref d), some (.ref pm), some (.ref eo), some (.int (0 + (i : Nat))), some (.ref D), none, none] ∧ Same H6 H') (fun D' _ hn' => ?_) fun σ' H' p' => ?_
        · refine ⟨_, rfl, _, rfl, d, _, _, _, rfl, rfl, SqT.of (s36 _ _ hd), at2, _, _, rfl, rfl, _, rfl, ?_⟩
          refine ite_any ?_ (hn' _ _ ⟨rfl, Same.refl _⟩)
          refine ⟨_, rfl, Nat.zero_le _, fun e0 he0 => ?_⟩
          refine ⟨.list (L.map vi), .list [], (Dt.lst (upd_some he0 hD6) (hdl.same (same_upd he0))).dp, (Dt.lst upd_same .nil).dp, shaped_lv _, shaped_lv [], _, rfl, ?_⟩
          rw [eqv_nil_l]
          cases L with
          | nil => exact absurd rfl hLne
          | cons l0 L => exact iteF (hn' _ _ ⟨rfl, same_upd he0⟩)
        · obtain ⟨rfl, s7⟩ := p'
          have s37 := s36.trans s7
          have s57 := s6.trans s7
          refine ⟨_, rfl, b, _, rfl, .inr (SqT.of (s37 _ _ hb)), _, rfl, by omega, by rw [List.length_map]; omega, fun D2 hD2 => ?_⟩
          rw [List.length_map, Int.toNat_natCast]
          have heo7 := s57 _ _ heo
          refine lc_fm (walk_range (lo := 0) (n := sides.length)) (fun ax => some (.int ((endsK sides.length cs mm i).getD ax 0 + ck * mk.getD ax 0))) hD2 (small_of (m := 2) hn.2 (by decide)) (fun _ _ => trivial) (fun ax x H8 H9 k kn hax s8 hy hk hkn => ?_) (fun H8 zs s8 h8 d8 _ => ?_)
          · obtain ⟨rfl, rfl⟩ := hy
            have l1 : ax < (endsK sides.length cs mm i).length := by rw [endsK_len]; exact hax
            have l2 : ax < mk.length := by rw [hmvi.1]; exact hax
            have g1 : (endsK sides.length cs mm i)[ax]? = some ((endsK sides.length cs mm i)[ax]'l1) := List.getElem?_eq_getElem l1
            have g2 : mk[ax]? = some (mk[ax]'l2) := List.getElem?_eq_getElem l2
            have at4 : atI ((endsK sides.length cs mm i).map V.int) (0 + (ax : Nat)) = some (.int ((endsK sides.length cs mm i).getD ax 0)) := by
              rw [Int.zero_add]
              exact atI_nat (by rw [List.getElem?_map, List.getD_eq_getElem?_getD, g1]; rfl)
            have at5 : atI (mk.map V.int) (0 + (ax : Nat)) = some (.int (mk.getD ax 0)) := by
              rw [Int.zero_add]
              exact atI_nat (by rw [List.getElem?_map, List.getD_eq_getElem?_getD, g2]; rfl)
            exact ⟨rfl, _, rfl, _, rfl, eo, _, _, _, rfl, rfl, SqL.of (s8 _ _ heo7), at4, _, rfl, _, rfl, d, _, _, _, rfl, rfl, SqT.of (s8 _ _ (s37 _ _ hd)), at2, _, rfl, _, rfl, pm, _, _, _, rfl, rfl, SqT.of (s8 _ _ (s57 _ _ (s4 _ _ hpm3))), at3, _, rfl, am, _, _, _, rfl, rfl, SqT.of (s8 _ _ (s57 _ _ ham5)), at5,
              .inl ⟨_, _, rfl, rfl, .inl ⟨by omega, by omega⟩, _, _, rfl, rfl, hk _ _ (.int ((endsK sides.length cs mm i).getD ax 0 + ck * mk.getD ax 0)) rfl (Same.refl _) (.int _) (.int _)⟩⟩
          · have e : (List.range sides.length).filterMap (fun ax => some (PyData.int ((endsK sides.length cs mm i).getD ax 0 + ck * mk.getD ax 0))) = (endsK sides.length cs mm (i + 1)).map PyData.int := by
              rw [esucc, List.filterMap_eq_map', List.map_map]
              rfl
            rw [e] at d8
            rw [d8.ints] at h8
            exact ⟨(s4.trans s57).trans s8, D2, _, _, rfl, h8⟩
    · obtain ⟨s4, eo, y5, y6, rfl, heo⟩ := p'
      rw [endsK_all rg] at heo
      have s34 := s3.trans s4
      refine ⟨_, rfl, ll rfl, fun z2 hz2 => ⟨_, rfl, b, _, rfl, .inr (SqT.of (upd_some hz2 (s34 _ _ hb))), .inr ⟨z2, _, _, rfl, rfl, upd_same, by omega, by rw [List.length_map]; omega, ?_, fun fo2 hfo2 => ?_⟩⟩⟩
      · rw [List.length_map, Int.toNat_natCast]
        exact Nat.le_of_lt (small_of (m := 2) (by simp; omega) (by decide))
      rw [List.length_map, Int.toNat_natCast, zeros_flat]
      refine ⟨.list ((List.replicate sides.length (0 : Int)).map .int), .list ((List.replicate sides.length (0 : Int)).map .int), (Dt.lst (upd_some hfo2 (upd_some hz2 heo)) (dts_ints _ _)).dp, (Dt.lst upd_same (dts_ints _ _)).dp, shaped_li _, shaped_li _, _, rfl, ?_⟩
      rw [eqv_li, decide_eq_true rfl]
      have s5 : Same H (upd (upd H4 z2 (.lst [.int 0])) fo2 (.lst ((List.replicate sides.length (0 : Int)).map V.int))) := (s34.trans (same_upd hz2)).trans (same_upd hfo2)
      refine iteT ⟨_, rfl, d, cs, rfl, SqT.of (s5 _ _ hd), _, _, rfl, rfl, ?_⟩
      show Q (.bl (decide (1 < cs.sum))) _
      rw [decide_eq_true rg.2.2.1]
      exact q _ s5
end
end Wb
namespace Wb
open PySem PySem.Spec PyProof.Rows L2

/-! ### an order of the moves is an order of the blocks -/
def stepsOf (rules : List Rule) (rs : List (List Int)) : List (List Int) := rules.flatMap fun r => r.2.map fun rd => rs.map fun row => dotI row rd.2
theorem dotI_sub : ∀ (xs ys zs : List Int), ys.length = zs.length → dotI xs (diffI ys zs) = dotI xs ys - dotI xs zs
  | [], _, _, _ => rfl
  | x :: xs, [], [], _ => rfl
  | x :: xs, y :: ys, z :: zs, h => by
    show x * (y - z) + dotI xs (diffI ys zs) = (x * y + dotI xs ys) - (x * z + dotI xs zs)
    rw [dotI_sub xs ys zs (by simpa using h), Int.mul_sub]
    omega
  | _ :: _, [], _ :: _, h => by simp at h
  | _ :: _, _ :: _, [], h => by simp at h
theorem sub_items {a x s : Int} (hs : 1 ≤ s) : Int.fdiv a s - Int.fdiv (a - x) s ∈ itemsOf x s := by
  unfold itemsOf
  rw [Int.fmod_eq_emod_of_nonneg _ (show 0 ≤ s by omega), Int.fdiv_eq_ediv_of_nonneg _ (show 0 ≤ s by omega), Int.fdiv_eq_ediv_of_nonneg _ (show 0 ≤ s by omega), Int.fdiv_eq_ediv_of_nonneg _ (show 0 ≤ s by omega)]
  have h1 := Int.emod_nonneg x (show s ≠ 0 by omega)
  have h2 := Int.emod_lt_of_pos x (show 0 < s by omega)
  have h3 := Int.mul_ediv_add_emod x s
  have g1 := Int.emod_nonneg a (show s ≠ 0 by omega)
  have g2 := Int.emod_lt_of_pos a (show 0 < s by omega)
  have g3 := Int.mul_ediv_add_emod a s
  have e : a - x = (a % s - x % s) + s * (a / s - x / s) := by
    rw [Int.mul_sub]
    omega
  have e2 : (a - x) / s = (a % s - x % s) / s + (a / s - x / s) := by
    rw [show (a - x) / s = ((a % s - x % s) + s * (a / s - x / s)) / s by rw [← e], Int.add_mul_ediv_left _ _ (show s ≠ 0 by omega)]
  rw [e2]
  by_cases c : x % s ≤ a % s
  · have z : (a % s - x % s) / s = 0 := Int.ediv_eq_zero_of_lt (by omega) (by omega)
    rw [z]
    have e3 : a / s - (0 + (a / s - x / s)) = x / s := by omega
    rw [e3]
    split <;> simp
  · have e4 : (a % s - x % s) / s = -1 := by
      have : a % s - x % s = (a % s - x % s + s) + s * (-1) := by omega
      have z : (a % s - x % s + s) / s = 0 := Int.ediv_eq_zero_of_lt (by omega) (by omega)
      rw [this, Int.add_mul_ediv_left _ _ (show s ≠ 0 by omega), z]
      rfl
    have e3 : a / s - (-1 + (a / s - x / s)) = x / s + 1 := by omega
    rw [e4, e3, if_neg (by omega)]
    simp
theorem in_items_blocks {pt d : List Int} (hl : pt.length = d.length) : ∀ {rs : List (List Int)} {sides : List Int}, rs.length = sides.length → SidesOk sides →
    InItems ((rs.map fun row => dotI row d).zip sides) (diffI (blockAt rs sides pt) (blockAt rs sides (diffI pt d)))
  | [], [], _, _ => trivial
  | r :: rs, s :: sides, h, hs => by
    have ih := in_items_blocks hl (rs := rs) (sides := sides) (by simpa using h) fun x hx => hs x (by simp [hx])
    refine ⟨?_, ih⟩
    show Int.fdiv (dotI r pt) s - Int.fdiv (dotI r (diffI pt d)) s ∈ itemsOf (dotI r d) s
    rw [dotI_sub r pt d hl]
    exact sub_items (hs s (by simp)).1
  | [], _ :: _, h, _ => by simp at h
  | _ :: _, [], h, _ => by simp at h
theorem nz_diff : ∀ {b w : List Int}, b.length = w.length → w ≠ b → nzero (diffI b w) = true
  | [], [], _, h => absurd rfl h
  | x :: b, y :: w, hl, h => by
    show ((x - y) :: diffI b w).any _ = true
    rw [List.any_cons, Bool.or_eq_true]
    by_cases c : x = y
    · subst c
      exact .inr (nz_diff (b := b) (w := w) (by simpa using hl) fun e => h (by rw [e]))
    · exact .inl (decide_eq_true (by omega))
  | [], _ :: _, hl, _ => by simp at hl
  | _ :: _, [], hl, _ => by simp at hl
theorem rel_of_order {n : Nat} {rules : List Rule} {rs : List (List Int)} {sides box h : List Int} (ok : LayOk rs sides box) (fok : FlowOk box.length rules) (hm : ∀ m ∈ movesOf (stepsOf rules rs) sides, 1 ≤ dotI h m) :
    RelOk rules rs sides box fun w b => dotI h w < dotI h b := by
  obtain ⟨ok1, ok2, ok3, ok4, ok5, ok6⟩ := ok
  intro pt hpt r hr rd hrd hin hne
  have hl : pt.length = rd.2.length := by rw [points_row pt hpt, ((fok.2 r hr).2 rd hrd).1]
  have hb : (blockAt rs sides pt).length = (blockAt rs sides (diffI pt rd.2)).length := by rw [blockAt_len ok2, blockAt_len ok2]
  have mem : diffI (blockAt rs sides pt) (blockAt rs sides (diffI pt rd.2)) ∈ movesOf (stepsOf rules rs) sides := mem_movesOf.mpr ⟨nz_diff hb hne, rs.map fun row => dotI row rd.2, List.mem_flatMap.mpr ⟨r, hr, List.mem_map.mpr ⟨rd, hrd, rfl⟩⟩, in_items_blocks hl ok2 ok5⟩
  have q := hm _ mem
  rw [dotI_sub _ _ _ hb] at q
  show dotI h (blockAt rs sides (diffI pt rd.2)) < dotI h (blockAt rs sides pt)
  omega

/-! ### sizes -/
theorem dot_bd {A B : Int} (hA : 0 ≤ A) (hB : 0 ≤ B) : ∀ (xs ys : List Int), (∀ x ∈ xs, -A ≤ x ∧ x ≤ A) → (∀ y ∈ ys, -B ≤ y ∧ y ≤ B) → -(A * B * xs.length) ≤ dotI xs ys ∧ dotI xs ys ≤ A * B * xs.length
  | [], _, _, _ => by
    show -(A * B * 0) ≤ 0 ∧ 0 ≤ A * B * 0
    omega
  | x :: xs, [], _, _ => by
    have h1 := Int.mul_nonneg (Int.mul_nonneg hA hB) (Int.natCast_nonneg (x :: xs).length)
    show -(A * B * _) ≤ 0 ∧ 0 ≤ A * B * _
    omega
  | x :: xs, y :: ys, hx, hy => by
    obtain ⟨q1, q2⟩ := dot_bd hA hB xs ys (fun z hz => hx z (by simp [hz])) (fun z hz => hy z (by simp [hz]))
    have b1 := hx x (by simp)
    have b2 := hy y (by simp)
    have p : -(A * B) ≤ x * y ∧ x * y ≤ A * B := by
      have h1 := Int.mul_nonneg (show 0 ≤ A + x by omega) (show 0 ≤ B + y by omega)
      have h2 := Int.mul_nonneg (show 0 ≤ A - x by omega) (show 0 ≤ B - y by omega)
      have h3 := Int.mul_nonneg (show 0 ≤ A + x by omega) (show 0 ≤ B - y by omega)
      have h4 := Int.mul_nonneg (show 0 ≤ A - x by omega) (show 0 ≤ B + y by omega)
      simp only [Int.mul_add, Int.add_mul, Int.mul_sub, Int.sub_mul] at h1 h2 h3 h4
      omega
    rw [dotI_cons, List.length_cons]
    have e : A * B * ((xs.length + 1 : Nat) : Int) = A * B * xs.length + A * B := by
      rw [Int.natCast_succ, Int.mul_add, Int.mul_one]
    rw [e]
    omega
theorem fdiv_bd {a s M : Int} (hs : 1 ≤ s) (h0 : 0 ≤ M) (h : -M ≤ a ∧ a ≤ M) : -M ≤ Int.fdiv a s ∧ Int.fdiv a s ≤ M := by
  rw [Int.fdiv_eq_ediv_of_nonneg _ (by omega)]
  have hM := Int.mul_le_mul_of_nonneg_left hs h0
  constructor
  · rw [Int.le_ediv_iff_mul_le (by omega), Int.neg_mul]
    omega
  · have h2 : a / s < M + 1 := by
      rw [Int.ediv_lt_iff_lt_mul (by omega), Int.add_mul]
      omega
    omega
theorem grid_bd : ∀ {box : List Int}, (∀ n ∈ box, n ≤ 1000) → ∀ {rows : List (List Int)}, (∀ r ∈ rows, ∀ x ∈ r, 0 ≤ x ∧ x ≤ 1000) → ∀ r ∈ box.foldl gridRows rows, ∀ x ∈ r, 0 ≤ x ∧ x ≤ 1000
  | [], _, _, h => h
  | s :: box, hb, rows, h => by
    rw [List.foldl_cons]
    refine grid_bd (box := box) (fun n hn => hb n (by simp [hn])) fun r hr x hx => ?_
    obtain ⟨row, h1, h2⟩ := List.mem_flatMap.mp hr
    obtain ⟨i, hi, rfl⟩ := List.mem_map.mp h2
    have hi' := List.mem_range.mp hi
    have hs := hb s (by simp)
    rcases List.mem_append.mp hx with hx | hx
    · exact h row h1 x hx
    · have e : x = (i : Int) := by simpa using hx
      omega
theorem block_bd {rs : List (List Int)} {sides box : List Int} (hb : BoxOk box) (hs : SidesOk sides) (hr : ∀ r ∈ rs, r.length ≤ 3 ∧ ∀ x ∈ r, -10 ≤ x ∧ x ≤ 10) : ∀ k ∈ blocksOf rs sides box, ∀ x ∈ k, -(10 ^ 40) ≤ x ∧ x ≤ 10 ^ 40 := fun k hk x hx => by
  obtain ⟨pt, hpt, rfl⟩ := mem_blocksOf.mp hk
  have hp := grid_bd (box := box) (fun n hn => (hb.1 n hn).2) (rows := [[]]) (fun r hr x hx => by
    have e : r = [] := by simpa using hr
    subst e
    simp at hx) pt hpt
  unfold blockAt blockOf at hx
  obtain ⟨i, hi, e⟩ := List.mem_iff_getElem.mp hx
  rw [List.getElem_zipWith, List.getElem_map] at e
  rw [List.length_zipWith, List.length_map] at hi
  have h1 := hr rs[i] (List.getElem_mem (by omega))
  have h2 := (hs sides[i] (List.getElem_mem (by omega))).1
  have h3 := dot_bd (A := 10) (B := 1000) (by omega) (by omega) rs[i] pt h1.2 fun y hy => by have := hp y hy; omega
  have h4 := fdiv_bd (M := 30000) h2 (by omega) (a := dotI rs[i] pt) (by omega)
  rw [e] at h4
  have : (30000 : Int) ≤ 10 ^ 40 := by decide
  omega

/-! ### blocks in the order of their numbers -/
def pairI (p : Int × List Int) : PyData := .tuple [.int p.1, vi p.2]
theorem alike_pairI (p q : Int × List Int) : PySem.W.alike (pairI p) (pairI q) = true := by
  unfold pairI
  rw [PySem.W.alike, PySem.W.alikeAll, PySem.W.alikeAll, PySem.W.alikeAll, alike_vi]
  simp [PySem.W.alike]
theorem depth_pairI (p : Int × List Int) : (pairI p).depth ≤ 8 := by
  unfold pairI
  rw [PyData.depth, PyData.depthAll, PyData.depthAll, PyData.depthAll, depth_vi]
  simp [PyData.depth]
theorem le_pairI {p q : Int × List Int} (h : PySem.W.dataLe false pairI p q = true) : p.1 ≤ q.1 := by
  have e : PySem.W.dataLe false pairI p q = !PySem.W.dataLt (pairI q) (pairI p) := rfl
  rw [e] at h
  unfold pairI at h
  rw [PySem.W.dataLt_pair (by simp [PySem.W.alike]) (alike_vi _ _), PySem.W.dataLt_int] at h
  by_cases c : q.1 = p.1
  · omega
  · rw [if_neg (by simpa [PyData.eqv] using c)] at h
    have : ¬ q.1 < p.1 := by simpa using h
    omega
end Wb
namespace Wb
open PySem PySem.Spec PyProof.Rows L2

theorem dts_zip {α : Type} {g : α → PyData} {H : Hp} : ∀ {zs : List V} {ds : List α}, Dts H zs (ds.map g) → ∃ QL : List (V × α), zs = QL.map (·.1) ∧ QL.map (·.2) = ds ∧ ∀ q ∈ QL, Dt H q.1 (g q.2)
  | _, [], h => by
    cases h
    exact ⟨[], rfl, rfl, fun _ h => nomatch h⟩
  | _, d :: ds, h => by
    obtain ⟨v, us, rfl, h1, h2⟩ := Dts.consI (d := g d) (ds := ds.map g) h
    obtain ⟨QL, e1, e2, e3⟩ := dts_zip h2
    refine ⟨(v, d) :: QL, by rw [e1]; rfl, by rw [List.map_cons, e2], fun q hq => ?_⟩
    rcases List.mem_cons.mp hq with rfl | hq
    · exact h1
    · exact e3 q hq
theorem dt_pairII {H : Hp} {v : V} {p : Int × List Int} (h : Dt H v (pairI p)) : ∃ a b, v = .ref a ∧ H a = some (.tup [.int p.1, .ref b]) ∧ H b = some (.tup (p.2.map V.int)) := by
  obtain ⟨a, xs, rfl, ha, t⟩ := h.tupI
  obtain ⟨v1, u1, rfl, d1, t⟩ := t.consI
  obtain ⟨v2, rfl, d2⟩ := t.one
  cases d1
  obtain ⟨b, rfl, hb⟩ := d2.viI
  exact ⟨a, b, rfl, ha, hb⟩
theorem only_pairI (p : Int × List Int) : OnlyT (pairI p) := .tup (.cons (.int _) (.cons (only_vi _) .nil))
/-- the pairs in order -/
theorem sorted_pairs {QL : List (V × (Int × List Int))} : (QL.mergeSort (PySem.W.dataLe false fun q => pairI q.2)).Pairwise fun p q => p.2.1 ≤ q.2.1 := by
  have h : (QL.mergeSort (PySem.W.dataLe false fun q => pairI q.2)).Pairwise fun a b => PySem.W.dataLe false (fun q : V × (Int × List Int) => pairI q.2) a b = true := PySem.W.sort_pairwise (le := PySem.W.dataLe false fun q : V × (Int × List Int) => pairI q.2) (PySem.W.sortLe_total _ _ _) QL
  exact h.imp fun {a b} hab => le_pairI (p := a.2) (q := b.2) hab
theorem sort_fst (QL : List (V × (Int × List Int))) : ((QL.map fun q => (q.1, pairI q.2)).mergeSort (PySem.W.dataLe false fun b : V × PyData => b.2)).map (·.1) = (QL.mergeSort (PySem.W.dataLe false fun q => pairI q.2)).map (·.1) := by
  have e := PySem.W.sort_maps (r := PySem.W.dataLe false fun q : V × (Int × List Int) => pairI q.2) (s := PySem.W.dataLe false fun b : V × PyData => b.2) (fun q : V × (Int × List Int) => (q.1, pairI q.2)) (l := QL) fun _ _ _ _ => rfl
  rw [← e, List.map_map]
  rfl
theorem stepsOf_len {n : Nat} {rules : List Rule} {rs : List (List Int)} (h : LFlow n rules) : (stepsOf rules rs).length ≤ 9 := by
  have q : ∀ l : List Rule, (∀ r ∈ l, r.2.length ≤ 3) → (stepsOf l rs).length ≤ l.length * 3 := fun l => by
    induction l with
    | nil => intro _; simp [stepsOf]
    | cons a l ih =>
      intro hl
      have h1 := ih fun r hr => hl r (by simp [hr])
      have h2 := hl a (by simp)
      unfold stepsOf at h1 ⊢
      rw [List.flatMap_cons, List.length_append, List.length_map, List.length_cons]
      omega
  have h1 := q rules fun r hr => (h.2 r hr).1
  have h2 := h.1
  omega
theorem stepsOf_mem {rules : List Rule} {rs : List (List Int)} {st : List Int} (h : st ∈ stepsOf rules rs) : ∃ r ∈ rules, ∃ rd ∈ r.2, st = rs.map fun row => dotI row rd.2 := by
  obtain ⟨r, h1, h2⟩ := List.mem_flatMap.mp h
  obtain ⟨rd, h3, h4⟩ := List.mem_map.mp h2
  exact ⟨r, h1, rd, h3, h4.symm⟩
theorem steps_ok {n : Nat} {rules : List Rule} {rs : List (List Int)} {sides : List Int} (hn : n = 2 ∨ n = 3) (hf : LFlow n rules) (hr : LRows n rs) (hl : sides.length = rs.length) (hs : ∀ x ∈ sides, 1 ≤ x ∧ x ≤ 5) : StepsOk (stepsOf rules rs) sides ∧ Sm (stepsOf rules rs) := by
  have sm : Sm (stepsOf rules rs) := fun st hst x hx => by
    obtain ⟨r, h1, rd, h3, rfl⟩ := stepsOf_mem hst
    obtain ⟨row, hrow, rfl⟩ := List.mem_map.mp hx
    have hrd := (hf.2 r h1).2 rd h3
    have hro := hr.2 row hrow
    have q := dot_bd (A := 10) (B := 4) (by omega) (by omega) row rd.2 hro.2 hrd.2
    rw [hro.1] at q
    omega
  have e := hr.1
  refine ⟨⟨?_, by omega, by omega, fun s hs' => by have := hs s hs'; omega, fun st hst => ⟨?_, fun x hx => by have := sm st hst x hx; omega⟩⟩, sm⟩
  · have := stepsOf_len (rs := rs) hf
    omega
  · obtain ⟨r, h1, rd, h3, rfl⟩ := stepsOf_mem hst
    rw [List.length_map, hl]
theorem lay_ok {n : Nat} {rs : List (List Int)} {sides box : List Int} (hn : n = 2 ∨ n = 3) (hr : LRows n rs) (hl : sides.length = rs.length) (hs : ∀ x ∈ sides, 1 ≤ x ∧ x ≤ 5) (hb : box.length = n) (hx : ∀ x ∈ box, 1 ≤ x ∧ x ≤ 1000) (hp : prodI box ≤ 30) : LayOk rs sides box := by
  have e := hr.1
  refine ⟨fun r hr' => ⟨by rw [(hr.2 r hr').1, hb], fun x hx' => by have := (hr.2 r hr').2 x hx'; omega⟩, hl.symm, by omega, by omega, fun s hs' => by have := hs s hs'; omega, hx, by omega, by omega⟩
end Wb
namespace Wb
open PySem PySem.Spec PyProof.Rows L2

section
variable {P : Program} {w : World} {K : PySem.W.Frag} {mg : Str → Option Value} {base : Heap}
def spLaw (K : PySem.W.Frag) : Sp := fun vs H Q _ => ∃ (a : Addr) (ns : List Int), vs = [.ref a] ∧ SqL K H a (ns.map V.int) ∧ ns.length ≤ 63 ∧ ∀ H', Q (.bl true) H'
set_option maxHeartbeats 2000000 in
theorem ok_law (F : Has K mg "law" s_law ["_law_script"]) (B : Blt mg) (C : Consts mg) (c_lMill : Callee P w K mg base 1 "_law_mill" ["_law_script"] (spMill K)) (c_lFlow : Callee P w K mg base 4 "_law_flow" ["_law_mill_here", "_law_dims", "_law_most", "_law_high"] spFlow)
    (c_lAim : Callee P w K mg base 3 "_law_aim" ["_law_mill_here", "_law_dims"] spAim) (c_lGrind : Callee P w K mg base 1 "_law_grind" ["_law_mill_here", "_law_many"] spGrind) (c_lBox : Callee P w K mg base 3 "_law_box" ["_law_mill_here", "_law_dims", "_law_most"] spBox)
    (c_lDot : Callee P w K mg base 1 "_law_dot" ["_law_one", "_law_other"] spLDot) (c_findOrder : Callee P w K mg base 4 "find_order" ["steps", "sides"] spFindOrder) (c_lRingRight : Callee P w K mg base 3 "_law_ring_right" ["_law_steps", "_law_sides", "_law_counts"] spRingRight)
    (c_blocksOf : Callee P w K mg base 4 "blocks_of" ["rows", "sides", "box"] spBlocksOf) (c_planHolds : Callee P w K mg base 6 "plan_holds" ["flow", "rows", "sides", "box", "value"] spPlanHolds) (c_findPlan : Callee P w K mg base 6 "find_plan" ["flow", "rows", "sides", "box"] spFindPlan) :
    Callee P w K mg base 7 "law" ["_law_script"] (spLaw K) := by
  have nd := sc_law.nd
  refine callee_of F sc_law (fun vs H Q E h => ?_) (fun f cdv A outer s H vs Q E hr h => ?_)
  · obtain ⟨a, ns, rfl, _⟩ := h
    rfl
  · obtain ⟨a, ns, rfl, hS, hlen, q⟩ := h
    have hu := hu_of hr
    have c_lMill := c_lMill.mono (show 1 ≤ 6 by decide)
    have c_lFlow := c_lFlow.mono (show 4 ≤ 6 by decide)
    have c_lAim := c_lAim.mono (show 3 ≤ 6 by decide)
    have c_lGrind := c_lGrind.mono (show 1 ≤ 6 by decide)
    have c_lBox := c_lBox.mono (show 3 ≤ 6 by decide)
    have c_lDot := c_lDot.mono (show 1 ≤ 6 by decide)
    have c_findOrder := c_findOrder.mono (show 4 ≤ 6 by decide)
    have c_lRingRight := c_lRingRight.mono (show 3 ≤ 6 by decide)
    have c_blocksOf := c_blocksOf.mono (show 4 ≤ 6 by decide)
    refine ⟨_, (pss_cons
      (ps_set (i := 1) nd rfl (Or.inr rfl) (pe_fn c_lMill hr rfl (pa_cons (pv 0) pa_nil)))
    (pss_cons
      (ps_for PassesOwn.never rfl (pi_range1 rfl B.range (pa_cons pe_int pa_nil)) (pg_name (i := 2) nd rfl (Or.inl rfl))
        (pss_cons
          (ps_set (i := 3) nd rfl (Or.inl rfl) (pe_op op_add pe_int (pe_op op_modN (pv 2) pe_int)))
        (pss_cons
          (ps_asg (pe_fn c_lFlow hr rfl (pa_cons (pv 1) (pa_cons (pv 3) (pa_cons pe_int (pa_cons pe_int pa_nil))))) (pg_unlK K 2 rfl rfl (pgs_cons (pg_name (i := 4) nd rfl (Or.inl rfl)) (pgs_cons (pg_name (i := 5) nd rfl (Or.inl rfl)) pgs_nil))))
        (pss_cons
          (ps_asg (pe_fn c_lAim hr rfl (pa_cons (pv 1) (pa_cons (pv 3) pa_nil))) (pg_unlK K 2 rfl rfl (pgs_cons (pg_name (i := 6) nd rfl (Or.inl rfl)) (pgs_cons (pg_name (i := 7) nd rfl (Or.inr rfl)) pgs_nil))))
        (pss_cons
          (ps_par (i := 8) (j := 9) rfl nd rfl rfl (by decide) rfl rfl (pa_cons (pe_tupleK K rfl rfl B.tuple (pe_lc (own := [("_law_row", 16)]) rfl nd (pi_tupK K rfl (pv 7)) (blkOk_by (by kernel_rfl)) (fun _ _ _ _ _ => (pg_name (i := 16) nd rfl (Or.inl rfl))) (fun _ _ _ _ _ => pts_nil) (fun _ _ _ _ _ => (pe_op op_add pe_int (pe_fn c_lGrind hr rfl (pa_cons (pv 1) (pa_cons pe_int pa_nil))))))) (pa_cons (pe_fn c_lBox hr rfl (pa_cons (pv 1) (pa_cons (pv 3) (pa_cons pe_int pa_nil)))) pa_nil)) (by rfl))
        (pss_cons
          (ps_set (i := 10) nd rfl (Or.inl rfl) (pe_lst pa_nil))
        (pss_cons
          (ps_for PassesOwn.never rfl (pi_tupK K rfl (pe_ix (ix_tupK K rfl) (pv 4) pe_int (fun _ _ => rfl))) (pg_name (i := 11) nd rfl (Or.inl rfl))
            (pss_one
              (ps_expr (pe_bm PySem.F.plainAttrs_list PySem.F.slot_list_extend PySem.F.type_list_extend mt_extend (pv 10) (pa_cons (pe_lc (own := [("_law_read_here", 17)]) rfl nd (pi_tupK K rfl (pe_slice (sl_tupK K rfl) (pv 11) (po_some pe_int) po_none)) (blkOk_by (by kernel_rfl)) (fun _ _ _ _ _ => (pg_name (i := 17) nd rfl (Or.inr rfl))) (fun _ _ _ _ _ => pts_nil) (fun _ _ _ _ _ => (pe_tupleK K rfl rfl B.tuple (pe_lc (own := [("_law_row", 16)]) rfl nd (pi_tupK K rfl (pv 7)) (blkOk_by (by kernel_rfl)) (fun _ _ _ _ _ => (pg_name (i := 16) nd rfl (Or.inl rfl))) (fun _ _ _ _ _ => pts_nil) (fun _ _ _ _ _ => (pe_fn c_lDot hr rfl (pa_cons (pv 16) (pa_cons (pe_ix (ix_tupK K rfl) (pv 17) pe_int (fun _ _ => rfl)) pa_nil)))))))) pa_nil)))))
        (pss_cons
          (ps_asg (pe_fn c_findOrder hr rfl (pa_cons (pe_tupleK K rfl rfl B.tuple (pv 10)) (pa_cons (pv 8) pa_nil))) (pg_tupK K 2 rfl rfl (pgs_cons (pg_name (i := 12) nd rfl (Or.inl rfl)) (pgs_cons (pg_name (i := 13) nd rfl (Or.inr rfl)) pgs_nil))))
        (pss_one
          (ps_if (pt_cmpR op_eq (pv 12) pe_str (nomark _))
            (pss_one
              (ps_if (pt_not (pt_val (pe_fn c_lRingRight hr rfl (pa_cons (pe_tupleK K rfl rfl B.tuple (pv 10)) (pa_cons (pv 8) (pa_cons (pv 13) pa_nil))))))
                (pss_one
                  (ps_ret pe_bl))
                pss_nil))
            (pss_cons
              (ps_set (i := 14) nd rfl (Or.inl rfl) (pe_callB (sorted_K K rfl hr.units) (by rfl) B.sorted (by decide +kernel) (pa_cons (pe_lc (own := [("_law_block", 18)]) rfl nd (pi_tupK K rfl (pe_fn c_blocksOf hr rfl (pa_cons (pv 7) (pa_cons (pv 8) (pa_cons (pv 9) pa_nil))))) (blkOk_by (by kernel_rfl)) (fun _ _ _ _ _ => (pg_name (i := 18) nd rfl (Or.inl rfl))) (fun _ _ _ _ _ => pts_nil) (fun _ _ _ _ _ => (pe_tup (pa_cons (pe_fn c_lDot hr rfl (pa_cons (pv 13) (pa_cons (pv 18) pa_nil))) (pa_cons (pv 18) pa_nil))))) pa_nil)))
            (pss_cons
              (ps_set (i := 15) nd rfl (Or.inl rfl) (pe_tup (pa_cons pe_str (pa_cons (pe_tupleK K rfl rfl B.tuple (pe_lc (own := [("_law_count", 19), ("_law_block", 18)]) rfl nd (pi_listK K rfl (pv 14)) (blkOk_by (by kernel_rfl)) (fun _ _ _ _ _ => (pg_tupK K 2 rfl rfl (pgs_cons (pg_name (i := 19) nd rfl (Or.inl rfl)) (pgs_cons (pg_name (i := 18) nd rfl (Or.inl rfl)) pgs_nil)))) (fun _ _ _ _ _ => pts_nil) (fun _ _ _ _ _ => (pv 18)))) pa_nil))))
            (pss_one
              (ps_if (PW.pt (pw_or (pt_not (pt_val (pe_fn c_planHolds hr rfl (pa_cons (pv 4) (pa_cons (pv 7) (pa_cons (pv 8) (pa_cons (pv 9) (pa_cons (pv 15) pa_nil)))))))) (pw_or1 (pt_cmpR op_ne (pe_ix (ix_tupK K rfl) (pe_fn c_findPlan hr rfl (pa_cons (pv 4) (pa_cons (pv 7) (pa_cons (pv 8) (pa_cons (pv 9) pa_nil))))) pe_int (fun _ _ => rfl)) pe_str (nomark _)))))
                (pss_one
                  (ps_ret pe_bl))
                pss_nil))))))))))))))
    (pss_one
      (ps_ret pe_bl)))), ?_⟩
    refine ⟨_, rfl, a, ns, rfl, hS, hlen, fun m c H1 s1 _ _ hm1 => ?_⟩
    refine ⟨10, rfl, by omega, by omega, ?_⟩
    refine for_it (walk_range (lo := 0) (n := (10 : Int).toNat)) (fun i σ H' => MS m c H1 H' ∧ ∃ y2 y3 y4 y5 y6 y7 y8 y9 y10 y11 y12 y13 y14 y15, σ = [some (.ref a), some (.ref m), y2, y3, y4, y5, y6, y7, y8, y9, y10, y11, y12, y13, y14, y15, none, none, none, none])
      ⟨MS.refl hm1, _, _, _, _, _, _, _, _, _, _, _, _, _, _, rfl⟩ (fun _ _ _ _ _ => trivial) (fun i x σ H2 H3 hi p' hy => ?_) fun σ H2 p' => ?_
    · obtain ⟨s2, y2, y3, y4, y5, y6, y7, y8, y9, y10, y11, y12, y13, y14, y15, rfl⟩ := p'
      obtain ⟨rfl, rfl⟩ := hy
      -- dims
      obtain ⟨dims, ed, hdims⟩ : ∃ dims : Nat, (2 : Int) + Int.fmod (0 + (i : Nat)) 2 = (dims : Nat) ∧ (dims = 2 ∨ dims = 3) := by
        have h1 := Int.fmod_nonneg_of_pos (0 + (i : Nat)) (show (0 : Int) < 2 by omega)
        have h2 := Int.fmod_lt_of_pos (0 + (i : Nat)) (show (0 : Int) < 2 by omega)
        exact ⟨(2 + Int.fmod (0 + (i : Nat)) 2).toNat, by omega, by omega⟩
      refine ⟨_, rfl, _, 2, rfl, rfl, by omega, 2, _, rfl, rfl, ?_⟩
      refine st_eq (σ' := [some (.ref a), some (.ref m), some (.int (0 + (i : Nat))), some (.int (dims : Nat)), y4, y5, y6, y7, y8, y9, y10, y11, y12, y13, y14, y15, none, none, none, none]) (by rw [← ed]; rfl) ?_
      -- flow
      refine ⟨_, rfl, _, rfl, m, c, dims, rfl, s2.2, by omega, by omega, fun lf fl bt H4 rules s4 hlf hfl hLF => ⟨lf, _, rfl, SqL.of hlf, rfl, _, _, rfl, _, _, rfl, rfl, ?_⟩⟩
      -- rows
      refine ⟨_, rfl, _, rfl, m, c, dims, rfl, s4.2, hdims, fun la xd r H5 us rs s5 hla hrr hus hLR => ⟨la, _, rfl, SqL.of hla, rfl, _, _, rfl, _, _, rfl, rfl, ?_⟩⟩
      refine st_eq (σ' := [some (.ref a), some (.ref m), some (.int (0 + (i : Nat))), some (.int (dims : Nat)), some (.ref fl), some (.ref bt), some xd, some (.ref r), y8, y9, y10, y11, y12, y13, y14, y15, none, none, none, none]) rfl ?_
      have hul := vis_len hus
      have hrl := hLR.1
      -- sides
      refine ⟨_, rfl, r, rfl, ⟨us, SqT.of hrr⟩, fun D hD => ?_⟩
      refine lc_mill (walk_tup (xs := us)) (fun _ d => ∃ x, d = .int x ∧ (1 ≤ x ∧ x ≤ 5)) s5.2 hD (small_of (m := 3) (by omega) (by decide)) (fun H' s => SqT.of (MS.kt s5.2 s _ _ hrr)) (fun j x H6 H7 k hj s6 hy hk => ?_) fun H6 ys ds s6 hD6 hds hods hdl hΦ => ?_
      · obtain ⟨rfl, ex⟩ := hy
        exact ⟨rfl, _, rfl, m, c, 5, rfl, s6.2, by omega, by omega, fun v H8 s8 v0 v1 => ⟨_, _, rfl, rfl, hk _ _ (.int (1 + v)) ⟨_, rfl, by omega, by omega⟩ s8 (.int _) (.int _)⟩⟩
      obtain ⟨sides, rfl, hsd⟩ := ints_of hΦ
      rw [hds.ints] at hD6
      rw [List.length_map] at hdl
      have hsl : sides.length = rs.length := by omega
      refine .inl ⟨D, _, rfl, SqL.of hD6, fun ps hps => ?_⟩
      have s7 := s6.same (same_upd (o := .tup (sides.map V.int)) hps)
      have hps7 : upd H6 ps (.tup (sides.map V.int)) ps = some (.tup (sides.map V.int)) := upd_same
      generalize upd H6 ps (.tup (sides.map V.int)) = H7 at s7 hps7 ⊢
      -- box
      refine ⟨_, rfl, _, rfl, m, c, dims, 30, rfl, s7.2, by omega, by omega, by omega, fun pb H8 box s8 hpb hbl hbx hpr => ⟨_, _, rfl, ?_⟩⟩
      have k57 := MS.kt s5.2 s7
      have k58 := k57.trans (MS.kt s7.2 s8)
      have hr8 := k58 _ _ hrr
      have hus8 := hus.kt k58
      have hps8 := MS.kt s7.2 s8 _ _ hps7
      obtain ⟨fr, usr, hfl', hfr, husr⟩ : ∃ (fr : Addr) (usr : List V), H8 fl = some (.tup [.int (dims : Nat), .ref fr]) ∧ H8 fr = some (.tup usr) ∧ Dts H8 usr (rules.map ruleD) := by
        have hf8 : Dt H8 (.ref fl) (flowD (dims : Nat) rules) := Dt.keep ((MS.kt s4.2 s5).trans k58) (.tup (.cons (.int _) (.cons (.tup (only_rules _)) .nil))) hfl
        obtain ⟨z, fr, usr, e, h1, h2, h3⟩ := dt_flowI hf8
        cases e
        exact ⟨fr, usr, h1, h2, h3⟩
      have sM : MS m c H1 H8 := (((s2.trans s4).trans s5).trans s7).trans s8
      obtain ⟨sok, sm⟩ := steps_ok hdims hLF hLR hsl hsd
      have lok := lay_ok hdims hLR hsl hsd hbl hbx hpr
      have fok : FlowOk box.length rules := by rw [hbl]; exact hLF.ok
      clear hΦ hds hods hD6 s6 s7 s8 k57 k58 hrr hus hfl hps7
      refine st_eq (σ' := [some (.ref a), some (.ref m), some (.int (0 + (i : Nat))), some (.int (dims : Nat)), some (.ref fl), some (.ref bt), some xd, some (.ref r), some (.ref ps), some (.ref pb), y10, y11, y12, y13, y14, y15, none, none, none, none]) rfl ?_
      -- steps
      refine ⟨ll rfl, fun sl hsl0 => ?_⟩
      refine ⟨_, rfl, fl, _, 1, .ref fr, rfl, rfl, SqT.of (upd_some hsl0 hfl'), rfl, fr, rfl, ⟨_, SqT.of (upd_some hsl0 hfr)⟩, ?_⟩
      have hurl : usr.length = rules.length := by rw [husr.length, List.length_map]
      refine for_it (walk_tup (xs := usr)) (fun j σ H' => Same H8 H' ∧ ∃ (vs : List V) (y11 : Option V), σ = [some (.ref a), some (.ref m), some (.int (0 + (i : Nat))), some (.int (dims : Nat)), some (.ref fl), some (.ref bt), some xd, some (.ref r), some (.ref ps), some (.ref pb), some (.ref sl), y11, y12, y13, y14, y15, none, none, none, none] ∧
        H' sl = some (.lst vs) ∧ Dts H' vs ((stepsOf (rules.take j) rs).map vi)) ⟨same_upd hsl0, [], _, rfl, upd_same, .nil⟩ (fun j σ H' _ p => p.1.tup hfr) (fun j x σ H9 H10 hj p hy => ?_) fun σ H9 p => ?_
      · obtain ⟨s9, vs, y11', rfl, hsl9, hvs⟩ := p
        obtain ⟨rfl, ex⟩ := hy
        obtain ⟨rule, erule, drule⟩ := dts_map_at husr ex
        obtain ⟨cr, rds, rfl, hcr, hrds⟩ := dt_ruleI drule
        have hrm := List.mem_of_getElem? erule
        have hrl2 : rds.length = rule.2.length := by rw [hrds.length, List.length_map]
        refine ⟨_, rfl, .inl ⟨rfl, vs, SqL.of hsl9⟩, _, rfl, 1, rfl, cr, _, rfl, SqT.of (s9 _ _ hcr), fun hbad => absurd hbad cut_ne, fun _ p hp => ?_⟩
        rw [cut_one]
        have s11 := s9.trans (same_upd (o := .tup rds) hp)
        have hp11 : upd H10 p (.tup rds) p = some (.tup rds) := upd_same
        have hsl11 := upd_some (o := .tup rds) hp hsl9
        have hvs11 := hvs.same (same_upd (o := .tup rds) hp)
        generalize upd H10 p (.tup rds) = H11 at s11 hp11 hsl11 hvs11 ⊢
        refine ⟨p, rfl, ⟨rds, SqT.of hp11⟩, fun D2 hD2 => ?_⟩
        refine lc_fm (walk_tup (xs := rds)) (fun k => (rule.2[k]?).map fun rd => vi (rs.map fun row => dotI row rd.2)) hD2 (by rw [hrl2]; exact small_of (m := 3) (hLF.2 rule hrm).1 (by decide)) (fun H' s => s.tup hp11) (fun k x H12 H13 kk kn hk s12 hy hkk hkn => ?_) (fun H12 zs s12 h12 d12 _ => ?_)
        · obtain ⟨rfl, ex2⟩ := hy
          obtain ⟨rd, erd, drd⟩ := dts_map_at hrds ex2
          obtain ⟨c2, d2, rfl, hc2, hd2⟩ := dt_readI drd
          have hrdm := List.mem_of_getElem? erd
          have hrd3 := ((hLF.2 rule hrm).2 rd hrdm)
          have s813 := s11.trans s12
          refine ⟨rfl, _, rfl, r, rfl, ⟨us, SqT.of (s813 _ _ hr8)⟩, fun D3 hD3 => ?_⟩
          refine lc_fm (walk_tup (xs := us)) (fun k => (rs[k]?).map fun row => .int (dotI row rd.2)) hD3 (by rw [hul]; exact small_of (m := 3) (by omega) (by decide)) (fun H' s => s.tup (s813 _ _ hr8)) (fun k2 x H14 H15 kk2 kn2 hk2 s14 hy hkk2 hkn2 => ?_) (fun H14 zs2 s14 h14 d14 _ => ?_)
          · obtain ⟨rfl, ex3⟩ := hy
            obtain ⟨arow, row, rfl, erow, harow⟩ := dts_vis hus8 ex3
            have hro := hLR.2 row (List.mem_of_getElem? erow)
            have s815 := s813.trans s14
            exact ⟨rfl, _, rfl, _, rfl, c2, _, 1, .ref d2, rfl, rfl, SqT.of (s815 _ _ hc2), rfl, arow, d2, row, rd.2, rfl, s815 _ _ harow, s815 _ _ hd2, by rw [hro.1, hrd3.1], by omega, fun x hx => by have := hro.2 x hx; omega, fun H16 s16 => hkk2 _ _ (.int (dotI row rd.2)) (by show Option.map _ (rs[k2]?) = _; rw [erow]; rfl) s16 (.int _) (.int _)⟩
          · rw [hul, fm_map rs (fun row => PyData.int (dotI row rd.2)) _ (fun i x e => by rw [e]; rfl)] at d14
            have e3 : rs.map (fun row => PyData.int (dotI row rd.2)) = (rs.map fun row => dotI row rd.2).map PyData.int := by
              rw [List.map_map]
              rfl
            rw [e3] at d14
            rw [d14.ints] at h14
            exact .inl ⟨D3, _, rfl, SqL.of h14, fun pt hpt => hkk _ _ (vi (rs.map fun row => dotI row rd.2)) (by show Option.map _ (rule.2[k]?) = _; rw [erd]; rfl) (s14.trans (same_upd hpt)) (only_vi _) (dt_vi upd_same)⟩
        · rw [hrl2, fm_map rule.2 (fun rd => vi (rs.map fun row => dotI row rd.2)) _ (fun i x e => by rw [e]; rfl)] at d12
          have e3 : rule.2.map (fun rd => vi (rs.map fun row => dotI row rd.2)) = (rule.2.map fun rd => rs.map fun row => dotI row rd.2).map vi := by
            rw [List.map_map]
            rfl
          rw [e3] at d12
          have hsl12 := s12 _ _ hsl11
          have kt : KeepT H12 (upd H12 sl (.lst (vs ++ zs))) := kt_frz hsl12 (fun xs z => nomatch z)
          have s812 := s11.trans s12
          refine ⟨sl, D2, vs, zs, rfl, rfl, hsl12, h12, ?_, fun b o e => ?_, _, _, rfl, upd_same, ?_⟩
          · have e1 := vis_len hvs
            have e2 : (stepsOf (rules.take j) rs).length ≤ 9 := stepsOf_len (n := dims) ⟨by rw [List.length_take]; have := hLF.1; omega, fun r hr => hLF.2 r (List.mem_of_mem_take hr)⟩
            have e4 := vis_len d12
            have e5 := (hLF.2 rule hrm).1
            rw [List.length_map] at e4
            exact Nat.le_of_lt (small_of (m := 12) (by omega) (by decide))
          · rw [upd_ne (ne_of_none e hsl0)]
            exact s812 _ _ e
          · have e6 : stepsOf (rules.take (j + 1)) rs = stepsOf (rules.take j) rs ++ rule.2.map fun rd => rs.map fun row => dotI row rd.2 := by
              rw [take_next' erule]
              unfold stepsOf
              rw [List.flatMap_append]
              simp
            rw [e6, List.map_append]
            exact Dts.app ((hvs11.same s12).kt kt) (d12.kt kt)
      · obtain ⟨s9, vs, y11', rfl, hsl9, hvs⟩ := p
        rw [hurl, List.take_length] at hvs
        have hsz : vs.length ≤ 9 := by
          rw [vis_len hvs]
          exact stepsOf_len hLF
        -- find_order(tuple(steps), sides)
        refine ⟨_, rfl, .inl ⟨sl, vs, rfl, SqL.of hsl9, fun pt hpt => ?_⟩⟩
        have s10 := s9.trans (same_upd (o := .tup vs) hpt)
        have hpt10 : upd H9 pt (.tup vs) pt = some (.tup vs) := upd_same
        have hvs10 := hvs.same (same_upd (o := .tup vs) hpt)
        have hsl10 := upd_some (o := .tup vs) hpt hsl9
        generalize upd H9 pt (.tup vs) = H10 at s10 hpt10 hvs10 hsl10 ⊢
        refine ⟨_, rfl, pt, ps, vs, stepsOf rules rs, sides, rfl, hpt10, hvs10, s10 _ _ hps8, sok, sm, fun h p qa H11 hhl hhb hhm s11 hqa hp => ?_, fun cs p qa H11 hrg s11 hqa hp => ?_⟩
        · -- an order
          refine ⟨p, _, rfl, SqT.of hp, rfl, _, _, rfl, _, _, rfl, rfl, ?_⟩
          refine st_eq (σ' := [some (.ref a), some (.ref m), some (.int (0 + (i : Nat))), some (.int (dims : Nat)), some (.ref fl), some (.ref bt), some xd, some (.ref r), some (.ref ps), some (.ref pb), some (.ref sl), y11', some (.str "order"), some (.ref qa), y14, y15, none, none, none, none]) rfl ?_
          refine ⟨_, rfl, rfl, _, rfl, ?_⟩
          rw [show decide (V.str "order" = V.str "ring") = false from decide_eq_false fun z => absurd (V.str.inj z) (by decide)]
          refine iteF ?_
          have s811 := s10.trans s11
          have rel := rel_of_order (n := dims) lok fok hhm
          have bnd := blocksOf_nodup rs sides box
          have blen := blocksOf_len (rs := rs) (sides := sides) lok.2.2.2.2.2
          have brow := blocksOf_row (rs := rs) (sides := sides) (box := box) hsl.symm
          have bbd := block_bd (rs := rs) (sides := sides) (box := box) lok.2.2.2.2.2 lok.2.2.2.2.1 fun r hr => ⟨by have := (hLR.2 r hr).1; omega, (hLR.2 r hr).2⟩
          have bne : blocksOf rs sides box ≠ [] := by
            have h1 := (points_len lok.2.2.2.2.2).1
            have h2 := prodI_pos box fun n hn => (hbx n hn).1
            obtain ⟨pt0, rest, e⟩ := List.exists_cons_of_ne_nil (l := pointsOf box) (fun z => by rw [z] at h1; simp at h1; omega)
            exact List.ne_nil_of_mem (mem_blocksOf.mpr ⟨pt0, by rw [e]; simp, rfl⟩)
          refine ⟨_, rfl, _, rfl, _, rfl, r, ps, pb, us, rs, sides, box, rfl, s811 _ _ hr8, hus8.same s811, s811 _ _ hps8, s811 _ _ hpb, lok, fun pbl wsb H12 s12 hpbl hwsb => ⟨pbl, rfl, ⟨wsb, SqT.of hpbl⟩, fun D3 hD3 => ?_⟩⟩
          have hwl := vis_len hwsb
          have s812 := s811.trans s12
          have hqa12 := s12 _ _ hqa
          have b64 : (blocksOf rs sides box).length < 64 := by omega
          refine lc_fm (walk_tup (xs := wsb)) (fun k => ((blocksOf rs sides box)[k]?).map fun b => pairI (dotI h b, b)) hD3 (by rw [hwl]; exact small_of (m := 64) (by omega) (by decide)) (fun H' s => s.tup hpbl) (fun k x H13 H14 kk kn hk s13 hy hkk hkn => ?_) (fun H13 zs s13 h13 d13 _ => ?_)
          · obtain ⟨rfl, ex⟩ := hy
            obtain ⟨ab, bk, rfl, ebk, hab⟩ := dts_vis hwsb ex
            have hbk := brow bk (List.mem_of_getElem? ebk)
            have hab14 := s13 _ _ hab
            refine ⟨rfl, _, rfl, _, rfl, qa, ab, h, bk, rfl, s13 _ _ hqa12, hab14, by rw [hhl, hbk], by rw [hhl]; omega, hhb, fun H15 s15 => ⟨_, rfl, ll rfl, fun p3 hp3 => ?_⟩⟩
            exact hkk _ _ (pairI (dotI h bk, bk)) (by show Option.map _ ((blocksOf rs sides box)[k]?) = _; rw [ebk]; rfl) (s15.trans (same_upd hp3)) (only_pairI _) (.tup upd_same (.cons (.int _) (.cons (dt_vi (upd_some hp3 (s15 _ _ hab14))) .nil)))
          · rw [hwl, fm_map (blocksOf rs sides box) (fun b => pairI (dotI h b, b)) _ (fun i x e => by rw [e]; rfl)] at d13
            have e3 : (blocksOf rs sides box).map (fun b => pairI (dotI h b, b)) = ((blocksOf rs sides box).map fun b => (dotI h b, b)).map pairI := by
              rw [List.map_map]
              rfl
            rw [e3] at d13
            obtain ⟨QL, eQ1, eQ2, hQ⟩ := dts_zip d13
            rw [eQ1] at h13
            refine ⟨D3, QL.map fun q => (q.1, pairI q.2), rfl, SqL.of (by rw [List.map_map]; exact h13), fun b hb => ?_, fun d hd d' hd' => ?_, .inl fun d hd => ?_, fun b hb => ?_, fun pS hpS => ?_⟩
            · obtain ⟨q0, hq0, rfl⟩ := List.mem_map.mp hb
              exact (hQ q0 hq0).dp
            · obtain ⟨b1, hb1, rfl⟩ := List.mem_map.mp hd
              obtain ⟨q1, _, rfl⟩ := List.mem_map.mp hb1
              obtain ⟨b2, hb2, rfl⟩ := List.mem_map.mp hd'
              obtain ⟨q2, _, rfl⟩ := List.mem_map.mp hb2
              exact alike_pairI _ _
            · obtain ⟨b1, hb1, rfl⟩ := List.mem_map.mp hd
              obtain ⟨q1, _, rfl⟩ := List.mem_map.mp hb1
              exact ⟨_, _, rfl⟩
            · obtain ⟨q1, _, rfl⟩ := List.mem_map.mp hb
              exact depth_pairI _
            rw [sort_fst]
            have hsort := sorted_pairs (QL := QL)
            have hperm := List.mergeSort_perm QL (PySem.W.dataLe false fun q => pairI q.2)
            generalize QL.mergeSort (PySem.W.dataLe false fun q => pairI q.2) = QS at hsort hperm ⊢
            have hQS : ∀ q ∈ QS, Dt H13 q.1 (pairI q.2) ∧ q.2.1 = dotI h q.2.2 := fun q0 hq0 => by
              have hm0 := hperm.mem_iff.mp hq0
              refine ⟨hQ q0 hm0, ?_⟩
              have : q0.2 ∈ QL.map (·.2) := List.mem_map_of_mem hm0
              rw [eQ2] at this
              obtain ⟨b, _, e⟩ := List.mem_map.mp this
              rw [← e]
            have hplp : (QS.map fun q => q.2.2).Perm (blocksOf rs sides box) := by
              have e : (QL.map fun q => q.2.2) = blocksOf rs sides box := by
                have e1 : (QL.map fun q => q.2.2) = (QL.map (·.2)).map (·.2) := by
                  rw [List.map_map]
                  rfl
                rw [e1, eQ2, List.map_map]
                exact List.map_id _
              rw [← e]
              exact hperm.map _
            have hpls : (QS.map fun q => q.2.2).Pairwise fun x y => dotI h x ≤ dotI h y := by
              rw [List.pairwise_map]
              refine hsort.imp_of_mem fun {q1 q2} h1 h2 hle => ?_
              rw [← (hQS q1 h1).2, ← (hQS q2 h2).2]
              exact hle
            have s814 : Same H8 (upd H13 pS (.lst (QS.map (·.1)))) := (s812.trans s13).trans (same_upd hpS)
            have hpS14 : upd H13 pS (.lst (QS.map (·.1))) pS = some (.lst (QS.map (·.1))) := upd_same
            have hQS14 : ∀ q ∈ QS, Dt (upd H13 pS (.lst (QS.map (·.1)))) q.1 (pairI q.2) := fun q0 hq0 => (hQS q0 hq0).1.same (same_upd hpS)
            generalize upd H13 pS (.lst (QS.map (·.1))) = H14 at s814 hpS14 hQS14 ⊢
            have hQl : QS.length < 64 := by
              have := hplp.length_eq
              rw [List.length_map] at this
              omega
            -- plan
            dsimp only [gName]
            refine st_eq (σ' := [some (.ref a), some (.ref m), some (.int (0 + (i : Nat))), some (.int (dims : Nat)), some (.ref fl), some (.ref bt), some xd, some (.ref r), some (.ref ps), some (.ref pb), some (.ref sl), y11', some (.str "order"), some (.ref qa), some (.ref pS), y15, none, none, none, none]) rfl ?_
            refine ⟨_, rfl, pS, rfl, ⟨_, SqL.of hpS14⟩, fun D4 hD4 => ?_⟩
            refine lc_fm (walk_list (xs := QS.map (·.1))) (fun k => (QS[k]?).map fun q => vi q.2.2) hD4 (by rw [List.length_map]; exact small_of (m := 64) (by omega) (by decide)) (fun H' s => s.lst hpS14) (fun k x H15 H16 kk kn hk s15 hy hkk hkn => ?_) (fun H15 zs4 s15 h15 d15 _ => ?_)
            · obtain ⟨rfl, ex⟩ := hy
              rw [List.getElem?_map] at ex
              cases eq : QS[k]? with
              | none => rw [eq] at ex; cases ex
              | some q0 =>
                rw [eq] at ex
                cases ex
                obtain ⟨pq, bq, e1, hpq, hbq⟩ := dt_pairII (hQS14 q0 (List.mem_of_getElem? eq))
                show gTup K 2 (gCons (gName 19) (gCons (gName 18) gNil)) q0.1 _ _ _
                rw [e1]
                exact ⟨pq, _, rfl, SqT.of (s15 _ _ hpq), rfl, _, _, rfl, _, _, rfl, rfl, rfl, _, rfl, hkk _ _ (vi q0.2.2) (by show Option.map _ (QS[k]?) = _; rw [eq]; rfl) (Same.refl _) (only_vi _) (dt_vi (s15 _ _ hbq))⟩
            · rw [List.length_map, fm_map QS (fun q => vi q.2.2) _ (fun i x e => by rw [e]; rfl)] at d15
              have e4 : QS.map (fun q => vi q.2.2) = (QS.map fun q => q.2.2).map vi := by
                rw [List.map_map]
                rfl
              rw [e4] at d15
              generalize (QS.map fun q => q.2.2) = pl at hplp hpls d15
              refine .inl ⟨D4, zs4, rfl, SqL.of h15, fun t1 ht1 => ⟨ll rfl, fun pp hpp => ?_⟩⟩
              have s816 : Same H8 (upd (upd H15 t1 (.tup zs4)) pp (.tup [.str "plan", .ref t1])) := ((s814.trans s15).trans (same_upd ht1)).trans (same_upd hpp)
              have ht16 : upd (upd H15 t1 (.tup zs4)) pp (.tup [.str "plan", .ref t1]) t1 = some (.tup zs4) := upd_some hpp upd_same
              have hpp16 : upd (upd H15 t1 (.tup zs4)) pp (.tup [.str "plan", .ref t1]) pp = some (.tup [.str "plan", .ref t1]) := upd_same
              have d16 := (d15.same (same_upd (o := .tup zs4) ht1)).same (same_upd (o := .tup [.str "plan", .ref t1]) hpp)
              generalize upd (upd H15 t1 (.tup zs4)) pp (.tup [.str "plan", .ref t1]) = H16 at s816 ht16 hpp16 d16 ⊢
              have hfl16 : Dt H16 (.ref fl) (flowD (dims : Nat) rules) := .tup (s816 _ _ hfl') (.cons (.int _) (.cons (.tup (s816 _ _ hfr) (husr.same s816)) .nil))
              dsimp only [gName]
              refine st_eq (σ' := [some (.ref a), some (.ref m), some (.int (0 + (i : Nat))), some (.int (dims : Nat)), some (.ref fl), some (.ref bt), some xd, some (.ref r), some (.ref ps), some (.ref pb), some (.ref sl), y11', some (.str "order"), some (.ref qa), some (.ref pS), some (.ref pp), none, none, none, none]) rfl ?_
              refine ⟨_, rfl, _, rfl, _, rfl, _, rfl, _, rfl, fl, r, ps, pb, pp, t1, us, zs4, (dims : Nat), rules, rs, sides, box, dotI h, pl, rfl, hfl16, fok, s816 _ _ hr8, hus8.same s816, s816 _ _ hps8, s816 _ _ hpb, lok, rel, b64, bne, bbd, hpp16, ht16, d16, hplp.nodup_iff.mpr bnd, fun k => hplp.mem_iff, hpls, fun H17 s17 => ⟨true, rfl, iteF ?_⟩⟩
              have s817 := s816.trans s17
              refine ⟨_, rfl, _, rfl, _, rfl, _, rfl, fl, r, ps, pb, us, (dims : Nat), rules, rs, sides, box, dotI h, rfl, hfl16.same s17, fok, s817 _ _ hr8, hus8.same s817, s817 _ _ hps8, s817 _ _ hpb, lok, rel, fun p2 t2 H18 s18 hp2 => ⟨p2, _, 0, .str "plan", rfl, rfl, SqT.of hp2, rfl, rfl, _, rfl, ?_⟩⟩
              rw [decide_eq_true rfl]
              exact iteF ⟨sM.same (s817.trans s18), _, _, _, _, _, _, _, _, _, _, _, _, _, _, rfl⟩
        · -- a ring
          refine ⟨p, _, rfl, SqT.of hp, rfl, _, _, rfl, _, _, rfl, rfl, ?_⟩
          refine st_eq (σ' := [some (.ref a), some (.ref m), some (.int (0 + (i : Nat))), some (.int (dims : Nat)), some (.ref fl), some (.ref bt), some xd, some (.ref r), some (.ref ps), some (.ref pb), some (.ref sl), y11', some (.str "ring"), some (.ref qa), y14, y15, none, none, none, none]) rfl ?_
          refine ⟨_, rfl, rfl, _, rfl, ?_⟩
          rw [decide_eq_true rfl]
          have s811 := s10.trans s11
          refine iteT ⟨_, rfl, .inl ⟨sl, vs, rfl, SqL.of (s11 _ _ hsl10), fun pt2 hpt2 => ⟨_, rfl, _, rfl, pt2, ps, qa, vs, stepsOf rules rs, sides, cs, rfl, upd_same, (hvs10.same s11).same (same_upd hpt2), upd_some hpt2 (s811 _ _ hps8), upd_some hpt2 hqa, sok, sm, hrg, fun H12 s12 => ⟨true, rfl, iteF ?_⟩⟩⟩⟩
          exact ⟨sM.same ((s811.trans (same_upd hpt2)).trans s12), _, _, _, _, _, _, _, _, _, _, _, _, _, _, rfl⟩
    · exact q H2
end
end Wb
namespace Wb
open PySem PySem.Spec PyProof.Rows L2

/-- the parameters are bound as they come -/
def BindOk (x : Str) (st : Stmt) (ps : List Str) : Prop := ∀ (kV doc pm : Value) (an : Option Addr) (cdv ct : Value) (us : List Value), us.length = ps.length → bindArgs (PySem.W.fnOf x x (defArgs st) (defBody st) (defScope st) .none kV doc pm an cdv ct) ⟨us, []⟩ = pure (ps.zip us)
theorem bd_lMill : BindOk "_law_mill" s_lMill ["_law_script"] := fun _ _ _ _ _ _ us hl => match us, hl with | [_], _ => rfl
theorem bd_lGrind : BindOk "_law_grind" s_lGrind ["_law_mill_here", "_law_many"] := fun _ _ _ _ _ _ us hl => match us, hl with | [_, _], _ => rfl
theorem bd_lPick : BindOk "_law_pick" s_lPick ["_law_mill_here", "_law_items"] := fun _ _ _ _ _ _ us hl => match us, hl with | [_, _], _ => rfl
theorem bd_lPlan : BindOk "_law_plan" s_lPlan ["_law_mill_here", "_law_dims", "_law_many"] := fun _ _ _ _ _ _ us hl => match us, hl with | [_, _, _], _ => rfl
theorem bd_lDot : BindOk "_law_dot" s_lDot ["_law_one", "_law_other"] := fun _ _ _ _ _ _ us hl => match us, hl with | [_, _], _ => rfl
theorem bd_lRead : BindOk "_law_read" s_lRead ["_law_mill_here", "_law_beats", "_law_plane", "_law_high"] := fun _ _ _ _ _ _ us hl => match us, hl with | [_, _, _, _], _ => rfl
theorem bd_lFlow : BindOk "_law_flow" s_lFlow ["_law_mill_here", "_law_dims", "_law_most", "_law_high"] := fun _ _ _ _ _ _ us hl => match us, hl with | [_, _, _, _], _ => rfl
theorem bd_lAim : BindOk "_law_aim" s_lAim ["_law_mill_here", "_law_dims"] := fun _ _ _ _ _ _ us hl => match us, hl with | [_, _], _ => rfl
theorem bd_lBox : BindOk "_law_box" s_lBox ["_law_mill_here", "_law_dims", "_law_most"] := fun _ _ _ _ _ _ us hl => match us, hl with | [_, _, _], _ => rfl
theorem bd_itemsOf : BindOk "items_of" s_itemsOf ["item", "side"] := fun _ _ _ _ _ _ us hl => match us, hl with | [_, _], _ => rfl
theorem bd_movesOf : BindOk "moves_of" s_movesOf ["steps", "sides"] := fun _ _ _ _ _ _ us hl => match us, hl with | [_, _], _ => rfl
theorem bd_orderOnRow : BindOk "order_on_row" s_orderOnRow ["moves"] := fun _ _ _ _ _ _ us hl => match us, hl with | [_], _ => rfl
theorem bd_crossSum : BindOk "cross_sum" s_crossSum ["one", "other"] := fun _ _ _ _ _ _ us hl => match us, hl with | [_, _], _ => rfl
theorem bd_dot : BindOk "dot" s_dot ["one", "other"] := fun _ _ _ _ _ _ us hl => match us, hl with | [_, _], _ => rfl
theorem bd_isBefore : BindOk "is_before" s_isBefore ["one", "other"] := fun _ _ _ _ _ _ us hl => match us, hl with | [_, _], _ => rfl
theorem bd_orderInPlane : BindOk "order_in_plane" s_orderInPlane ["moves"] := fun _ _ _ _ _ _ us hl => match us, hl with | [_], _ => rfl
theorem bd_oppositePair : BindOk "opposite_pair" s_oppositePair ["moves"] := fun _ _ _ _ _ _ us hl => match us, hl with | [_], _ => rfl
theorem bd_divisorOf : BindOk "divisor_of" s_divisorOf ["one", "other"] := fun _ _ _ _ _ _ us hl => match us, hl with | [_, _], _ => rfl
theorem bd_countsFor : BindOk "counts_for" s_countsFor ["moves", "pairs"] := fun _ _ _ _ _ _ us hl => match us, hl with | [_, _], _ => rfl
theorem bd_tripleWith : BindOk "triple_with" s_tripleWith ["moves"] := fun _ _ _ _ _ _ us hl => match us, hl with | [_], _ => rfl
theorem bd_findOrder : BindOk "find_order" s_findOrder ["steps", "sides"] := fun _ _ _ _ _ _ us hl => match us, hl with | [_, _], _ => rfl
theorem bd_lLeads : BindOk "_law_leads" s_lLeads ["_law_step", "_law_sides", "_law_move"] := fun _ _ _ _ _ _ us hl => match us, hl with | [_, _, _], _ => rfl
theorem bd_lRingRight : BindOk "_law_ring_right" s_lRingRight ["_law_steps", "_law_sides", "_law_counts"] := fun _ _ _ _ _ _ us hl => match us, hl with | [_, _, _], _ => rfl
theorem bd_countPoints : BindOk "count_points" s_countPoints ["box"] := fun _ _ _ _ _ _ us hl => match us, hl with | [_], _ => rfl
theorem bd_requireSmall : BindOk "require_small" s_requireSmall ["box"] := fun _ _ _ _ _ _ us hl => match us, hl with | [_], _ => rfl
theorem bd_pointsOf : BindOk "points_of" s_pointsOf ["box"] := fun _ _ _ _ _ _ us hl => match us, hl with | [_], _ => rfl
theorem bd_blockOf : BindOk "block_of" s_blockOf ["sides", "place"] := fun _ _ _ _ _ _ us hl => match us, hl with | [_, _], _ => rfl
theorem bd_blockAt : BindOk "block_at" s_blockAt ["rows", "sides", "point"] := fun _ _ _ _ _ _ us hl => match us, hl with | [_, _, _], _ => rfl
theorem bd_blocksOf : BindOk "blocks_of" s_blocksOf ["rows", "sides", "box"] := fun _ _ _ _ _ _ us hl => match us, hl with | [_, _, _], _ => rfl
theorem bd_readsOf : BindOk "reads_of" s_readsOf ["flow"] := fun _ _ _ _ _ _ us hl => match us, hl with | [_], _ => rfl
theorem bd_difference : BindOk "difference" s_difference ["one", "other"] := fun _ _ _ _ _ _ us hl => match us, hl with | [_, _], _ => rfl
theorem bd_isInside : BindOk "is_inside" s_isInside ["box", "vector"] := fun _ _ _ _ _ _ us hl => match us, hl with | [_, _], _ => rfl
theorem bd_waitsOf : BindOk "waits_of" s_waitsOf ["flow", "rows", "sides", "box"] := fun _ _ _ _ _ _ us hl => match us, hl with | [_, _, _, _], _ => rfl
theorem bd_isInteger : BindOk "is_integer" s_isInteger ["value", "low", "high"] := fun _ _ _ _ _ _ us hl => match us, hl with | [_, _, _], _ => rfl
theorem bd_areIntegers : BindOk "are_integers" s_areIntegers ["value", "many", "low", "high"] := fun _ _ _ _ _ _ us hl => match us, hl with | [_, _, _, _], _ => rfl
theorem bd_areBlocks : BindOk "are_blocks" s_areBlocks ["known", "value"] := fun _ _ _ _ _ _ us hl => match us, hl with | [_, _], _ => rfl
theorem bd_planHolds : BindOk "plan_holds" s_planHolds ["flow", "rows", "sides", "box", "value"] := fun _ _ _ _ _ _ us hl => match us, hl with | [_, _, _, _, _], _ => rfl
theorem bd_followersOf : BindOk "followers_of" s_followersOf ["waits"] := fun _ _ _ _ _ _ us hl => match us, hl with | [_], _ => rfl
theorem bd_findPlan : BindOk "find_plan" s_findPlan ["flow", "rows", "sides", "box"] := fun _ _ _ _ _ _ us hl => match us, hl with | [_, _, _, _], _ => rfl
theorem bd_law : BindOk "law" s_law ["_law_script"] := fun _ _ _ _ _ _ us hl => match us, hl with | [_], _ => rfl
theorem has_mk {K : PySem.W.Frag} {h : Heap} {mg : Str → Option Value} {x : Str} {st : Stmt} {ps : List Str} {f : Addr} {oc : Value} {od an : Option Addr} {osl : Array (Option Value)} {kV doc pm cdv ct : Value} (b : BindOk x st ps) (X : K.In h) (G : h.Ns mainGlobals mg)
    (a : PySem.W.nsIn K mainGlobals x = some (some (.ref f))) (l : K.lookup f = some ⟨oc, od, .func (PySem.W.fnOf x x (defArgs st) (defBody st) (defScope st) .none kV doc pm an cdv ct), osl⟩) (c : PySem.W.codeIn K cdv x = true) (k : PySem.W.keepIn K (.ref f) = true) : Has K mg x st ps := by
  have F := fun_mk (st := st) l c k
  exact ⟨f, _, F, PySem.W.mg_of X G a, F.binds fun kV doc pm an cdv ct us hl => b kV doc pm an cdv ct us hl⟩
structure AllHas (K : PySem.W.Frag) (mg : Str → Option Value) : Prop where
  lMill : Has K mg "_law_mill" s_lMill ["_law_script"]
  lGrind : Has K mg "_law_grind" s_lGrind ["_law_mill_here", "_law_many"]
  lPick : Has K mg "_law_pick" s_lPick ["_law_mill_here", "_law_items"]
  lPlan : Has K mg "_law_plan" s_lPlan ["_law_mill_here", "_law_dims", "_law_many"]
  lDot : Has K mg "_law_dot" s_lDot ["_law_one", "_law_other"]
  lRead : Has K mg "_law_read" s_lRead ["_law_mill_here", "_law_beats", "_law_plane", "_law_high"]
  lFlow : Has K mg "_law_flow" s_lFlow ["_law_mill_here", "_law_dims", "_law_most", "_law_high"]
  lAim : Has K mg "_law_aim" s_lAim ["_law_mill_here", "_law_dims"]
  lBox : Has K mg "_law_box" s_lBox ["_law_mill_here", "_law_dims", "_law_most"]
  itemsOf : Has K mg "items_of" s_itemsOf ["item", "side"]
  movesOf : Has K mg "moves_of" s_movesOf ["steps", "sides"]
  orderOnRow : Has K mg "order_on_row" s_orderOnRow ["moves"]
  crossSum : Has K mg "cross_sum" s_crossSum ["one", "other"]
  dot : Has K mg "dot" s_dot ["one", "other"]
  isBefore : Has K mg "is_before" s_isBefore ["one", "other"]
  orderInPlane : Has K mg "order_in_plane" s_orderInPlane ["moves"]
  oppositePair : Has K mg "opposite_pair" s_oppositePair ["moves"]
  divisorOf : Has K mg "divisor_of" s_divisorOf ["one", "other"]
  countsFor : Has K mg "counts_for" s_countsFor ["moves", "pairs"]
  tripleWith : Has K mg "triple_with" s_tripleWith ["moves"]
  findOrder : Has K mg "find_order" s_findOrder ["steps", "sides"]
  lLeads : Has K mg "_law_leads" s_lLeads ["_law_step", "_law_sides", "_law_move"]
  lRingRight : Has K mg "_law_ring_right" s_lRingRight ["_law_steps", "_law_sides", "_law_counts"]
  countPoints : Has K mg "count_points" s_countPoints ["box"]
  requireSmall : Has K mg "require_small" s_requireSmall ["box"]
  pointsOf : Has K mg "points_of" s_pointsOf ["box"]
  blockOf : Has K mg "block_of" s_blockOf ["sides", "place"]
  blockAt : Has K mg "block_at" s_blockAt ["rows", "sides", "point"]
  blocksOf : Has K mg "blocks_of" s_blocksOf ["rows", "sides", "box"]
  readsOf : Has K mg "reads_of" s_readsOf ["flow"]
  difference : Has K mg "difference" s_difference ["one", "other"]
  isInside : Has K mg "is_inside" s_isInside ["box", "vector"]
  waitsOf : Has K mg "waits_of" s_waitsOf ["flow", "rows", "sides", "box"]
  isInteger : Has K mg "is_integer" s_isInteger ["value", "low", "high"]
  areIntegers : Has K mg "are_integers" s_areIntegers ["value", "many", "low", "high"]
  areBlocks : Has K mg "are_blocks" s_areBlocks ["known", "value"]
  planHolds : Has K mg "plan_holds" s_planHolds ["flow", "rows", "sides", "box", "value"]
  followersOf : Has K mg "followers_of" s_followersOf ["waits"]
  findPlan : Has K mg "find_plan" s_findPlan ["flow", "rows", "sides", "box"]
  law : Has K mg "law" s_law ["_law_script"]
section
variable {P : Program} {w : World} {K : PySem.W.Frag} {mg : Str → Option Value} {base : Heap}
theorem law_ok (A : AllHas K mg) (B : Blt mg) (C : Consts mg) : Callee P w K mg base 7 "law" ["_law_script"] (spLaw K) := by
  have c_lMill := ok_lMill (P := P) (w := w) (base := base) A.lMill B
  have c_lGrind := ok_lGrind (P := P) (w := w) (base := base) A.lGrind B
  have c_lPick := ok_lPick (P := P) (w := w) (base := base) A.lPick B c_lGrind
  have c_lPlan := ok_lPlan (P := P) (w := w) (base := base) A.lPlan B c_lGrind c_lPick
  have c_lDot := ok_lDot (P := P) (w := w) (base := base) A.lDot B
  have c_lRead := ok_lRead (P := P) (w := w) (base := base) A.lRead B c_lGrind c_lDot
  have c_lFlow := ok_lFlow (P := P) (w := w) (base := base) A.lFlow B c_lGrind c_lPick c_lPlan c_lRead
  have c_lAim := ok_lAim (P := P) (w := w) (base := base) A.lAim B c_lGrind c_lPick
  have c_lBox := ok_lBox (P := P) (w := w) (base := base) A.lBox B c_lGrind c_lPick
  have c_itemsOf := ok_itemsOf (P := P) (w := w) (base := base) A.itemsOf B
  have c_movesOf := ok_movesOf (P := P) (w := w) (base := base) A.movesOf B c_itemsOf
  have c_orderOnRow := ok_orderOnRow (P := P) (w := w) (base := base) A.orderOnRow B
  have c_crossSum := ok_crossSum (P := P) (w := w) (base := base) A.crossSum B
  have c_dot := ok_dot (P := P) (w := w) (base := base) A.dot B
  have c_isBefore := ok_isBefore (P := P) (w := w) (base := base) A.isBefore B c_crossSum c_dot
  have c_orderInPlane := ok_orderInPlane (P := P) (w := w) (base := base) A.orderInPlane B c_crossSum c_isBefore
  have c_oppositePair := ok_oppositePair (P := P) (w := w) (base := base) A.oppositePair B c_crossSum c_dot
  have c_divisorOf := ok_divisorOf (P := P) (w := w) (base := base) A.divisorOf B
  have c_countsFor := ok_countsFor (P := P) (w := w) (base := base) A.countsFor B c_divisorOf
  have c_tripleWith := ok_tripleWith (P := P) (w := w) (base := base) A.tripleWith B c_crossSum
  have c_findOrder := ok_findOrder (P := P) (w := w) (base := base) A.findOrder B C c_movesOf c_orderOnRow c_orderInPlane c_oppositePair c_countsFor c_tripleWith
  have c_lLeads := ok_lLeads (P := P) (w := w) (base := base) A.lLeads B
  have c_lRingRight := ok_lRingRight (P := P) (w := w) (base := base) A.lRingRight B c_movesOf c_lLeads
  have c_countPoints := ok_countPoints (P := P) (w := w) (base := base) A.countPoints B
  have c_requireSmall := ok_requireSmall (P := P) (w := w) (base := base) A.requireSmall B C c_countPoints
  have c_pointsOf := ok_pointsOf (P := P) (w := w) (base := base) A.pointsOf B c_requireSmall
  have c_blockOf := ok_blockOf (P := P) (w := w) (base := base) A.blockOf B
  have c_blockAt := ok_blockAt (P := P) (w := w) (base := base) A.blockAt B c_blockOf c_dot
  have c_blocksOf := ok_blocksOf (P := P) (w := w) (base := base) A.blocksOf B c_pointsOf c_blockAt
  have c_readsOf := ok_readsOf (P := P) (w := w) (base := base) A.readsOf B
  have c_difference := ok_difference (P := P) (w := w) (base := base) A.difference B
  have c_isInside := ok_isInside (P := P) (w := w) (base := base) A.isInside B
  have c_waitsOf := ok_waitsOf (P := P) (w := w) (base := base) A.waitsOf B c_blocksOf c_pointsOf c_blockAt c_readsOf c_difference c_isInside
  have c_isInteger := ok_isInteger (P := P) (w := w) (base := base) A.isInteger B
  have c_areIntegers := ok_areIntegers (P := P) (w := w) (base := base) A.areIntegers B c_isInteger
  have c_areBlocks := ok_areBlocks (P := P) (w := w) (base := base) A.areBlocks B C c_areIntegers
  have c_planHolds := ok_planHolds (P := P) (w := w) (base := base) A.planHolds B C c_waitsOf c_areBlocks
  have c_followersOf := ok_followersOf (P := P) (w := w) (base := base) A.followersOf B
  have c_findPlan := ok_findPlan (P := P) (w := w) (base := base) A.findPlan B C c_waitsOf c_followersOf
  exact ok_law A.law B C c_lMill c_lFlow c_lAim c_lGrind c_lBox c_lDot c_findOrder c_lRingRight c_blocksOf c_planHolds c_findPlan
theorem end_ok {l : PySem.W.OpenLaw} {h : Heap} {fa : Addr} {oc : Value} {od an : Option Addr} {osl : Array (Option Value)} {kV doc pm cdv ct : Value} (hfa : mg "law" = some (.ref fa)) (X : K.In h) (G : h.Ns mainGlobals mg) {f : Addr}
    (a : PySem.W.nsIn K mainGlobals "law" = some (some (.ref f))) (lk : K.lookup f = some ⟨oc, od, .func (PySem.W.fnOf "law" "law" (defArgs s_law) (defBody s_law) (defScope s_law) .none kV doc pm an cdv ct), osl⟩) (A : AllHas K mg) (B : Blt mg) (C : Consts mg) :
    ∃ fd : FuncData, (∀ (s : Shared) (v : Value), BindsTo s fd ⟨[v], []⟩ [("_law_script", v)]) ∧ ∀ base : Heap, K.In base → base.Ns mainGlobals mg → FnOk l.prog w K mg base CX0 7 fa fd ["_law_script"] (spLaw K) := by
  have e := hfa.symm.trans (PySem.W.mg_of X G a)
  cases e
  refine ⟨PySem.W.fnOf "law" "law" (defArgs s_law) (defBody s_law) (defScope s_law) .none kV doc pm an cdv ct, fun s v => .of_eq rfl, fun base _ _ => ?_⟩
  obtain ⟨f2, fd2, ok, hm, _, _, oc2, od2, osl2, lk2⟩ := law_ok (P := l.prog) (w := w) (base := base) A B C
  have e2 := hfa.symm.trans hm
  cases e2
  rw [lk] at lk2
  cases lk2
  exact ok
end
end Wb
open PySem PySem.W PyProof.Rows
set_option maxHeartbeats 0 in
theorem PySem.Challenge.cw_wirebeats_k77_whole_orders_and_blocks_holds : PySem.Challenge.rw_wirebeats_k77_whole_orders_and_blocks.Holds := by
  w_on; o_law; k_head; (case hw => w_witness2)
  k_fill
  refine L2.walk_of (l := PySem.Challenge.rw_wirebeats_k77_whole_orders_and_blocks) (n := 63) (k := 7) (x := "_law_script") (CX := fun _ => L2.CX0) (sp := fun w => Wb.spLaw _) rfl (by decide) rfl ⟨rfl, by decide, by decide⟩ (fun w h Y => PySem.W.kIn_of Y) ?F (fun _ _ a ns hl _ hS => ⟨a, ns, rfl, hS, hl, fun _ => rfl⟩) (fun _ _ _ _ _ h => h)
  case F =>
    intro w mg fa h KX G hmg
    have h_lMill := Wb.has_mk Wb.bd_lMill KX G (by k_is) (by k_is) (by k_is) (by k_is)
    have h_lGrind := Wb.has_mk Wb.bd_lGrind KX G (by k_is) (by k_is) (by k_is) (by k_is)
    have h_lPick := Wb.has_mk Wb.bd_lPick KX G (by k_is) (by k_is) (by k_is) (by k_is)
    have h_lPlan := Wb.has_mk Wb.bd_lPlan KX G (by k_is) (by k_is) (by k_is) (by k_is)
    have h_lDot := Wb.has_mk Wb.bd_lDot KX G (by k_is) (by k_is) (by k_is) (by k_is)
    have h_lRead := Wb.has_mk Wb.bd_lRead KX G (by k_is) (by k_is) (by k_is) (by k_is)
    have h_lFlow := Wb.has_mk Wb.bd_lFlow KX G (by k_is) (by k_is) (by k_is) (by k_is)
    have h_lAim := Wb.has_mk Wb.bd_lAim KX G (by k_is) (by k_is) (by k_is) (by k_is)
    have h_lBox := Wb.has_mk Wb.bd_lBox KX G (by k_is) (by k_is) (by k_is) (by k_is)
    have h_itemsOf := Wb.has_mk Wb.bd_itemsOf KX G (by k_is) (by k_is) (by k_is) (by k_is)
    have h_movesOf := Wb.has_mk Wb.bd_movesOf KX G (by k_is) (by k_is) (by k_is) (by k_is)
    have h_orderOnRow := Wb.has_mk Wb.bd_orderOnRow KX G (by k_is) (by k_is) (by k_is) (by k_is)
    have h_crossSum := Wb.has_mk Wb.bd_crossSum KX G (by k_is) (by k_is) (by k_is) (by k_is)
    have h_dot := Wb.has_mk Wb.bd_dot KX G (by k_is) (by k_is) (by k_is) (by k_is)
    have h_isBefore := Wb.has_mk Wb.bd_isBefore KX G (by k_is) (by k_is) (by k_is) (by k_is)
    have h_orderInPlane := Wb.has_mk Wb.bd_orderInPlane KX G (by k_is) (by k_is) (by k_is) (by k_is)
    have h_oppositePair := Wb.has_mk Wb.bd_oppositePair KX G (by k_is) (by k_is) (by k_is) (by k_is)
    have h_divisorOf := Wb.has_mk Wb.bd_divisorOf KX G (by k_is) (by k_is) (by k_is) (by k_is)
    have h_countsFor := Wb.has_mk Wb.bd_countsFor KX G (by k_is) (by k_is) (by k_is) (by k_is)
    have h_tripleWith := Wb.has_mk Wb.bd_tripleWith KX G (by k_is) (by k_is) (by k_is) (by k_is)
    have h_findOrder := Wb.has_mk Wb.bd_findOrder KX G (by k_is) (by k_is) (by k_is) (by k_is)
    have h_lLeads := Wb.has_mk Wb.bd_lLeads KX G (by k_is) (by k_is) (by k_is) (by k_is)
    have h_lRingRight := Wb.has_mk Wb.bd_lRingRight KX G (by k_is) (by k_is) (by k_is) (by k_is)
    have h_countPoints := Wb.has_mk Wb.bd_countPoints KX G (by k_is) (by k_is) (by k_is) (by k_is)
    have h_requireSmall := Wb.has_mk Wb.bd_requireSmall KX G (by k_is) (by k_is) (by k_is) (by k_is)
    have h_pointsOf := Wb.has_mk Wb.bd_pointsOf KX G (by k_is) (by k_is) (by k_is) (by k_is)
    have h_blockOf := Wb.has_mk Wb.bd_blockOf KX G (by k_is) (by k_is) (by k_is) (by k_is)
    have h_blockAt := Wb.has_mk Wb.bd_blockAt KX G (by k_is) (by k_is) (by k_is) (by k_is)
    have h_blocksOf := Wb.has_mk Wb.bd_blocksOf KX G (by k_is) (by k_is) (by k_is) (by k_is)
    have h_readsOf := Wb.has_mk Wb.bd_readsOf KX G (by k_is) (by k_is) (by k_is) (by k_is)
    have h_difference := Wb.has_mk Wb.bd_difference KX G (by k_is) (by k_is) (by k_is) (by k_is)
    have h_isInside := Wb.has_mk Wb.bd_isInside KX G (by k_is) (by k_is) (by k_is) (by k_is)
    have h_waitsOf := Wb.has_mk Wb.bd_waitsOf KX G (by k_is) (by k_is) (by k_is) (by k_is)
    have h_isInteger := Wb.has_mk Wb.bd_isInteger KX G (by k_is) (by k_is) (by k_is) (by k_is)
    have h_areIntegers := Wb.has_mk Wb.bd_areIntegers KX G (by k_is) (by k_is) (by k_is) (by k_is)
    have h_areBlocks := Wb.has_mk Wb.bd_areBlocks KX G (by k_is) (by k_is) (by k_is) (by k_is)
    have h_planHolds := Wb.has_mk Wb.bd_planHolds KX G (by k_is) (by k_is) (by k_is) (by k_is)
    have h_followersOf := Wb.has_mk Wb.bd_followersOf KX G (by k_is) (by k_is) (by k_is) (by k_is)
    have h_findPlan := Wb.has_mk Wb.bd_findPlan KX G (by k_is) (by k_is) (by k_is) (by k_is)
    have h_law := Wb.has_mk Wb.bd_law KX G (by k_is) (by k_is) (by k_is) (by k_is)
    have A : Wb.AllHas _ mg := ⟨h_lMill, h_lGrind, h_lPick, h_lPlan, h_lDot, h_lRead, h_lFlow, h_lAim, h_lBox, h_itemsOf, h_movesOf, h_orderOnRow, h_crossSum, h_dot, h_isBefore, h_orderInPlane, h_oppositePair, h_divisorOf, h_countsFor, h_tripleWith, h_findOrder, h_lLeads, h_lRingRight, h_countPoints, h_requireSmall, h_pointsOf, h_blockOf, h_blockAt, h_blocksOf, h_readsOf, h_difference, h_isInside, h_waitsOf, h_isInteger, h_areIntegers, h_areBlocks, h_planHolds, h_followersOf, h_findPlan, h_law⟩
    have B : Wb.Blt mg := ⟨mg_none_of KX G (by k_is), mg_none_of KX G (by k_is), mg_none_of KX G (by k_is), mg_none_of KX G (by k_is), mg_none_of KX G (by k_is), mg_none_of KX G (by k_is), mg_none_of KX G (by k_is), mg_none_of KX G (by k_is), mg_none_of KX G (by k_is), mg_none_of KX G (by k_is), mg_none_of KX G (by k_is), mg_none_of KX G (by k_is), mg_none_of KX G (by k_is), mg_none_of KX G (by k_is), mg_none_of KX G (by k_is), mg_none_of KX G (by k_is), mg_none_of KX G (by k_is), mg_none_of KX G (by k_is)⟩
    have C : Wb.Consts mg := ⟨⟨_, mg_of KX G (by k_is), ⟨_, rfl⟩⟩, ⟨_, mg_of KX G (by k_is), ⟨_, rfl⟩⟩, ⟨_, mg_of KX G (by k_is), ⟨_, rfl⟩⟩, ⟨_, mg_of KX G (by k_is), ⟨_, rfl⟩⟩, ⟨_, mg_of KX G (by k_is), ⟨_, rfl⟩⟩⟩
    exact Wb.end_ok hmg KX G (by k_is) (by k_is) A B C
