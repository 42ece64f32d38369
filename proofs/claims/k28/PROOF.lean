import PyProof.Rows.All
import Wide.All
import OpenK.AllK
import Wide.FinOn
import HandS.ForMost
import HandS.Deep
import HandS.Conv
import HandS.TupAny
import HandS.TupLe
import HandS.IsInst
import HandS.Strs
import HandS.SetFor
import KE.KDictKeyed
import KE.KDictLaw
import KE.KDictDisplayH
import KE.KDictWalk
import KE.KDictList
import KE.KDictPairs
import KE.SortData
import KE.GoesEnum
import HandS.Defaults
import PyProof.SumAny
import HandS.Style
import PyProof.SeqIndex
import PySem.Challenge.RW_heapbooks_k28_whole_orders_of_deeds
import HandS.Small
import HandS.Walk
import KE.KStateDown
import Lean
import HandS.Head0
import HandS.Head1
import HandS.Head2
import HandS.HeadEnd
import HandS.HeadHook1
import HandS.HeadHook2
set_option Elab.async false
set_option linter.all false
set_option maxRecDepth 100000
set_option maxHeartbeats 0
namespace HB
open PySem PySem.Spec
def top (i : Nat) : Stmt := PySem.Challenge.pw_heapbooks_k28_whole_orders_of_deeds.main.body.getD i (.Pass ⟨0, 0, 0, 0⟩)
end HB
namespace HBH
open PySem PySem.Spec PyProof.Rows L2 HB
def d9 : He.DefD := ⟨("is_in", none), "is_in", "is_in", defArgs (top 9), defBody (top 9), defScope (top 9), [], []⟩
def d12 : He.DefD := ⟨("is_row", none), "is_row", "is_row", defArgs (top 12), defBody (top 12), defScope (top 12), [], []⟩
def d13 : He.DefD := ⟨("need_book", none), "need_book", "need_book", defArgs (top 13), defBody (top 13), defScope (top 13), [], []⟩
def d14 : He.DefD := ⟨("lets", none), "lets", "lets", defArgs (top 14), defBody (top 14), defScope (top 14), [], []⟩
def d16 : He.DefD := ⟨("all_pairs", none), "all_pairs", "all_pairs", defArgs (top 16), defBody (top 16), defScope (top 16), [], []⟩
def d17 : He.DefD := ⟨("behind", none), "behind", "behind", defArgs (top 17), defBody (top 17), defScope (top 17), [], []⟩
def d18 : He.DefD := ⟨("deeds_in_twos", none), "deeds_in", "deeds_in", defArgs (top 18), defBody (top 18), defScope (top 18), [], []⟩
def d20 : He.DefD := ⟨("from_in", none), "from_in", "from_in", defArgs (top 20), defBody (top 20), defScope (top 20), [], []⟩
def d21 : He.DefD := ⟨("off", none), "off", "off", defArgs (top 21), defBody (top 21), defScope (top 21), [], []⟩
def d22 : He.DefD := ⟨("crooked_in", none), "crooked_in", "crooked_in", defArgs (top 22), defBody (top 22), defScope (top 22), [], []⟩
def d24 : He.DefD := ⟨("shuffles_in", none), "shuffles_in", "shuffles_in", defArgs (top 24), defBody (top 24), defScope (top 24), [], []⟩
def d25 : He.DefD := ⟨("way", none), "way", "way", defArgs (top 25), defBody (top 25), defScope (top 25), [], []⟩
def d26 : He.DefD := ⟨("bounds", none), "bounds", "bounds", defArgs (top 26), defBody (top 26), defScope (top 26), [], []⟩
def d27 : He.DefD := ⟨("told_in", none), "told_in", "told_in", defArgs (top 27), defBody (top 27), defScope (top 27), [], []⟩
def d28 : He.DefD := ⟨("counted", none), "counted", "counted", defArgs (top 28), defBody (top 28), defScope (top 28), [], []⟩
def d29 : He.DefD := ⟨("is_told_in", none), "is_told_in", "is_told_in", defArgs (top 29), defBody (top 29), defScope (top 29), [], []⟩
def d30 : He.DefD := ⟨("courses_in", none), "courses_in", "courses_in", defArgs (top 30), defBody (top 30), defScope (top 30), [], []⟩
def d31 : He.DefD := ⟨("untold_in", none), "untold_in", "untold_in", defArgs (top 31), defBody (top 31), defScope (top 31), [], []⟩
def d33 : He.DefD := ⟨("all_kinds", none), "all_kinds", "all_kinds", defArgs (top 33), defBody (top 33), defScope (top 33), [], []⟩
def d34 : He.DefD := ⟨("leads_in", none), "leads_in", "leads_in", defArgs (top 34), defBody (top 34), defScope (top 34), [], []⟩
def d35 : He.DefD := ⟨("ranks_in", none), "ranks_in", "ranks_in", defArgs (top 35), defBody (top 35), defScope (top 35), [], []⟩
def d37 : He.DefD := ⟨("verdict_in", none), "verdict_in", "verdict_in", defArgs (top 37), defBody (top 37), defScope (top 37), [], []⟩
def d38 : He.DefD := ⟨("need_kept", none), "need_kept", "need_kept", defArgs (top 38), defBody (top 38), defScope (top 38), [], []⟩
def d41 : He.DefD := ⟨("is_edge", none), "is_edge", "is_edge", defArgs (top 41), defBody (top 41), defScope (top 41), [], []⟩
def d42 : He.DefD := ⟨("need_web", none), "need_web", "need_web", defArgs (top 42), defBody (top 42), defScope (top 42), [], []⟩
def d43 : He.DefD := ⟨("need_heights", none), "need_heights", "need_heights", defArgs (top 43), defBody (top 43), defScope (top 43), [], []⟩
def d44 : He.DefD := ⟨("beside", none), "beside", "beside", defArgs (top 44), defBody (top 44), defScope (top 44), [], []⟩
def d45 : He.DefD := ⟨("is_let", none), "is_let", "is_let", defArgs (top 45), defBody (top 45), defScope (top 45), [], []⟩
def d46 : He.DefD := ⟨("deeds_in_webs", none), "deeds_in", "deeds_in", defArgs (top 46), defBody (top 46), defScope (top 46), [], []⟩
def d48 : He.DefD := ⟨("changed", none), "changed", "changed", defArgs (top 48), defBody (top 48), defScope (top 48), [], []⟩
def d51 : He.DefD := ⟨("bars_in", none), "bars_in", "bars_in", defArgs (top 51), defBody (top 51), defScope (top 51), [], []⟩
def d52 : He.DefD := ⟨("need_kept_both", none), "need_kept_both", "need_kept_both", defArgs (top 52), defBody (top 52), defScope (top 52), [], []⟩
def d53 : He.DefD := ⟨("sum_of", none), "sum_of", "sum_of", defArgs (top 53), defBody (top 53), defScope (top 53), [], []⟩
def d54 : He.DefD := ⟨("need_way", none), "need_way", "need_way", defArgs (top 54), defBody (top 54), defScope (top 54), [], []⟩
def d55 : He.DefD := ⟨("pairs_in", none), "pairs_in", "pairs_in", defArgs (top 55), defBody (top 55), defScope (top 55), [], []⟩
def d56 : He.DefD := ⟨("order_pairs", none), "order_pairs", "order_pairs", defArgs (top 56), defBody (top 56), defScope (top 56), [], []⟩
def d57 : He.DefD := ⟨("nearer", none), "nearer", "nearer", defArgs (top 57), defBody (top 57), defScope (top 57), [], []⟩
def d58 : He.DefD := ⟨("ways_count", none), "ways_count", "ways_count", defArgs (top 58), defBody (top 58), defScope (top 58), [], []⟩
def d60 : He.DefD := ⟨("_law_taken", none), "_law_taken", "_law_taken", defArgs (top 60), defBody (top 60), defScope (top 60), [], []⟩
def d61 : He.DefD := ⟨("_law_book", none), "_law_book", "_law_book", defArgs (top 61), defBody (top 61), defScope (top 61), [], []⟩
def d62 : He.DefD := ⟨("_law_pairs", none), "_law_pairs", "_law_pairs", defArgs (top 62), defBody (top 62), defScope (top 62), [], []⟩
def d63 : He.DefD := ⟨("_law_lets", none), "_law_lets", "_law_lets", defArgs (top 63), defBody (top 63), defScope (top 63), [], []⟩
def d64 : He.DefD := ⟨("_law_two", none), "_law_two", "_law_two", defArgs (top 64), defBody (top 64), defScope (top 64), [], []⟩
def d65 : He.DefD := ⟨("_law_from", none), "_law_from", "_law_from", defArgs (top 65), defBody (top 65), defScope (top 65), [], []⟩
def d66 : He.DefD := ⟨("_law_off", none), "_law_off", "_law_off", defArgs (top 66), defBody (top 66), defScope (top 66), [], []⟩
def d67 : He.DefD := ⟨("_law_straight", none), "_law_straight", "_law_straight", defArgs (top 67), defBody (top 67), defScope (top 67), [], []⟩
def d68 : He.DefD := ⟨("_law_shuffles", none), "_law_shuffles", "_law_shuffles", defArgs (top 68), defBody (top 68), defScope (top 68), [], []⟩
def d69 : He.DefD := ⟨("_law_courses", none), "_law_courses", "_law_courses", defArgs (top 69), defBody (top 69), defScope (top 69), [], []⟩
def d70 : He.DefD := ⟨("_law_way", none), "_law_way", "_law_way", defArgs (top 70), defBody (top 70), defScope (top 70), [], []⟩
def d71 : He.DefD := ⟨("_law_orders", none), "_law_orders", "_law_orders", defArgs (top 71), defBody (top 71), defScope (top 71), [], []⟩
def d72 : He.DefD := ⟨("_law_lines", none), "_law_lines", "_law_lines", defArgs (top 72), defBody (top 72), defScope (top 72), [], []⟩
def d73 : He.DefD := ⟨("_law_told", none), "_law_told", "_law_told", defArgs (top 73), defBody (top 73), defScope (top 73), [], []⟩
def d74 : He.DefD := ⟨("_law_is_told", none), "_law_is_told", "_law_is_told", defArgs (top 74), defBody (top 74), defScope (top 74), [], []⟩
def d75 : He.DefD := ⟨("_law_kinds", none), "_law_kinds", "_law_kinds", defArgs (top 75), defBody (top 75), defScope (top 75), [], []⟩
def d76 : He.DefD := ⟨("_law_leads", none), "_law_leads", "_law_leads", defArgs (top 76), defBody (top 76), defScope (top 76), [], []⟩
def d77 : He.DefD := ⟨("_law_rises", none), "_law_rises", "_law_rises", defArgs (top 77), defBody (top 77), defScope (top 77), [], []⟩
def d78 : He.DefD := ⟨("_law_verdict", none), "_law_verdict", "_law_verdict", defArgs (top 78), defBody (top 78), defScope (top 78), [], []⟩
def d79 : He.DefD := ⟨("_law_kept", none), "_law_kept", "_law_kept", defArgs (top 79), defBody (top 79), defScope (top 79), [], []⟩
def d80 : He.DefD := ⟨("_law_web", none), "_law_web", "_law_web", defArgs (top 80), defBody (top 80), defScope (top 80), [], []⟩
def d81 : He.DefD := ⟨("_law_heights", none), "_law_heights", "_law_heights", defArgs (top 81), defBody (top 81), defScope (top 81), [], []⟩
def d82 : He.DefD := ⟨("_law_after", none), "_law_after", "_law_after", defArgs (top 82), defBody (top 82), defScope (top 82), [], []⟩
def d83 : He.DefD := ⟨("_law_pick", none), "_law_pick", "_law_pick", defArgs (top 83), defBody (top 83), defScope (top 83), [], []⟩
def d84 : He.DefD := ⟨("_law_reached", none), "_law_reached", "_law_reached", defArgs (top 84), defBody (top 84), defScope (top 84), [], []⟩
def d85 : He.DefD := ⟨("_law_ahead", none), "_law_ahead", "_law_ahead", defArgs (top 85), defBody (top 85), defScope (top 85), [], []⟩
def d86 : He.DefD := ⟨("_law_alike", none), "_law_alike", "_law_alike", defArgs (top 86), defBody (top 86), defScope (top 86), [], []⟩
def d87 : He.DefD := ⟨("_law_straight_words", none), "_law_straight_words", "_law_straight_words", defArgs (top 87), defBody (top 87), defScope (top 87), [], []⟩
def d88 : He.DefD := ⟨("_law_orders_of", none), "_law_orders_of", "_law_orders_of", defArgs (top 88), defBody (top 88), defScope (top 88), [], []⟩
def d89 : He.DefD := ⟨("_law_singles", none), "_law_singles", "_law_singles", defArgs (top 89), defBody (top 89), defScope (top 89), [], []⟩
def d90 : He.DefD := ⟨("law", none), "law", "law", defArgs (top 90), defBody (top 90), defScope (top 90), [], []⟩
def fn : List He.DefD := [d9, d12, d13, d14, d16, d17, d18, d20, d21, d22, d24, d25, d26, d27, d28, d29, d30, d31, d33, d34, d35, d37, d38, d41, d42, d43, d44, d45, d46, d48, d51, d52, d53, d54, d55, d56, d57, d58, d60, d61, d62, d63, d64, d65, d66, d67, d68, d69, d70, d71, d72, d73, d74, d75, d76, d77, d78, d79, d80, d81, d82, d83, d84, d85, d86, d87, d88, d89, d90]
def fa : List He.Fa := [.glo "is_in", .glo "is_row", .glo "need_book", .glo "lets", .glo "all_pairs", .glo "behind", .glo "deeds_in_twos", .glo "from_in", .glo "off", .glo "crooked_in", .glo "shuffles_in", .glo "way", .glo "bounds", .glo "told_in", .glo "counted", .glo "is_told_in", .glo "courses_in", .glo "untold_in", .glo "all_kinds", .glo "leads_in", .glo "ranks_in", .glo "verdict_in", .glo "need_kept", .glo "is_edge", .glo "need_web", .glo "need_heights", .glo "beside", .glo "is_let", .glo "deeds_in_webs", .glo "changed", .glo "bars_in", .glo "need_kept_both", .glo "sum_of", .glo "need_way", .glo "pairs_in", .glo "order_pairs", .glo "nearer", .glo "ways_count", .glo "_law_taken", .glo "_law_book", .glo "_law_pairs", .glo "_law_lets", .glo "_law_two", .glo "_law_from", .glo "_law_off", .glo "_law_straight", .glo "_law_shuffles", .glo "_law_courses", .glo "_law_way", .glo "_law_orders", .glo "_law_lines", .glo "_law_told", .glo "_law_is_told", .glo "_law_kinds", .glo "_law_leads", .glo "_law_rises", .glo "_law_verdict", .glo "_law_kept", .glo "_law_web", .glo "_law_heights", .glo "_law_after", .glo "_law_pick", .glo "_law_reached", .glo "_law_ahead", .glo "_law_alike", .glo "_law_straight_words", .glo "_law_orders_of", .glo "_law_singles", .glo "law", .free "abs", .free "bool", .free "dict", .free "enumerate", .free "int", .free "isinstance", .free "len", .free "list", .free "max", .free "min", .free "range", .free "set", .free "sorted", .free "str", .free "sum", .free "tuple", .int "MOST_ROOF" 4, .int "MOST_PLACES" 8, .int "MOST_BOX" 3000]
def loose0 : List Str := ["BookError", "BadBook", "BadWeb", "BadHeights", "NotKept", "NoWay", "TooMany", "is_in", "MOST_ROOF", "is_row", "need_book", "lets", "all_pairs", "behind", "deeds_in", "deeds_in_twos", "from_in", "off", "crooked_in", "shuffles_in", "way", "bounds", "told_in", "counted", "is_told_in", "courses_in", "untold_in", "all_kinds", "leads_in", "ranks_in"]
def loose1 : List Str := ["verdict_in", "need_kept", "MOST_PLACES", "is_edge", "need_web", "need_heights", "beside", "is_let", "deeds_in_webs", "changed", "MOST_BOX", "bars_in", "need_kept_both", "sum_of", "need_way", "pairs_in", "order_pairs", "nearer", "ways_count", "_law_taken", "_law_book", "_law_pairs", "_law_lets", "_law_two", "_law_from", "_law_off", "_law_straight", "_law_shuffles", "_law_courses", "_law_way"]
def loose2 : List Str := ["_law_orders", "_law_lines", "_law_told", "_law_is_told", "_law_kinds", "_law_leads", "_law_rises", "_law_verdict", "_law_kept", "_law_web", "_law_heights", "_law_after", "_law_pick", "_law_reached", "_law_ahead", "_law_alike", "_law_straight_words", "_law_orders_of", "_law_singles"]
def loose : List Str := loose0 ++ loose1 ++ loose2
abbrev R : PySem.W.OpenRow := PySem.W.OpenLaw.row PySem.Challenge.rw_heapbooks_k28_whole_orders_of_deeds
abbrev hk : PySem.W.Hook := He.hookD 4 fa fn
def ob (s : PySem.W.SharedT) : He.AlD := He.obsDG 4 fa fn (HandSHeadRun.getT s)
theorem ob_eq (s : PySem.W.SharedT) : ob s = hk.obs s.abs := He.obsDG_eq (HandSHeadRun.getT_eq s)
theorem run (w : World) : HandSHeadRun.RunEq R (PySem.W.view R.prog [90]) hk ob 4000 loose w := by
  intro os
  kernel_rfl
end HBH
set_option Elab.async false
set_option linter.all false
set_option maxRecDepth 100000
set_option maxHeartbeats 4000000
set_option autoImplicit false
namespace HB
open PySem PySem.Spec L2

/-! ### data in the abstract heap -/
/-- what a dict, a line (a tuple with no attribute dict) is told by -/
abbrev dc (kvs : List (PyData × PyData)) : PyData := .dict ((.bool true, .none) :: kvs)
abbrev ln (ds : List PyData) : PyData := .dict [(.bool false, .tuple ds)]
abbrev di (m : List (Int × Int)) : PyData := .dict [(.int 0, .list (m.map fun p => .tuple [.int p.1, .int p.2]))]
def dctO (a : Addr) (es : Array DictEntry) (ep : Nat) : HO := .ext fun h => ∃ o, h.get? a = some o ∧ o.ExactDict ∧ o.data = .dict es ep

section
variable (P : Program) (w : World) (F : Hp)
mutual
inductive Isd : V → PyData → Prop
  | non : Isd .non .none
  | bl (b : Bool) : Isd (.bl b) (.bool b)
  | int (i : Int) : Isd (.int i) (.int i)
  | str (x : Str) : Isd (.str x) (.str x)
  | ref {a : Addr} {o : HO} {d : PyData} : F a = some o → Hod a o d → Isd (.ref a) d
inductive Hod : Addr → HO → PyData → Prop
  | lst {a : Addr} {vs : List V} {ds : List PyData} : IsdA vs ds → Hod a (.lst vs) (.list ds)
  | tup {a : Addr} {vs : List V} {ds : List PyData} : IsdA vs ds → Hod a (.tup vs) (.tuple ds)
  | dct {a : Addr} {es : Array DictEntry} {ep : Nat} {xs : List (NestedKey × Addr × Value)} {kvs : List (PyData × PyData)} : (a == sysModules) = false → es.toList = xs.map (entryOfKey (nestedKind P w)) → (xs.map (·.1)).Nodup → es.size ≤ sizeLine → Ent xs kvs → Hod a (dctO a es ep) (dc kvs)
  | lin {a : Addr} {o : Obj} {vs : List V} {ds : List PyData} : o.dict = none → IsdA vs ds → Hod a (.frz o (.tup vs)) (ln ds)
  | dki {a : Addr} (m : List (Int × Int)) : Hod a (.dK (m.map fun p => (Sum.inl p.1, V.int p.2))) (di m)
inductive IsdA : List V → List PyData → Prop
  | nil : IsdA [] []
  | cons {v : V} {vs : List V} {d : PyData} {ds : List PyData} : Isd v d → IsdA vs ds → IsdA (v :: vs) (d :: ds)
inductive Ent : List (NestedKey × Addr × Value) → List (PyData × PyData) → Prop
  | nil : Ent [] []
  | cons {k : NestedKey} {a : Addr} {v : V} {u : Value} {vd : PyData} {xs : List (NestedKey × Addr × Value)} {kvs : List (PyData × PyData)} : Isd (.ref a) k.data → k.depth ≤ 8 → RelV v u → Isd v vd → Ent xs kvs → Ent ((k, a, u) :: xs) ((k.data, vd) :: kvs)
end
end
section
variable {P : Program} {w : World} {F F' H H' : Hp}
mutual
theorem Isd.mono (e : Same F F') : ∀ {v : V} {d : PyData}, Isd P w F v d → Isd P w F' v d
  | _, _, .non => .non
  | _, _, .bl b => .bl b
  | _, _, .int i => .int i
  | _, _, .str x => .str x
  | _, _, .ref h k => .ref (e _ _ h) (Hod.mono e k)
theorem Hod.mono (e : Same F F') : ∀ {a : Addr} {o : HO} {d : PyData}, Hod P w F a o d → Hod P w F' a o d
  | _, _, _, .lst h => .lst (IsdA.mono e h)
  | _, _, _, .tup h => .tup (IsdA.mono e h)
  | _, _, _, .dct h1 h2 h3 h4 h5 => .dct h1 h2 h3 h4 (Ent.mono e h5)
  | _, _, _, .lin h1 h2 => .lin h1 (IsdA.mono e h2)
  | _, _, _, .dki m => .dki m
theorem IsdA.mono (e : Same F F') : ∀ {vs : List V} {ds : List PyData}, IsdA P w F vs ds → IsdA P w F' vs ds
  | _, _, .nil => .nil
  | _, _, .cons h t => .cons (Isd.mono e h) (IsdA.mono e t)
theorem Ent.mono (e : Same F F') : ∀ {xs : List (NestedKey × Addr × Value)} {kvs : List (PyData × PyData)}, Ent P w F xs kvs → Ent P w F' xs kvs
  | _, _, .nil => .nil
  | _, _, .cons h1 h2 h3 h4 h5 => .cons (Isd.mono e h1) h2 h3 (Isd.mono e h4) (Ent.mono e h5)
end
/- data without dicts -/
mutual
def plainD : PyData → Bool
  | .none => true
  | .bool _ => true
  | .int _ => true
  | .str _ => true
  | .list xs => plainA xs
  | .tuple xs => plainA xs
  | .dict _ => false
def plainA : List PyData → Bool
  | [] => true
  | d :: ds => plainD d && plainA ds
end
mutual
theorem Isd.dp {K : PySem.W.Frag} : ∀ {v : V} {d : PyData}, Isd P w F v d → plainD d = true → Dp K F v d
  | _, _, .non, _ => .non
  | _, _, .bl b, _ => .bl b
  | _, _, .int i, _ => .int i
  | _, _, .str x, _ => .str x
  | _, _, .ref h k, e => Hod.dp h k e
theorem Hod.dp {K : PySem.W.Frag} : ∀ {a : Addr} {o : HO} {d : PyData}, F a = some o → Hod P w F a o d → plainD d = true → Dp K F (.ref a) d
  | _, _, _, e, .lst h, q => .lst (SqL.of e) (IsdA.dp h (by simpa [plainD] using q))
  | _, _, _, e, .tup h, q => .tup (SqT.of e) (IsdA.dp h (by simpa [plainD] using q))
  | _, _, _, _, .dct .., q => by simp [plainD] at q
  | _, _, _, _, .lin .., q => by simp [plainD] at q
  | _, _, _, _, .dki .., q => by simp [plainD] at q
theorem IsdA.dp {K : PySem.W.Frag} : ∀ {vs : List V} {ds : List PyData}, IsdA P w F vs ds → plainA ds = true → DpAll K F vs ds
  | _, _, .nil, _ => .nil
  | _, _, .cons h t, e => .cons (Isd.dp h (by simp [plainA] at e; exact e.1)) (IsdA.dp t (by simp [plainA] at e; exact e.2))
end
theorem IsdA.length : ∀ {vs : List V} {ds : List PyData}, IsdA P w F vs ds → vs.length = ds.length
  | _, _, .nil => rfl
  | _, _, .cons _ t => by rw [List.length_cons, List.length_cons, IsdA.length t]
theorem IsdA.append : ∀ {vs vs' : List V} {ds ds' : List PyData}, IsdA P w F vs ds → IsdA P w F vs' ds' → IsdA P w F (vs ++ vs') (ds ++ ds')
  | _, _, _, _, .nil, h => h
  | _, _, _, _, .cons h t, h' => .cons h (IsdA.append t h')
theorem IsdA.get : ∀ {vs : List V} {ds : List PyData} {i : Nat} {d : PyData}, IsdA P w F vs ds → ds[i]? = some d → ∃ v, vs[i]? = some v ∧ Isd P w F v d
  | _, _, _, _, .nil, e => by simp at e
  | _, _, 0, _, .cons h _, e => by simp at e; subst e; exact ⟨_, rfl, h⟩
  | _, _, i + 1, _, .cons _ t, e => by
    obtain ⟨v, h1, h2⟩ := IsdA.get (i := i) t (by simpa using e)
    exact ⟨v, by simpa using h1, h2⟩
theorem IsdA.getV : ∀ {vs : List V} {ds : List PyData} {i : Nat} {v : V}, IsdA P w F vs ds → vs[i]? = some v → ∃ d, ds[i]? = some d ∧ Isd P w F v d
  | _, _, _, _, .nil, e => by simp at e
  | _, _, 0, _, .cons h _, e => by simp at e; subst e; exact ⟨_, rfl, h⟩
  | _, _, i + 1, _, .cons _ t, e => by
    obtain ⟨v, h1, h2⟩ := IsdA.getV (i := i) t (by simpa using e)
    exact ⟨v, by simpa using h1, h2⟩
theorem IsdA.drop : ∀ (n : Nat) {vs : List V} {ds : List PyData}, IsdA P w F vs ds → IsdA P w F (vs.drop n) (ds.drop n)
  | 0, _, _, h => h
  | _ + 1, _, _, .nil => .nil
  | n + 1, _, _, .cons _ t => IsdA.drop n t
theorem IsdA.take : ∀ (n : Nat) {vs : List V} {ds : List PyData}, IsdA P w F vs ds → IsdA P w F (vs.take n) (ds.take n)
  | 0, _, _, _ => .nil
  | _ + 1, _, _, .nil => .nil
  | n + 1, _, _, .cons h t => .cons h (IsdA.take n t)
theorem IsdA.set {v : V} {d : PyData} (r : Isd P w F v d) : ∀ {vs : List V} {ds : List PyData} (i : Nat), IsdA P w F vs ds → IsdA P w F (vs.set i v) (ds.set i d)
  | _, _, _, .nil => .nil
  | _, _, 0, .cons _ t => .cons r t
  | _, _, i + 1, .cons h t => .cons h (IsdA.set r i t)
theorem IsdA.reverse : ∀ {vs : List V} {ds : List PyData}, IsdA P w F vs ds → IsdA P w F vs.reverse ds.reverse
  | _, _, .nil => .nil
  | _, _, .cons h t => by
    rw [List.reverse_cons, List.reverse_cons]
    exact (IsdA.reverse t).append (.cons h .nil)
theorem IsdA.ints : ∀ {vs : List V} {ns : List Int}, IsdA P w F vs (ns.map PyData.int) → vs = ns.map V.int
  | _, [], h => by cases h; rfl
  | _, n :: ns, h => by
    cases h with
    | cons h t => cases h with
      | int => rw [IsdA.ints t]; rfl
      | ref _ h => cases h
theorem IsdA.bls : ∀ {vs : List V} {ns : List Bool}, IsdA P w F vs (ns.map PyData.bool) → vs = ns.map V.bl
  | _, [], h => by cases h; rfl
  | _, n :: ns, h => by
    cases h with
    | cons h t => cases h with
      | bl => rw [IsdA.bls t]; rfl
      | ref _ h => cases h
theorem isdA_ints : ∀ (ns : List Int), IsdA P w F (ns.map V.int) (ns.map PyData.int)
  | [] => .nil
  | n :: ns => .cons (.int n) (isdA_ints ns)
end

/-! ### the context, the state -/
structure Cc where
  P : Program
  w : World
  K : PySem.W.Frag
  F0 : Hp
  H0 : Hp
  r : Option Addr
  sa : Addr
  ns : List Int
abbrev Rw := Int × Int × Int
inductive Slo where
  | no | fz (d : PyData) | ow (d : PyData) | row
abbrev Enm := List Slo
section
variable (C : Cc)
abbrev Cc.Is (F : Hp) (v : V) (d : PyData) : Prop := Isd C.P C.w F v d
abbrev Cc.Ho (F : Hp) (a : Addr) (o : HO) (d : PyData) : Prop := Hod C.P C.w F a o d
def SlOk (F H : Hp) : Slo → Option (Option V) → Prop
  | .no, _ => True
  | .fz d, y => ∃ v, y = some (some v) ∧ C.Is F v d
  | .ow d, y => ∃ a o, y = some (some (.ref a)) ∧ F a = none ∧ C.H0 a = none ∧ H a = some o ∧ C.Ho F a o d
  | .row, y => ∃ r, y = some (some (.ref r)) ∧ C.r = some r
def RowOk (ρ : Rw) (F H : Hp) : Prop := ∀ r, C.r = some r → C.H0 r ≠ none ∧ F r = none ∧ H r = some (.lst [.ref C.sa, .int ρ.1, .int ρ.2.1, .int ρ.2.2]) ∧ C.sa ≠ r ∧ SqL C.K C.H0 C.sa (C.ns.map V.int)
structure Rl (δ : Enm) (ρ : Rw) (σ : St) (F H : Hp) : Prop where
  len : δ.length = σ.length
  slot : ∀ (i : Nat) s, δ[i]? = some s → SlOk C F H s σ[i]?
  apart : ∀ (i j : Nat) (di dj : PyData) (a : Addr), δ[i]? = some (.ow di) → δ[j]? = some (.ow dj) → σ[i]? = some (some (.ref a)) → σ[j]? = some (some (.ref a)) → i = j
  same : ∀ b o, C.r ≠ some b → C.H0 b = some o → H b = some o
  frz : Same F H
  ext : ∀ a o, C.H0 a = some o → F a = C.F0 a
  old : Same C.F0 F
  row : RowOk C ρ F H
/-- what an expression does to the heaps -/
structure Gr (F H F' H' : Hp) : Prop where
  f : Same F F'
  h : ∀ b o, C.r ≠ some b → H b = some o → H' b = some o
  e : ∀ b o, H b = some o → F' b = F b
end
section
variable {C : Cc} {δ δ' : Enm} {ρ ρ' : Rw} {σ σ' : St} {F F' F2 H H' H2 : Hp}
theorem Gr.refl : Gr C F H F H := ⟨Same.refl _, fun _ _ _ h => h, fun _ _ _ => rfl⟩
theorem Gr.trans (a : Gr C F H F' H') (b : Gr C F' H' F2 H2) (hr : ∀ r, C.r = some r → H r ≠ none → H' r ≠ none) : Gr C F H F2 H2 where
  f := a.f.trans b.f
  h := fun x o n q => b.h x o n (a.h x o n q)
  e := fun x o q => by
    by_cases n : C.r = some x
    · have h2 := hr x n (by rw [q]; simp)
      cases q2 : H' x with
      | none => exact absurd q2 h2
      | some o2 => rw [b.e x o2 q2, a.e x o q]
    · rw [b.e x o (a.h x o n q), a.e x o q]
theorem Rl.rowthere (R : Rl C δ ρ σ F H) : ∀ r, C.r = some r → H r ≠ none := fun r e => by
  rw [(R.row r e).2.2.1]; simp
theorem Gr.tr (a : Gr C F H F' H') (b : Gr C F' H' F2 H2) (R : Rl C δ ρ σ F' H') : Gr C F H F2 H2 := a.trans b fun r e _ => R.rowthere r e
/-- the state behind an expression -/
theorem Rl.grow (R : Rl C δ ρ σ F H) (g : Gr C F H F' H') (s : Same F' H') (rw' : RowOk C ρ' F' H') : Rl C δ ρ' σ F' H' where
  len := R.len
  slot := fun i s e => by
    have q := R.slot i s e
    cases s with
    | no => trivial
    | fz d => obtain ⟨v, e1, h⟩ := q; exact ⟨v, e1, h.mono g.f⟩
    | ow d =>
      obtain ⟨a, o, e1, e2, e3, e4, h⟩ := q
      have hn : C.r ≠ some a := fun z => (R.row a z).1 e3
      exact ⟨a, o, e1, by rw [g.e a o e4, e2], e3, g.h a o hn e4, h.mono g.f⟩
    | row => exact q
  apart := R.apart
  same := fun b o n e => g.h b o n (R.same b o n e)
  frz := s
  ext := fun a o e => by
    have : ∃ o2, H a = some o2 := by
      by_cases n : C.r = some a
      · exact ⟨_, (R.row a n).2.2.1⟩
      · exact ⟨o, R.same a o n e⟩
    obtain ⟨o2, e2⟩ := this
    rw [g.e a o2 e2, R.ext a o e]
  old := R.old.trans g.f
  row := rw'
theorem RowOk.keep (R : RowOk C ρ F H) (g : Gr C F H F' H') (hr : ∀ r, C.r = some r → H' r = H r) : RowOk C ρ F' H' := fun r e => by
  obtain ⟨h1, h2, h3, h4, h5⟩ := R r e
  exact ⟨h1, by rw [g.e r _ h3, h2], by rw [hr r e, h3], h4, h5⟩
/-- a new frozen object -/
theorem gr_new {a : Addr} {o : HO} (h : H a = none) (s : Same F H) : Gr C F H (upd F a o) (upd H a o) where
  f := fun b x e => by rw [upd_ne (ne_of_none e (s.free h))]; exact e
  h := fun b x _ e => by rw [upd_ne (ne_of_none e h)]; exact e
  e := fun b x e => by rw [upd_ne (ne_of_none e h)]
theorem gr_newO {a : Addr} {o : HO} (h : H a = none) : Gr C F H F (upd H a o) where
  f := Same.refl _
  h := fun b x _ e => by rw [upd_ne (ne_of_none e h)]; exact e
  e := fun b x e => rfl
theorem same_new {a : Addr} {o : HO} (h : H a = none) (s : Same F H) : Same (upd F a o) (upd H a o) := fun b x e => by
  by_cases q : b = a
  · subst q; rw [upd_same] at e ⊢; exact e
  · rw [upd_ne q] at e ⊢; exact s _ _ e
theorem same_newO {a : Addr} {o : HO} (h : H a = none) (s : Same F H) : Same F (upd H a o) := fun b x e => by
  rw [upd_ne (ne_of_none (s _ _ e) h)]; exact s _ _ e
theorem Rl.new (R : Rl C δ ρ σ F H) {a : Addr} {o : HO} (h : H a = none) : Rl C δ ρ σ (upd F a o) (upd H a o) :=
  R.grow (gr_new h R.frz) (same_new h R.frz) (R.row.keep (gr_new h R.frz) fun r e => upd_ne fun z => R.rowthere r e (by rw [z]; exact h))
theorem Rl.newO (R : Rl C δ ρ σ F H) {a : Addr} {o : HO} (h : H a = none) : Rl C δ ρ σ F (upd H a o) :=
  R.grow (gr_newO h) (same_newO h R.frz) (R.row.keep (gr_newO h) fun r e => upd_ne fun z => R.rowthere r e (by rw [z]; exact h))
theorem Rl.up (R : Rl C δ ρ σ F H) {v : V} {d : PyData} (h : C.Is F v d) : C.Is H v d := h.mono R.frz
/-- a container, frozen or owned -/
def CIs (C : Cc) (F H : Hp) (v : V) (d : PyData) : Prop := C.Is F v d ∨ ∃ a o, v = .ref a ∧ C.r ≠ some a ∧ H a = some o ∧ C.Ho F a o d
theorem CIs.up {v : V} {d : PyData} (s : Same F H) (h : CIs C F H v d) : C.Is H v d := by
  rcases h with h | ⟨a, o, rfl, _, e, h⟩
  · exact h.mono s
  · exact .ref e (h.mono s)
theorem CIs.grow {v : V} {d : PyData} (h : CIs C F H v d) (g : Gr C F H F' H') : CIs C F' H' v d := by
  rcases h with h | ⟨a, o, rfl, n, e, h⟩
  · exact .inl (h.mono g.f)
  · exact .inr ⟨a, o, rfl, n, g.h a o n e, h.mono g.f⟩
theorem CIs.int {v : V} {i : Int} (h : CIs C F H v (.int i)) : v = .int i := by
  rcases h with h | ⟨a, o, rfl, _, e, h⟩
  · cases h with
    | int => rfl
    | ref _ h => cases h
  · cases h
theorem CIs.bl {v : V} {i : Bool} (h : CIs C F H v (.bool i)) : v = .bl i := by
  rcases h with h | ⟨a, o, rfl, _, e, h⟩
  · cases h with
    | bl => rfl
    | ref _ h => cases h
  · cases h
theorem CIs.str {v : V} {i : Str} (h : CIs C F H v (.str i)) : v = .str i := by
  rcases h with h | ⟨a, o, rfl, _, e, h⟩
  · cases h with
    | str => rfl
    | ref _ h => cases h
  · cases h
theorem CIs.non {v : V} (h : CIs C F H v .none) : v = .non := by
  rcases h with h | ⟨a, o, rfl, _, e, h⟩
  · cases h with
    | non => rfl
    | ref _ h => cases h
  · cases h
theorem CIs.tup {v : V} {ds : List PyData} (s : Same F H) (h : CIs C F H v (.tuple ds)) : ∃ a vs, v = .ref a ∧ H a = some (.tup vs) ∧ IsdA C.P C.w F vs ds := by
  rcases h with h | ⟨a, o, rfl, _, e, h⟩
  · cases h with
    | ref e h => cases h with
      | tup h => exact ⟨_, _, rfl, s _ _ e, h⟩
  · cases h with
    | tup h => exact ⟨_, _, rfl, e, h⟩
theorem CIs.lst {v : V} {ds : List PyData} (s : Same F H) (h : CIs C F H v (.list ds)) : ∃ a vs, v = .ref a ∧ H a = some (.lst vs) ∧ IsdA C.P C.w F vs ds := by
  rcases h with h | ⟨a, o, rfl, _, e, h⟩
  · cases h with
    | ref e h => cases h with
      | lst h => exact ⟨_, _, rfl, s _ _ e, h⟩
  · cases h with
    | lst h => exact ⟨_, _, rfl, e, h⟩
end
end HB

set_option Elab.async false
set_option linter.all false
set_option maxRecDepth 100000
set_option maxHeartbeats 4000000
set_option autoImplicit false
namespace HB
open PySem PySem.Spec L2

/-! ### pure readings -/
abbrev PEt := Enm → Rw → (PyData → Rw → Prop) → Prop
abbrev PTt := Enm → Rw → (Bool → Rw → Prop) → Prop
abbrev PAt := Enm → Rw → (List PyData → Rw → Prop) → Prop
structure PEn where
  nx : Enm → Rw → Prop
  rt : PyData → Rw → Prop
  bk : Enm → Rw → Prop := fun _ _ => False
  ct : Enm → Rw → Prop := fun _ _ => False
abbrev PSt := PEn → Enm → Rw → Prop
section
variable (C : Cc)
def LE (t : PEt) : TE := fun σ H Q => ∃ δ ρ F Q', Rl C δ ρ σ F H ∧ t δ ρ Q' ∧ ∀ v d ρ' F' H', Gr C F H F' H' → Rl C δ ρ' σ F' H' → C.Is F' v d → Q' d ρ' → Q v H'
def LC (t : PEt) : TE := fun σ H Q => ∃ δ ρ F Q', Rl C δ ρ σ F H ∧ t δ ρ Q' ∧ ∀ v d ρ' F' H', Gr C F H F' H' → Rl C δ ρ' σ F' H' → CIs C F' H' v d → Q' d ρ' → Q v H'
/-- a new list | dict, kept by nobody else -/
def LF (t : PEt) : TE := fun σ H Q => ∃ δ ρ F Q', Rl C δ ρ σ F H ∧ t δ ρ Q' ∧ ∀ a o d ρ' F' H', Gr C F H F' H' → Rl C δ ρ' σ F' H' → H a = none → F' a = none → H' a = some o → C.Ho F' a o d → Q' d ρ' → Q (.ref a) H'
def LT (t : PTt) : TT := fun σ H Q => ∃ δ ρ F Q', Rl C δ ρ σ F H ∧ t δ ρ Q' ∧ ∀ b ρ' F' H', Gr C F H F' H' → Rl C δ ρ' σ F' H' → Q' b ρ' → Q b H'
def LA (t : PAt) : TA := fun σ H Q => ∃ δ ρ F Q', Rl C δ ρ σ F H ∧ t δ ρ Q' ∧ ∀ vs ds ρ' F' H', Gr C F H F' H' → Rl C δ ρ' σ F' H' → IsdA C.P C.w F' vs ds → Q' ds ρ' → Q vs H'
/-- what is wanted behind a statement -/
structure EnR (F : Hp) (D' : PEn) (D : Ends) : Prop where
  nx : ∀ δ ρ σ F' H', Same F F' → Rl C δ ρ σ F' H' → D'.nx δ ρ → D.nx σ H'
  rt : ∀ v d δ ρ σ F' H', Same F F' → Rl C δ ρ σ F' H' → C.Is F' v d → D'.rt d ρ → D.rt v H'
  bk : ∀ δ ρ σ F' H', Same F F' → Rl C δ ρ σ F' H' → D'.bk δ ρ → D.bk σ H'
  ct : ∀ δ ρ σ F' H', Same F F' → Rl C δ ρ σ F' H' → D'.ct δ ρ → D.ct σ H'
def LS (t : PSt) : TS := fun D σ H => ∃ δ ρ F D', Rl C δ ρ σ F H ∧ t D' δ ρ ∧ EnR C F D' D
end
abbrev JE (X : Cx) (C : Cc) (e : Expr) (t : PEt) : Prop := PE X e (LE C t)
abbrev JC (X : Cx) (C : Cc) (e : Expr) (t : PEt) : Prop := PE X e (LC C t)
abbrev JF (X : Cx) (C : Cc) (e : Expr) (t : PEt) : Prop := PE X e (LF C t)
abbrev JT (X : Cx) (C : Cc) (e : Expr) (t : PTt) : Prop := PT X e (LT C t)
abbrev JW (X : Cx) (C : Cc) (e : Expr) (t : PTt) : Prop := PW X e (LT C t)
abbrev JA (X : Cx) (C : Cc) (es : List Expr) (t : PAt) : Prop := PA X es (LA C t)
abbrev JS (X : Cx) (C : Cc) (st : Stmt) (t : PSt) : Prop := PS X st (LS C t)
abbrev JB (X : Cx) (C : Cc) (sts : List Stmt) (t : PSt) : Prop := PSs X sts (LS C t)

section
variable {X : Cx}
theorem PE.weak {e : Expr} {t u : TE} (h : PE X e t) (k : ∀ σ H Q, u σ H Q → t σ H Q) : PE X e u := ⟨fun p s σ H Q I q => h.run p s σ H Q I (k σ H Q q)⟩
theorem PT.weak {e : Expr} {t u : TT} (h : PT X e t) (k : ∀ σ H Q, u σ H Q → t σ H Q) : PT X e u := ⟨fun p s σ H Q I q => h.run p s σ H Q I (k σ H Q q)⟩
theorem PW.weak {e : Expr} {t u : TT} (h : PW X e t) (k : ∀ σ H Q, u σ H Q → t σ H Q) : PW X e u := ⟨fun wh p s σ H Q I q => h.run wh p s σ H Q I (k σ H Q q)⟩
theorem PA.weak {es : List Expr} {t u : TA} (h : PA X es t) (k : ∀ σ H Q, u σ H Q → t σ H Q) : PA X es u := ⟨fun pos p s σ H Q I q => h.run pos p s σ H Q I (k σ H Q q)⟩
theorem PS.weak {st : Stmt} {t u : TS} (h : PS X st t) (k : ∀ D σ H, u D σ H → t D σ H) : PS X st u := ⟨fun p s σ H D I q => h.run p s σ H D I (k D σ H q)⟩
theorem PSs.weak {st : List Stmt} {t u : TS} (h : PSs X st t) (k : ∀ D σ H, u D σ H → t D σ H) : PSs X st u := ⟨fun p s σ H D I q => h.run p s σ H D I (k D σ H q)⟩
end

section
variable {X : Cx} {C : Cc} {a b c e : Expr} {ta tb tc t : PEt} {pos : Pos}
theorem le_c {t : PEt} (σ : L2.St) (H : Hp) (Q : VK) (h : LC C t σ H Q) : LE C t σ H Q := by
  obtain ⟨δ, ρ, F, Q', R, q, k⟩ := h
  exact ⟨δ, ρ, F, Q', R, q, fun v d ρ' F' H' g R' i w => k v d ρ' F' H' g R' (.inl i) w⟩
theorem jc (h : JE X C e t) : JC X C e t := PE.weak h le_c
theorem lf_e {t : PEt} (σ : L2.St) (H : Hp) (Q : VK) (h : LE C t σ H Q) : LF C t σ H Q := by
  obtain ⟨δ, ρ, F, Q', R, q, k⟩ := h
  refine ⟨δ, ρ, F, Q', R, q, fun a o d ρ' F' H' g R' hn hf ho hd w => ?_⟩
  have hs : Same F' (upd F' a o) := fun x u z => by rw [upd_ne (ne_of_none z hf)]; exact z
  have g2 : Gr C F H (upd F' a o) H' := ⟨g.f.trans hs, g.h, fun x u z => by rw [upd_ne (ne_of_none z hn), g.e x u z]⟩
  have s2 : Same (upd F' a o) H' := fun x u z => by
    by_cases e : x = a
    · subst e; rw [upd_same] at z; rw [ho]; exact z
    · rw [upd_ne e] at z; exact R'.frz _ _ z
  have rw2 : RowOk C ρ' (upd F' a o) H' := fun r e => by
    obtain ⟨h1, h2, h3⟩ := R'.row r e
    refine ⟨h1, ?_, h3⟩
    have ne : r ≠ a := fun z => R.rowthere r e (by rw [z]; exact hn)
    rw [upd_ne ne]; exact h2
  exact k (.ref a) d ρ' _ H' g2 (R.grow g2 s2 rw2) (.ref upd_same (hd.mono hs)) w
theorem je_f (h : JF X C e t) : JE X C e t := PE.weak h lf_e
theorem lf_c {t : PEt} (σ : L2.St) (H : Hp) (Q : VK) (h : LC C t σ H Q) : LF C t σ H Q := by
  obtain ⟨δ, ρ, F, Q', R, q, k⟩ := h
  exact ⟨δ, ρ, F, Q', R, q, fun a o d ρ' F' H' g R' hn hf ho hd w => k (.ref a) d ρ' F' H' g R' (.inr ⟨a, o, rfl, fun z => R.rowthere a z hn, ho, hd⟩) w⟩
theorem jc_f (h : JF X C e t) : JC X C e t := PE.weak h lf_c

/-! ### names, constants -/
def getZ (δ : Enm) (i : Nat) : Option PyData := match δ[i]? with | some (.fz d) => some d | _ => none
def getA (δ : Enm) (i : Nat) : Option PyData := match δ[i]? with | some (.fz d) => some d | some (.ow d) => some d | _ => none
def xZ (i : Nat) : PEt := fun δ ρ Q => ∃ d, getZ δ i = some d ∧ Q d ρ
def xA (i : Nat) : PEt := fun δ ρ Q => ∃ d, getA δ i = some d ∧ Q d ρ
def xK (d : PyData) : PEt := fun _ ρ Q => Q d ρ
theorem getZ_at {δ : Enm} {i : Nat} {d : PyData} (h : getZ δ i = some d) : δ[i]? = some (.fz d) := by
  unfold getZ at h
  split at h
  · cases h; assumption
  · cases h
theorem getA_at {δ : Enm} {i : Nat} {d : PyData} (h : getA δ i = some d) : δ[i]? = some (.fz d) ∨ δ[i]? = some (.ow d) := by
  unfold getA at h
  split at h
  · cases h; exact .inl (by assumption)
  · cases h; exact .inr (by assumption)
  · cases h
theorem jz (i : Nat) {x : Str} {pos : Pos} (hN : X.N[i]? = some x := by rfl) (hv : Vis X.env.scope x := by first | exact Or.inl rfl | exact Or.inr (Or.inl rfl) | exact Or.inr (Or.inr rfl)) (hd : (x == ("__debug__" : Str)) = false := by decide)
    (hcd : (x == ("__classdict__" : Str)) = false := by decide) : JE X C (.Name x pos) (xZ i) :=
  PE.weak (pe_var hN hv hd hcd) fun σ H Q ⟨δ, ρ, F, Q', R, ⟨d, e, q⟩, k⟩ => by
    obtain ⟨v, e1, hi⟩ := R.slot i _ (getZ_at e)
    exact ⟨v, e1, k v d ρ F H Gr.refl R hi q⟩
theorem ja (i : Nat) {x : Str} {pos : Pos} (hN : X.N[i]? = some x := by rfl) (hv : Vis X.env.scope x := by first | exact Or.inl rfl | exact Or.inr (Or.inl rfl) | exact Or.inr (Or.inr rfl)) (hd : (x == ("__debug__" : Str)) = false := by decide)
    (hcd : (x == ("__classdict__" : Str)) = false := by decide) : JC X C (.Name x pos) (xA i) :=
  PE.weak (pe_var hN hv hd hcd) fun σ H Q ⟨δ, ρ, F, Q', R, ⟨d, e, q⟩, k⟩ => by
    rcases getA_at e with e | e
    · obtain ⟨v, e1, hi⟩ := R.slot i _ e
      exact ⟨v, e1, k v d ρ F H Gr.refl R (.inl hi) q⟩
    · obtain ⟨a, o, e1, hf, h0, ho, hd⟩ := R.slot i _ e
      exact ⟨.ref a, e1, k _ d ρ F H Gr.refl R (.inr ⟨a, o, rfl, fun z => (R.row a z).1 h0, ho, hd⟩) q⟩
theorem jcst {v : V} {d : PyData} (h : PE X e (tC v)) (i : ∀ F, C.Is F v d) : JE X C e (xK d) :=
  PE.weak h fun σ H Q ⟨δ, ρ, F, Q', R, q, k⟩ => k v d ρ F H Gr.refl R (i F) q
theorem ji {i : Int} {j : Nat} : JE X C (.Constant (.int i) j pos) (xK (.int i)) := jcst pe_int fun _ => .int i
theorem jb {i : Bool} {j : Nat} : JE X C (.Constant (.bool i) j pos) (xK (.bool i)) := jcst pe_bl fun _ => .bl i
theorem jn {j : Nat} : JE X C (.Constant .none j pos) (xK .none) := jcst pe_non fun _ => .non
theorem jstr {x : Str} {j : Nat} : JE X C (.Constant (.str x) j pos) (xK (.str x)) := jcst pe_str fun _ => .str x
/-- a module's int -/
theorem jglobi {x : Str} {i : Int} {tk : Tok} (hg : Gl X x) (hm : X.mg x = some (.int i tk)) (hd : (x == ("__debug__" : Str)) = false := by decide) : JE X C (.Name x pos) (xK (.int i)) := jcst (v := .int i) (pe_glob hg hm ⟨tk, rfl⟩ hd) fun _ => .int i

/-! ### two-place operations -/
def x2 (f : PyData → PyData → Option PyData) (ta tb : PEt) : PEt := fun δ ρ Q => ta δ ρ fun x ρ1 => tb δ ρ1 fun y ρ2 => ∃ z, f x y = some z ∧ Q z ρ2
/-- scalar results -/
def Sc2 (C : Cc) (r : R2) (f : PyData → PyData → Option PyData) : Prop := ∀ F H v u x y z (Q : VK), Same F H → CIs C F H v x → CIs C F H u y → f x y = some z → (∀ z', C.Is F z' z → Q z' H) → r v u H Q
theorem sc2 {r : R2} {f : PyData → PyData → Option PyData} (s : Sc2 C r f) (σ : L2.St) (H : Hp) (Q : VK) (h : LE C (x2 f ta tb) σ H Q) : tOp r (LC C ta) (LC C tb) σ H Q := by
  obtain ⟨δ, ρ, F, Q', R, q, k⟩ := h
  refine ⟨δ, ρ, F, _, R, q, fun v x ρ1 F1 H1 g1 R1 i1 q1 => ⟨δ, ρ1, F1, _, R1, q1, fun u y ρ2 F2 H2 g2 R2 i2 q2 => ?_⟩⟩
  obtain ⟨z, ez, qz⟩ := q2
  exact s F2 H2 v u x y z Q R2.frz (i1.grow g2) i2 ez fun z' iz => k z' z ρ2 F2 H2 (g1.tr g2 R1) R2 iz qz
def iadd : PyData → PyData → Option PyData
  | .int i, .int j => some (.int (i + j))
  | _, _ => none
def isub : PyData → PyData → Option PyData
  | .int i, .int j => some (.int (i - j))
  | _, _ => none
def imul : PyData → PyData → Option PyData
  | .int i, .int j => if (-(2 ^ 64) < i ∧ i < 2 ^ 64) ∨ (-(2 ^ 64) < j ∧ j < 2 ^ 64) then some (.int (i * j)) else none
  | _, _ => none
def ifdv : PyData → PyData → Option PyData
  | .int i, .int j => if 0 < j ∧ j < 1073741824 then some (.int (i / j)) else none
  | _, _ => none
def imod : PyData → PyData → Option PyData
  | .int i, .int j => if 0 < j then some (.int (i % j)) else none
  | _, _ => none
def ipow : PyData → PyData → Option PyData
  | .int i, .int j => if 0 ≤ j ∧ j ≤ 1000000 ∧ i.natAbs < 2 ^ 64 then some (.int (i ^ j.toNat)) else none
  | _, _ => none
def icmp (p : Int → Int → Bool) : PyData → PyData → Option PyData
  | .int i, .int j => some (.bool (p i j))
  | _, _ => none
theorem sc_i0 {f : PyData → PyData → Option PyData} {g : Int → Int → V} {gd : Int → Int → PyData} (hf : ∀ x y z, f x y = some z → ∃ i j, x = .int i ∧ y = .int j ∧ z = gd i j) (hg : ∀ F i j, C.Is F (g i j) (gd i j)) : Sc2 C (rI0 g) f := by
  intro F H v u x y z Q s i1 i2 e k
  obtain ⟨i, j, rfl, rfl, rfl⟩ := hf x y z e
  exact ⟨i, j, i1.int, i2.int, k _ (hg F i j)⟩
theorem sc_iC {f : PyData → PyData → Option PyData} {g : Int → Int → V} {gd : Int → Int → PyData} {Cd : Int → Int → Prop} (hf : ∀ x y z, f x y = some z → ∃ i j, x = .int i ∧ y = .int j ∧ Cd i j ∧ z = gd i j) (hg : ∀ F i j, C.Is F (g i j) (gd i j)) : Sc2 C (rI Cd g) f := by
  intro F H v u x y z Q s i1 i2 e k
  obtain ⟨i, j, rfl, rfl, hc, rfl⟩ := hf x y z e
  exact ⟨i, j, i1.int, i2.int, hc, k _ (hg F i j)⟩
theorem iadd_inv : ∀ x y z, iadd x y = some z → ∃ i j, x = .int i ∧ y = .int j ∧ z = .int (i + j) := by
  intro x y z h; unfold iadd at h; split at h
  · cases h; exact ⟨_, _, rfl, rfl, rfl⟩
  · cases h
theorem isub_inv : ∀ x y z, isub x y = some z → ∃ i j, x = .int i ∧ y = .int j ∧ z = .int (i - j) := by
  intro x y z h; unfold isub at h; split at h
  · cases h; exact ⟨_, _, rfl, rfl, rfl⟩
  · cases h
theorem icmp_inv (p : Int → Int → Bool) : ∀ x y z, icmp p x y = some z → ∃ i j, x = .int i ∧ y = .int j ∧ z = .bool (p i j) := by
  intro x y z h; unfold icmp at h; split at h
  · cases h; exact ⟨_, _, rfl, rfl, rfl⟩
  · cases h
theorem jadd (ha : JC X C a ta) (hb : JC X C b tb) : JE X C (.BinOp a .Add b pos) (x2 iadd ta tb) := PE.weak (pe_op op_add ha hb) (sc2 (sc_i0 iadd_inv fun _ i j => .int _))
theorem jsub (ha : JC X C a ta) (hb : JC X C b tb) : JE X C (.BinOp a .Sub b pos) (x2 isub ta tb) := PE.weak (pe_op op_sub ha hb) (sc2 (sc_i0 isub_inv fun _ i j => .int _))
theorem jmul (ha : JC X C a ta) (hb : JC X C b tb) : JE X C (.BinOp a .Mult b pos) (x2 imul ta tb) := PE.weak (pe_op op_mul ha hb) (sc2 (sc_iC (gd := fun i j => .int (i * j)) (by
  intro x y z h; unfold imul at h; split at h
  · split at h
    · cases h; exact ⟨_, _, rfl, rfl, by assumption, rfl⟩
    · cases h
  · cases h) fun _ i j => .int _))
theorem jfdv (ha : JC X C a ta) (hb : JC X C b tb) : JE X C (.BinOp a .FloorDiv b pos) (x2 ifdv ta tb) := PE.weak (pe_op op_fdiv ha hb) (sc2 (sc_iC (gd := fun i j => .int (i / j)) (by
  intro x y z h; unfold ifdv at h; split at h
  · split at h
    · cases h; exact ⟨_, _, rfl, rfl, by assumption, rfl⟩
    · cases h
  · cases h) fun _ i j => .int _))
theorem jmod (ha : JC X C a ta) (hb : JC X C b tb) : JE X C (.BinOp a .Mod b pos) (x2 imod ta tb) := PE.weak (pe_op op_mod ha hb) (sc2 (sc_iC (gd := fun i j => .int (i % j)) (by
  intro x y z h; unfold imod at h; split at h
  · split at h
    · cases h; exact ⟨_, _, rfl, rfl, by assumption, rfl⟩
    · cases h
  · cases h) fun _ i j => .int _))
theorem jpow (ha : JC X C a ta) (hb : JC X C b tb) : JE X C (.BinOp a .Pow b pos) (x2 ipow ta tb) := PE.weak (pe_op op_pow ha hb) (sc2 (sc_iC (gd := fun i j => .int (i ^ j.toNat)) (by
  intro x y z h; unfold ipow at h; split at h
  · split at h
    · cases h; exact ⟨_, _, rfl, rfl, by assumption, rfl⟩
    · cases h
  · cases h) fun _ i j => .int _))
abbrev ilt := icmp fun i j => decide (i < j)
abbrev ile := icmp fun i j => decide (i ≤ j)
abbrev igt := icmp fun i j => decide (j < i)
abbrev ige := icmp fun i j => decide (j ≤ i)
theorem jlt (ha : JC X C a ta) (hb : JC X C b tb) : JE X C (.Compare a [.Lt] [b] pos) (x2 ilt ta tb) := PE.weak (pe_cmpR op_lt ha hb (nomark _)) (sc2 (sc_i0 (icmp_inv _) fun _ i j => .bl _))
theorem jle (ha : JC X C a ta) (hb : JC X C b tb) : JE X C (.Compare a [.LtE] [b] pos) (x2 ile ta tb) := PE.weak (pe_cmpR op_le ha hb (nomark _)) (sc2 (sc_i0 (icmp_inv _) fun _ i j => .bl _))
theorem jgt (ha : JC X C a ta) (hb : JC X C b tb) : JE X C (.Compare a [.Gt] [b] pos) (x2 igt ta tb) := PE.weak (pe_cmpR op_gt ha hb (nomark _)) (sc2 (sc_i0 (icmp_inv _) fun _ i j => .bl _))
theorem jge (ha : JC X C a ta) (hb : JC X C b tb) : JE X C (.Compare a [.GtE] [b] pos) (x2 ige ta tb) := PE.weak (pe_cmpR op_ge ha hb (nomark _)) (sc2 (sc_i0 (icmp_inv _) fun _ i j => .bl _))
/-- == of data -/
def okD (d : PyData) : Bool := plainD d && SeqAt.shaped d
def deq : PyData → PyData → Option PyData := fun x y => if (okD x && okD y) = true then some (.bool (PyData.eqv x y)) else none
def dne : PyData → PyData → Option PyData := fun x y => if (okD x && okD y) = true then some (.bool (!PyData.eqv x y)) else none
theorem sc_eq {K : PySem.W.Frag} : Sc2 C (rEqD K) deq := by
  intro F H v u x y z Q s i1 i2 e k
  unfold deq at e; split at e
  · rename_i h
    simp only [okD, Bool.and_eq_true] at h
    cases e
    exact ⟨x, y, (i1.up s).dp h.1.1, (i2.up s).dp h.2.1, h.1.2, h.2.2, k _ (.bl _)⟩
  · cases e
theorem sc_ne {K : PySem.W.Frag} : Sc2 C (rNeD K) dne := by
  intro F H v u x y z Q s i1 i2 e k
  unfold dne at e; split at e
  · rename_i h
    simp only [okD, Bool.and_eq_true] at h
    cases e
    exact ⟨x, y, (i1.up s).dp h.1.1, (i2.up s).dp h.2.1, h.1.2, h.2.2, k _ (.bl _)⟩
  · cases e
theorem jeq (hu : X.A.units + 64 < cLine) (ha : JC X C a ta) (hb : JC X C b tb) : JE X C (.Compare a [.Eq] [b] pos) (x2 deq ta tb) := PE.weak (pe_cmpR (op_eqD hu) ha hb (nomark _)) (sc2 sc_eq)
theorem jne (hu : X.A.units + 64 < cLine) (ha : JC X C a ta) (hb : JC X C b tb) : JE X C (.Compare a [.NotEq] [b] pos) (x2 dne ta tb) := PE.weak (pe_cmpR (op_neD hu) ha hb (nomark _)) (sc2 sc_ne)
end
end HB

set_option Elab.async false
set_option linter.all false
set_option maxRecDepth 100000
set_option maxHeartbeats 4000000
set_option autoImplicit false
namespace HB
open PySem PySem.Spec L2
section
variable {X : Cx} {C : Cc} {a b c e : Expr} {ta tb tc t : PEt} {tt tu : PTt} {pos : Pos} {rest : List Expr}

/-! ### tests -/
/-- an expression that gives a bool, as a test -/
def xB (t : PEt) : PTt := fun δ ρ Q => t δ ρ fun d ρ1 => ∃ k, d = .bool k ∧ Q k ρ1
theorem tst_c {σ : L2.St} {H : Hp} {Q : Bool → Hp → Prop} (h : LT C (xB t) σ H Q) : LC C t σ H fun x H' => ∃ k, x = .bl k ∧ Q k H' := by
  obtain ⟨δ, ρ, F, Q', R, q, k⟩ := h
  refine ⟨δ, ρ, F, _, R, q, fun v d ρ' F' H' g R' i w => ?_⟩
  obtain ⟨kk, rfl, w⟩ := w
  exact ⟨kk, i.bl, k kk ρ' F' H' g R' w⟩
theorem tst_e {σ : L2.St} {H : Hp} {Q : Bool → Hp → Prop} (h : LT C (xB t) σ H Q) : LE C t σ H fun x H' => ∃ k, x = .bl k ∧ Q k H' := le_c _ _ _ (tst_c h)
theorem jt (h : JC X C e t) (he : ∀ whole, isTrue e X.env whole = (do let v ← whole; standAt e.pos; holding [v] (truthy v)) := by intro _; rfl) : JT X C e (xB t) := PT.weak (pt_val h he) fun σ H Q q => tst_c q
/-- a comparison's rule, and what it says of data -/
def OpS (X : Cx) (C : Cc) (op : CmpOp) (f : PyData → PyData → Option PyData) : Prop := ∃ r, OpR X (compareOp op) r ∧ Sc2 C r f
theorem jcmp {op : CmpOp} {f : PyData → PyData → Option PyData} (o : OpS X C op f) (ha : JC X C a ta) (hb : JC X C b tb) (hm : behindInMarks op b = false := by first | exact nomark _ | rfl) : JE X C (.Compare a [op] [b] pos) (x2 f ta tb) := by
  obtain ⟨r, ho, s⟩ := o
  exact PE.weak (pe_cmpR ho ha hb hm) (sc2 s)
theorem jcmpT {op : CmpOp} {f : PyData → PyData → Option PyData} (o : OpS X C op f) (ha : JC X C a ta) (hb : JC X C b tb) (hm : behindInMarks op b = false := by first | exact nomark _ | rfl) : JT X C (.Compare a [op] [b] pos) (xB (x2 f ta tb)) := by
  obtain ⟨r, ho, s⟩ := o
  exact PT.weak (pt_cmpR ho ha hb hm) fun σ H Q q => sc2 s σ H _ (by
    obtain ⟨δ, ρ, F, Q', R, q, k⟩ := q
    refine ⟨δ, ρ, F, _, R, q, fun v d ρ' F' H' g R' i w => ?_⟩
    obtain ⟨kk, rfl, w⟩ := w
    exact ⟨kk, CIs.bl (F := F') (H := H') (.inl i), k kk ρ' F' H' g R' w⟩)
theorem o_lt : OpS X C .Lt ilt := ⟨_, op_lt, sc_i0 (icmp_inv _) fun _ i j => .bl _⟩
theorem o_le : OpS X C .LtE ile := ⟨_, op_le, sc_i0 (icmp_inv _) fun _ i j => .bl _⟩
theorem o_gt : OpS X C .Gt igt := ⟨_, op_gt, sc_i0 (icmp_inv _) fun _ i j => .bl _⟩
theorem o_ge : OpS X C .GtE ige := ⟨_, op_ge, sc_i0 (icmp_inv _) fun _ i j => .bl _⟩
theorem o_eq (hu : X.A.units + 64 < cLine) : OpS X C .Eq deq := ⟨_, op_eqD hu, sc_eq⟩
theorem o_ne (hu : X.A.units + 64 < cLine) : OpS X C .NotEq dne := ⟨_, op_neD hu, sc_ne⟩
/-- is None -/
def isNo : PyData → Bool
  | .none => true
  | _ => false
def disN : PyData → PyData → Option PyData := fun x y => match y with
  | .none => some (.bool (isNo x))
  | _ => none
def dnotN : PyData → PyData → Option PyData := fun x y => match y with
  | .none => some (.bool (!isNo x))
  | _ => none
theorem isN_of {F H : Hp} {v : V} {x : PyData} (h : CIs C F H v x) : decide (v = .non) = isNo x := by
  rcases h with h | ⟨a, o, rfl, _, e, h⟩
  · cases h with
    | non => rfl
    | ref _ h => cases h <;> rfl
    | _ => rfl
  · cases h <;> rfl
theorem o_isN : OpS X C .Is disN := ⟨_, op_isN, fun F H v u x y z Q s i1 i2 e k => by
  unfold disN at e; split at e
  · cases e; refine ⟨i2.non, k _ ?_⟩; rw [isN_of i1]; exact .bl _
  · cases e⟩
theorem o_notN : OpS X C .IsNot dnotN := ⟨_, op_notN, fun F H v u x y z Q s i1 i2 e k => by
  unfold dnotN at e; split at e
  · cases e; refine ⟨i2.non, k _ ?_⟩
    rw [isN_of i1]; exact .bl _
  · cases e⟩
/-- in a list or tuple of data -/
def din (neg : Bool) : PyData → PyData → Option PyData := fun x y => match y with
  | .list ds => if (okD x && okD y) = true then some (.bool (if neg then !ds.any fun z => PyData.eqv z x else ds.any fun z => PyData.eqv z x)) else none
  | .tuple ds => if (okD x && okD y) = true then some (.bool (if neg then !ds.any fun z => PyData.eqv z x else ds.any fun z => PyData.eqv z x)) else none
  | _ => none
def rInTD (K : PySem.W.Frag) (neg : Bool) : R2 := fun x y H Q => ∃ d ds, Dp K H x d ∧ Dp K H y (.tuple ds) ∧ SeqAt.shaped d = true ∧ SeqAt.shaped (.tuple ds) = true ∧ Q (.bl (if neg then !ds.any fun z => PyData.eqv z d else ds.any fun z => PyData.eqv z d)) H
theorem op_inTD (hu : X.A.units + 65 < cLine) : OpR X (compareOp .In) (rInTD X.K false) := by
  intro pins s σ H x y v u Q I rx ry h
  obtain ⟨d, ds, hd, he, sd, se, q⟩ := h
  obtain ⟨as, r1⟩ := Dp.reads I d x v hd rx
  obtain ⟨bs, r2⟩ := Dp.reads I (.tuple ds) y u he ry
  exact SeqAt.in_tuple_reads r2 r1 (SeqAt.canLay_of_shaped se) (SeqAt.canLay_of_shaped sd) (PyProof.Rows.room_in_shaped sd hu) ⟨.bl _, H, I, rfl, q⟩
theorem op_notInTD (hu : X.A.units + 65 < cLine) : OpR X (compareOp .NotIn) (rInTD X.K true) := by
  intro pins s σ H x y v u Q I rx ry h
  obtain ⟨d, ds, hd, he, sd, se, q⟩ := h
  obtain ⟨as, r1⟩ := Dp.reads I d x v hd rx
  obtain ⟨bs, r2⟩ := Dp.reads I (.tuple ds) y u he ry
  exact SeqAt.notIn_tuple_reads r2 r1 (SeqAt.canLay_of_shaped se) (SeqAt.canLay_of_shaped sd) (PyProof.Rows.room_in_shaped sd hu) ⟨.bl _, H, I, rfl, q⟩
theorem o_in (hu : X.A.units + 65 < cLine) : OpS X C .In (din false) := ⟨_, (op_inD hu).or (op_inTD hu), fun F H v u x y z Q s i1 i2 e k => by
  unfold din at e; split at e
  · split at e
    · rename_i h
      simp only [okD, Bool.and_eq_true] at h
      cases e
      exact .inl ⟨x, _, (i1.up s).dp h.1.1, (i2.up s).dp h.2.1, h.1.2, h.2.2, k _ (.bl _)⟩
    · cases e
  · split at e
    · rename_i h
      simp only [okD, Bool.and_eq_true] at h
      cases e
      exact .inr ⟨x, _, (i1.up s).dp h.1.1, (i2.up s).dp h.2.1, h.1.2, h.2.2, k _ (.bl _)⟩
    · cases e
  · cases e⟩
theorem o_notin (hu : X.A.units + 65 < cLine) : OpS X C .NotIn (din true) := ⟨_, (op_notInD hu).or (op_notInTD hu), fun F H v u x y z Q s i1 i2 e k => by
  unfold din at e; split at e
  · split at e
    · rename_i h
      simp only [okD, Bool.and_eq_true] at h
      cases e
      exact .inl ⟨x, _, (i1.up s).dp h.1.1, (i2.up s).dp h.2.1, h.1.2, h.2.2, k _ (.bl _)⟩
    · cases e
  · split at e
    · rename_i h
      simp only [okD, Bool.and_eq_true] at h
      cases e
      exact .inr ⟨x, _, (i1.up s).dp h.1.1, (i2.up s).dp h.2.1, h.1.2, h.2.2, k _ (.bl _)⟩
    · cases e
  · cases e⟩

/-! ### and, or, not, a chain -/
def xAnd (tt tu : PTt) : PTt := fun δ ρ Q => tt δ ρ fun k ρ1 => (k = false → Q false ρ1) ∧ (k = true → tu δ ρ1 Q)
def xOr (tt tu : PTt) : PTt := fun δ ρ Q => tt δ ρ fun k ρ1 => (k = true → Q true ρ1) ∧ (k = false → tu δ ρ1 Q)
def xNot (tt : PTt) : PTt := fun δ ρ Q => tt δ ρ fun k ρ1 => Q (!k) ρ1
def xAndV (ta tb : PEt) : PEt := fun δ ρ Q => ta δ ρ fun x ρ1 => ∃ k, x = .bool k ∧ (k = false → Q (.bool false) ρ1) ∧ (k = true → tb δ ρ1 Q)
def xOrV (ta tb : PEt) : PEt := fun δ ρ Q => ta δ ρ fun x ρ1 => ∃ k, x = .bool k ∧ (k = true → Q (.bool true) ρ1) ∧ (k = false → tb δ ρ1 Q)
def xNotV (ta : PEt) : PEt := fun δ ρ Q => ta δ ρ fun x ρ1 => ∃ k, x = .bool k ∧ Q (.bool (!k)) ρ1
def xIf (tt : PTt) (ta tb : PEt) : PEt := fun δ ρ Q => tt δ ρ fun k ρ1 => (k = true → ta δ ρ1 Q) ∧ (k = false → tb δ ρ1 Q)
theorem jw_and1 (ha : JT X C a tt) : JW X C (.BoolOp .And [a] pos) tt := pw_and1 ha
theorem jw_or1 (ha : JT X C a tt) : JW X C (.BoolOp .Or [a] pos) tt := pw_or1 ha
theorem jw_and (ha : JT X C a tt) (hb : JW X C (.BoolOp .And (b :: rest) pos) tu) : JW X C (.BoolOp .And (a :: b :: rest) pos) (xAnd tt tu) :=
  PW.weak (pw_and ha hb) fun σ H Q h => by
    obtain ⟨δ, ρ, F, Q', R, q, k⟩ := h
    refine ⟨δ, ρ, F, _, R, q, fun bb ρ1 F1 H1 g1 R1 w => ?_⟩
    cases bb with
    | false => exact k false ρ1 F1 H1 g1 R1 (w.1 rfl)
    | true => exact ⟨δ, ρ1, F1, Q', R1, w.2 rfl, fun b2 ρ2 F2 H2 g2 R2 w2 => k b2 ρ2 F2 H2 (g1.tr g2 R1) R2 w2⟩
theorem jw_or (ha : JT X C a tt) (hb : JW X C (.BoolOp .Or (b :: rest) pos) tu) : JW X C (.BoolOp .Or (a :: b :: rest) pos) (xOr tt tu) :=
  PW.weak (pw_or ha hb) fun σ H Q h => by
    obtain ⟨δ, ρ, F, Q', R, q, k⟩ := h
    refine ⟨δ, ρ, F, _, R, q, fun bb ρ1 F1 H1 g1 R1 w => ?_⟩
    cases bb with
    | true => exact k true ρ1 F1 H1 g1 R1 (w.1 rfl)
    | false => exact ⟨δ, ρ1, F1, Q', R1, w.2 rfl, fun b2 ρ2 F2 H2 g2 R2 w2 => k b2 ρ2 F2 H2 (g1.tr g2 R1) R2 w2⟩
theorem jw (h : JW X C e tt) : JT X C e tt := h.pt
theorem jnot (ha : JT X C a tt) : JT X C (.UnaryOp .Not a pos) (xNot tt) := PT.weak (pt_not ha) fun σ H Q h => by
  obtain ⟨δ, ρ, F, Q', R, q, k⟩ := h
  exact ⟨δ, ρ, F, _, R, q, fun bb ρ1 F1 H1 g1 R1 w => k _ ρ1 F1 H1 g1 R1 w⟩
theorem jone {op : BoolOp} (h : JE X C a ta) : JE X C (.BoolOp op [a] pos) ta := pe_one h
theorem jandV (ha : JC X C a ta) (hb : JE X C (.BoolOp .And (b :: rest) pos) tb) : JE X C (.BoolOp .And (a :: b :: rest) pos) (xAndV ta tb) :=
  PE.weak (pe_and ha hb) fun σ H Q h => by
    obtain ⟨δ, ρ, F, Q', R, q, k⟩ := h
    refine ⟨δ, ρ, F, _, R, q, fun v d ρ1 F1 H1 g1 R1 i1 w => ?_⟩
    obtain ⟨kk, rfl, w1, w2⟩ := w
    refine ⟨kk, i1.bl, ?_⟩
    cases kk with
    | false => exact k _ _ ρ1 F1 H1 g1 R1 (.bl false) (w1 rfl)
    | true => exact ⟨δ, ρ1, F1, Q', R1, w2 rfl, fun v2 d2 ρ2 F2 H2 g2 R2 i2 w2 => k v2 d2 ρ2 F2 H2 (g1.tr g2 R1) R2 i2 w2⟩
theorem jorV (ha : JC X C a ta) (hb : JE X C (.BoolOp .Or (b :: rest) pos) tb) : JE X C (.BoolOp .Or (a :: b :: rest) pos) (xOrV ta tb) :=
  PE.weak (pe_or ha hb) fun σ H Q h => by
    obtain ⟨δ, ρ, F, Q', R, q, k⟩ := h
    refine ⟨δ, ρ, F, _, R, q, fun v d ρ1 F1 H1 g1 R1 i1 w => ?_⟩
    obtain ⟨kk, rfl, w1, w2⟩ := w
    refine ⟨kk, i1.bl, ?_⟩
    cases kk with
    | true => exact k _ _ ρ1 F1 H1 g1 R1 (.bl true) (w1 rfl)
    | false => exact ⟨δ, ρ1, F1, Q', R1, w2 rfl, fun v2 d2 ρ2 F2 H2 g2 R2 i2 w2 => k v2 d2 ρ2 F2 H2 (g1.tr g2 R1) R2 i2 w2⟩
theorem jnotV (ha : JC X C a ta) : JE X C (.UnaryOp .Not a pos) (xNotV ta) := PE.weak (pe_not ha) fun σ H Q h => by
  obtain ⟨δ, ρ, F, Q', R, q, k⟩ := h
  refine ⟨δ, ρ, F, _, R, q, fun v d ρ1 F1 H1 g1 R1 i1 w => ?_⟩
  obtain ⟨kk, rfl, w⟩ := w
  exact ⟨kk, i1.bl, k _ _ ρ1 F1 H1 g1 R1 (.bl _) w⟩
theorem jif (hc : JT X C c tt) (ha : JE X C a ta) (hb : JE X C b tb) : JE X C (.IfExp c a b pos) (xIf tt ta tb) := PE.weak (pe_ifExp hc ha hb) fun σ H Q h => by
  obtain ⟨δ, ρ, F, Q', R, q, k⟩ := h
  refine ⟨δ, ρ, F, _, R, q, fun bb ρ1 F1 H1 g1 R1 w => ?_⟩
  cases bb with
  | true => exact ⟨δ, ρ1, F1, Q', R1, w.1 rfl, fun v2 d2 ρ2 F2 H2 g2 R2 i2 w2 => k v2 d2 ρ2 F2 H2 (g1.tr g2 R1) R2 i2 w2⟩
  | false => exact ⟨δ, ρ1, F1, Q', R1, w.2 rfl, fun v2 d2 ρ2 F2 H2 g2 R2 i2 w2 => k v2 d2 ρ2 F2 H2 (g1.tr g2 R1) R2 i2 w2⟩
theorem jifF (hc : JT X C c tt) (ha : JF X C a ta) (hb : JF X C b tb) : JF X C (.IfExp c a b pos) (xIf tt ta tb) := PE.weak (pe_ifExp hc ha hb) fun σ H Q h => by
  obtain ⟨δ, ρ, F, Q', R, q, k⟩ := h
  refine ⟨δ, ρ, F, _, R, q, fun bb ρ1 F1 H1 g1 R1 w => ?_⟩
  have up : ∀ {x : Addr}, H1 x = none → H x = none := fun {x} n => by
    cases q : H x with
    | none => rfl
    | some o =>
      by_cases z : C.r = some x
      · exact absurd n (R1.rowthere x z)
      · rw [g1.h x o z q] at n; cases n
  cases bb with
  | true => exact ⟨δ, ρ1, F1, Q', R1, w.1 rfl, fun a2 o2 d2 ρ2 F2 H2 g2 R2 n2 f2 i2 h2 w2 => k a2 o2 d2 ρ2 F2 H2 (g1.tr g2 R1) R2 (up n2) f2 i2 h2 w2⟩
  | false => exact ⟨δ, ρ1, F1, Q', R1, w.2 rfl, fun a2 o2 d2 ρ2 F2 H2 g2 R2 n2 f2 i2 h2 w2 => k a2 o2 d2 ρ2 F2 H2 (g1.tr g2 R1) R2 (up n2) f2 i2 h2 w2⟩
/-- a <= b <= c of ints -/
def xChain (f f' : PyData → PyData → Option PyData) (ta tb tc : PEt) : PEt := fun δ ρ Q => ta δ ρ fun x ρ1 => tb δ ρ1 fun y ρ2 => ∃ k, f x y = some (.bool k) ∧ (k = false → Q (.bool false) ρ2) ∧ (k = true → tc δ ρ2 fun z ρ3 => ∃ d, f' y z = some d ∧ Q d ρ3)
theorem jchain {op op' : CmpOp} {f f' : PyData → PyData → Option PyData} (o : OpS X C op f) (o' : OpS X C op' f') (ha : JC X C a ta) (hb : JC X C b tb) (hc : JC X C c tc) (hm : lastMarks [op, op'] [b, c] = false := by with_unfolding_all rfl) :
    JE X C (.Compare a [op, op'] [b, c] pos) (xChain f f' ta tb tc) := by
  obtain ⟨r, ho, s⟩ := o
  obtain ⟨r', ho', s'⟩ := o'
  refine PE.weak (pe_chain ho ho' ha hb hc hm) fun σ H Q h => ?_
  obtain ⟨δ, ρ, F, Q', R, q, k⟩ := h
  refine ⟨δ, ρ, F, _, R, q, fun v x ρ1 F1 H1 g1 R1 i1 q1 => ⟨δ, ρ1, F1, _, R1, q1, fun u y ρ2 F2 H2 g2 R2 i2 q2 => ?_⟩⟩
  obtain ⟨kk, ez, w1, w2⟩ := q2
  refine s F2 H2 v u x y _ _ R2.frz (i1.grow g2) i2 ez fun z' iz => ⟨kk, CIs.bl (F := F2) (H := H2) (.inl iz), ?_⟩
  cases kk with
  | false => exact k _ _ ρ2 F2 H2 (g1.tr g2 R1) R2 (.bl false) (w1 rfl)
  | true =>
    refine ⟨δ, ρ2, F2, _, R2, w2 rfl, fun vz z ρ3 F3 H3 g3 R3 i3 q3 => ?_⟩
    obtain ⟨d, ed, qd⟩ := q3
    exact s' F3 H3 u vz y z d _ R3.frz (i2.grow g3) i3 ed fun d' id' => k d' d ρ3 F3 H3 ((g1.tr g2 R1).tr g3 R2) R3 id' qd
end
end HB

set_option Elab.async false
set_option linter.all false
set_option maxRecDepth 100000
set_option maxHeartbeats 4000000
set_option autoImplicit false
namespace HB
open PySem PySem.Spec L2
section
variable {X : Cx} {C : Cc} {a b c e : Expr} {ta tb tc t : PEt} {tt tu : PTt} {tas : PAt} {pos p2 : Pos} {es rest : List Expr}

/-! ### items, slices -/
theorem IsdA.atI {P : Program} {w : World} {F : Hp} {vs : List V} {ds : List PyData} {i : Int} {d : PyData} (h : IsdA P w F vs ds) (e : atI ds i = some d) : ∃ v, L2.atI vs i = some v ∧ Isd P w F v d := by
  unfold L2.atI at e ⊢
  rw [h.length]
  cases q : ixN ds.length i with
  | none => rw [q] at e; cases e
  | some j =>
    rw [q] at e
    obtain ⟨v, h1, h2⟩ := h.get (i := j) e
    exact ⟨v, h1, h2⟩
def ditem : PyData → PyData → Option PyData
  | .list ds, .int i => atI ds i
  | .tuple ds, .int i => atI ds i
  | _, _ => none
theorem sc_item {K : PySem.W.Frag} : Sc2 C (fun x y H Q => rIxL K x y H Q ∨ rIxT K x y H Q) ditem := by
  intro F H v u x y z Q s i1 i2 e k
  unfold ditem at e; split at e
  · obtain ⟨p, vs, rfl, hp, hv⟩ := i1.lst s
    obtain ⟨w, ew, iw⟩ := hv.atI e
    exact .inl ⟨p, vs, _, w, rfl, i2.int, SqL.of hp, ew, k w iw⟩
  · obtain ⟨p, vs, rfl, hp, hv⟩ := i1.tup s
    obtain ⟨w, ew, iw⟩ := hv.atI e
    exact .inr ⟨p, vs, _, w, rfl, i2.int, SqT.of hp, ew, k w iw⟩
  · cases e
theorem jix (ha : JC X C a ta) (hb : JC X C b tb) (hs : PlainIx b := by exact fun _ _ => rfl) : JE X C (.Subscript a b pos) (x2 ditem ta tb) := PE.weak (pe_ix (ix_list.or ix_tup) ha hb hs) (sc2 sc_item)
abbrev POt := Enm → Rw → (Option Int → Rw → Prop) → Prop
def LO (C : Cc) (t : POt) : TO := fun σ H Q => ∃ δ ρ F Q', Rl C δ ρ σ F H ∧ t δ ρ Q' ∧ ∀ o ρ' F' H', Gr C F H F' H' → Rl C δ ρ' σ F' H' → Q' o ρ' → Q o H'
def xNoP : POt := fun _ ρ Q => Q none ρ
def xSoP (t : PEt) : POt := fun δ ρ Q => t δ ρ fun d ρ1 => ∃ i, d = .int i ∧ Q (some i) ρ1
theorem PO.weak {e : Option Expr} {t u : TO} (h : PO X e t) (k : ∀ σ H Q, u σ H Q → t σ H Q) : PO X e u := ⟨fun p s σ H Q I q => h.run p s σ H Q I (k σ H Q q)⟩
theorem jno : PO X none (LO C xNoP) := PO.weak po_none fun σ H Q h => by
  obtain ⟨δ, ρ, F, Q', R, q, k⟩ := h
  exact k none ρ F H Gr.refl R q
theorem jso (h : JC X C e t) : PO X (some e) (LO C (xSoP t)) := PO.weak (po_some h) fun σ H Q h => by
  obtain ⟨δ, ρ, F, Q', R, q, k⟩ := h
  refine ⟨δ, ρ, F, _, R, q, fun v d ρ1 F1 H1 g1 R1 i1 w => ?_⟩
  obtain ⟨i, rfl, w⟩ := w
  exact ⟨i, i1.int, k (some i) ρ1 F1 H1 g1 R1 w⟩
def cutD (xs : List PyData) (lo hi : Option Int) : List PyData := (xs.drop (HT.sIx xs.length 0 lo)).take (HT.sIx xs.length xs.length hi - HT.sIx xs.length 0 lo)
theorem IsdA.cut {P : Program} {w : World} {F : Hp} {vs : List V} {ds : List PyData} (h : IsdA P w F vs ds) (lo hi : Option Int) : IsdA P w F (cutV vs lo hi) (cutD ds lo hi) := by
  unfold cutV cutD; rw [h.length]; exact (h.drop _).take _
def xSlL (ta : PEt) (tl th : POt) : PEt := fun δ ρ Q => ta δ ρ fun x ρ1 => tl δ ρ1 fun lo ρ2 => th δ ρ2 fun hi ρ3 => ∃ ds, x = .list ds ∧ Q (.list (cutD ds lo hi)) ρ3
def xSlT (ta : PEt) (tl th : POt) : PEt := fun δ ρ Q => ta δ ρ fun x ρ1 => tl δ ρ1 fun lo ρ2 => th δ ρ2 fun hi ρ3 => ∃ ds, x = .tuple ds ∧ Q (.tuple (cutD ds lo hi)) ρ3
/-- a fresh address behind a grown heap was free before -/
theorem Gr.free {δ : Enm} {ρ : Rw} {σ : L2.St} {F H F' H' : Hp} {x : Addr} (g : Gr C F H F' H') (R : Rl C δ ρ σ F' H') (n : H' x = none) : H x = none := by
  cases q : H x with
  | none => rfl
  | some o =>
    by_cases z : C.r = some x
    · exact absurd n (R.rowthere x z)
    · rw [g.h x o z q] at n; cases n
theorem Rl.freeF {δ : Enm} {ρ : Rw} {σ : L2.St} {F H : Hp} {x : Addr} (R : Rl C δ ρ σ F H) (n : H x = none) : F x = none := R.frz.free n
theorem jslL {lo hi : Option Expr} {tl th : POt} (ha : JC X C a ta) (hl : PO X lo (LO C tl)) (hh : PO X hi (LO C th)) : JF X C (.Subscript a (.Slice lo hi none p2) pos) (xSlL ta tl th) := PE.weak (pe_slice sl_list ha hl hh) fun σ H Q h => by
  obtain ⟨δ, ρ, F, Q', R, q, k⟩ := h
  refine ⟨δ, ρ, F, _, R, q, fun v x ρ1 F1 H1 g1 R1 i1 q1 => ⟨δ, ρ1, F1, _, R1, q1, fun l ρ2 F2 H2 g2 R2 q2 => ⟨δ, ρ2, F2, _, R2, q2, fun h ρ3 F3 H3 g3 R3 q3 => ?_⟩⟩⟩
  obtain ⟨ds, rfl, q3⟩ := q3
  obtain ⟨p, vs, rfl, hp, hv⟩ := ((i1.grow g2).grow g3).lst R3.frz
  have g := (g1.tr g2 R1).tr g3 R2
  exact ⟨p, vs, rfl, SqL.of hp, fun p n => k p _ _ ρ3 F3 _ (g.tr (gr_newO n) R3) (R3.newO n) (g.free R3 n) (R3.freeF n) upd_same (.lst (hv.cut l h)) q3⟩
theorem jslT {lo hi : Option Expr} {tl th : POt} (ha : JE X C a ta) (hl : PO X lo (LO C tl)) (hh : PO X hi (LO C th)) : JE X C (.Subscript a (.Slice lo hi none p2) pos) (xSlT ta tl th) := PE.weak (pe_slice sl_tupA ha hl hh) fun σ H Q h => by
  obtain ⟨δ, ρ, F, Q', R, q, k⟩ := h
  refine ⟨δ, ρ, F, _, R, q, fun v x ρ1 F1 H1 g1 R1 i1 q1 => ⟨δ, ρ1, F1, _, R1, q1, fun l ρ2 F2 H2 g2 R2 q2 => ⟨δ, ρ2, F2, _, R2, q2, fun h ρ3 F3 H3 g3 R3 q3 => ?_⟩⟩⟩
  obtain ⟨ds, rfl, q3⟩ := q3
  have i3 : C.Is F3 v (.tuple ds) := (i1.mono g2.f).mono g3.f
  have i3' := i3
  cases i3 with
  | ref hp hv =>
    rename_i p o
    cases hv with
    | tup hv =>
      rename_i vs
      have g := (g1.tr g2 R1).tr g3 R2
      refine ⟨p, vs, rfl, SqT.of (R3.frz _ _ hp), fun ⟨z1, z2⟩ => ?_, fun _ p n => k _ _ ρ3 _ _ (g.tr (gr_new n R3.frz) R3) (R3.new n) (.ref upd_same (.tup ((hv.cut l h).mono ((gr_new (C := C) n R3.frz).f)))) q3⟩
      refine k _ _ ρ3 F3 H3 g R3 i3' ?_
      have : cutD ds l h = ds := by
        unfold cutD; rw [← hv.length, z1, z2, List.drop_zero, hv.length]; simp
      rw [this] at q3; exact q3

/-! ### displays -/
def xNil : PAt := fun _ ρ Q => Q [] ρ
def xCons (t : PEt) (u : PAt) : PAt := fun δ ρ Q => t δ ρ fun d ρ1 => u δ ρ1 fun ds ρ2 => Q (d :: ds) ρ2
theorem PA.weak' {t u : TA} (h : PA X es t) (k : ∀ σ H Q, u σ H Q → t σ H Q) : PA X es u := ⟨fun pos p s σ H Q I q => h.run pos p s σ H Q I (k σ H Q q)⟩
theorem jnil : JA X C [] xNil := PA.weak' pa_nil fun σ H Q h => by
  obtain ⟨δ, ρ, F, Q', R, q, k⟩ := h
  exact k [] [] ρ F H Gr.refl R .nil q
theorem jcons (ha : JE X C e t) (hr : JA X C es tas) (hs : starEach (e :: es) X.env = (false, eval e X.env) :: starEach es X.env := by rfl) : JA X C (e :: es) (xCons t tas) := PA.weak' (pa_cons ha hr hs) fun σ H Q h => by
  obtain ⟨δ, ρ, F, Q', R, q, k⟩ := h
  exact ⟨δ, ρ, F, _, R, q, fun v d ρ1 F1 H1 g1 R1 i1 q1 => ⟨δ, ρ1, F1, _, R1, q1, fun vs ds ρ2 F2 H2 g2 R2 i2 q2 => k _ _ ρ2 F2 H2 (g1.tr g2 R1) R2 (.cons (i1.mono g2.f) i2) q2⟩⟩
/-- arguments that are only read -/
def LAC (C : Cc) (t : PAt) : TA := fun σ H Q => ∃ δ ρ F Q', Rl C δ ρ σ F H ∧ t δ ρ Q' ∧ ∀ vs ds ρ' F' H', Gr C F H F' H' → Rl C δ ρ' σ F' H' → Paired (CIs C F' H') vs ds → Q' ds ρ' → Q vs H'
abbrev JAC (X : Cx) (C : Cc) (es : List Expr) (t : PAt) : Prop := PA X es (LAC C t)
theorem jcnil : JAC X C [] xNil := PA.weak' pa_nil fun σ H Q h => by
  obtain ⟨δ, ρ, F, Q', R, q, k⟩ := h
  exact k [] [] ρ F H Gr.refl R .nil q
theorem jccons (ha : JC X C e t) (hr : JAC X C es tas) (hs : starEach (e :: es) X.env = (false, eval e X.env) :: starEach es X.env := by rfl) : JAC X C (e :: es) (xCons t tas) := PA.weak' (pa_cons ha hr hs) fun σ H Q h => by
  obtain ⟨δ, ρ, F, Q', R, q, k⟩ := h
  exact ⟨δ, ρ, F, _, R, q, fun v d ρ1 F1 H1 g1 R1 i1 q1 => ⟨δ, ρ1, F1, _, R1, q1, fun vs ds ρ2 F2 H2 g2 R2 i2 q2 => k _ _ ρ2 F2 H2 (g1.tr g2 R1) R2 (.cons (i1.grow g2) i2) q2⟩⟩
def small (ds : List PyData) : Prop := Nat.ble ds.length 1000 = true
theorem small_ok {ds : List PyData} (h : small ds) : ds.length ≤ sizeLine := Nat.le_of_lt (small1000 (Nat.le_of_ble_eq_true h))
def xTup (t : PAt) : PEt := fun δ ρ Q => t δ ρ fun ds ρ1 => small ds ∧ Q (.tuple ds) ρ1
def xLst (t : PAt) : PEt := fun δ ρ Q => t δ ρ fun ds ρ1 => small ds ∧ Q (.list ds) ρ1
theorem jtup {x1 : Nat} (h : JA X C es tas) : JE X C (.Tuple es x1 pos) (xTup tas) := PE.weak (pe_tup h) fun σ H Q h => by
  obtain ⟨δ, ρ, F, Q', R, q, k⟩ := h
  refine ⟨δ, ρ, F, _, R, q, fun vs ds ρ1 F1 H1 g1 R1 i1 q1 => ?_⟩
  obtain ⟨z, q1⟩ := q1
  refine ⟨by rw [i1.length]; exact small_ok z, fun p n => k _ _ ρ1 _ _ (g1.tr (gr_new n R1.frz) R1) (R1.new n) (.ref upd_same (.tup (i1.mono (gr_new (C := C) n R1.frz).f))) q1⟩
theorem jlst (h : JA X C es tas) : JF X C (.List es pos) (xLst tas) := PE.weak (pe_lst h) fun σ H Q h => by
  obtain ⟨δ, ρ, F, Q', R, q, k⟩ := h
  refine ⟨δ, ρ, F, _, R, q, fun vs ds ρ1 F1 H1 g1 R1 i1 q1 => ?_⟩
  obtain ⟨z, q1⟩ := q1
  exact ⟨by rw [i1.length]; exact small_ok z, fun p n => k p _ _ ρ1 F1 _ (g1.tr (gr_newO n) R1) (R1.newO n) (g1.free R1 n) (R1.freeF n) upd_same (.lst i1) q1⟩

/-! ### sequences put together -/
def xCatL (ta tb : PEt) : PEt := fun δ ρ Q => ta δ ρ fun x ρ1 => tb δ ρ1 fun y ρ2 => ∃ xs ys, x = .list xs ∧ y = .list ys ∧ xs.length + ys.length ≤ 100000 ∧ Q (.list (xs ++ ys)) ρ2
def xCatT (ta tb : PEt) : PEt := fun δ ρ Q => ta δ ρ fun x ρ1 => tb δ ρ1 fun y ρ2 => ∃ xs ys, x = .tuple xs ∧ y = .tuple ys ∧ xs.length + ys.length ≤ 100000 ∧ Q (.tuple (xs ++ ys)) ρ2
theorem line5 {n : Nat} (h : n ≤ 100000) : n ≤ sizeLine := by rw [sizeLine_eq]; omega
theorem jcatL (ha : JC X C a ta) (hb : JC X C b tb) : JF X C (.BinOp a .Add b pos) (xCatL ta tb) := PE.weak (pe_op op_cat ha hb) fun σ H Q h => by
  obtain ⟨δ, ρ, F, Q', R, q, k⟩ := h
  refine ⟨δ, ρ, F, _, R, q, fun v x ρ1 F1 H1 g1 R1 i1 q1 => ⟨δ, ρ1, F1, _, R1, q1, fun u y ρ2 F2 H2 g2 R2 i2 q2 => ?_⟩⟩
  obtain ⟨xs, ys, rfl, rfl, z, q2⟩ := q2
  obtain ⟨p, vs, rfl, hp, hv⟩ := (i1.grow g2).lst R2.frz
  obtain ⟨p', vs', rfl, hp', hv'⟩ := i2.lst R2.frz
  have g := g1.tr g2 R1
  exact ⟨p, p', vs, vs', rfl, rfl, hp, hp', by rw [hv.length, hv'.length]; exact line5 z, fun p n => k p _ _ ρ2 F2 _ (g.tr (gr_newO n) R2) (R2.newO n) (g.free R2 n) (R2.freeF n) upd_same (.lst (hv.append hv')) q2⟩
theorem tup_inv {F : Hp} {v : V} {ds : List PyData} (h : C.Is F v (.tuple ds)) : ∃ p vs, v = .ref p ∧ F p = some (.tup vs) ∧ IsdA C.P C.w F vs ds := by
  cases h with
  | ref hp hv => cases hv with
    | tup hv => exact ⟨_, _, rfl, hp, hv⟩
theorem lst_inv {F : Hp} {v : V} {ds : List PyData} (h : C.Is F v (.list ds)) : ∃ p vs, v = .ref p ∧ F p = some (.lst vs) ∧ IsdA C.P C.w F vs ds := by
  cases h with
  | ref hp hv => cases hv with
    | lst hv => exact ⟨_, _, rfl, hp, hv⟩
theorem jcatT (ha : JE X C a ta) (hb : JE X C b tb) : JE X C (.BinOp a .Add b pos) (xCatT ta tb) := PE.weak (pe_op op_catA ha hb) fun σ H Q h => by
  obtain ⟨δ, ρ, F, Q', R, q, k⟩ := h
  refine ⟨δ, ρ, F, _, R, q, fun v x ρ1 F1 H1 g1 R1 i1 q1 => ⟨δ, ρ1, F1, _, R1, q1, fun u y ρ2 F2 H2 g2 R2 i2 q2 => ?_⟩⟩
  obtain ⟨xs, ys, rfl, rfl, z, q2⟩ := q2
  have j1 : C.Is F2 v (.tuple xs) := i1.mono g2.f
  have g := g1.tr g2 R1
  obtain ⟨p, vs, rfl, hp, hv⟩ := tup_inv j1
  obtain ⟨p', vs', rfl, hp', hv'⟩ := tup_inv i2
  refine ⟨p, p', vs, vs', rfl, rfl, SqT.of (R2.frz _ _ hp), SqT.of (R2.frz _ _ hp'), by rw [hv.length, hv'.length]; exact line5 z, fun e => ?_, fun _ e => ?_, fun _ _ p n => ?_⟩
  · have : xs = [] := List.length_eq_zero_iff.mp (by rw [← hv.length, e]; rfl)
    subst this
    exact k _ _ ρ2 F2 H2 g R2 i2 (by simpa using q2)
  · have : ys = [] := List.length_eq_zero_iff.mp (by rw [← hv'.length, e]; rfl)
    subst this
    exact k _ _ ρ2 F2 H2 g R2 j1 (by simpa using q2)
  · exact k _ _ ρ2 _ _ (g.tr (gr_new n R2.frz) R2) (R2.new n) (.ref upd_same (.tup ((hv.append hv').mono (gr_new (C := C) n R2.frz).f))) q2
theorem jneg (ha : JC X C a ta) : JE X C (.UnaryOp .USub a pos) (fun δ ρ Q => ta δ ρ fun d ρ1 => ∃ i, d = .int i ∧ Q (.int (-i)) ρ1) := PE.weak (pe_un un_neg ha) fun σ H Q h => by
  obtain ⟨δ, ρ, F, Q', R, q, k⟩ := h
  refine ⟨δ, ρ, F, _, R, q, fun v d ρ1 F1 H1 g1 R1 i1 w => ?_⟩
  obtain ⟨i, rfl, w⟩ := w
  exact ⟨i, i1.int, k _ _ ρ1 F1 H1 g1 R1 (.int _) w⟩

/-! ### calls of built-ins, the arguments only read -/
/-- scalar results -/
def ScC (C : Cc) (r : List V → Hp → VK → Prop) (f : List PyData → (PyData → Prop) → Prop) : Prop := ∀ F H vs ds (W : PyData → Prop) (Q : VK), Same F H → Paired (CIs C F H) vs ds → f ds W → (∀ z' z, C.Is F z' z → W z → Q z' H) → r vs H Q
def xFn (f : List PyData → (PyData → Prop) → Prop) (tas : PAt) : PEt := fun δ ρ Q => tas δ ρ fun ds ρ1 => f ds fun d => Q d ρ1
theorem scc {r : List V → Hp → VK → Prop} {f : List PyData → (PyData → Prop) → Prop} (s : ScC C r f) (σ : L2.St) (H : Hp) (Q : VK) (h : LE C (xFn f tas) σ H Q) : tCB r (LAC C tas) σ H Q := by
  obtain ⟨δ, ρ, F, Q', R, q, k⟩ := h
  refine ⟨δ, ρ, F, _, R, q, fun vs ds ρ1 F1 H1 g1 R1 i1 q1 => ?_⟩
  exact s F1 H1 vs ds _ Q R1.frz i1 q1 fun z' z iz w => k z' z ρ1 F1 H1 g1 R1 iz w
/-- a built-in function, its rule and what it says of data -/
def BS (X : Cx) (C : Cc) (id : String) (f : List PyData → (PyData → Prop) → Prop) : Prop := ∃ r, CallR X (.builtin id) r ∧ ScC C r f
def TyS (X : Cx) (C : Cc) (id : String) (f : List PyData → (PyData → Prop) → Prop) : Prop := ∃ r, CallR X (.type id) r ∧ ScC C r f
theorem jcallB {x : Str} {p : Pos} {id : String} {f : List PyData → (PyData → Prop) → Prop} (o : BS X C id f) (hm : X.mg x = none) (ha : JAC X C (e :: es) tas) (hg : Gl X x := by rfl) (hv : bootBuiltins x = some (.builtin id) := by decide +kernel) (hn : x ≠ "__name__" := by decide) (hdb : (x == ("__debug__" : Str)) = false := by decide)
    (he : starEach (e :: es) X.env = (false, eval e X.env) :: starEach es X.env := by rfl) (hpl : (backTo pos (starEach es X.env)).any (·.1) = false := by rfl) : JE X C (.Call (.Name x p) (e :: es) [] pos) (xFn f tas) := by
  obtain ⟨r, ho, s⟩ := o
  exact PE.weak (pe_callB ho hg hm hv ha hn hdb he hpl) (scc s)
theorem jcallTy {x : Str} {p : Pos} {id : String} {f : List PyData → (PyData → Prop) → Prop} (o : TyS X C id f) (hm : X.mg x = none) (ha : JAC X C (e :: es) tas) (hg : Gl X x := by rfl) (hv : bootBuiltins x = some (.type id) := by decide +kernel) (hn : x ≠ "__name__" := by decide) (hdb : (x == ("__debug__" : Str)) = false := by decide)
    (he : starEach (e :: es) X.env = (false, eval e X.env) :: starEach es X.env := by rfl) (hpl : (backTo pos (starEach es X.env)).any (·.1) = false := by rfl) : JE X C (.Call (.Name x p) (e :: es) [] pos) (xFn f tas) := by
  obtain ⟨r, ho, s⟩ := o
  exact PE.weak (pe_callTy ho hg hm hv ha hn hdb he hpl) (scc s)
/-- len of a list, a tuple -/
def dlen : List PyData → (PyData → Prop) → Prop := fun ds Q => ∃ xs, (ds = [.list xs] ∨ ds = [.tuple xs]) ∧ Q (.int xs.length)
theorem pair1 {F H : Hp} {vs : List V} {d : PyData} (h : Paired (CIs C F H) vs [d]) : ∃ v, vs = [v] ∧ CIs C F H v d := by
  cases h with
  | cons h t => cases t; exact ⟨_, rfl, h⟩
theorem pair2 {F H : Hp} {vs : List V} {d d' : PyData} (h : Paired (CIs C F H) vs [d, d']) : ∃ v v', vs = [v, v'] ∧ CIs C F H v d ∧ CIs C F H v' d' := by
  cases h with
  | cons h t => cases t with
    | cons h' t => cases t; exact ⟨_, _, rfl, h, h'⟩
theorem b_len : BS X C "len" dlen := ⟨_, call_len_seq, fun F H vs ds W Q s ip f k => by
  obtain ⟨xs, f, w⟩ := f
  rcases f with rfl | rfl
  · obtain ⟨v, rfl, i⟩ := pair1 ip
    obtain ⟨p, vs, rfl, hp, hv⟩ := i.lst s
    exact ⟨p, vs, rfl, .inl (SqL.of hp), by rw [hv.length]; exact k _ _ (.int _) w⟩
  · obtain ⟨v, rfl, i⟩ := pair1 ip
    obtain ⟨p, vs, rfl, hp, hv⟩ := i.tup s
    exact ⟨p, vs, rfl, .inr (SqT.of hp), by rw [hv.length]; exact k _ _ (.int _) w⟩⟩
def dabs : List PyData → (PyData → Prop) → Prop := fun ds Q => ∃ i : Int, ds = [.int i] ∧ Q (.int (i.natAbs : Int))
theorem b_abs : BS X C "abs" dabs := ⟨_, call_abs, fun F H vs ds W Q s ip f k => by
  obtain ⟨n, rfl, w⟩ := f
  obtain ⟨v, rfl, i⟩ := pair1 ip
  refine ⟨n, by rw [i.int], ?_⟩
  have : (if n < 0 then -n else n) = (n.natAbs : Int) := by split <;> omega
  rw [this]; exact k _ _ (.int _) w⟩
def dmax2 : List PyData → (PyData → Prop) → Prop := fun ds Q => ∃ i j : Int, ds = [.int i, .int j] ∧ Q (.int (max i j))
theorem b_max2 (hc : X.calm = true) : BS X C "max" dmax2 := ⟨_, call_max2 hc, fun F H vs ds W Q s ip f k => by
  obtain ⟨n, m, rfl, w⟩ := f
  obtain ⟨v, v', rfl, i, i'⟩ := pair2 ip
  refine ⟨n, m, by rw [i.int, i'.int], ?_⟩
  have : (if m > n then m else n) = max n m := by split <;> omega
  rw [this]; exact k _ _ (.int _) w⟩
def dsum : List PyData → (PyData → Prop) → Prop := fun ds Q => ∃ ns : List Int, ds = [.list (ns.map .int)] ∧ Q (.int ns.sum)
theorem b_sum (hc : X.calm = true) : BS X C "sum" dsum := ⟨_, cr_sum hc, fun F H vs ds W Q s ip f k => by
  obtain ⟨ns, rfl, w⟩ := f
  obtain ⟨v, rfl, i⟩ := pair1 ip
  obtain ⟨p, vs, rfl, hp, hv⟩ := i.lst s
  rw [hv.ints] at hp
  exact ⟨p, ns, rfl, SqL.of hp, k _ _ (.int _) w⟩⟩
def dminL : List PyData → (PyData → Prop) → Prop := fun ds Q => ∃ ns : List Int, ds = [.list (ns.map .int)] ∧ 0 < ns.length ∧ ∀ m, m ∈ ns → (∀ y, y ∈ ns → m ≤ y) → Q (.int m)
def dmaxL : List PyData → (PyData → Prop) → Prop := fun ds Q => ∃ ns : List Int, ds = [.list (ns.map .int)] ∧ 0 < ns.length ∧ ∀ m, m ∈ ns → (∀ y, y ∈ ns → y ≤ m) → Q (.int m)
theorem b_minL (hc : X.calm = true) : BS X C "min" dminL := ⟨_, cr_min hc, fun F H vs ds W Q s ip f k => by
  obtain ⟨ns, rfl, z, w⟩ := f
  obtain ⟨v, rfl, i⟩ := pair1 ip
  obtain ⟨p, vs, rfl, hp, hv⟩ := i.lst s
  rw [hv.ints] at hp
  exact ⟨p, ns, rfl, SqL.of hp, z, fun m h1 h2 => k _ _ (.int _) (w m h1 h2)⟩⟩
theorem b_maxL (hc : X.calm = true) : BS X C "max" dmaxL := ⟨_, cr_max hc, fun F H vs ds W Q s ip f k => by
  obtain ⟨ns, rfl, z, w⟩ := f
  obtain ⟨v, rfl, i⟩ := pair1 ip
  obtain ⟨p, vs, rfl, hp, hv⟩ := i.lst s
  rw [hv.ints] at hp
  exact ⟨p, ns, rfl, SqL.of hp, z, fun m h1 h2 => k _ _ (.int _) (w m h1 h2)⟩⟩
def dint : List PyData → (PyData → Prop) → Prop := fun ds Q => ∃ i : Int, ds = [.int i] ∧ Q (.int i)
theorem t_int : TyS X C "int" dint := ⟨_, call_int1, fun F H vs ds W Q s ip f k => by
  obtain ⟨n, rfl, w⟩ := f
  obtain ⟨v, rfl, i⟩ := pair1 ip
  exact .inl ⟨n, by rw [i.int], k _ _ (.int _) w⟩⟩
end
end HB

set_option Elab.async false
set_option linter.all false
set_option maxRecDepth 100000
set_option maxHeartbeats 4000000
set_option autoImplicit false
namespace HB
open PySem PySem.Spec L2
section
variable {X : Cx} {C : Cc} {a b c e : Expr} {ta tb tc t : PEt} {tt tu : PTt} {tas : PAt} {pos p2 : Pos} {es rest : List Expr}
variable {δ δ' : Enm} {ρ ρ' : Rw} {σ σ' : L2.St} {F F' H H' : Hp}

/-! ### slots set -/
def SlV (C : Cc) (F H : Hp) (v : V) : Slo → Prop
  | .no => True
  | .fz d => C.Is F v d
  | .ow d => ∃ a o, v = .ref a ∧ F a = none ∧ C.H0 a = none ∧ H a = some o ∧ C.Ho F a o d
  | .row => False
/-- an owned thing that no slot holds -/
def Apt (δ : Enm) (σ : L2.St) (v : V) (s : Slo) : Prop := ∀ d, s = .ow d → ∀ (j : Nat) dj, δ[j]? = some (.ow dj) → σ[j]? ≠ some (some v)
theorem Rl.set (R : Rl C δ ρ σ F H) {i : Nat} {v : V} {s : Slo} (hs : SlV C F H v s) (ha : Apt δ σ v s) : Rl C (δ.set i s) ρ (σ.set i (some v)) F H where
  len := by rw [List.length_set, List.length_set]; exact R.len
  slot := fun j s' e => by
    by_cases hj : i = j
    · subst hj
      have hi : i < δ.length := by
        cases q : (δ.set i s)[i]? with
        | none => rw [q] at e; cases e
        | some x => have := (List.getElem?_eq_some_iff.mp q).1; rwa [List.length_set] at this
      rw [List.getElem?_set_self hi] at e
      cases e
      rw [List.getElem?_set_self (by rw [← R.len]; exact hi)]
      cases s with
      | no => trivial
      | fz d => exact ⟨v, rfl, hs⟩
      | ow d => obtain ⟨a, o, rfl, h⟩ := hs; exact ⟨a, o, rfl, h⟩
      | row => exact hs.elim
    · rw [List.getElem?_set_ne hj] at e ⊢
      exact R.slot j s' e
  apart := fun j k dj dk a e1 e2 e3 e4 => by
    have key : ∀ j dj, (δ.set i s)[j]? = some (.ow dj) → (σ.set i (some v))[j]? = some (some (.ref a)) → (j = i ∧ s = .ow dj ∧ v = .ref a) ∨ (j ≠ i ∧ δ[j]? = some (.ow dj) ∧ σ[j]? = some (some (.ref a))) := fun j dj e1 e3 => by
      by_cases hj : i = j
      · subst hj
        have hi : i < δ.length := by
          have := (List.getElem?_eq_some_iff.mp e1).1; rwa [List.length_set] at this
        rw [List.getElem?_set_self hi] at e1
        rw [List.getElem?_set_self (by rw [← R.len]; exact hi)] at e3
        cases e1; cases e3
        exact .inl ⟨rfl, rfl, rfl⟩
      · rw [List.getElem?_set_ne hj] at e1 e3
        exact .inr ⟨fun z => hj z.symm, e1, e3⟩
    rcases key j dj e1 e3 with ⟨h1, h2, h3⟩ | ⟨h1, h2, h3⟩ <;> rcases key k dk e2 e4 with ⟨k1, k2, k3⟩ | ⟨k1, k2, k3⟩
    · rw [h1, k1]
    · exact absurd (by rw [h3]; exact k3) (ha dj h2 k dk k2)
    · exact absurd (by rw [k3]; exact h3) (ha dk k2 j dj h2)
    · exact R.apart j k dj dk a h2 k2 h3 k3
  same := R.same
  frz := R.frz
  ext := R.ext
  old := R.old
  row := R.row
theorem apt_fz {v : V} {d : PyData} : Apt δ σ v (.fz d) := fun _ e => by cases e
theorem Rl.setF (R : Rl C δ ρ σ F H) {i : Nat} {v : V} {d : PyData} (h : C.Is F v d) : Rl C (δ.set i (.fz d)) ρ (σ.set i (some v)) F H := R.set h apt_fz
theorem apt_new (R : Rl C δ ρ σ F H) {a : Addr} {s : Slo} (n : H a = none) : Apt δ σ (.ref a) s := fun d _ j dj e1 e2 => by
  obtain ⟨b, o, e3, _, _, e4, _⟩ := R.slot j _ e1
  rw [e2] at e3; cases e3
  rw [n] at e4; cases e4
theorem Rl.h0 (R : Rl C δ ρ σ F H) {a : Addr} (n : H a = none) : C.H0 a = none := by
  cases q : C.H0 a with
  | none => rfl
  | some o =>
    by_cases z : C.r = some a
    · exact absurd n (R.rowthere a z)
    · rw [R.same a o z q] at n; cases n
/-- owned becomes frozen -/
def fzz (δ : Enm) (i : Nat) : Enm := match δ[i]? with
  | some (.ow d) => δ.set i (.fz d)
  | _ => δ
theorem Rl.fzz (R : Rl C δ ρ σ F H) (i : Nat) : ∃ F', Same F F' ∧ Rl C (HB.fzz δ i) ρ σ F' H := by
  unfold HB.fzz
  split
  · rename_i d e
    obtain ⟨a, o, e1, hf, h0, ho, hd⟩ := R.slot i _ e
    have hs : Same F (upd F a o) := fun x u z => by rw [upd_ne (ne_of_none z hf)]; exact z
    have hi : i < σ.length := (List.getElem?_eq_some_iff.mp e1).1
    have eσ : σ.set i (some (.ref a)) = σ := by
      apply List.ext_getElem?
      intro j
      by_cases hj : i = j
      · subst hj; rw [List.getElem?_set_self hi, e1]
      · rw [List.getElem?_set_ne hj]
    have nr : C.r ≠ some a := fun z => (R.row a z).1 h0
    have R2 : Rl C (δ.set i .no) ρ (σ.set i (some (.ref a))) F H := R.set trivial (fun _ z => by cases z)
    rw [eσ] at R2
    have R3 : Rl C (δ.set i .no) ρ σ (upd F a o) H := {
      len := R2.len
      slot := fun j s q => by
        have z := R2.slot j s q
        cases s with
        | no => trivial
        | fz d => obtain ⟨v, z1, z2⟩ := z; exact ⟨v, z1, z2.mono hs⟩
        | ow d =>
          obtain ⟨b, o2, z1, z2, z3, z4, z5⟩ := z
          have nb : b ≠ a := fun e5 => by
            subst e5
            by_cases hj : i = j
            · subst hj
              have hl : i < δ.length := (List.getElem?_eq_some_iff.mp e).1
              rw [List.getElem?_set_self hl] at q; cases q
            · rw [List.getElem?_set_ne hj] at q
              exact hj (R.apart i j _ _ b e q e1 z1)
          exact ⟨b, o2, z1, by rw [upd_ne nb]; exact z2, z3, z4, z5.mono hs⟩
        | row => exact z
      apart := R2.apart
      same := R2.same
      frz := fun x u z => by
        by_cases q : x = a
        · subst q; rw [upd_same] at z; rw [ho]; exact z
        · rw [upd_ne q] at z; exact R.frz _ _ z
      ext := fun x u z => by
        rw [upd_ne (ne_of_none z h0)]; exact R.ext x u z
      old := R.old.trans hs
      row := fun r z => by
        obtain ⟨h1, h2, h3⟩ := R.row r z
        exact ⟨h1, by rw [upd_ne fun q => nr (by rw [← q]; exact z)]; exact h2, h3⟩ }
    have R4 := R3.setF (i := i) (v := .ref a) (d := d) (.ref upd_same (hd.mono hs))
    rw [eσ, List.set_set] at R4
    exact ⟨_, hs, R4⟩
  · exact ⟨F, Same.refl _, R⟩
/-- an owned thing is changed -/
theorem Rl.chg (R : Rl C δ ρ σ F H) {i : Nat} {a : Addr} {o : HO} {d d' : PyData} (e : δ[i]? = some (.ow d)) (e1 : σ[i]? = some (some (.ref a))) (ho : C.Ho F a o d') : Rl C (δ.set i (.ow d')) ρ σ F (upd H a o) := by
  obtain ⟨a2, o2, e2, hf, h0, hh, hd⟩ := R.slot i _ e
  rw [e1] at e2; cases e2
  have hi : i < δ.length := (List.getElem?_eq_some_iff.mp e).1
  have nr : C.r ≠ some a := fun z => (R.row a z).1 h0
  exact {
    len := by rw [List.length_set]; exact R.len
    slot := fun j s q => by
      by_cases hj : i = j
      · subst hj
        rw [List.getElem?_set_self hi] at q; cases q
        exact ⟨a, o, e1, hf, h0, upd_same, ho⟩
      · rw [List.getElem?_set_ne hj] at q
        have z := R.slot j s q
        cases s with
        | no => trivial
        | fz d => exact z
        | ow d =>
          obtain ⟨b, o3, z1, z2, z3, z4, z5⟩ := z
          have nb : b ≠ a := fun e5 => by
            subst e5
            exact hj (R.apart i j _ _ b e q e1 z1)
          exact ⟨b, o3, z1, z2, z3, by rw [upd_ne nb]; exact z4, z5⟩
        | row => exact z
    apart := fun j k dj dk x q1 q2 q3 q4 => by
      have key : ∀ (j : Nat) (dj : PyData), (δ.set i (.ow d'))[j]? = some (Slo.ow dj) → ∃ dj', δ[j]? = some (Slo.ow dj') := fun j dj q => by
        by_cases hj : i = j
        · subst hj; exact ⟨d, e⟩
        · rw [List.getElem?_set_ne hj] at q; exact ⟨dj, q⟩
      obtain ⟨_, k1⟩ := key j dj q1
      obtain ⟨_, k2⟩ := key k dk q2
      exact R.apart j k _ _ x k1 k2 q3 q4
    same := fun b u n z => by rw [upd_ne (ne_of_none z h0)]; exact R.same b u n z
    frz := fun b u z => by rw [upd_ne (ne_of_none z hf)]; exact R.frz b u z
    ext := R.ext
    old := R.old
    row := fun r z => by
      obtain ⟨h1, h2, h3, h4, h5⟩ := R.row r z
      have nra : r ≠ a := fun q => nr (by rw [← q]; exact z)
      exact ⟨h1, h2, by rw [upd_ne nra]; exact h3, h4, h5⟩ }
end
end HB

set_option Elab.async false
set_option linter.all false
set_option maxRecDepth 100000
set_option maxHeartbeats 4000000
set_option autoImplicit false
namespace HB
open PySem PySem.Spec L2
section
variable {X : Cx} {C : Cc} {a b c e tg iter : Expr} {ta tb tc t : PEt} {tt tu : PTt} {tas : PAt} {pos p2 : Pos} {es rest : List Expr} {st : Stmt} {sts : List Stmt} {s1 s2 s3 : PSt}
variable {δ δ' : Enm} {ρ ρ' : Rw} {σ σ' : L2.St} {F F' H H' : Hp}

/-! ### targets -/
abbrev PGt := PyData → Enm → Rw → (Enm → Rw → Prop) → Prop
abbrev PGst := List PyData → Enm → Rw → (Enm → Rw → Prop) → Prop
/-- σ' is σ but for the slots S -/
def But (S : List Nat) (σ σ' : L2.St) : Prop := σ'.length = σ.length ∧ ∀ j, j ∉ S → σ'[j]? = σ[j]?
theorem But.refl (S : List Nat) (σ : L2.St) : But S σ σ := ⟨rfl, fun _ _ => rfl⟩
theorem But.trans {S T U : List Nat} {σ σ' σ'' : L2.St} (a : But S σ σ') (b : But T σ' σ'') (hs : ∀ i ∈ S, i ∈ U) (ht : ∀ i ∈ T, i ∈ U) : But U σ σ'' := ⟨b.1.trans a.1, fun j h => (b.2 j fun z => h (ht j z)).trans (a.2 j fun z => h (hs j z))⟩
theorem but_set (σ : L2.St) (i : Nat) (v : Option V) : But [i] σ (σ.set i v) := ⟨List.length_set, fun j h => List.getElem?_set_ne (fun z => h (by simp [z]))⟩
def LG (C : Cc) (pr : Bool) (S : List Nat) (g : PGt) : TG := fun v σ H Q => ∃ δ ρ F d Q', Rl C δ ρ σ F H ∧ C.Is F v d ∧ g d δ ρ Q' ∧ ∀ δ' ρ' σ' F' H', Same F F' → (pr = true → F' = F ∧ H' = H) → Rl C δ' ρ' σ' F' H' → But S σ σ' → Q' δ' ρ' → Q σ' H'
def LGs (C : Cc) (pr : Bool) (S : List Nat) (g : PGst) : TGs := fun vs σ H Q => ∃ δ ρ F ds Q', Rl C δ ρ σ F H ∧ IsdA C.P C.w F vs ds ∧ g ds δ ρ Q' ∧ ∀ δ' ρ' σ' F' H', Same F F' → (pr = true → F' = F ∧ H' = H) → Rl C δ' ρ' σ' F' H' → But S σ σ' → Q' δ' ρ' → Q σ' H'
abbrev JG (X : Cx) (C : Cc) (pr : Bool) (S : List Nat) (e : Expr) (g : PGt) : Prop := PG X e (LG C pr S g)
abbrev JGs (X : Cx) (C : Cc) (pr : Bool) (S : List Nat) (es : List Expr) (g : PGst) : Prop := PGs X es (LGs C pr S g)
theorem PG.weak {e : Expr} {t u : TG} (h : PG X e t) (k : ∀ v σ H Q, u v σ H Q → t v σ H Q) : PG X e u := ⟨fun p s σ H v w Q I r q => h.run p s σ H v w Q I r (k v σ H Q q)⟩
theorem PGs.weak {es : List Expr} {t u : TGs} (h : PGs X es t) (k : ∀ v σ H Q, u v σ H Q → t v σ H Q) : PGs X es u := ⟨fun p s σ H v w Q I r q => h.run p s σ H v w Q I r (k v σ H Q q)⟩
def gNm (i : Nat) : PGt := fun d δ ρ Q => Q (δ.set i (.fz d)) ρ
def gTp (g : PGst) : PGt := fun d δ ρ Q => ∃ ds, d = .tuple ds ∧ g ds δ ρ Q
def gN : PGst := fun ds δ ρ Q => ds = [] ∧ Q δ ρ
def gC (g : PGt) (u : PGst) : PGst := fun ds δ ρ Q => ∃ d r, ds = d :: r ∧ g d δ ρ fun δ1 ρ1 => u r δ1 ρ1 Q
theorem jgn {pr : Bool} {i : Nat} {x : Str} (hN : X.N.Nodup) (hi : X.N[i]? = some x := by rfl) (hx : Loc X.env.scope x := by first | exact .inl rfl | exact .inr rfl) (hf : X.fn x = true ∨ X.env.scope.names.lookup x = some .local := by first | exact .inl rfl | exact .inr rfl) : JG X C pr [i] (.Name x pos) (gNm i) :=
  PG.weak (pg_name hN hi hx hf) fun v σ H Q h => by
    obtain ⟨δ, ρ, F, d, Q', R, hd, q, k⟩ := h
    exact k _ ρ _ F H (Same.refl _) (fun _ => ⟨rfl, rfl⟩) (R.setF hd) (but_set _ _ _) q
theorem jgnil {pr : Bool} : JGs X C pr [] [] gN := PGs.weak pgs_nil fun vs σ H Q h => by
  obtain ⟨δ, ρ, F, ds, Q', R, hd, ⟨e, q⟩, k⟩ := h
  subst e; cases hd
  exact ⟨rfl, k δ ρ σ F H (Same.refl _) (fun _ => ⟨rfl, rfl⟩) R (But.refl _ _) q⟩
theorem jgcons {pr : Bool} {S T : List Nat} {g : PGt} {u : PGst} (h1 : JG X C pr S e g) (h2 : JGs X C pr T es u) (hs : (assignEach (e :: es) X.env).map (·.2) = assign e X.env :: (assignEach es X.env).map (·.2) := by rfl) : JGs X C pr (S ++ T) (e :: es) (gC g u) :=
  PGs.weak (pgs_cons h1 h2 hs) fun vs σ H Q h => by
    obtain ⟨δ, ρ, F, ds, Q', R, hd, ⟨d, r, e, q⟩, k⟩ := h
    subst e
    cases hd with
    | cons hd hr =>
      refine ⟨_, _, rfl, δ, ρ, F, d, _, R, hd, q, fun δ1 ρ1 σ1 F1 H1 s1 p1 R1 b1 q1 => ?_⟩
      exact ⟨δ1, ρ1, F1, r, Q', R1, hr.mono s1, q1, fun δ2 ρ2 σ2 F2 H2 s2 p2 R2 b2 q2 => k δ2 ρ2 σ2 F2 H2 (s1.trans s2) (fun z => ⟨(p2 z).1.trans (p1 z).1, (p2 z).2.trans (p1 z).2⟩) R2 (b1.trans b2 (fun i h => List.mem_append_left _ h) (fun i h => List.mem_append_right _ h)) q2⟩
def GR (g : PGt) : Prop := ∀ d δ ρ Q, g d δ ρ Q → ∃ δ' ρ', Q δ' ρ'
def GRs (g : PGst) : Prop := ∀ d δ ρ Q, g d δ ρ Q → ∃ δ' ρ', Q δ' ρ'
def GLen (g : PGst) (n : Nat) : Prop := ∀ ds δ ρ Q, g ds δ ρ Q → ds.length = n
theorem gr_nm {i : Nat} : GR (gNm i) := fun _ _ _ _ h => ⟨_, _, h⟩
theorem grs_n : GRs gN := fun _ _ _ _ h => ⟨_, _, h.2⟩
theorem grs_c {g : PGt} {u : PGst} (h1 : GR g) (h2 : GRs u) : GRs (gC g u) := fun _ _ _ _ ⟨d, r, _, h⟩ => let ⟨_, _, h⟩ := h1 _ _ _ _ h; h2 _ _ _ _ h
theorem gr_tp {g : PGst} (h : GRs g) : GR (gTp g) := fun _ _ _ _ ⟨_, _, q⟩ => h _ _ _ _ q
theorem gl_n : GLen gN 0 := fun _ _ _ _ h => by rw [h.1]; rfl
theorem gl_c {g : PGt} {u : PGst} {n : Nat} (h1 : GR g) (h2 : GLen u n) : GLen (gC g u) (n + 1) := fun _ _ _ _ ⟨d, r, e, h⟩ => by
  subst e
  obtain ⟨_, _, h⟩ := h1 _ _ _ _ h
  rw [List.length_cons, h2 _ _ _ _ h]
theorem jgtp {pr : Bool} {S : List Nat} {kk n : Nat} {g : PGst} (hc : X.calm = true) (h : JGs X C pr S es g) (hn : (assignEach es X.env).length = n := by rfl) (hst : (assignEach es X.env).findIdx? (·.1) = none := by rfl) (hl : GLen g n := by repeat (first | exact gl_n | exact gr_nm | exact grs_n | refine gl_c ?_ ?_ | refine gr_tp ?_ | refine grs_c ?_ ?_)) : JG X C pr S (.Tuple es kk pos) (gTp g) :=
  PG.weak (pg_tup hc h hn hst) fun v σ H Q h => by
    obtain ⟨δ, ρ, F, d, Q', R, hd, ⟨ds, e, q⟩, k⟩ := h
    subst e
    obtain ⟨p, vs, rfl, hp, hv⟩ := tup_inv hd
    exact ⟨p, vs, rfl, SqT.of (R.frz _ _ hp), by rw [hv.length]; exact hl _ _ _ _ q, δ, ρ, F, ds, Q', R, hv, q, k⟩

/-! ### statements -/
theorem EnR.mono {D' : PEn} {D : Ends} (h : EnR C F D' D) (s : Same F F') : EnR C F' D' D := ⟨fun δ ρ σ F2 H2 z => h.nx δ ρ σ F2 H2 (s.trans z), fun v d δ ρ σ F2 H2 z => h.rt v d δ ρ σ F2 H2 (s.trans z), fun δ ρ σ F2 H2 z => h.bk δ ρ σ F2 H2 (s.trans z), fun δ ρ σ F2 H2 z => h.ct δ ρ σ F2 H2 (s.trans z)⟩
def sNx : PSt := fun D δ ρ => D.nx δ ρ
def sSeq (t u : PSt) : PSt := fun D δ ρ => t { D with nx := u D } δ ρ
theorem jbnil : JB X C [] sNx := PSs.weak pss_nil fun D σ H h => by
  obtain ⟨δ, ρ, F, D', R, q, E⟩ := h
  exact E.nx δ ρ σ F H (Same.refl _) R q
theorem jbcons (h1 : JS X C st s1) (h2 : JB X C sts s2) : JB X C (st :: sts) (sSeq s1 s2) := PSs.weak (pss_cons h1 h2) fun D σ H h => by
  obtain ⟨δ, ρ, F, D', R, q, E⟩ := h
  exact ⟨δ, ρ, F, _, R, q, ⟨fun δ1 ρ1 σ1 F1 H1 s1 R1 q1 => ⟨δ1, ρ1, F1, D', R1, q1, E.mono s1⟩, E.rt, E.bk, E.ct⟩⟩
theorem jbone (h1 : JS X C st s1) : JB X C [st] s1 := PSs.weak (pss_one h1) fun D σ H h => h
def sNo : PSt := fun _ _ _ => False
theorem jnever : JS X C st sNo := PS.weak ps_never fun D σ H h => by obtain ⟨δ, ρ, F, D', R, q, E⟩ := h; exact q
def sAs (t : PEt) (g : PGt) : PSt := fun D δ ρ => t δ ρ fun d ρ1 => g d δ ρ1 D.nx
theorem jas {pr : Bool} {S : List Nat} {g : PGt} (he : JE X C e t) (hg : JG X C pr S tg g) (hs : swapsWithSole [tg] e pos.line X.env = pure false := by rfl) (hw : swappedStores [tg] e X.env = pure none := by rfl)
    (h1 : (assignEach [tg] X.env).map (·.2) = [assign tg X.env] := by rfl) : JS X C (.Assign [tg] e pos) (sAs t g) := PS.weak (ps_asg he hg hs hw h1) fun D σ H h => by
  obtain ⟨δ, ρ, F, D', R, q, E⟩ := h
  exact ⟨δ, ρ, F, _, R, q, fun v d ρ1 F1 H1 g1 R1 i1 q1 => ⟨δ, ρ1, F1, d, D'.nx, R1, i1, q1, fun δ2 ρ2 σ2 F2 H2 s2 _ R2 _ q2 => E.nx δ2 ρ2 σ2 F2 H2 (g1.f.trans s2) R2 q2⟩⟩
/-- x = e -/
theorem jset {i : Nat} {x : Str} {pos' : Pos} (hN : X.N.Nodup) (he : JE X C e t) (hi : X.N[i]? = some x := by rfl) (hx : Loc X.env.scope x := by first | exact .inl rfl | exact .inr rfl) (hs : swapsWith e (some (.Name x pos')) pos.line X.env = pure false := by rfl) (hf : X.fn x = true ∨ X.env.scope.names.lookup x = some .local := by first | exact .inl rfl | exact .inr rfl) :
    JS X C (.Assign [.Name x pos'] e pos) (sAs t (gNm i)) := PS.weak (ps_set hN hi hx he hs hf) fun D σ H h => by
  obtain ⟨δ, ρ, F, D', R, q, E⟩ := h
  exact ⟨δ, ρ, F, _, R, q, fun v d ρ1 F1 H1 g1 R1 i1 q1 => E.nx _ ρ1 _ F1 H1 g1.f (R1.setF i1) q1⟩
/-- x = e, e new and owned -/
def sOw (t : PEt) (i : Nat) : PSt := fun D δ ρ => t δ ρ fun d ρ1 => D.nx (δ.set i (.ow d)) ρ1
theorem jown {i : Nat} {x : Str} {pos' : Pos} (hN : X.N.Nodup) (he : JF X C e t) (hi : X.N[i]? = some x := by rfl) (hx : Loc X.env.scope x := by first | exact .inl rfl | exact .inr rfl) (hs : swapsWith e (some (.Name x pos')) pos.line X.env = pure false := by rfl) (hf : X.fn x = true ∨ X.env.scope.names.lookup x = some .local := by first | exact .inl rfl | exact .inr rfl) :
    JS X C (.Assign [.Name x pos'] e pos) (sOw t i) := PS.weak (ps_set hN hi hx he hs hf) fun D σ H h => by
  obtain ⟨δ, ρ, F, D', R, q, E⟩ := h
  refine ⟨δ, ρ, F, _, R, q, fun a o d ρ1 F1 H1 g1 R1 n f1 h1 hd q1 => E.nx _ ρ1 _ F1 H1 g1.f (R1.set (s := .ow d) ⟨a, o, rfl, f1, R.h0 n, h1, hd⟩ ?_) q1⟩
  intro d' _ j dj e1 e2
  obtain ⟨b, o2, e3, _, _, e4, _⟩ := R.slot j _ e1
  rw [e2] at e3; cases e3
  rw [n] at e4; cases e4
/-- owned names read as values from here on -/
def sFz (i : Nat) (s : PSt) : PSt := fun D δ ρ => s D (fzz δ i) ρ
theorem jfz (i : Nat) (h : JS X C st s1) : JS X C st (sFz i s1) := PS.weak h fun D σ H h => by
  obtain ⟨δ, ρ, F, D', R, q, E⟩ := h
  obtain ⟨F', s, R'⟩ := R.fzz i
  exact ⟨_, ρ, F', D', R', q, E.mono s⟩
def sRt (t : PEt) : PSt := fun D δ ρ => t δ ρ D.rt
theorem jret (he : JE X C e t) : JS X C (.Return (some e) pos) (sRt t) := PS.weak (ps_ret he) fun D σ H h => by
  obtain ⟨δ, ρ, F, D', R, q, E⟩ := h
  exact ⟨δ, ρ, F, _, R, q, fun v d ρ1 F1 H1 g1 R1 i1 q1 => E.rt v d δ ρ1 σ F1 H1 g1.f R1 i1 q1⟩
def sIf (tt : PTt) (t u : PSt) : PSt := fun D δ ρ => tt δ ρ fun k ρ1 => (k = true → t D δ ρ1) ∧ (k = false → u D δ ρ1)
theorem jifs {sa sb : List Stmt} (hc : JT X C c tt) (h1 : JB X C sa s1) (h2 : JB X C sb s2) : JS X C (.If c sa sb pos) (sIf tt s1 s2) := PS.weak (ps_if hc h1 h2) fun D σ H h => by
  obtain ⟨δ, ρ, F, D', R, q, E⟩ := h
  refine ⟨δ, ρ, F, _, R, q, fun bb ρ1 F1 H1 g1 R1 w => ?_⟩
  cases bb with
  | true => exact ⟨δ, ρ1, F1, D', R1, w.1 rfl, E.mono g1.f⟩
  | false => exact ⟨δ, ρ1, F1, D', R1, w.2 rfl, E.mono g1.f⟩
def sDo (t : PEt) : PSt := fun D δ ρ => t δ ρ fun _ ρ1 => D.nx δ ρ1
theorem jdo (he : JE X C e t) (hs : swapsWith e none pos.line X.env = pure false := by rfl) : JS X C (.Expr e pos) (sDo t) := PS.weak (ps_expr he hs) fun D σ H h => by
  obtain ⟨δ, ρ, F, D', R, q, E⟩ := h
  exact ⟨δ, ρ, F, _, R, q, fun v d ρ1 F1 H1 g1 R1 i1 q1 => E.nx δ ρ1 σ F1 H1 g1.f R1 q1⟩
/-- x.append(e) -/
def sApp (i : Nat) (t : PEt) : PSt := fun D δ ρ => ∃ ds, δ[i]? = some (.ow (.list ds)) ∧ t δ ρ fun d ρ1 => ds.length < 100000 ∧ D.nx (δ.set i (.ow (.list (ds ++ [d])))) ρ1
theorem line5l {n : Nat} (h : n < 100000) : n < sizeLine := by rw [sizeLine_eq]; omega
theorem japp (i : Nat) {x : Str} {px ap cp : Pos} (ho : PE X (.Name x px) (tVar i)) (he : JE X C e t) (hs : swapsWith (.Call (.Attribute (.Name x px) "append" ap) [e] [] cp) none pos.line X.env = pure false := by rfl)
    (hbase : attributeBase (.Name x px) "append" X.env (eval (.Name x px) X.env) = eval (.Name x px) X.env := by rfl)
    (hfew : ((backTo cp (starEach [e] X.env)).all (fun x => !x.1) && (backToKw cp (keywordEach [] X.env)).all (fun x => x.1.isSome)
      && decide ([e].length + ([] : List Keyword).length + (if ([] : List Keyword).isEmpty then 0 else 1) < 30)) = true := by rfl)
    (hline : (ap.endLine == cp.line) = true := by rfl) (hst : starEach [e] X.env = (false, eval e X.env) :: starEach [] X.env := by rfl) :
    JS X C (.Expr (.Call (.Attribute (.Name x px) "append" ap) [e] [] cp) pos) (sApp i t) := PS.weak (ps_expr (pe_bm PySem.F.plainAttrs_list PySem.F.slot_list_append PySem.F.type_list_append mt_append ho (pa_cons he pa_nil hst) hbase hfew hline hst rfl) hs) fun D σ H h => by
  obtain ⟨δ, ρ, F, D', R, ⟨ds, e0, q⟩, E⟩ := h
  obtain ⟨a, o, e1, hf, h0, ho, hd⟩ := R.slot i _ e0
  cases hd with
  | lst hv =>
    rename_i vs
    refine ⟨.ref a, e1, .inl ⟨rfl, _, SqL.of ho⟩, δ, ρ, F, _, R, q, fun v d ρ1 F1 H1 g1 R1 i1 q1 => ?_⟩
    obtain ⟨z2, q1⟩ := q1
    have nr : C.r ≠ some a := fun z => (R.row a z).1 h0
    exact ⟨a, vs, v, rfl, rfl, g1.h _ _ nr ho, by rw [hv.length]; exact line5l z2, E.nx _ ρ1 σ F1 _ g1.f (R1.chg e0 e1 (.lst ((hv.mono g1.f).append (.cons i1 .nil)))) q1⟩
end
end HB

set_option Elab.async false
set_option linter.all false
set_option maxRecDepth 100000
set_option maxHeartbeats 4000000
set_option autoImplicit false
namespace HB
open PySem PySem.Spec L2
section
variable {X : Cx} {C : Cc} {a b c e tg iter : Expr} {ta tb tc t : PEt} {tt tu : PTt} {tas : PAt} {pos p2 : Pos} {es rest : List Expr} {st : Stmt} {sts : List Stmt} {s1 s2 s3 : PSt}
variable {δ δ' : Enm} {ρ ρ' : Rw} {σ σ' : L2.St} {F F' H H' : Hp}

/-! ### what is walked -/
abbrev PIt := Enm → Rw → (List PyData → Rw → Prop) → Prop
structure SrcOk (C : Cc) (J : It) (ds : List PyData) (F0 : Hp) : Prop where
  turn : ∀ F H i, Same F0 F → Same F H → i < ds.length → J.go i H ∧ ∀ v H', J.yld i H v H' → ∃ F' x, ds[i]? = some x ∧ Gr C F H F' H' ∧ Same F' H' ∧ (∀ r, C.r = some r → H r ≠ none → H' r = H r) ∧ C.Is F' v x
  stop : ∀ F H i, Same F0 F → Same F H → ds.length ≤ i → J.stop i H
def LI (C : Cc) (t : PIt) : TI := fun σ H R => ∃ δ ρ F Q', Rl C δ ρ σ F H ∧ t δ ρ Q' ∧ ∀ J ds ρ' F' H', Gr C F H F' H' → Rl C δ ρ' σ F' H' → SrcOk C J ds F' → Q' ds ρ' → R J H'
abbrev JI (X : Cx) (C : Cc) (tg e : Expr) (t : PIt) : Prop := PI X tg e (LI C t)
theorem PI.weak {t u : TI} (h : PI X tg e t) (k : ∀ σ H Q, u σ H Q → t σ H Q) : PI X tg e u := ⟨fun p s σ H Q I q => h.run p s σ H Q I (k σ H Q q)⟩
def iL (t : PEt) : PIt := fun δ ρ Q => t δ ρ fun d ρ1 => ∃ ds, d = .list ds ∧ Q ds ρ1
def iT (t : PEt) : PIt := fun δ ρ Q => t δ ρ fun d ρ1 => ∃ ds, d = .tuple ds ∧ Q ds ρ1
def rngD (lo : Int) (n : Nat) : List PyData := (List.range n).map fun i => PyData.int (lo + (i : Nat))
def iR1 (t : PAt) : PIt := fun δ ρ Q => t δ ρ fun ds ρ1 => ∃ j : Int, ds = [.int j] ∧ (-1000000 ≤ j ∧ j ≤ 1000000) ∧ Q (rngD 0 j.toNat) ρ1
def iR2 (t : PAt) : PIt := fun δ ρ Q => t δ ρ fun ds ρ1 => ∃ i j : Int, ds = [.int i, .int j] ∧ (-1000000 ≤ i ∧ i ≤ 1000000 ∧ -1000000 ≤ j ∧ j ≤ 1000000) ∧ Q (rngD i (j - i).toNat) ρ1
theorem src_list {K : PySem.W.Frag} {p : Addr} {vs : List V} {ds : List PyData} (hp : F p = some (.lst vs)) (hv : IsdA C.P C.w F vs ds) : SrcOk C (Itl K p) ds F where
  turn := fun F1 H1 i s1 s2 hi => by
    obtain ⟨v, e1, e2⟩ := hv.get (List.getElem?_eq_getElem hi)
    have hs : SqL K H1 p vs := SqL.of (s2 _ _ (s1 _ _ hp))
    refine ⟨⟨vs, v, hs, e1⟩, fun w H2 y => ?_⟩
    obtain ⟨rfl, y⟩ := y
    have := Option.some.inj ((y _ hs).symm.trans e1)
    subst this
    exact ⟨F1, _, List.getElem?_eq_getElem hi, Gr.refl, s2, fun _ _ _ => rfl, e2.mono s1⟩
  stop := fun F1 H1 i s1 s2 hi => ⟨vs, SqL.of (s2 _ _ (s1 _ _ hp)), by rw [hv.length]; exact hi⟩
theorem src_tup {K : PySem.W.Frag} {p : Addr} {vs : List V} {ds : List PyData} (hp : F p = some (.tup vs)) (hv : IsdA C.P C.w F vs ds) : SrcOk C (Itt K p) ds F where
  turn := fun F1 H1 i s1 s2 hi => by
    obtain ⟨v, e1, e2⟩ := hv.get (List.getElem?_eq_getElem hi)
    have hs : SqT K H1 p vs := SqT.of (s2 _ _ (s1 _ _ hp))
    refine ⟨⟨vs, v, hs, e1⟩, fun w H2 y => ?_⟩
    obtain ⟨rfl, y⟩ := y
    have := Option.some.inj ((y _ hs).symm.trans e1)
    subst this
    exact ⟨F1, _, List.getElem?_eq_getElem hi, Gr.refl, s2, fun _ _ _ => rfl, e2.mono s1⟩
  stop := fun F1 H1 i s1 s2 hi => ⟨vs, SqT.of (s2 _ _ (s1 _ _ hp)), by rw [hv.length]; exact hi⟩
theorem rngD_len (lo : Int) (n : Nat) : (rngD lo n).length = n := by simp [rngD]
theorem src_rng {lo : Int} {n : Nat} : SrcOk C (Itr lo n) (rngD lo n) F where
  turn := fun F1 H1 i s1 s2 hi => by
    rw [rngD_len] at hi
    refine ⟨hi, fun w H2 y => ?_⟩
    obtain ⟨rfl, rfl⟩ := y
    exact ⟨F1, .int (lo + i), by simp [rngD, hi], Gr.refl, s2, fun _ _ _ => rfl, .int _⟩
  stop := fun F1 H1 i s1 s2 hi => by rw [rngD_len] at hi; exact hi
theorem jiL (he : JE X C e t) : JI X C tg e (iL t) := PI.weak (pi_list he) fun σ H R h => by
  obtain ⟨δ, ρ, F, Q', R, q, k⟩ := h
  refine ⟨δ, ρ, F, _, R, q, fun v d ρ1 F1 H1 g1 R1 i1 q1 => ?_⟩
  obtain ⟨ds, rfl, q1⟩ := q1
  obtain ⟨p, vs, rfl, hp, hv⟩ := lst_inv i1
  exact ⟨p, rfl, ⟨vs, SqL.of (R1.frz _ _ hp)⟩, k _ ds ρ1 F1 H1 g1 R1 (src_list hp hv) q1⟩
theorem jiT (he : JE X C e t) : JI X C tg e (iT t) := PI.weak (pi_tup he) fun σ H R h => by
  obtain ⟨δ, ρ, F, Q', R, q, k⟩ := h
  refine ⟨δ, ρ, F, _, R, q, fun v d ρ1 F1 H1 g1 R1 i1 q1 => ?_⟩
  obtain ⟨ds, rfl, q1⟩ := q1
  obtain ⟨p, vs, rfl, hp, hv⟩ := tup_inv i1
  exact ⟨p, rfl, ⟨vs, SqT.of (R1.frz _ _ hp)⟩, k _ ds ρ1 F1 H1 g1 R1 (src_tup hp hv) q1⟩
theorem pairI1 {F H : Hp} {vs : List V} {i : Int} (h : Paired (CIs C F H) vs [.int i]) : vs = [.int i] := by
  obtain ⟨v, rfl, h'⟩ := pair1 h; rw [h'.int]
theorem pairI2 {F H : Hp} {vs : List V} {i j : Int} (h : Paired (CIs C F H) vs [.int i, .int j]) : vs = [.int i, .int j] := by
  obtain ⟨v, v', rfl, h1, h2⟩ := pair2 h; rw [h1.int, h2.int]
theorem jiR1 {p : Pos} (hm : X.mg "range" = none) (ha : JAC X C [a] tas) (hg : Gl X "range" := by rfl) (hs : starEach [a] X.env = [(false, eval a X.env)] := by rfl) : JI X C tg (.Call (.Name "range" p) [a] [] pos) (iR1 tas) := PI.weak (pi_range1 hg hm ha hs) fun σ H R h => by
  obtain ⟨δ, ρ, F, Q', R, q, k⟩ := h
  refine ⟨δ, ρ, F, _, R, q, fun vs ds ρ1 F1 H1 g1 R1 i1 q1 => ?_⟩
  obtain ⟨j, rfl, ⟨z1, z2⟩, q1⟩ := q1
  exact ⟨j, pairI1 i1, by omega, by omega, k _ _ ρ1 F1 H1 g1 R1 src_rng q1⟩
theorem jiR2 {p : Pos} (hm : X.mg "range" = none) (ha : JAC X C [a, b] tas) (hg : Gl X "range" := by rfl) (hs : starEach [a, b] X.env = [(false, eval a X.env), (false, eval b X.env)] := by rfl) (hs2 : starEach [b] X.env = [(false, eval b X.env)] := by rfl) : JI X C tg (.Call (.Name "range" p) [a, b] [] pos) (iR2 tas) := PI.weak (pi_range2 hg hm ha hs hs2) fun σ H R h => by
  obtain ⟨δ, ρ, F, Q', R, q, k⟩ := h
  refine ⟨δ, ρ, F, _, R, q, fun vs ds ρ1 F1 H1 g1 R1 i1 q1 => ?_⟩
  obtain ⟨i, j, rfl, ⟨z1, z2, z3, z4⟩, q1⟩ := q1
  exact ⟨i, j, pairI2 i1, ⟨by omega, by omega, by omega, by omega⟩, k _ _ ρ1 F1 H1 g1 R1 src_rng q1⟩

/-! ### for, while -/
def xLoop (ds : List PyData) (g : PGt) (tb : PSt) : PSt := fun D δ ρ => ∃ W : List PyData → Enm → Rw → Prop, W [] δ ρ ∧
  (∀ pre x post, ds = pre ++ x :: post → ∀ δ ρ, W pre δ ρ → g x δ ρ fun δ2 ρ2 => tb { D with nx := W (pre ++ [x]), ct := W (pre ++ [x]), bk := D.nx } δ2 ρ2) ∧ ∀ δ ρ, W ds δ ρ → D.nx δ ρ
def sFor (t : PIt) (g : PGt) (tb : PSt) : PSt := fun D δ ρ => t δ ρ fun ds ρ1 => xLoop ds g tb D δ ρ1
theorem take_split {α : Type} {ds : List α} {i : Nat} {x : α} (h : ds[i]? = some x) : ds = ds.take i ++ x :: ds.drop (i + 1) ∧ ds.take (i + 1) = ds.take i ++ [x] := by
  obtain ⟨hi, e⟩ := List.getElem?_eq_some_iff.mp h
  subst e
  refine ⟨?_, ?_⟩
  · rw [← List.drop_eq_getElem_cons hi, List.take_append_drop]
  · rw [List.take_add_one, List.getElem?_eq_getElem hi]; rfl
theorem jfor {pr : Bool} {S : List Nat} {g : PGt} {body : List Stmt} {it : PIt} {tb : PSt} (hp : PassesOwn (model X.prog X.w) X.A X.env X.xe) (hc : X.calm = true) (hi : JI X C tg iter it) (hg : JG X C pr S tg g) (hb : JB X C body tb)
    (hs : ∀ x, foldedSetIterable iter X.env x = pure x := by intro _; rfl) : JS X C (.For tg iter body [] pos) (sFor it g tb) := PS.weak (ps_for hp hc hi hg hb hs) fun D σ H h => by
  obtain ⟨δ, ρ, F, D', R, q, E⟩ := h
  refine ⟨δ, ρ, F, _, R, q, fun J ds ρ1 F1 H1 g1 R1 src q1 => ?_⟩
  obtain ⟨W, w0, turn, done⟩ := q1
  refine ⟨fun i m σ2 H2 => m = ds.length - i ∧ i ≤ ds.length ∧ ∃ δ2 ρ2 F2, Same F1 F2 ∧ Rl C δ2 ρ2 σ2 F2 H2 ∧ W (ds.take i) δ2 ρ2, ⟨ds.length, by omega, Nat.zero_le _, δ, ρ1, F1, Same.refl _, R1, w0⟩, ?_⟩
  rintro i m σ2 H2 ⟨rfl, hi, δ2, ρ2, F2, s2, R2, w2⟩
  by_cases hlt : i < ds.length
  · obtain ⟨go, yl⟩ := src.turn F2 H2 i s2 R2.frz hlt
    refine .inr ⟨go, fun σ3 H3 => ∃ δ3 ρ3 F3, Same F1 F3 ∧ Rl C δ3 ρ3 σ3 F3 H3 ∧ W (ds.take (i + 1)) δ3 ρ3, fun σ3 H3 z => ?_, fun v H3 y => ?_⟩
    · obtain ⟨δ3, ρ3, F3, s3, R3, w3⟩ := z
      exact ⟨ds.length - (i + 1), by omega, rfl, hlt, δ3, ρ3, F3, s3, R3, w3⟩
    · obtain ⟨F3, x, ex, g3, s3, r3, i3⟩ := yl v H3 y
      obtain ⟨sp, st⟩ := take_split ex
      have R3 : Rl C δ2 ρ2 σ2 F3 H3 := R2.grow g3 s3 (R2.row.keep g3 fun r z => r3 r z (R2.rowthere r z))
      refine ⟨δ2, ρ2, F3, x, _, R3, i3, turn _ x _ sp δ2 ρ2 w2, fun δ4 ρ4 σ4 F4 H4 s4 _ R4 _ q4 => ?_⟩
      have s14 : Same F1 F4 := (s2.trans g3.f).trans s4
      refine ⟨δ4, ρ4, F4, _, R4, q4, ⟨fun δ5 ρ5 σ5 F5 H5 s5 R5 q5 => ⟨δ5, ρ5, F5, s14.trans s5, R5, by rw [st]; exact q5⟩, fun v5 d5 δ5 ρ5 σ5 F5 H5 s5 R5 i5 q5 => E.rt v5 d5 δ5 ρ5 σ5 F5 H5 ((g1.f.trans s14).trans s5) R5 i5 q5, fun δ5 ρ5 σ5 F5 H5 s5 R5 q5 => E.nx δ5 ρ5 σ5 F5 H5 ((g1.f.trans s14).trans s5) R5 q5, fun δ5 ρ5 σ5 F5 H5 s5 R5 q5 => ⟨δ5, ρ5, F5, s14.trans s5, R5, by rw [st]; exact q5⟩⟩⟩
  · have ei : i = ds.length := by omega
    subst ei
    rw [List.take_length] at w2
    exact .inl ⟨src.stop F2 H2 _ s2 R2.frz (Nat.le_refl _), E.nx δ2 ρ2 σ2 F2 H2 (g1.f.trans s2) R2 (done δ2 ρ2 w2)⟩
def sWhile (tt : PTt) (tb : PSt) : PSt := fun D δ ρ => ∃ W : Nat → Enm → Rw → Prop, (∃ m, W m δ ρ) ∧ ∀ m δ ρ, W m δ ρ → tt δ ρ fun k ρ1 =>
  (k = true → tb { D with nx := fun δ' ρ' => ∃ m', m' < m ∧ W m' δ' ρ', ct := fun δ' ρ' => ∃ m', m' < m ∧ W m' δ' ρ', bk := D.nx } δ ρ1) ∧ (k = false → D.nx δ ρ1)
theorem jwhile {body : List Stmt} {tb : PSt} (hp : PassesOwn (model X.prog X.w) X.A X.env X.xe) (hc : JT X C c tt) (hb : JB X C body tb) : JS X C (.While c body [] pos) (sWhile tt tb) := PS.weak (ps_while hp hc hb) fun D σ H h => by
  obtain ⟨δ, ρ, F, D', R, q, E⟩ := h
  obtain ⟨W, ⟨m0, w0⟩, turn⟩ := q
  refine ⟨fun m σ2 H2 => ∃ δ2 ρ2 F2, Same F F2 ∧ Rl C δ2 ρ2 σ2 F2 H2 ∧ W m δ2 ρ2, ⟨m0, δ, ρ, F, Same.refl _, R, w0⟩, ?_⟩
  rintro m σ2 H2 ⟨δ2, ρ2, F2, s2, R2, w2⟩
  refine ⟨δ2, ρ2, F2, _, R2, turn m δ2 ρ2 w2, fun bb ρ3 F3 H3 g3 R3 q3 => ?_⟩
  have s3 := s2.trans g3.f
  cases bb with
  | false => exact E.nx δ2 ρ3 σ2 F3 H3 s3 R3 (q3.2 rfl)
  | true =>
    refine ⟨fun σ4 H4 => ∃ m', m' < m ∧ ∃ δ4 ρ4 F4, Same F F4 ∧ Rl C δ4 ρ4 σ4 F4 H4 ∧ W m' δ4 ρ4, fun σ4 H4 z => z, δ2, ρ3, F3, _, R3, q3.1 rfl, ⟨fun δ5 ρ5 σ5 F5 H5 s5 R5 q5 => ?_, fun v5 d5 δ5 ρ5 σ5 F5 H5 s5 R5 i5 q5 => E.rt v5 d5 δ5 ρ5 σ5 F5 H5 (s3.trans s5) R5 i5 q5, fun δ5 ρ5 σ5 F5 H5 s5 R5 q5 => E.nx δ5 ρ5 σ5 F5 H5 (s3.trans s5) R5 q5, fun δ5 ρ5 σ5 F5 H5 s5 R5 q5 => ?_⟩⟩
    · obtain ⟨m', hm, w5⟩ := q5
      exact ⟨m', hm, δ5, ρ5, F5, s3.trans s5, R5, w5⟩
    · obtain ⟨m', hm, w5⟩ := q5
      exact ⟨m', hm, δ5, ρ5, F5, s3.trans s5, R5, w5⟩

/-! ### comprehensions -/
def wip (δ : Enm) : List Nat → Enm
  | [] => δ
  | v :: vs => (wip δ vs).set v .no
theorem Rl.wipe (R : Rl C δ ρ σ F H) : ∀ vs : List Nat, Rl C (wip δ vs) ρ (L2.wipe σ vs) F H
  | [] => R
  | v :: vs => by
    have R1 := Rl.wipe R vs
    show Rl C ((wip δ vs).set v .no) ρ ((L2.wipe σ vs).set v none) F H
    have at_ : ∀ (j : Nat) s, ((wip δ vs).set v .no)[j]? = some s → s = .no ∨ ((wip δ vs)[j]? = some s ∧ ((L2.wipe σ vs).set v none)[j]? = (L2.wipe σ vs)[j]?) := fun j s e => by
      by_cases hj : v = j
      · subst hj
        have hi : v < (wip δ vs).length := by
          have := (List.getElem?_eq_some_iff.mp e).1; rwa [List.length_set] at this
        rw [List.getElem?_set_self hi] at e
        cases e; exact .inl rfl
      · rw [List.getElem?_set_ne hj] at e
        exact .inr ⟨e, List.getElem?_set_ne hj⟩
    exact {
      len := by rw [List.length_set, List.length_set]; exact R1.len
      slot := fun j s e => by
        rcases at_ j s e with rfl | ⟨h1, h2⟩
        · trivial
        · rw [h2]; exact R1.slot j s h1
      apart := fun j k dj dk x e1 e2 e3 e4 => by
        rcases at_ j _ e1 with z | ⟨h1, h2⟩
        · cases z
        · rcases at_ k _ e2 with z | ⟨k1, k2⟩
          · cases z
          · rw [h2] at e3; rw [k2] at e4
            exact R1.apart j k dj dk x h1 k1 e3 e4
      same := R1.same
      frz := R1.frz
      ext := R1.ext
      old := R1.old
      row := R1.row }
theorem wipe_at (σ : L2.St) : ∀ (vs : List Nat) (j : Nat), (L2.wipe σ vs)[j]? = if j ∈ vs then (if j < σ.length then some none else none) else σ[j]?
  | [], j => by simp [L2.wipe]
  | v :: vs, j => by
    show ((L2.wipe σ vs).set v none)[j]? = _
    by_cases hj : v = j
    · subst hj
      by_cases hi : v < σ.length
      · rw [List.getElem?_set_self (by rw [wipe_length]; exact hi)]; simp [hi]
      · rw [List.getElem?_eq_none (by rw [List.length_set, wipe_length]; omega)]; simp [hi]
    · rw [List.getElem?_set_ne hj, wipe_at σ vs j]
      have : j ≠ v := fun z => hj z.symm
      simp [this]
theorem wipe_but {S vs : List Nat} (h : But S (L2.wipe σ vs) σ') (hs : ∀ i ∈ S, i ∈ vs) : L2.wipe σ' vs = L2.wipe σ vs := by
  have hl : σ'.length = σ.length := by rw [h.1, wipe_length]
  apply List.ext_getElem?
  intro j
  rw [wipe_at, wipe_at, hl]
  by_cases hj : j ∈ vs
  · rw [if_pos hj, if_pos hj]
  · rw [if_neg hj, if_neg hj, h.2 j fun z => hj (hs j z), wipe_at, if_neg hj]
def xLcL (ds : List PyData) (g : PGt) (tt : PTt) (te : PEt) (vs : List Nat) : PEt := fun δ ρ Q => ∃ W : List PyData → List PyData → Rw → Prop, W [] [] ρ ∧
  (∀ pre x post acc ρ, ds = pre ++ x :: post → W pre acc ρ → g x (wip δ vs) ρ fun δ2 ρ2 => tt δ2 ρ2 fun k ρ3 =>
    (k = true → te δ2 ρ3 fun d ρ4 => acc.length < 100000 ∧ W (pre ++ [x]) (acc ++ [d]) ρ4) ∧ (k = false → W (pre ++ [x]) acc ρ3)) ∧ ∀ acc ρ, W ds acc ρ → Q (.list acc) ρ
def xLc (t : PIt) (g : PGt) (tt : PTt) (te : PEt) (vs : List Nat) : PEt := fun δ ρ Q => t δ ρ fun ds ρ1 => xLcL ds g tt te vs δ ρ1 Q
def xYes : PTt := fun _ ρ Q => Q true ρ
abbrev JTs (X : Cx) (C : Cc) (ifs : List Expr) (t : PTt) : Prop := PTs X ifs (LT C t)
theorem PTs.weak {ifs : List Expr} {t u : TT} (h : PTs X ifs t) (k : ∀ σ H Q, u σ H Q → t σ H Q) : PTs X ifs u := ⟨fun p s σ H Q I q => h.run p s σ H Q I (k σ H Q q)⟩
theorem jtnil : JTs X C [] xYes := PTs.weak pts_nil fun σ H Q h => by
  obtain ⟨δ, ρ, F, Q', R, q, k⟩ := h
  exact k true ρ F H Gr.refl R q
theorem jtone (h : JT X C c tt) : JTs X C [c] tt := pts_one h
/-- a comprehension's reading, fresh -/
theorem lc_fresh {it : PIt} {g : PGt} {te : PEt} {S : List Nat} {vs : List Nat} (hS : ∀ i ∈ S, i ∈ vs) (σ : L2.St) (H : Hp) (Q : VK) (h : LF C (xLc it g tt te vs) σ H Q) : tLc (LI C it) (LG C true S g) (LT C tt) (LE C te) vs σ H Q := by
  obtain ⟨δ, ρ, F, Q', R, q, k⟩ := h
  refine ⟨δ, ρ, F, _, R, q, fun J ds ρ1 F1 H1 g1 R1 src q1 D nD => ?_⟩
  obtain ⟨W, w0, turn, done⟩ := q1
  have fD : F1 D = none := R1.freeF nD
  refine ⟨fun i m H2 => m = ds.length - i ∧ i ≤ ds.length ∧ ∃ ρ2 F2 acc vs2, Gr C F1 H1 F2 H2 ∧ Same F2 H2 ∧ RowOk C ρ2 F2 H2 ∧ F2 D = none ∧ H2 D = some (.lst vs2) ∧ IsdA C.P C.w F2 vs2 acc ∧ W (ds.take i) acc ρ2,
    ⟨ds.length, by omega, Nat.zero_le _, ρ1, F1, [], [], gr_newO nD, same_newO nD R1.frz, (R1.newO nD).row, fD, upd_same, .nil, w0⟩, ?_⟩
  rintro i m H2 ⟨rfl, hi, ρ2, F2, acc, vs2, g2, s2, rw2, fD2, hD2, hv2, w2⟩
  have R2 : Rl C δ ρ2 σ F2 H2 := R1.grow g2 s2 rw2
  by_cases hlt : i < ds.length
  · obtain ⟨go, yl⟩ := src.turn F2 H2 i g2.f s2 hlt
    refine .inr ⟨go, fun H3 => ∃ ρ3 F3 acc3 vs3, Gr C F1 H1 F3 H3 ∧ Same F3 H3 ∧ RowOk C ρ3 F3 H3 ∧ F3 D = none ∧ H3 D = some (.lst vs3) ∧ IsdA C.P C.w F3 vs3 acc3 ∧ W (ds.take (i + 1)) acc3 ρ3, fun H3 z => ⟨ds.length - (i + 1), by omega, rfl, hlt, z⟩, fun v H3 y => ?_⟩
    obtain ⟨F3, x, ex, g3, s3, r3, i3⟩ := yl v H3 y
    obtain ⟨sp, st⟩ := take_split ex
    have R3 : Rl C δ ρ2 σ F3 H3 := R2.grow g3 s3 (R2.row.keep g3 fun r z => r3 r z (R2.rowthere r z))
    have nrD : C.r ≠ some D := fun z => R1.rowthere D z nD
    refine ⟨wip δ vs, ρ2, F3, x, _, R3.wipe vs, i3, turn _ x _ acc ρ2 sp w2, fun δ4 ρ4 σ4 F4 H4 s4 p4 R4 b4 q4 => ⟨wipe_but b4 hS, ?_⟩⟩
    obtain ⟨rfl, rfl⟩ := p4 rfl
    have g13 : Gr C F1 H1 F4 H4 := g2.tr g3 R2
    have fD4 : F4 D = none := by rw [g3.e D _ hD2, fD2]
    have hD4 : H4 D = some (.lst vs2) := g3.h D _ nrD hD2
    refine ⟨δ4, ρ4, F4, _, R4, q4, fun bb ρ5 F5 H5 g5 R5 q5 => ?_⟩
    have g15 : Gr C F1 H1 F5 H5 := g13.tr g5 R4
    have fD5 : F5 D = none := by rw [g5.e D _ hD4, fD4]
    have hD5 : H5 D = some (.lst vs2) := g5.h D _ nrD hD4
    cases bb with
    | false =>
      refine iteF ?_
      exact ⟨ρ5, F5, acc, vs2, g15, R5.frz, R5.row, fD5, hD5, hv2.mono (g3.f.trans g5.f), by rw [st]; exact q5.2 rfl⟩
    | true =>
      refine iteT ?_
      refine ⟨δ4, ρ5, F5, _, R5, q5.1 rfl, fun y d ρ6 F6 H6 g6 R6 i6 q6 => ?_⟩
      obtain ⟨z6, w6⟩ := q6
      have g16 : Gr C F1 H1 F6 H6 := g15.tr g6 R5
      have fD6 : F6 D = none := by rw [g6.e D _ hD5, fD5]
      have hD6 : H6 D = some (.lst vs2) := g6.h D _ nrD hD5
      have hv6 : IsdA C.P C.w F6 vs2 acc := hv2.mono ((g3.f.trans g5.f).trans g6.f)
      refine ⟨vs2, hD6, by rw [hv6.length]; exact line5l z6, ρ6, F6, acc ++ [d], vs2 ++ [y], ⟨g16.f, fun x u n z => ?_, g16.e⟩, fun x u z => ?_, fun r z => ?_, fD6, upd_same, hv6.append (.cons i6 .nil), by rw [st]; exact w6⟩
      · rw [upd_ne (ne_of_none z nD)]; exact g16.h x u n z
      · rw [upd_ne (ne_of_none z fD6)]; exact R6.frz x u z
      · obtain ⟨h1, h2, h3, h4⟩ := R6.row r z
        exact ⟨h1, h2, by rw [upd_ne fun q => nrD (by rw [← q]; exact z)]; exact h3, h4⟩
  · have ei : i = ds.length := by omega
    subst ei
    rw [List.take_length] at w2
    exact .inl ⟨src.stop F2 H2 _ g2.f s2 (Nat.le_refl _), k D _ _ ρ2 F2 H2 (g1.tr g2 R1) R2 (g1.free R1 nD) fD2 hD2 (.lst hv2) (done acc ρ2 w2)⟩

theorem jlc {it : PIt} {g : PGt} {te : PEt} {S : List Nat} {elt : Expr} {ifs : List Expr} {scope : Scope} (own : List (Str × Nat)) (hc : X.calm = true) (hN : X.N.Nodup) (hi : JI X C tg iter it) (ok : BlkOk X.N X.env.scope scope own)
    (hg : ∀ (s : Shared) (H : Hp) (Ca : Addr) (cl : List (Str × Addr)) (fp : List Addr), JG (X.blk s H scope (compEnvC scope cl Ca X.env) fp) C true S tg g) (ht : ∀ (s : Shared) (H : Hp) (Ca : Addr) (cl : List (Str × Addr)) (fp : List Addr), JTs (X.blk s H scope (compEnvC scope cl Ca X.env) fp) C ifs tt)
    (he : ∀ (s : Shared) (H : Hp) (Ca : Addr) (cl : List (Str × Addr)) (fp : List Addr), JE (X.blk s H scope (compEnvC scope cl Ca X.env) fp) C elt te) (hS : ∀ i ∈ S, i ∈ own.map (·.2) := by decide) (hs : ∀ x, foldedSetIterable iter X.env x = pure x := by intro _; rfl) :
    JF X C (.ListComp elt [⟨tg, iter, ifs, 0⟩] scope pos) (xLc it g tt te (own.map (·.2))) :=
  PE.weak (pe_lc hc hN hi ok hg ht he hs) (lc_fresh hS)
/-- x = [..], x a local: frozen -/
theorem jsetLc {it : PIt} {g : PGt} {te : PEt} {S : List Nat} {elt : Expr} {ifs : List Expr} {scope : Scope} {i : Nat} {y : Str} {py : Pos} {spos : Pos} (own : List (Str × Nat)) (hc : X.calm = true) (hN : X.N.Nodup) (hi : JI X C tg iter it) (ok : BlkOk X.N X.env.scope scope own)
    (hg : ∀ (s : Shared) (H : Hp) (Ca : Addr) (cl : List (Str × Addr)) (fp : List Addr), JG (X.blk s H scope (compEnvC scope cl Ca X.env) fp) C true S tg g) (ht : ∀ (s : Shared) (H : Hp) (Ca : Addr) (cl : List (Str × Addr)) (fp : List Addr), JTs (X.blk s H scope (compEnvC scope cl Ca X.env) fp) C ifs tt)
    (he : ∀ (s : Shared) (H : Hp) (Ca : Addr) (cl : List (Str × Addr)) (fp : List Addr), JE (X.blk s H scope (compEnvC scope cl Ca X.env) fp) C elt te) (hS : ∀ i ∈ S, i ∈ own.map (·.2) := by decide) (hy : X.N[i]? = some y := by rfl) (hyl : X.env.scope.names.lookup y = some .local := by rfl)
    (hsw : swapsWith (.ListComp elt [⟨tg, iter, ifs, 0⟩] scope pos) (some (.Name y py)) spos.line X.env = pure true := by exact sw_true rfl rfl rfl (by decide +kernel)) (hs : ∀ x, foldedSetIterable iter X.env x = pure x := by intro _; rfl) :
    JS X C (.Assign [.Name y py] (.ListComp elt [⟨tg, iter, ifs, 0⟩] scope pos) spos) (sAs (xLc it g tt te (own.map (·.2))) (gNm i)) :=
  PS.weak (ps_setLc hc hN hy hyl hsw hi ok hg ht he hs) fun D σ H h => by
    obtain ⟨δ, ρ, F, D', R, q, E⟩ := h
    exact lc_fresh hS σ H _ (lf_e σ H _ ⟨δ, ρ, F, _, R, q, fun v d ρ1 F1 H1 g1 R1 i1 q1 => E.nx _ ρ1 _ F1 H1 g1.f (R1.setF i1) q1⟩)

/-! ### calls of the text's defs -/
abbrev SpT := List PyData → (PyData → Prop) → Prop
def spP (P : Program) (w : World) (R : SpT) : Sp := fun vs H Q _ => ∃ (F : Hp) (ds : List PyData) (W : PyData → Prop), Same F H ∧ IsdA P w F vs ds ∧ R ds W ∧
  ∀ v d F' H', Same F F' → Same H H' → Same F' H' → (∀ b o, H b = some o → F' b = F b) → Isd P w F' v d → W d → Q v H'
/-- the module's name x stands for a def that keeps R -/
structure Df (P : Program) (w : World) (K : PySem.W.Frag) (mg : Str → Option Value) (base : Heap) (x : Str) (k : Nat) (R : SpT) : Prop where
  ex : ∃ f fd ps, FnOk P w K mg base CX0 k f fd ps (spP P w R) ∧ mg x = some (.ref f) ∧ PySem.W.keepIn K (.ref f) = true ∧ Binds K fd ps []
def xCall (R : SpT) (tas : PAt) : PEt := fun δ ρ Q => tas δ ρ fun ds ρ1 => R ds fun d => Q d ρ1
theorem jcall {x : Str} {p : Pos} {k : Nat} {R : SpT} (G : Df X.prog X.w X.K X.mg X.base x k R) (hP : C.P = X.prog ∧ C.w = X.w) (hr : Room k X.A) (ha : JA X C (e :: es) tas) (hg : Gl X x := by rfl) (hdb : (x == ("__debug__" : Str)) = false := by decide)
    (he : starEach (e :: es) X.env = (false, eval e X.env) :: starEach es X.env := by rfl) (hpl : (backTo pos (starEach es X.env)).any (·.1) = false := by rfl) : JE X C (.Call (.Name x p) (e :: es) [] pos) (xCall R tas) := by
  obtain ⟨f, fd, ps, G, hm, hk, hb⟩ := G.ex
  refine PE.weak (pe_call G hr hg hm hk hb .nil pass0 ha hdb he hpl) fun σ H Q h => ?_
  obtain ⟨δ, ρ, F, Q', R1, q, kk⟩ := h
  refine ⟨δ, ρ, F, _, R1, q, fun vs ds ρ2 F2 H2 g2 R2 i2 q2 => ?_⟩
  rw [hP.1, hP.2] at i2
  refine ⟨F2, ds, _, R2.frz, by rw [List.append_nil]; exact i2, q2, fun v d F3 H3 s1 s2 s3 e3 i3 q2 => ?_⟩
  have g3 : Gr C F2 H2 F3 H3 := ⟨s1, fun b o _ z => s2 b o z, e3⟩
  refine kk v d ρ2 F3 H3 (g2.tr g3 R2) (R2.grow g3 s3 (R2.row.keep g3 fun r z => ?_)) ?_ q2
  · have := (R2.row r z).2.2.1
    rw [this]; exact s2 _ _ this
  · show Isd C.P C.w F3 v d
    rw [hP.1, hP.2]; exact i3

/-! ### a def of the text -/
/-- the context of its body -/
abbrev bX (P : Program) (w : World) (K : PySem.W.Frag) (mg : Str → Option Value) (base : Heap) (N : List Str) (qual : Str) (scope : Scope) (f : Addr) (cd : Value) (A : Around) (outer : List Env) (s : Shared) (H : Hp) (E : XK) : Cx := (cxOf CX0 P w K mg base N qual scope f cd A outer s H E).nox
abbrev bC (P : Program) (w : World) (K : PySem.W.Frag) (F H : Hp) : Cc := ⟨P, w, K, F, H, none, 0, []⟩
def start' (N : List Str) (ds : List PyData) : Enm := ds.map Slo.fz ++ List.replicate (N.length - ds.length) Slo.no
theorem rl_start {P : Program} {w : World} {K : PySem.W.Frag} {N : List Str} {vs : List V} {ds : List PyData} (s : Same F H) (h : IsdA P w F vs ds) : Rl (bC P w K F H) (start' N ds) (0, 0, 0) (L2.start N vs) F H where
  len := by simp [start', L2.start, h.length]
  slot := fun i sl e => by
    unfold start' at e
    by_cases hi : i < ds.length
    · rw [List.getElem?_append_left (by simpa using hi), List.getElem?_map, List.getElem?_eq_getElem hi] at e
      cases e
      obtain ⟨v, e1, i1⟩ := h.get (List.getElem?_eq_getElem hi)
      refine ⟨v, ?_, i1⟩
      unfold L2.start
      rw [List.getElem?_append_left (by simpa [h.length] using hi), List.getElem?_map, e1]; rfl
    · rw [List.getElem?_append_right (by simpa using hi), List.getElem?_replicate] at e
      split at e
      · cases e; trivial
      · cases e
  apart := fun i j di dj a e1 e2 _ _ => by
    exfalso
    unfold start' at e1
    by_cases hi : i < ds.length
    · rw [List.getElem?_append_left (by simpa using hi), List.getElem?_map, List.getElem?_eq_getElem hi] at e1
      cases e1
    · rw [List.getElem?_append_right (by simpa using hi), List.getElem?_replicate] at e1
      split at e1 <;> cases e1
  same := fun b o _ z => z
  frz := s
  ext := fun _ _ _ => rfl
  old := Same.refl _
  row := fun r z => by cases z
theorem mkdef {P : Program} {w : World} {K : PySem.W.Frag} {mg : Str → Option Value} {base : Heap} {x name qual : Str} {st : Stmt} {f : Addr} {fd : FuncData} {N ps : List Str} {k : Nat} {R : SpT}
    (Fd : FunD K name qual (defArgs st) (defBody st) (defScope st) [] [] f fd) (hm : mg x = some (.ref f)) (S : FnScope N ps (defScope st)) (b : Binds K fd ps []) (len : ∀ ds W, R ds W → ds.length = ps.length)
    (hbody : ∀ (cdv : Value) (A : Around) (outer : List Env) (s : Shared) (H F : Hp) (E : XK), Room k (A.deeper (PyProof.Rows.envOfC qual (defScope st) s.heap.objs.size f cdv)) →
      ∃ t, JB (bX P w K mg base N qual (defScope st) f cdv A outer s H E) (bC P w K F H) (defBody st) t ∧ ∀ ds W, R ds W → t { nx := fun _ _ => W .none, rt := fun d _ => W d } (start' N ds) (0, 0, 0)) :
    Df P w K mg base x (k + 1) R := by
  refine ⟨f, fd, ps, ?_, hm, Fd.kp, b⟩
  refine Fd.ok S (fun vs H Q E h => ?_) (fun cdv A outer s H vs Q E hr h => ?_)
  · obtain ⟨F, ds, W, _, i, r, _⟩ := h
    rw [i.length, len ds W r]
  · obtain ⟨F, ds, W, sF, i, r, q⟩ := h
    obtain ⟨t, hb, ht⟩ := hbody cdv A outer s H F E hr
    refine ⟨_, PSs.nox hb, start' N ds, (0, 0, 0), F, _, rl_start sF i, ht ds W r, ⟨fun δ ρ σ F' H' s' R' z => ?_, fun v d' δ ρ σ F' H' s' R' i' z => ?_, fun _ _ _ _ _ _ _ z => z.elim, fun _ _ _ _ _ _ _ z => z.elim⟩⟩
    · exact q .non .none F' H' s' (fun b o z => R'.same b o (fun y => by cases y) z) R'.frz (fun b o z => R'.ext b o z) .non z
    · exact q v d' F' H' s' (fun b o z => R'.same b o (fun y => by cases y) z) R'.frz (fun b o z => R'.ext b o z) i' z
end
end HB

set_option Elab.async false
set_option linter.all false
set_option maxRecDepth 100000
set_option maxHeartbeats 4000000
set_option autoImplicit false
namespace HB
open PySem PySem.Spec L2
section
variable {X : Cx} {C : Cc} {a b c e tg iter : Expr} {ta tb tc t : PEt} {tt tu : PTt} {tas : PAt} {pos p2 : Pos} {es rest : List Expr} {st : Stmt} {sts : List Stmt} {s1 s2 s3 : PSt}
variable {δ δ' : Enm} {ρ ρ' : Rw} {σ σ' : L2.St} {F F' H H' : Hp}

/-! ### values told by data -/
theorem isd_reads {pins : List (Addr × Obj)} {s : Shared} (I : Inv X pins σ H s) {v : V} {u : Value} {d : PyData} (i : C.Is H v d) (r : RelV v u) (p : plainD d = true) : ∃ as, Reads s.heap u d as := Dp.reads I d v u (i.dp (K := X.K) p) r
theorem each_of {vs : List V} {us : List Value} {ds : List PyData} (i : IsdA C.P C.w F vs ds) (r : Vals vs us) : PySem.W.EachIs (fun u d => ∃ v, RelV v u ∧ C.Is F v d) us ds := by
  induction r generalizing ds with
  | nil => cases i; exact .nil
  | cons h t ih =>
    cases i with
    | cons i1 i2 => exact .cons ⟨_, h, i1⟩ (ih i2)
theorem of_each {us : List Value} {ds : List PyData} (h : PySem.W.EachIs (fun u d => ∃ v, RelV v u ∧ C.Is F v d) us ds) : ∃ vs, Vals vs us ∧ IsdA C.P C.w F vs ds := by
  induction h with
  | nil => exact ⟨[], .nil, .nil⟩
  | cons h _ ih =>
    obtain ⟨v, r, i⟩ := h
    obtain ⟨vs, r2, i2⟩ := ih
    exact ⟨v :: vs, .cons r r2, .cons i i2⟩
theorem plainA_mem : ∀ {ds : List PyData} {d : PyData}, plainA ds = true → d ∈ ds → plainD d = true
  | [], _, _, m => by simp at m
  | x :: xs, d, h, m => by
    simp only [plainA, Bool.and_eq_true] at h
    rcases List.mem_cons.mp m with rfl | m
    · exact h.1
    · exact plainA_mem h.2 m

/-! ### sorted -/
theorem sortsAt_one {prog : Program} {w : World} {A : Around} {s : Shared} {vs : List Value} {ds : List PyData} (e : PySem.W.EachIs (fun v d => ∃ as, Reads s.heap v d as) vs ds) (hal : PySem.W.AllAlike ds) (hn : ∀ d ∈ ds, d ≠ .none) (h1 : vs.length < 2) (hu : ∀ d, d ∈ ds → A.units + d.depth < cLine) : PySem.W.SortsAt prog w A s (PySem.W.dataKind s.heap ds) vs := by
  refine ⟨fun v hv => ?_, PyProof.Rows.general', ?_, fun h2 => absurd h2 (by omega)⟩
  · obtain ⟨d, hd, as, r⟩ := e.left v hv
    exact ⟨_, PySem.W.dataKind_some hal hd r⟩
  · intro E x y a b Q ha hb hq
    obtain ⟨d, as, hd, ra, rfl⟩ := PySem.W.dataKind_inv ha
    obtain ⟨d', as', hd', rb, rfl⟩ := PySem.W.dataKind_inv hb
    show wpAny _ _ (PyProof.Rows.oneLt' false x y) Q E s
    exact PySem.W.oneLt_alike (fun z => by cases z) ra rb (hal d hd d' hd') (hn d hd) (Nat.lt_of_le_of_lt (Nat.add_le_add_left (Nat.min_le_left _ _) _) (hu d hd)) hq
def sortD (ds : List PyData) : List PyData := ds.mergeSort (PySem.W.dataLe false id)
/-- what can be sorted here -/
def SortOk (ds : List PyData) : Prop := ds.length ≤ 100000 ∧ plainA ds = true ∧ (∀ d ∈ ds, ∀ d' ∈ ds, PySem.W.alike d d' = true) ∧ (∀ d ∈ ds, d.depth ≤ 64) ∧ (PySem.W.Sortable ds ∨ (ds.length < 2 ∧ ∀ d ∈ ds, d ≠ .none))
def rSortD (C : Cc) : List V → Hp → VK → Prop := fun vs H Q => ∃ (a : Addr) (xs : List V) (ds : List PyData) (F : Hp), vs = [.ref a] ∧ H a = some (.lst xs) ∧ Same F H ∧ IsdA C.P C.w F xs ds ∧ SortOk ds ∧ ∀ p ys, H p = none → IsdA C.P C.w F ys (sortD ds) → Q (.ref p) (upd H p (.lst ys))
theorem cr_sortD (hu : X.A.units + 100 < cLine) : CallR X (.builtin "sorted") (rSortD C) := by
  intro pins s σ H vs us Q I r h
  obtain ⟨a, xs, ds, F, rfl, ha, sF, hi, ⟨o1, o2, o3, o4, o5⟩, q⟩ := h
  obtain ⟨its, rv, hl, _⟩ := I.list (SqL.of ha)
  rw [Vals.ref1 r]
  have e1 := each_of hi rv
  have er : PySem.W.EachIs (fun v b => ∃ as, Reads s.heap v (id b) as) its ds := (PySem.W.each_mem e1).mono fun u d ⟨⟨v, r, i⟩, m⟩ => isd_reads I (i.mono sF) r (plainA_mem o2 m)
  have hal : PySem.W.AllAlike (ds.map id) := by rw [List.map_id]; exact fun d m d' m' => o3 d m d' m'
  have hu2 : ∀ b, b ∈ ds → X.A.units + 2 + (id b : PyData).depth < cLine := fun b hb => by have := o4 b hb; show X.A.units + 2 + b.depth < cLine; omega
  have hL : ds.length ≤ sizeLine := line5 o1
  have fin : ∀ out : List Value, PySem.W.EachIs (fun u d => ∃ v, RelV v u ∧ C.Is F v d) out (sortD ds) → EP X pins σ Q (.ref (s.heap.objs.size + 1)) { s with heap := PyProof.Rows.sortedAll s.heap its out.toArray } := fun out he => by
    obtain ⟨ys, ry, iy⟩ := of_each he
    obtain ⟨ep, he'⟩ := PyProof.Rows.sortedAll_at s.heap its out.toArray
    have hlen : ys.length ≤ sizeLine := by rw [iy.length]; unfold sortD; rw [List.length_mergeSort]; exact hL
    exact ⟨.ref _, upd H (s.heap.objs.size + 1) (.lst ys), I.laid (t' := s.toks) (fun _ _ => PyProof.Rows.sortedAll_old) (Nat.le_succ _) ⟨hlen, out, ep, ry, he'⟩, rfl, q _ ys (I.hok.fresh (Nat.le_succ _)) iy⟩
  rcases o5 with o5 | ⟨o5, o6⟩
  · exact PySem.W.sorted_data (R := fun u d => ∃ v, RelV v u ∧ C.Is F v d) hl.isList e1 er hal (by rw [List.map_id]; exact o5) hL hu2 fun out _ he => fin out he
  · have er' : PySem.W.EachIs (fun v b => ∃ as, Reads (PySem.W.sortingHeap (PySem.W.copyHeap s.heap its) (s.heap.objs.size + 1) its) v (id b) as) its ds := er.mono fun _ _ ⟨as, r⟩ => ⟨as, PyProof.Rows.Reads.keeps (fun _ _ => PySem.W.sorting_copy_old) r⟩
    refine PySem.W.sorted_vals hl.isList (sortsAt_one (s := { s with heap := PySem.W.sortingHeap (PySem.W.copyHeap s.heap its) (s.heap.objs.size + 1) its }) (ds := ds.map id) (PySem.W.each_map (R := fun v d => ∃ as, Reads (PySem.W.sortingHeap (PySem.W.copyHeap s.heap its) (s.heap.objs.size + 1) its) v d as) id er') hal (by rw [List.map_id]; exact o6) (by rw [e1.length]; exact o5) (PySem.W.bound_map hu2)) (by rw [e1.length]; exact hL) ?_
    refine fin _ ?_
    exact PySem.W.sortVals_data false e1 er' hal
def xSort (t : PEt) : PEt := fun δ ρ Q => t δ ρ fun d ρ1 => ∃ ds, d = .list ds ∧ SortOk ds ∧ Q (.list (sortD ds)) ρ1
theorem jsort {p : Pos} (hc : X.calm = true) (hu : X.A.units + 100 < cLine) (hm : X.mg "sorted" = none) (ha : JC X C e t) (hg : Gl X "sorted" := by rfl) (he : starEach [e] X.env = (false, eval e X.env) :: starEach [] X.env := by rfl) : JF X C (.Call (.Name "sorted" p) [e] [] pos) (xSort t) :=
  PE.weak (pe_callB (cr_sortD (C := C) hu) hg hm (by decide +kernel) (pa_cons ha pa_nil he) (by decide) (by decide) he rfl) fun σ H Q h => by
    obtain ⟨δ, ρ, F, Q', R, q, k⟩ := h
    refine ⟨δ, ρ, F, _, R, q, fun v d ρ1 F1 H1 g1 R1 i1 q1 => ?_⟩
    obtain ⟨ds, rfl, so, q1⟩ := q1
    obtain ⟨p, vs, rfl, hp, hv⟩ := i1.lst R1.frz
    exact ⟨p, vs, ds, F1, rfl, hp, R1.frz, hv, so, fun p ys n iy => k p _ _ ρ1 F1 _ (g1.tr (gr_newO n) R1) (R1.newO n) (g1.free R1 n) (R1.freeF n) upd_same (.lst iy) q1⟩

/-! ### list(..), tuple(..), turned round -/
def xThenL (f : PyData → (List PyData → Prop) → Prop) (t : PEt) : PEt := fun δ ρ Q => t δ ρ fun d ρ1 => f d fun ds => Q (.list ds) ρ1
def dseq (d : PyData) (Q : List PyData → Prop) : Prop := ∃ ds, (d = .list ds ∨ d = .tuple ds) ∧ Q ds
theorem jlistOf {p : Pos} (hm : X.mg "list" = none) (ha : JC X C e t) (hg : Gl X "list" := by rfl) (he : starEach [e] X.env = (false, eval e X.env) :: starEach [] X.env := by rfl) : JF X C (.Call (.Name "list" p) [e] [] pos) (xThenL dseq t) :=
  PE.weak (pe_callTy call_list_of hg hm (by decide +kernel) (pa_cons ha pa_nil he) (by decide) (by decide) he rfl) fun σ H Q h => by
    obtain ⟨δ, ρ, F, Q', R, q, k⟩ := h
    refine ⟨δ, ρ, F, _, R, q, fun v d ρ1 F1 H1 g1 R1 i1 q1 => ?_⟩
    obtain ⟨ds, hd, q1⟩ := q1
    rcases hd with rfl | rfl
    · obtain ⟨p, vs, rfl, hp, hv⟩ := i1.lst R1.frz
      exact ⟨p, vs, rfl, .inl (SqL.of hp), fun p n => k p _ _ ρ1 F1 _ (g1.tr (gr_newO n) R1) (R1.newO n) (g1.free R1 n) (R1.freeF n) upd_same (.lst hv) q1⟩
    · obtain ⟨p, vs, rfl, hp, hv⟩ := i1.tup R1.frz
      exact ⟨p, vs, rfl, .inr (SqT.of hp), fun p n => k p _ _ ρ1 F1 _ (g1.tr (gr_newO n) R1) (R1.newO n) (g1.free R1 n) (R1.freeF n) upd_same (.lst hv) q1⟩
def xTupOf (t : PEt) : PEt := fun δ ρ Q => t δ ρ fun d ρ1 => ∃ ds, d = .list ds ∧ Q (.tuple ds) ρ1
theorem jtupOf {p : Pos} (hm : X.mg "tuple" = none) (ha : JC X C e t) (hg : Gl X "tuple" := by rfl) (he : starEach [e] X.env = (false, eval e X.env) :: starEach [] X.env := by rfl) : JE X C (.Call (.Name "tuple" p) [e] [] pos) (xTupOf t) :=
  PE.weak (pe_callTy call_tuple_of hg hm (by decide +kernel) (pa_cons ha pa_nil he) (by decide) (by decide) he rfl) fun σ H Q h => by
    obtain ⟨δ, ρ, F, Q', R, q, k⟩ := h
    refine ⟨δ, ρ, F, _, R, q, fun v d ρ1 F1 H1 g1 R1 i1 q1 => ?_⟩
    obtain ⟨ds, rfl, q1⟩ := q1
    obtain ⟨p, vs, rfl, hp, hv⟩ := i1.lst R1.frz
    exact ⟨p, vs, rfl, .inl ⟨SqL.of hp, fun p n => k _ _ ρ1 _ _ (g1.tr (gr_new n R1.frz) R1) (R1.new n) (.ref upd_same (.tup (hv.mono (gr_new (C := C) n R1.frz).f))) q1⟩⟩
theorem isdA_rng (i j : Int) : IsdA C.P C.w F (rgV i j) (rngD i (j - i).toNat) := by
  unfold rgV rngD
  generalize (j - i).toNat = n
  induction n with
  | zero => exact .nil
  | succ n ih => rw [List.range_succ, List.map_append, List.map_append]; exact ih.append (.cons (.int _) .nil)
def xRngL (ta tb : PEt) : PEt := fun δ ρ Q => ta δ ρ fun x ρ1 => tb δ ρ1 fun y ρ2 => ∃ i j : Int, x = .int i ∧ y = .int j ∧ (-1000000 ≤ i ∧ i ≤ 1000000 ∧ -1000000 ≤ j ∧ j ≤ 1000000) ∧ Q (.list (rngD i (j - i).toNat)) ρ2
theorem jlistR2 {p pr : Pos} (hm : X.mg "list" = none) (hr : X.mg "range" = none) (ha : JC X C a ta) (hb : JC X C b tb) (hc : X.calm = true := by rfl) (hg : Gl X "list" := by rfl) (hgr : Gl X "range" := by rfl) (na : starEach [a, b] X.env = (false, eval a X.env) :: starEach [b] X.env := by rfl)
    (na2 : starEach [b] X.env = (false, eval b X.env) :: starEach [] X.env := by rfl) (ne : starEach [.Call (.Name "range" pr) [a, b] [] p2] X.env = (false, eval (.Call (.Name "range" pr) [a, b] [] p2) X.env) :: starEach [] X.env := by rfl) (hp : (backTo p2 (starEach [b] X.env)).any (·.1) = false := by rfl) :
    JF X C (.Call (.Name "list" p) [.Call (.Name "range" pr) [a, b] [] p2] [] pos) (xRngL ta tb) :=
  PE.weak (pe_listRg hc hg hm (prg_2 hgr hr ha hb na na2 hp) ne) fun σ H Q h => by
    obtain ⟨δ, ρ, F, Q', R, q, k⟩ := h
    refine ⟨δ, ρ, F, _, R, q, fun v x ρ1 F1 H1 g1 R1 i1 q1 => ⟨δ, ρ1, F1, _, R1, q1, fun u y ρ2 F2 H2 g2 R2 i2 q2 => ?_⟩⟩
    obtain ⟨i, j, rfl, rfl, z, q2⟩ := q2
    have g := g1.tr g2 R1
    exact ⟨i, j, (i1.grow g2).int, i2.int, ⟨by omega, by omega, by omega, by omega, by omega⟩, fun p n => k p _ _ ρ2 F2 _ (g.tr (gr_newO n) R2) (R2.newO n) (g.free R2 n) (R2.freeF n) upd_same (.lst (isdA_rng i j)) q2⟩

/-! ### isinstance, max(a, b) and other small ones -/
end
end HB

set_option Elab.async false
set_option linter.all false
set_option maxRecDepth 100000
set_option maxHeartbeats 4000000
set_option autoImplicit false
namespace HB
open PySem PySem.Spec L2

/-! ### keys -/
mutual
def toKey : PyData → NestedKey
  | .int i => .num i
  | .str x => .text x
  | .tuple ds => .tup (toKeys ds)
  | _ => .none
def toKeys : List PyData → List NestedKey
  | [] => []
  | d :: ds => toKey d :: toKeys ds
end
mutual
def isKey : PyData → Bool
  | .none => true
  | .int _ => true
  | .str _ => true
  | .tuple ds => isKeys ds
  | _ => false
def isKeys : List PyData → Bool
  | [] => true
  | d :: ds => isKey d && isKeys ds
end
mutual
theorem toKey_data : ∀ d : PyData, isKey d = true → (toKey d).data = d ∧ (toKey d).depth = d.depth
  | .none, _ => ⟨rfl, rfl⟩
  | .int _, _ => ⟨rfl, rfl⟩
  | .str _, _ => ⟨rfl, rfl⟩
  | .tuple ds, h => by
    obtain ⟨h1, h2⟩ := toKeys_data ds (by simpa [isKey] using h)
    exact ⟨by simp only [toKey, NestedKey.data]; rw [h1], by simp only [toKey, NestedKey.depth, PyData.depth]; rw [h2]⟩
  | .bool _, h => by simp [isKey] at h
  | .list _, h => by simp [isKey] at h
  | .dict _, h => by simp [isKey] at h
theorem toKeys_data : ∀ ds : List PyData, isKeys ds = true → NestedKey.datas (toKeys ds) = ds ∧ NestedKey.depthAll (toKeys ds) = PyData.depthAll ds
  | [], _ => ⟨rfl, by simp [toKeys, NestedKey.depthAll, PyData.depthAll]⟩
  | d :: ds, h => by
    simp only [isKeys, Bool.and_eq_true] at h
    obtain ⟨h1, h2⟩ := toKey_data d h.1
    obtain ⟨h3, h4⟩ := toKeys_data ds h.2
    exact ⟨by simp only [toKeys, NestedKey.datas]; rw [h1, h3], by simp only [toKeys, NestedKey.depthAll, PyData.depthAll]; rw [h2, h4]⟩
end
mutual
theorem eqv_key : ∀ a b : NestedKey, PyData.eqv a.data b.data = NestedKey.beq a b
  | .none, .none => rfl
  | .num a, .num b => by simp only [NestedKey.data, PyData.eqv, NestedKey.beq]; exact Bool.beq_eq_decide_eq a b
  | .text a, .text b => by simp only [NestedKey.data, PyData.eqv, NestedKey.beq]; exact Bool.beq_eq_decide_eq a b
  | .tup a, .tup b => by simp only [NestedKey.data, PyData.eqv, NestedKey.beq]; exact eqvAll_key a b
  | .none, .num _ => rfl
  | .none, .text _ => rfl
  | .none, .tup _ => rfl
  | .num _, .none => rfl
  | .num _, .text _ => rfl
  | .num _, .tup _ => rfl
  | .text _, .none => rfl
  | .text _, .num _ => rfl
  | .text _, .tup _ => rfl
  | .tup _, .none => rfl
  | .tup _, .num _ => rfl
  | .tup _, .text _ => rfl
theorem eqvAll_key : ∀ a b : List NestedKey, PyData.eqvAll (NestedKey.datas a) (NestedKey.datas b) = NestedKey.beqAll a b
  | [], [] => rfl
  | x :: xs, y :: ys => by simp only [NestedKey.datas, PyData.eqvAll, NestedKey.beqAll]; rw [eqv_key x y, eqvAll_key xs ys]
  | [], _ :: _ => rfl
  | _ :: _, [] => rfl
end
theorem eqv_dec (a b : NestedKey) : PyData.eqv a.data b.data = decide (a = b) := by rw [eqv_key, NestedKey.decide_eq]
/-- the key of a dict: a tuple of ints, texts, None and such tuples -/
def kOk (d : PyData) : Prop := (match d with | .tuple _ => true | _ => false) = true ∧ isKey d = true ∧ d.depth ≤ 8
theorem kOk.key {d : PyData} (h : kOk d) : ∃ k : NestedKey, d = k.data ∧ k.depth ≤ 8 := by
  obtain ⟨_, h2, h3⟩ := h
  obtain ⟨e1, e2⟩ := toKey_data d h2
  exact ⟨toKey d, e1.symm, by rw [e2]; exact h3⟩
def dlk (kvs : List (PyData × PyData)) (y : PyData) : Option PyData := (kvs.find? fun p => PyData.eqv p.1 y).map (·.2)
def dput (kvs : List (PyData × PyData)) (y v : PyData) : List (PyData × PyData) := if kvs.any (fun p => PyData.eqv p.1 y) then kvs.map (fun p => if PyData.eqv p.1 y then (p.1, v) else p) else kvs ++ [(y, v)]

section
variable {X : Cx} {C : Cc} {a b c e tg iter : Expr} {ta tb tc t : PEt} {tt tu : PTt} {tas : PAt} {pos p2 : Pos} {es rest : List Expr} {st : Stmt} {sts : List Stmt} {s1 s2 s3 : PSt}
variable {δ δ' : Enm} {ρ ρ' : Rw} {σ σ' : L2.St} {F F' H H' : Hp}
mutual
theorem nis {P : Program} {w : World} {H : Hp} {h : Heap} (ok : HOk P w H h) : ∀ (k : NestedKey) (v : V) (u : Value), Isd P w H v k.data → RelV v u → NestedIs h k u
  | .none, v, u, i, r => by
    cases i with
    | non => cases r; exact .none
    | ref _ z => cases z
  | .num n, v, u, i, r => by
    cases i with
    | int => obtain ⟨t, rfl⟩ := r; exact .int _ _
    | ref _ z => cases z
  | .text x, v, u, i, r => by
    cases i with
    | str => obtain ⟨t, rfl⟩ := r; exact .text _ _
    | ref _ z => cases z
  | .tup ks, v, u, i, r => by
    have i' : Isd P w H v (.tuple (NestedKey.datas ks)) := i
    cases i' with
    | ref ha hv =>
      cases hv with
      | tup hv =>
        cases r
        obtain ⟨z, its, rv, o, h1, h2, n, h3⟩ := (ok _ _ ha : ObjOk P w H h _ (.tup _))
        exact .tup h1 h2 h3 (by simpa using niss ok ks _ its hv rv)
theorem niss {P : Program} {w : World} {H : Hp} {h : Heap} (ok : HOk P w H h) : ∀ (ks : List NestedKey) (vs : List V) (us : List Value), IsdA P w H vs (NestedKey.datas ks) → Vals vs us → NestedAll h ks us
  | [], vs, us, i, r => by
    have i' : IsdA P w H vs [] := i
    cases i'
    cases r
    exact .nil
  | k :: ks, vs, us, i, r => by
    have i' : IsdA P w H vs (k.data :: NestedKey.datas ks) := i
    cases i' with
    | cons i1 i2 =>
      cases r with
      | cons r1 r2 => exact .cons (nis ok k _ _ i1 r1) (niss ok ks _ _ i2 r2)
end
theorem ent_at : ∀ {xs : List (NestedKey × Addr × Value)} {kvs : List (PyData × PyData)}, Ent C.P C.w F xs kvs → ∀ x ∈ xs, C.Is F (.ref x.2.1) x.1.data ∧ x.1.depth ≤ 8
  | _, _, .nil, x, m => by simp at m
  | _, _, .cons h1 h2 h3 h4 h5, x, m => by
    rcases List.mem_cons.mp m with rfl | m
    · exact ⟨h1, h2⟩
    · exact ent_at h5 x m
theorem ent_len : ∀ {xs : List (NestedKey × Addr × Value)} {kvs : List (PyData × PyData)}, Ent C.P C.w F xs kvs → xs.length = kvs.length
  | _, _, .nil => rfl
  | _, _, .cons _ _ _ _ h5 => by rw [List.length_cons, List.length_cons, ent_len h5]
theorem ent_dlk : ∀ {xs : List (NestedKey × Addr × Value)} {kvs : List (PyData × PyData)} (k : NestedKey), Ent C.P C.w F xs kvs → (∀ d, dlk kvs k.data = some d → ∃ u v, valueAt (pairsH xs) k = some u ∧ RelV v u ∧ C.Is F v d) ∧ (dlk kvs k.data = none → valueAt (pairsH xs) k = none) ∧ (kvs.any fun p => PyData.eqv p.1 k.data) = (valueAt (pairsH xs) k).isSome
  | _, _, k, .nil => ⟨fun d h => (by cases h), fun _ => rfl, rfl⟩
  | _, _, k, .cons (k := k') (a := a') (u := u') (vd := vd') (xs := xs') (kvs := kvs') h1 h2 h3 h4 h5 => by
    obtain ⟨i1, i2, i3⟩ := ent_dlk k h5
    have ev : valueAt (pairsH ((k', a', u') :: xs')) k = if k' = k then some u' else valueAt (pairsH xs') k := valueAt_cons (k', u') (pairsH xs') k
    rw [ev]
    by_cases e : k' = k
    · have q : PyData.eqv k'.data k.data = true := by rw [eqv_dec]; exact decide_eq_true e
      rw [if_pos e]
      refine ⟨fun d h => ?_, fun h => ?_, ?_⟩
      · unfold dlk at h; rw [List.find?_cons, q] at h
        cases h
        exact ⟨_, _, rfl, h3, h4⟩
      · unfold dlk at h; rw [List.find?_cons, q] at h; cases h
      · rw [List.any_cons, q]; rfl
    · have q : PyData.eqv k'.data k.data = false := by rw [eqv_dec]; exact decide_eq_false e
      rw [if_neg e]
      refine ⟨fun d h => ?_, fun h => ?_, ?_⟩
      · unfold dlk at h; rw [List.find?_cons, q] at h; exact i1 d h
      · unfold dlk at h; rw [List.find?_cons, q] at h; exact i2 h
      · rw [List.any_cons, q, Bool.false_or]; exact i3
theorem ent_snoc {k : NestedKey} {a : Addr} {v : V} {u : Value} {vd : PyData} (h1 : C.Is F (.ref a) k.data) (h2 : k.depth ≤ 8) (h3 : RelV v u) (h4 : C.Is F v vd) : ∀ {xs : List (NestedKey × Addr × Value)} {kvs : List (PyData × PyData)}, Ent C.P C.w F xs kvs → Ent C.P C.w F (xs ++ [(k, a, u)]) (kvs ++ [(k.data, vd)])
  | _, _, .nil => .cons h1 h2 h3 h4 .nil
  | _, _, .cons g1 g2 g3 g4 g5 => .cons g1 g2 g3 g4 (ent_snoc h1 h2 h3 h4 g5)
theorem ent_put {k : NestedKey} {v : V} {u : Value} {vd : PyData} (h3 : RelV v u) (h4 : C.Is F v vd) : ∀ {xs : List (NestedKey × Addr × Value)} {kvs : List (PyData × PyData)}, Ent C.P C.w F xs kvs → Ent C.P C.w F (xs.map (putAt k u)) (kvs.map fun p => if PyData.eqv p.1 k.data then (p.1, vd) else p)
  | _, _, .nil => .nil
  | _, _, .cons (k := k') g1 g2 g3 g4 g5 => by
    rw [List.map_cons, List.map_cons]
    by_cases e : k' = k
    · have q : PyData.eqv k'.data k.data = true := by rw [eqv_dec]; exact decide_eq_true e
      rw [if_pos q, show putAt k u (k', _, _) = (k', _, u) from if_pos e]
      exact .cons g1 g2 h3 h4 (ent_put h3 h4 g5)
    · have q : PyData.eqv k'.data k.data = false := by rw [eqv_dec]; exact decide_eq_false e
      rw [if_neg (by rw [q]; exact Bool.false_ne_true), show putAt k u (k', _, _) = (k', _, _) from if_neg e]
      exact .cons g1 g2 g3 g4 (ent_put h3 h4 g5)
/-- a dict that stands in the heap -/
structure DcAt (C : Cc) (F : Hp) (a : Addr) (es : Array DictEntry) (xs : List (NestedKey × Addr × Value)) (kvs : List (PyData × PyData)) : Prop where
  ns : (a == sysModules) = false
  ents : es.toList = xs.map (entryOfKey (nestedKind C.P C.w))
  nd : (xs.map (·.1)).Nodup
  sz : es.size ≤ sizeLine
  en : Ent C.P C.w F xs kvs
theorem CIs.dct {v : V} {kvs : List (PyData × PyData)} (s : Same F H) (h : CIs C F H v (dc kvs)) : ∃ a es ep xs, v = .ref a ∧ H a = some (dctO a es ep) ∧ DcAt C F a es xs kvs := by
  rcases h with h | ⟨a, o, rfl, _, e, h⟩
  · cases h with
    | ref e h => cases h with
      | dct h1 h2 h3 h4 h5 => exact ⟨_, _, _, _, rfl, s _ _ e, ⟨h1, h2, h3, h4, h5⟩⟩
  · cases h with
    | dct h1 h2 h3 h4 h5 => exact ⟨_, _, _, _, rfl, e, ⟨h1, h2, h3, h4, h5⟩⟩
theorem DcAt.keyed {pins : List (Addr × Obj)} {s : Shared} (I : Inv X pins σ H s) (hP : C.P = X.prog ∧ C.w = X.w) (sm : Same F H) {p : Addr} {en : Array DictEntry} {ep : Nat} {xs : List (NestedKey × Addr × Value)} {kvs : List (PyData × PyData)} (ha : H p = some (dctO p en ep)) (D : DcAt C F p en xs kvs) : s.heap.DictKeyed (nestedKind X.prog X.w) p (pairsH xs) := by
  obtain ⟨⟨o, ho, hx, hd⟩, _, _⟩ := (I.hok p _ ha : ObjOk X.prog X.w H s.heap p (dctO p en ep))
  refine ⟨xs, ⟨o, en, ep, ho, hx, hd, ?_, fun x hx => ?_, D.nd⟩, rfl⟩
  · rw [D.ents, hP.1, hP.2]
  · obtain ⟨h1, h2⟩ := ent_at D.en x hx
    refine ⟨?_, h2⟩
    have h1' : Isd C.P C.w H (.ref x.2.1) x.1.data := h1.mono sm
    rw [hP.1, hP.2] at h1'
    exact nis I.hok _ _ _ h1' rfl
theorem key_is {pins : List (Addr × Obj)} {s : Shared} (I : Inv X pins σ H s) (hP : C.P = X.prog ∧ C.w = X.w) {q : Addr} {k : NestedKey} (i : C.Is H (.ref q) k.data) (hk : k.depth ≤ 8) : (nestedKind X.prog X.w).is s.heap k q := by
  refine ⟨?_, hk⟩
  have i' : Isd C.P C.w H (.ref q) k.data := i
  rw [hP.1, hP.2] at i'
  exact nis I.hok _ _ _ i' rfl
theorem kOk.ref {v : V} {d : PyData} (h : kOk d) (i : C.Is F v d) : ∃ q, v = .ref q := by
  obtain ⟨h1, _, _⟩ := h
  cases i with
  | ref => exact ⟨_, rfl⟩
  | _ => cases h1

/-! ### k in d, d[k], d.get(k, x) -/
def xInD (neg : Bool) (ta tb : PEt) : PEt := fun δ ρ Q => ta δ ρ fun x ρ1 => tb δ ρ1 fun y ρ2 => ∃ kvs, y = dc kvs ∧ kOk x ∧ Q (.bool (if neg then !(kvs.any fun p => PyData.eqv p.1 x) else kvs.any fun p => PyData.eqv p.1 x)) ρ2
def rInDc (C : Cc) (neg : Bool) : R2 := fun x y H Q => ∃ (F : Hp) (q p : Addr) (d : PyData) (en : Array DictEntry) (ep : Nat) (xs : List (NestedKey × Addr × Value)) (kvs : List (PyData × PyData)), x = .ref q ∧ y = .ref p ∧ Same F H ∧ C.Is H (.ref q) d ∧ kOk d ∧ H p = some (dctO p en ep) ∧ DcAt C F p en xs kvs ∧
  Q (.bl (if neg then !(kvs.any fun p => PyData.eqv p.1 d) else kvs.any fun p => PyData.eqv p.1 d)) H
theorem op_inDc (hP : C.P = X.prog ∧ C.w = X.w) (hu : X.A.units + 100 < cLine) : OpR X (compareOp .In) (rInDc C false) := by
  intro pins s σ H x y v u Q I rx ry h
  obtain ⟨F, q, p, d, en, ep, xs, kvs, rfl, rfl, sm, id', hk, hp, D, qq⟩ := h
  cases rx; cases ry
  obtain ⟨k, rfl, hd⟩ := hk.key
  refine in_keyed (knd := nestedKind X.prog X.w) (by show X.A.units + 1 + 8 < cLine; omega) (key_is I hP id' hd) D.ns (D.keyed I hP sm hp) ?_
  refine ⟨.bl _, H, I.tok _, rfl, ?_⟩
  rw [← (ent_dlk k D.en).2.2]; exact qq
theorem op_notInDc (hP : C.P = X.prog ∧ C.w = X.w) (hu : X.A.units + 100 < cLine) : OpR X (compareOp .NotIn) (rInDc C true) := by
  intro pins s σ H x y v u Q I rx ry h
  obtain ⟨F, q, p, d, en, ep, xs, kvs, rfl, rfl, sm, id', hk, hp, D, qq⟩ := h
  cases rx; cases ry
  obtain ⟨k, rfl, hd⟩ := hk.key
  refine notIn_keyed (knd := nestedKind X.prog X.w) (by show X.A.units + 1 + 8 < cLine; omega) (key_is I hP id' hd) D.ns (D.keyed I hP sm hp) ?_
  refine ⟨.bl _, H, I.tok _, rfl, ?_⟩
  rw [← (ent_dlk k D.en).2.2]; exact qq
theorem inD_snd {neg : Bool} {Q : VK} (h : LE C (xInD neg ta tb) σ H Q) : tOp (rInDc C neg) (LE C ta) (LC C tb) σ H Q := by
  obtain ⟨δ, ρ, F, Q', R, q, k⟩ := h
  refine ⟨δ, ρ, F, _, R, q, fun v x ρ1 F1 H1 g1 R1 i1 q1 => ⟨δ, ρ1, F1, _, R1, q1, fun u y ρ2 F2 H2 g2 R2 i2 q2 => ?_⟩⟩
  obtain ⟨kvs, rfl, hk, q2⟩ := q2
  obtain ⟨q', rfl⟩ := hk.ref i1
  obtain ⟨p, en, ep, xs, rfl, hp, D⟩ := i2.dct R2.frz
  exact ⟨F2, q', p, x, en, ep, xs, kvs, rfl, rfl, R2.frz, (i1.mono g2.f).mono R2.frz, hk, hp, D, k _ _ ρ2 F2 H2 (g1.tr g2 R1) R2 (.bl _) q2⟩
theorem jinD (hP : C.P = X.prog ∧ C.w = X.w) (hu : X.A.units + 100 < cLine) (ha : JE X C a ta) (hb : JC X C b tb) (hm : behindInMarks .In b = false := by rfl) : JE X C (.Compare a [.In] [b] pos) (xInD false ta tb) := PE.weak (pe_cmpR (op_inDc hP hu) ha hb hm) fun σ H Q h => inD_snd h
theorem jninD (hP : C.P = X.prog ∧ C.w = X.w) (hu : X.A.units + 100 < cLine) (ha : JE X C a ta) (hb : JC X C b tb) (hm : behindInMarks .NotIn b = false := by rfl) : JE X C (.Compare a [.NotIn] [b] pos) (xInD true ta tb) := PE.weak (pe_cmpR (op_notInDc hP hu) ha hb hm) fun σ H Q h => inD_snd h
theorem jinDT (hP : C.P = X.prog ∧ C.w = X.w) (hu : X.A.units + 100 < cLine) (ha : JE X C a ta) (hb : JC X C b tb) (hm : behindInMarks .In b = false := by rfl) : JT X C (.Compare a [.In] [b] pos) (xB (xInD false ta tb)) := PT.weak (pt_cmpR (op_inDc hP hu) ha hb hm) fun σ H Q h => inD_snd (tst_e h)
theorem jninDT (hP : C.P = X.prog ∧ C.w = X.w) (hu : X.A.units + 100 < cLine) (ha : JE X C a ta) (hb : JC X C b tb) (hm : behindInMarks .NotIn b = false := by rfl) : JT X C (.Compare a [.NotIn] [b] pos) (xB (xInD true ta tb)) := PT.weak (pt_cmpR (op_notInDc hP hu) ha hb hm) fun σ H Q h => inD_snd (tst_e h)
/-- d[k] -/
def xGetD (ta tb : PEt) : PEt := fun δ ρ Q => ta δ ρ fun x ρ1 => tb δ ρ1 fun y ρ2 => ∃ kvs r, x = dc kvs ∧ kOk y ∧ dlk kvs y = some r ∧ Q r ρ2
def rGetDc (C : Cc) : R2 := fun x y H Q => ∃ (F : Hp) (q p : Addr) (d r : PyData) (en : Array DictEntry) (ep : Nat) (xs : List (NestedKey × Addr × Value)) (kvs : List (PyData × PyData)), x = .ref p ∧ y = .ref q ∧ Same F H ∧ C.Is H (.ref q) d ∧ kOk d ∧ H p = some (dctO p en ep) ∧ DcAt C F p en xs kvs ∧
  dlk kvs d = some r ∧ ∀ v, C.Is F v r → Q v H
theorem ix_dct (hP : C.P = X.prog ∧ C.w = X.w) (hu : X.A.units + 100 < cLine) : IxR X (rGetDc C) := by
  intro value slice pins s σ H x y v u Q I rx ry h hs
  obtain ⟨F, q, p, d, r, en, ep, xs, kvs, rfl, rfl, sm, id', hk, hp, D, hr, qq⟩ := h
  cases rx; cases ry
  obtain ⟨k, rfl, hd⟩ := hk.key
  obtain ⟨u, v, h1, h2, h3⟩ := (ent_dlk k D.en).1 r hr
  have K := D.keyed I hP sm hp
  exact PyProof.Rows.tail_any K.typeIs PySem.F.slot_dict_getitem.lookup (getItem_keyed (knd := nestedKind X.prog X.w) (by show X.A.units + 1 + 8 < cLine; omega) (key_is I hP id' hd) K h1 ⟨v, H, I.tok _, h2, qq v h3⟩) hs
theorem jdix (hP : C.P = X.prog ∧ C.w = X.w) (hu : X.A.units + 100 < cLine) (ha : JC X C a ta) (hb : JE X C b tb) (hs : PlainIx b := by exact fun _ _ => rfl) : JE X C (.Subscript a b pos) (xGetD ta tb) := PE.weak (pe_ix (ix_dct hP hu) ha hb hs) fun σ H Q h => by
  obtain ⟨δ, ρ, F, Q', R, q, k⟩ := h
  refine ⟨δ, ρ, F, _, R, q, fun v x ρ1 F1 H1 g1 R1 i1 q1 => ⟨δ, ρ1, F1, _, R1, q1, fun u y ρ2 F2 H2 g2 R2 i2 q2 => ?_⟩⟩
  obtain ⟨kvs, r, rfl, hk, hr, q2⟩ := q2
  obtain ⟨q', rfl⟩ := hk.ref i2
  obtain ⟨p, en, ep, xs, rfl, hp, D⟩ := (i1.grow g2).dct R2.frz
  exact ⟨F2, q', p, y, r, en, ep, xs, kvs, rfl, rfl, R2.frz, i2.mono R2.frz, hk, hp, D, hr, fun v iv => k v r ρ2 F2 H2 (g1.tr g2 R1) R2 iv q2⟩
end
end HB

set_option Elab.async false
set_option linter.all false
set_option maxRecDepth 100000
set_option maxHeartbeats 4000000
set_option autoImplicit false
namespace HB
open PySem PySem.Spec L2
section
variable {X : Cx} {C : Cc} {a b c e tg iter : Expr} {ta tb tc t : PEt} {tt tu : PTt} {tas : PAt} {pos p2 : Pos} {es rest : List Expr} {st : Stmt} {sts : List Stmt} {s1 s2 s3 : PSt}
variable {δ δ' : Enm} {ρ ρ' : Rw} {σ σ' : L2.St} {F F' H H' : Hp}

theorem ent_stored {k : NestedKey} {q : Addr} {v : V} {u : Value} {vd : PyData} {xs : List (NestedKey × Addr × Value)} {kvs : List (PyData × PyData)} (h1 : C.Is F (.ref q) k.data) (h2 : k.depth ≤ 8) (h3 : RelV v u) (h4 : C.Is F v vd) (h : Ent C.P C.w F xs kvs) : Ent C.P C.w F (storedH xs k q u) (dput kvs k.data vd) := by
  have e := (ent_dlk k h).2.2
  rw [valueAt_pairsH, Option.isSome_map] at e
  unfold storedH dput
  rw [e]
  split
  · exact ent_put h3 h4 h
  · exact ent_snoc h1 h2 h3 h4 h
theorem dput_len (kvs : List (PyData × PyData)) (y v : PyData) : (dput kvs y v).length ≤ kvs.length + 1 := by
  unfold dput; split
  · rw [List.length_map]; omega
  · rw [List.length_append]; simp
theorem DcAt.ofH {pins : List (Addr × Obj)} {s : Shared} (I : Inv X pins σ H s) (hP : C.P = X.prog ∧ C.w = X.w) (sm : Same F H) {p : Addr} {en : Array DictEntry} {ep : Nat} {xs : List (NestedKey × Addr × Value)} {kvs : List (PyData × PyData)} (ha : H p = some (dctO p en ep)) (D : DcAt C F p en xs kvs) : s.heap.DictOfH (nestedKind X.prog X.w) p xs := by
  obtain ⟨⟨o, ho, hx, hd⟩, _, _⟩ := (I.hok p _ ha : ObjOk X.prog X.w H s.heap p (dctO p en ep))
  refine ⟨o, en, ep, ho, hx, hd, ?_, fun x hx => ?_, D.nd⟩
  · rw [D.ents, hP.1, hP.2]
  · obtain ⟨h1, h2⟩ := ent_at D.en x hx
    refine ⟨?_, h2⟩
    have h1' : Isd C.P C.w H (.ref x.2.1) x.1.data := h1.mono sm
    rw [hP.1, hP.2] at h1'
    exact nis I.hok _ _ _ h1' rfl
theorem DcAt.raw {pins : List (Addr × Obj)} {s : Shared} (I : Inv X pins σ H s) {p : Addr} {en : Array DictEntry} {ep : Nat} (ha : H p = some (dctO p en ep)) : s.heap.DictRaw p en ep :=
  ((I.hok p _ ha : ObjOk X.prog X.w H s.heap p (dctO p en ep))).1
theorem dctO_ok {P : Program} {w : World} {H : Hp} {h : Heap} {p : Addr} {en : Array DictEntry} {ep : Nat} (r : h.DictRaw p en ep) : ObjOk P w H h p (dctO p en ep) :=
  ⟨r, (let ⟨o, e, _⟩ := r; ⟨o, e⟩), fun h1 h2 ⟨o, e, x⟩ k => ⟨o, k o e, x⟩⟩
theorem ofH_dc {h : Heap} {p : Addr} {xs : List (NestedKey × Addr × Value)} {kvs : List (PyData × PyData)} (hP : C.P = X.prog ∧ C.w = X.w) (d : h.DictOfH (nestedKind X.prog X.w) p xs) (hn : (p == sysModules) = false) (he : Ent C.P C.w F xs kvs) (hl : kvs.length ≤ 100001) : ∃ en ep, h.DictRaw p en ep ∧ DcAt C F p en xs kvs := by
  obtain ⟨o, en, ep, h1, h2, h3, h4, h5, h6⟩ := d
  refine ⟨en, ep, ⟨o, h1, h2, h3⟩, hn, ?_, h6, ?_, he⟩
  · rw [h4, hP.1, hP.2]
  · have : en.size = xs.length := by rw [← Array.length_toList, h4, List.length_map]
    rw [this, ent_len he, sizeLine_eq]; omega

/-! ### d[k] = v -/
def rSetDc (C : Cc) : TSet := fun o i v H Q => ∃ (F : Hp) (q p : Addr) (d vd : PyData) (en : Array DictEntry) (ep : Nat) (xs : List (NestedKey × Addr × Value)) (kvs : List (PyData × PyData)), o = .ref p ∧ i = .ref q ∧ Same F H ∧ C.Is F (.ref q) d ∧ kOk d ∧ H p = some (dctO p en ep) ∧ DcAt C F p en xs kvs ∧ C.Is F v vd ∧ kvs.length < 100000 ∧
  ∀ en' ep' xs', DcAt C F p en' xs' (dput kvs d vd) → Q (upd H p (dctO p en' ep'))
theorem set_dct (hP : C.P = X.prog ∧ C.w = X.w) (hu : X.A.units + 100 < cLine) : PSet X (rSetDc C) := by
  intro pins s σ H o i v ov iv u Q I ro ri rv h
  obtain ⟨F, q, p, d, vd, en, ep, xs, kvs, rfl, rfl, sm, hi, hk, hp, D, hv, hl, qq⟩ := h
  cases ro; cases ri
  obtain ⟨k, rfl, hd⟩ := hk.key
  have hx : xs.length ≤ sizeLine := by rw [ent_len D.en, sizeLine_eq]; omega
  refine wpAny_setItem_heap (hsz := hx) (knd := nestedKind X.prog X.w) (by show X.A.units + 1 + 8 < cLine; omega) (key_is I hP (hi.mono sm) hd) (D.ofH I hP sm hp) fun h' hm' hs => ?_
  obtain ⟨en', ep', hr, D'⟩ := ofH_dc (C := C) (F := F) hP hm' D.ns (ent_stored hi hd rv hv D.en) (by have := dput_len kvs k.data vd; omega)
  exact ⟨_, d_write I (by rw [hp]; exact True.intro) hs (let ⟨o, e, _⟩ := hr; ⟨o, e⟩) (dctO_ok hr), qq en' ep' _ D'⟩
def gSbD (i : Nat) (tk : PEt) : PGt := fun d δ ρ Q => ∃ kvs, δ[i]? = some (.ow (dc kvs)) ∧ tk δ ρ fun y ρ1 => kOk y ∧ kvs.length < 100000 ∧ Q (δ.set i (.ow (dc (dput kvs y d)))) ρ1
theorem jgsubD (hP : C.P = X.prog ∧ C.w = X.w) (hu : X.A.units + 100 < cLine) (i : Nat) {x : Str} {px : Pos} (ho : PE X (.Name x px) (tVar i)) (hk : JE X C e t) (ha : ∀ v, assign (.Subscript (.Name x px) e pos) X.env v = (do
      let ov ← holding [v] (eval (.Name x px) X.env)
      let iv ← holding [v, ov] (eval e X.env)
      standAt pos
      holding [v, ov, iv] (setItem ov iv v)
      release [v, ov, iv] []) := by intro _; rfl) : JG X C false [] (.Subscript (.Name x px) e pos) (gSbD i t) := PG.weak (pg_sub ho hk (set_dct hP hu) ha) fun v σ H Q h => by
  obtain ⟨δ, ρ, F, d, Q', R, hd, ⟨kvs, e0, q⟩, k⟩ := h
  obtain ⟨p, o, e1, hf, h0, ho, hh⟩ := R.slot i _ e0
  have nr : C.r ≠ some p := fun z => (R.row p z).1 h0
  refine ⟨.ref p, e1, δ, ρ, F, _, R, q, fun v1 y ρ1 F1 H1 g1 R1 i1 q1 => ?_⟩
  obtain ⟨hy, hl, q1⟩ := q1
  obtain ⟨q', rfl⟩ := hy.ref i1
  cases hh with
  | dct h1 h2 h3 h4 h5 =>
    exact ⟨F1, q', p, y, d, _, _, _, kvs, rfl, rfl, R1.frz, i1, hy, g1.h _ _ nr ho, ⟨h1, h2, h3, h4, h5.mono g1.f⟩, hd.mono g1.f, hl, fun en' ep' xs' D' => k _ ρ1 σ F1 _ g1.f (fun z => by cases z) (R1.chg e0 e1 (.dct D'.ns D'.ents D'.nd D'.sz D'.en)) (But.refl _ _) q1⟩
/-- x[i] = v, a list -/
def gSb (i : Nat) (tk : PEt) : PGt := fun d δ ρ Q => ∃ ds, δ[i]? = some (.ow (.list ds)) ∧ tk δ ρ fun y ρ1 => ∃ k j, y = .int k ∧ ixN ds.length k = some j ∧ Q (δ.set i (.ow (.list (ds.set j d)))) ρ1
theorem jgsub (i : Nat) {x : Str} {px : Pos} (ho : PE X (.Name x px) (tVar i)) (hk : JC X C e t) (ha : ∀ v, assign (.Subscript (.Name x px) e pos) X.env v = (do
      let ov ← holding [v] (eval (.Name x px) X.env)
      let iv ← holding [v, ov] (eval e X.env)
      standAt pos
      holding [v, ov, iv] (setItem ov iv v)
      release [v, ov, iv] []) := by intro _; rfl) : JG X C false [] (.Subscript (.Name x px) e pos) (gSb i t) := PG.weak (pg_sub ho hk set_list ha) fun v σ H Q h => by
  obtain ⟨δ, ρ, F, d, Q', R, hd, ⟨ds, e0, q⟩, k⟩ := h
  obtain ⟨p, o, e1, hf, h0, ho, hh⟩ := R.slot i _ e0
  have nr : C.r ≠ some p := fun z => (R.row p z).1 h0
  refine ⟨.ref p, e1, δ, ρ, F, _, R, q, fun v1 y ρ1 F1 H1 g1 R1 i1 q1 => ?_⟩
  obtain ⟨kk, j, rfl, hj, q1⟩ := q1
  cases hh with
  | lst hv =>
    rename_i vs
    exact ⟨p, vs, kk, j, rfl, i1.int, g1.h _ _ nr ho, by rw [hv.length]; exact hj, k _ ρ1 σ F1 _ g1.f (fun z => by cases z) (R1.chg e0 e1 (.lst ((hv.mono g1.f).set (hd.mono g1.f) j))) (But.refl _ _) q1⟩

/-! ### {}, {k: v}, len, dict(pairs) -/
def xDnew : PEt := fun _ ρ Q => Q (dc []) ρ
theorem jdnew (hP : C.P = X.prog ∧ C.w = X.w) : JF X C (.Dict [] [] pos) xDnew := ⟨fun pins s σ H Q I h => by
  obtain ⟨δ, ρ, F, Q', R, q, k⟩ := h
  have n := I.hok.fresh (Nat.le_refl s.heap.objs.size)
  have hn : (s.heap.objs.size == sysModules) = false := beq_eq_false_iff_ne.mpr (Ne.symm (Nat.ne_of_lt I.big))
  obtain ⟨en, ep, hr, D⟩ := ofH_dc (C := C) (F := F) (X := X) hP (Heap.DictOfH.new (knd := nestedKind X.prog X.w) s.heap) hn Ent.nil (by simp)
  exact wpAny_Dict_empty ⟨.ref s.heap.objs.size, _, I.laid (a := s.heap.objs.size) (o := dctO s.heap.objs.size en ep) (t' := s.toks) (fun _ _ q => Heap.get?_push_of_some _ q) (Nat.le_refl _) (dctO_ok hr), rfl,
    k _ _ _ ρ F _ (gr_newO n) (R.newO n) n (R.freeF n) upd_same (.dct D.ns D.ents D.nd D.sz D.en) q⟩⟩
def xDone (ta tb : PEt) : PEt := fun δ ρ Q => ta δ ρ fun x ρ1 => tb δ ρ1 fun y ρ2 => kOk x ∧ Q (dc [(x, y)]) ρ2
theorem jdone (hP : C.P = X.prog ∧ C.w = X.w) (hu : X.A.units + 100 < cLine) (ha : JE X C a ta) (hb : JE X C b tb) (hs : (evalEachOpt [some a] X.env).zip ((evalEach [b] X.env).map fun v => do let x ← v; standAt pos; pure x) = (pairTrees [some a] [b] X.env pos).map fun p => (some p.1, p.2) := by rfl) : JF X C (.Dict [some a] [b] pos) (xDone ta tb) := ⟨fun pins s σ H Q I h => by
  obtain ⟨δ, ρ, F, Q', R, q, k⟩ := h
  have n := I.hok.fresh (Nat.le_refl s.heap.objs.size)
  have hn : (s.heap.objs.size == sysModules) = false := beq_eq_false_iff_ne.mpr (Ne.symm (Nat.ne_of_lt I.big))
  obtain ⟨en, ep, hr, D⟩ := ofH_dc (C := C) (F := F) (X := X) hP (Heap.DictOfH.new (knd := nestedKind X.prog X.w) s.heap) hn Ent.nil (by simp)
  have I1 := I.laid (a := s.heap.objs.size) (o := dctO s.heap.objs.size en ep) (h' := s.heap.push { cls := .type "dict", data := .dict #[] }) (t' := s.toks) (fun _ _ q => Heap.get?_push_of_some _ q) (Nat.le_refl _) (dctO_ok hr)
  have hlen : (pairTrees [some a] [b] X.env pos).length = 1 := pairTrees_length [some a] [b] X.env pos (by rfl) (by rfl)
  rw [arm_eval_Dict, hs, dictDisplay_pairs _ (fun z => by rw [z] at hlen; cases hlen) (by omega)]
  refine wpAny_bind (wpAny_standAt (wpAny_bind (wpAny_subDictH (knd := nestedKind X.prog X.w) (Q := fun d s' => wpAny (model X.prog X.w) X.A (pure (Value.ref d)) (EP X pins σ Q) X.xe s') (by show X.A.units + 8 < cLine; omega) (by rw [hlen]; decide) ?_)))
  refine pairTrees_cons_walk (thn (ha.run pins _ σ _ _ I1 ⟨δ, ρ, F, _, R.newO n, q, fun v x ρ1 F1 H1 g1 R1 i1 q1 => (⟨δ, ρ1, F1, _, R1, q1, fun u y ρ2 F2 H2 g2 R2 i2 q2 => ?_⟩ : LE C tb σ H1 (fun u H2 => ∃ F2 ρ2 x y q', v = .ref q' ∧ kOk x ∧ Gr C F (upd H s.heap.objs.size (dctO s.heap.objs.size en ep)) F2 H2 ∧ Rl C δ ρ2 σ F2 H2 ∧ C.Is F2 v x ∧ C.Is F2 u y ∧ Q' (dc [(x, y)]) ρ2))⟩) fun u1 s1 ⟨v1, H1, I2, r1, q1⟩ => thn (hb.run pins s1 σ H1 _ I2 q1) fun u2 s2 ⟨v2, H2, I3, r2, q2⟩ => pairTrees_nil_walk ?_)
  · obtain ⟨hk, q2⟩ := q2
    obtain ⟨q', rfl⟩ := hk.ref i1
    exact ⟨F2, ρ2, x, y, q', rfl, hk, g1.tr g2 R1, R2, i1.mono g2.f, i2, q2⟩
  · obtain ⟨F2, ρ2, x, y, q', rfl, hk, g, R2, i1, i2, q2⟩ := q2
    cases r1
    obtain ⟨kk, rfl, hd⟩ := hk.key
    have nr : C.r ≠ some s.heap.objs.size := fun z => R.rowthere _ z n
    have hp2 : H2 s.heap.objs.size = some (dctO s.heap.objs.size en ep) := g.h _ _ nr upd_same
    have f2 : F2 s.heap.objs.size = none := by rw [g.e _ _ upd_same]; exact R.freeF n
    have gF : Gr C F H F2 H2 := (gr_newO n).tr g (R.newO n)
    refine ⟨[(kk, q', u2)], ⟨rfl, rfl, key_is I3 hP (i1.mono R2.frz) hd, True.intro⟩, (DcAt.ofH I3 hP R2.frz hp2 ⟨hn, D.ents, D.nd, D.sz, D.en.mono gF.f⟩), fun h' tk dd hs' => wpAny_pure ?_⟩
    have he : Ent C.P C.w F2 (storedAllH [] [(kk, q', u2)]) [(kk.data, y)] := .cons i1 hd r2 i2 .nil
    obtain ⟨en2, ep2, hr2, D2⟩ := ofH_dc (C := C) (F := F2) hP dd hn he (by simp)
    have nsp : ∀ dj (j : Nat), δ[j]? = some (.ow dj) → σ[j]? ≠ some (some (.ref s.heap.objs.size)) := fun dj j e1 e2 => by
      obtain ⟨b, o2, e3, _, _, e4, _⟩ := R.slot j _ e1
      rw [e2] at e3; cases e3
      rw [n] at e4; cases e4
    have gU : Gr C F H F2 (upd H2 s.heap.objs.size (dctO s.heap.objs.size en2 ep2)) := ⟨gF.f, fun b o r z => by rw [upd_ne (ne_of_none z n)]; exact gF.h b o r z, gF.e⟩
    have sU : Same F2 (upd H2 s.heap.objs.size (dctO s.heap.objs.size en2 ep2)) := fun b o z => by rw [upd_ne (ne_of_none z f2)]; exact R2.frz b o z
    have rU : RowOk C ρ2 F2 (upd H2 s.heap.objs.size (dctO s.heap.objs.size en2 ep2)) := fun r z => by
      obtain ⟨h1, h2, h3, h4⟩ := R2.row r z
      exact ⟨h1, h2, by rw [upd_ne fun y => nr (by rw [← y]; exact z)]; exact h3, h4⟩
    exact ⟨.ref s.heap.objs.size, _, d_write I3 (by rw [hp2]; exact True.intro) hs' (let ⟨o, e, _⟩ := hr2; ⟨o, e⟩) (dctO_ok hr2), rfl, k _ _ _ ρ2 F2 _ gU (R.grow gU sU rU) n f2 upd_same (.dct D2.ns D2.ents D2.nd D2.sz D2.en) q2⟩⟩
/-- len(d) -/
def dlenD : List PyData → (PyData → Prop) → Prop := fun ds Q => ∃ kvs, ds = [dc kvs] ∧ Q (.int kvs.length)
theorem b_lenD (hP : C.P = X.prog ∧ C.w = X.w) : BS X C "len" dlenD := ⟨fun vs H Q => ∃ (F : Hp) (p : Addr) (en : Array DictEntry) (ep : Nat) (xs : List (NestedKey × Addr × Value)) (kvs : List (PyData × PyData)), vs = [.ref p] ∧ Same F H ∧ H p = some (dctO p en ep) ∧ DcAt C F p en xs kvs ∧ Q (.int kvs.length) H, fun pins s σ H vs us Q I r h => by
    obtain ⟨F, p, en, ep, xs, kvs, rfl, sm, hp, D, q⟩ := h
    rw [Vals.ref1 r]
    have K := D.keyed I hP sm hp
    have hsz : (pairsH xs).length = kvs.length := by rw [pairsH_length, ent_len D.en]
    have hl : kvs.length ≤ sizeLine := by
      have h1 := D.sz
      have h2 : en.size = xs.length := by rw [← Array.length_toList, D.ents, List.length_map]
      rw [h2, ent_len D.en] at h1; exact h1
    rw [sizeLine_eq] at hl
    refine PyProof.Rows.call_len_slot (n := ((pairsH xs).length : Int)) K.typeIs PySem.F.slot_dict_len (fun Q' hq => len_keyed D.ns K hq) (by omega) (by rw [hsz]; omega) ?_
    rw [hsz]
    exact ⟨.int kvs.length, H, I.tok _, ⟨_, rfl⟩, q⟩, fun F H vs ds W Q s ip f k => by
  obtain ⟨kvs, rfl, w⟩ := f
  obtain ⟨v, rfl, i⟩ := pair1 ip
  obtain ⟨p, en, ep, xs, rfl, hp, D⟩ := i.dct s
  exact ⟨F, p, en, ep, xs, kvs, rfl, s, hp, D, k _ _ (.int _) w⟩⟩
end
end HB

set_option Elab.async false
set_option linter.all false
set_option maxRecDepth 100000
set_option maxHeartbeats 4000000
set_option autoImplicit false
namespace HB
open PySem PySem.Spec L2
section
variable {X : Cx} {C : Cc} {a b c e f tg iter : Expr} {ta tb tc t : PEt} {tt tu : PTt} {tas : PAt} {pos p2 apos cpos : Pos} {es rest : List Expr} {st : Stmt} {sts : List Stmt} {s1 s2 s3 : PSt}
variable {δ δ' : Enm} {ρ ρ' : Rw} {σ σ' : L2.St} {F F' H H' : Hp}

/-! ### a dict walked by its keys -/
def Itq (p : Addr) (en : Array DictEntry) (ep : Nat) : It :=
  ⟨fun i H => H p = some (dctO p en ep) ∧ i < en.size, fun i H x H' => H' = H ∧ ∃ e, en[i]? = some e ∧ RelV x e.key, fun i H => H p = some (dctO p en ep) ∧ en.size ≤ i⟩
theorem turn_q {P : Program} {w : World} {K : PySem.W.Frag} {p : Addr} {en : Array DictEntry} {ep : Nat} (it : Addr) (hk : ∀ e ∈ en.toList, ∃ q, e.key = .ref q) : Turn P w K tg (Itq p en ep) [it] it (fun i h => h.IsKeyIter it p i en.size ep) where
  mem := by simp
  obj := fun i h st b hb => by
    have e : b = it := by simpa using hb
    subst e
    obtain ⟨oi, e, c, dd⟩ := st
    exact ⟨oi, e, fun v z => by rw [dd] at z; cases z⟩
  keep := fun i h h' st k => st.at fun oi e => k it (by simp) oi e
  item := by
    intro X hP hw hK hc i pins s σ H E I hf st hg
    subst hP hw hK
    obtain ⟨hd, hi⟩ := hg
    obtain ⟨f0, f1, f2, f3, f4, f5⟩ := hf it (by simp)
    obtain ⟨od, hod, hx, hdt⟩ := DcAt.raw I hd
    have hen : en[i]? = some en[i] := Array.getElem?_eq_getElem hi
    obtain ⟨q, hq⟩ := hk en[i] (Array.getElem_mem_toList hi)
    refine next_key_item st hod hdt rfl hen fun h' st' sb => ?_
    have I1 : L2.Inv X pins σ H { s with heap := h' } := I.turned (t' := s.toks) (fun b ob hb e => (sb.2 b hb).trans e) f0 f1 f3 f4 f5
    obtain ⟨oi, e, c, dd⟩ := id st'
    exact ⟨en[i].key, rfl, go_of (s := { s with heap := h' }) e c dd (by decide) ⟨.ref q, H, I1, hq, ⟨rfl, _, hen, hq⟩, st', fun b hb => (hf b hb).1⟩⟩
  done := by
    intro X hP hw hK hc i pins s σ H E I hf st hg
    subst hP hw hK
    obtain ⟨hd, hi⟩ := hg
    obtain ⟨f0, f1, f2, f3, f4, f5⟩ := hf it (by simp)
    obtain ⟨od, hod, hx, hdt⟩ := DcAt.raw I hd
    exact next_key_end (I.ok.hd hc) st hod hdt rfl hi fun h' eb => ⟨rfl, I.turned (t' := s.toks) (fun b ob hb e => eb b ob hb e) f0 f1 f3 f4 f5⟩
  self := fun A i s Q E st h => by
    refine wpAny_pyIter_slot st.typeIs PySem.F.slot_dict_keyiterator_iter (wpAny_call_entry PySem.F.slot_dict_keyiterator_iter st.typeIs PySem.F.entry_dict_keyiterator_iter ?_ (PySem.F.args_dict_keyiterator_iter_1 _))
    show wpAny _ _ (ret (.ref it)) _ _ s
    exact wpAny_pure ⟨_, rfl, "dict_keyiterator", _, st.typeIs, PySem.F.slot_dict_keyiterator_next.lookup, h⟩
/-- what e.keys(), e.values() stand on -/
def LDc (C : Cc) (t : PEt) : TE := LC C fun δ ρ Q => t δ ρ fun d ρ1 => (∃ kvs, d = dc kvs) ∧ Q d ρ1
def iKs (t : PEt) : PIt := fun δ ρ Q => t δ ρ fun d ρ1 => ∃ kvs, d = dc kvs ∧ Q (kvs.map (·.1)) ρ1
theorem DcAt.keys {p : Addr} {en : Array DictEntry} {xs : List (NestedKey × Addr × Value)} {kvs : List (PyData × PyData)} (D : DcAt C F p en xs kvs) : ∀ e ∈ en.toList, ∃ q, e.key = .ref q := by
  intro e he
  rw [D.ents] at he
  obtain ⟨x, _, rfl⟩ := List.mem_map.mp he
  exact ⟨_, rfl⟩
theorem ent_key : ∀ {xs : List (NestedKey × Addr × Value)} {kvs : List (PyData × PyData)} {i : Nat} {x : NestedKey × Addr × Value}, Ent C.P C.w F xs kvs → xs[i]? = some x → ∃ d, (kvs.map (·.1))[i]? = some d ∧ C.Is F (.ref x.2.1) d ∧ ∃ dv v, (kvs.map (·.2))[i]? = some dv ∧ RelV v x.2.2 ∧ C.Is F v dv
  | _, _, _, _, .nil, e => by simp at e
  | _, _, 0, _, .cons h1 h2 h3 h4 h5, e => by simp at e; subst e; exact ⟨_, rfl, h1, _, _, rfl, h3, h4⟩
  | _, _, i + 1, _, .cons h1 h2 h3 h4 h5, e => by
    obtain ⟨d, q1, q2, dv, v, q3, q4⟩ := ent_key (i := i) h5 (by simpa using e)
    exact ⟨d, by simpa using q1, q2, dv, v, by simpa using q3, q4⟩
theorem DcAt.size {p : Addr} {en : Array DictEntry} {xs : List (NestedKey × Addr × Value)} {kvs : List (PyData × PyData)} (D : DcAt C F p en xs kvs) : en.size = kvs.length := by
  rw [← Array.length_toList, D.ents, List.length_map, ent_len D.en]
theorem src_q {p : Addr} {en : Array DictEntry} {ep : Nat} {xs : List (NestedKey × Addr × Value)} {kvs : List (PyData × PyData)} (hp : F p = some (dctO p en ep)) (D : DcAt C F p en xs kvs) : SrcOk C (Itq p en ep) (kvs.map (·.1)) F where
  turn := fun F1 H1 i s1 s2 hi => by
    rw [List.length_map, ← D.size] at hi
    refine ⟨⟨s2 _ _ (s1 _ _ hp), hi⟩, fun w H2 y => ?_⟩
    obtain ⟨rfl, e, he, hw⟩ := y
    have hx : (xs.map (entryOfKey (nestedKind C.P C.w)))[i]? = some e := by rw [← D.ents, Array.getElem?_toList]; exact he
    rw [List.getElem?_map] at hx
    obtain ⟨x, hx1, rfl⟩ := Option.map_eq_some_iff.mp hx
    obtain ⟨d, q1, q2, _⟩ := ent_key D.en hx1
    have hw' : w = .ref x.2.1 := RelV.inj hw (show RelV (.ref x.2.1) (entryOfKey (nestedKind C.P C.w) x).key from rfl)
    subst hw'
    exact ⟨F1, d, q1, Gr.refl, s2, fun _ _ _ => rfl, q2.mono s1⟩
  stop := fun F1 H1 i s1 s2 hi => ⟨s2 _ _ (s1 _ _ hp), by rw [D.size]; simpa using hi⟩
theorem dct_inv {v : V} {kvs : List (PyData × PyData)} (h : C.Is F v (dc kvs)) : ∃ p en ep xs, v = .ref p ∧ F p = some (dctO p en ep) ∧ DcAt C F p en xs kvs := by
  cases h with
  | ref hp hv => cases hv with
    | dct h1 h2 h3 h4 h5 => exact ⟨_, _, _, _, rfl, hp, h1, h2, h3, h4, h5⟩
theorem noDict_q {pins : List (Addr × Obj)} {s : Shared} (I : L2.Inv X pins σ H s) {p : Addr} {en : Array DictEntry} {ep : Nat} (ha : H p = some (dctO p en ep)) : s.TypeIs (.ref p) "dict" ∧ ∀ b, Value.ref p = .ref b → ∃ ob, s.heap.get? b = some ob ∧ ob.dict = none := by
  obtain ⟨o, e, hx, hd⟩ := DcAt.raw I ha
  exact ⟨⟨o, e, hx.1⟩, fun b z => by cases z; exact ⟨o, e, hx.2.1⟩⟩
theorem jiKeys (hc : X.calm = true) (he : JE X C e t) (hbase : attributeBase e "keys" X.env (eval e X.env) = eval e X.env := by rfl) (hline : (apos.endLine == cpos.line) = true := by rfl) : JI X C tg (.Call (.Attribute e "keys" apos) [] [] cpos) (iKs t) := by
  refine ⟨fun pins s σ H R I h => ?_⟩
  obtain ⟨δ, ρ, F, Q', R0, q, k⟩ := h
  refine wpAny_Call_method (T := "dict") (id := "dict.keys") hbase rfl hline PySem.F.plainAttrs_dict PySem.F.slot_dict_keys PySem.F.type_dict_keys (thn (he.run pins s σ H (fun v H1 => ∃ ρ1 F1 kvs, Gr C F H F1 H1 ∧ Rl C δ ρ1 σ F1 H1 ∧ C.Is F1 v (dc kvs) ∧ Q' (kvs.map (·.1)) ρ1) I ⟨δ, ρ, F, _, R0, q, fun v d ρ1 F1 H1 g1 R1 i1 q1 => ?_⟩) fun u s1 ⟨x, H1, I1, rx, ρ1, F1, kvs, g1, R1, i1, q1⟩ => ?_)
  · obtain ⟨kvs, rfl, q1⟩ := q1
    exact ⟨ρ1, F1, kvs, g1, R1, i1, q1⟩
  · obtain ⟨p, en, ep, xs, rfl, hp, D⟩ := dct_inv i1
    obtain rfl : u = Value.ref p := rx
    have hpH := R1.frz _ _ hp
    obtain ⟨t1, t2⟩ := noDict_q I1 hpH
    refine ⟨t1, t2, ?_⟩
    have hraw := DcAt.raw I1 hpH
    have I2 : L2.Inv X pins σ H1 { s1 with heap := s1.heap.push { cls := .type "dict_keys", data := .fields #[.ref p] } } := I1.kept (t' := s1.toks) fun b ob q => Heap.get?_push_of_some _ q
    have fin : wpAny (model X.prog X.w) X.A (pyIter (.ref s1.heap.objs.size)) (PIE X pins σ tg R) X.xe { s1 with heap := s1.heap.push { cls := .type "dict_keys", data := .fields #[.ref p] } } :=
      wpAny_pyIter_keys_raw (d := p) ⟨_, Heap.get?_push_size _ rfl, rfl, rfl⟩ (hraw.at fun o e => Heap.get?_push_of_some _ e) (pi_one (tk := s1.toks) I2 _ (turn_q _ D.keys) ⟨_, Heap.get?_push_size _ rfl, rfl, rfl⟩ (k _ _ ρ1 F1 H1 g1 R1 (src_q hp D) q1))
    show wpAny _ _ (callWith cpos (.builtin "dict.keys") [.ref p] [] []) _ X.xe s1
    exact method_meetsIn PySem.F.slot_dict_keys PySem.F.entry_dict_keys rfl (PySem.evalArgs_none ⟨rfl, t1, PySem.F.args_dict_keys_1 _, _, meets_dict_keys_raw p D.ns, ⟨⟨en, ep, hraw⟩, fin⟩⟩)

/-! ### sorted(d.keys()), sum(d.values()) -/
/-- a view of the dict at p -/
def kvO (q p : Addr) : HO := .ext fun h => PySem.W.KdlKeysView h q p
def vvO (q p : Addr) : HO := .ext fun h => h.IsValuesView q p
/-- e.keys() -/
def tKV (C : Cc) (t : PEt) : TE := fun σ H Q => ∃ δ ρ F, ∃ Q' : List (PyData × PyData) → Rw → Prop, Rl C δ ρ σ F H ∧ t δ ρ (fun d ρ1 => ∃ kvs, d = dc kvs ∧ Q' kvs ρ1) ∧
  ∀ p en ep xs kvs ρ1 F1 H1 q, Gr C F H F1 H1 → Rl C δ ρ1 σ F1 H1 → H1 p = some (dctO p en ep) → DcAt C F1 p en xs kvs → Q' kvs ρ1 → H1 q = none → Q (.ref q) (upd H1 q (kvO q p))
theorem kv_ok {P : Program} {w : World} {H : Hp} {h : Heap} {q p : Addr} (r : PySem.W.KdlKeysView h q p) : ObjOk P w H h q (kvO q p) :=
  ⟨r, (let ⟨o, e, _⟩ := r; ⟨o, e⟩), fun h1 h2 ⟨o, e, x⟩ k => ⟨o, k o e, x⟩⟩
theorem pe_keys (he : JC X C e t) (hbase : attributeBase e "keys" X.env (eval e X.env) = eval e X.env := by rfl) (hline : (apos.endLine == cpos.line) = true := by rfl) : PE X (.Call (.Attribute e "keys" apos) [] [] cpos) (tKV C t) := by
  refine ⟨fun pins s σ H Q I h => ?_⟩
  obtain ⟨δ, ρ, F, Q', R0, q, k⟩ := h
  refine wpAny_Call_method (T := "dict") (id := "dict.keys") hbase rfl hline PySem.F.plainAttrs_dict PySem.F.slot_dict_keys PySem.F.type_dict_keys (thn (he.run pins s σ H (fun v H1 => ∃ ρ1 F1 kvs, Gr C F H F1 H1 ∧ Rl C δ ρ1 σ F1 H1 ∧ CIs C F1 H1 v (dc kvs) ∧ Q' kvs ρ1) I ⟨δ, ρ, F, _, R0, q, fun v d ρ1 F1 H1 g1 R1 i1 q1 => ?_⟩) fun u s1 ⟨x, H1, I1, rx, ρ1, F1, kvs, g1, R1, i1, q1⟩ => ?_)
  · obtain ⟨kvs, rfl, q1⟩ := q1
    exact ⟨ρ1, F1, kvs, g1, R1, i1, q1⟩
  · obtain ⟨p, en, ep, xs, rfl, hp, D⟩ := i1.dct R1.frz
    obtain rfl : u = Value.ref p := rx
    obtain ⟨t1, t2⟩ := noDict_q I1 hp
    refine ⟨t1, t2, ?_⟩
    have hraw := DcAt.raw I1 hp
    have n := I1.hok.fresh (Nat.le_refl s1.heap.objs.size)
    have I2 : L2.Inv X pins σ (upd H1 s1.heap.objs.size (kvO s1.heap.objs.size p)) { s1 with heap := s1.heap.push { cls := .type "dict_keys", data := .fields #[.ref p] } } := I1.laid (t' := s1.toks) (fun b ob q => Heap.get?_push_of_some _ q) (Nat.le_refl _) (kv_ok ⟨_, Heap.get?_push_size _ rfl, rfl, rfl⟩)
    show wpAny _ _ (callWith cpos (.builtin "dict.keys") [.ref p] [] []) _ X.xe s1
    exact method_meetsIn PySem.F.slot_dict_keys PySem.F.entry_dict_keys rfl (PySem.evalArgs_none ⟨rfl, t1, PySem.F.args_dict_keys_1 _, _, meets_dict_keys_raw p D.ns, ⟨⟨en, ep, hraw⟩, ⟨.ref s1.heap.objs.size, _, I2, rfl, k p en ep xs kvs ρ1 F1 H1 _ g1 R1 hp D q1 n⟩⟩⟩)
def rSortKV (C : Cc) : List V → Hp → VK → Prop := fun vs H Q => ∃ (F : Hp) (q p : Addr) (en : Array DictEntry) (ep : Nat) (xs : List (NestedKey × Addr × Value)) (kvs : List (PyData × PyData)), vs = [.ref q] ∧ Same F H ∧ H q = some (kvO q p) ∧ H p = some (dctO p en ep) ∧ DcAt C F p en xs kvs ∧ SortOk (kvs.map (·.1)) ∧
  ∀ l ys, H l = none → IsdA C.P C.w F ys (sortD (kvs.map (·.1))) → Q (.ref l) (upd H l (.lst ys))
theorem each_keyv {p : Addr} {en : Array DictEntry} {xs : List (NestedKey × Addr × Value)} {kvs : List (PyData × PyData)} (D : DcAt C F p en xs kvs) {acc : List Value} (hl : acc.length = en.size) (hv : ∀ (j : Nat) v, acc[j]? = some v → ∃ hi : j < en.size, v = en[j].key) : PySem.W.EachIs (fun u d => ∃ v, RelV v u ∧ C.Is F v d) acc (kvs.map (·.1)) := by
  refine PySem.W.EachIs.of_zip (by rw [hl, D.size, List.length_map]) fun z hz => ?_
  obtain ⟨j, hj, ez⟩ := List.getElem_of_mem hz
  have hj1 : j < acc.length := by rw [List.length_zip] at hj; omega
  have hj2 : j < (kvs.map (·.1)).length := by rw [List.length_zip] at hj; omega
  rw [List.getElem_zip] at ez
  obtain ⟨hi, e1⟩ := hv j _ (List.getElem?_eq_getElem hj1)
  have hx : (xs.map (entryOfKey (nestedKind C.P C.w)))[j]? = some en[j] := by rw [← D.ents, Array.getElem?_toList]; exact Array.getElem?_eq_getElem hi
  rw [List.getElem?_map] at hx
  obtain ⟨x, hx1, hx2⟩ := Option.map_eq_some_iff.mp hx
  obtain ⟨d, q1, q2, _⟩ := ent_key D.en hx1
  rw [List.getElem?_eq_getElem hj2] at q1
  rw [← ez]
  refine ⟨.ref x.2.1, ?_, ?_⟩
  · show acc[j] = Value.ref x.2.1
    rw [e1, ← hx2]; rfl
  · show C.Is F (.ref x.2.1) ((kvs.map (·.1))[j])
    rw [Option.some.inj q1]; exact q2
theorem cr_sortKV (hc : X.calm = true) (hu : X.A.units + 100 < cLine) : CallR X (.builtin "sorted") (rSortKV C) := by
  intro pins s σ H vs us Q I r h
  obtain ⟨F, q, p, en, ep, xs, kvs, rfl, sF, hq, hp, D, ⟨o1, o2, o3, o4, o5⟩, k⟩ := h
  rw [Vals.ref1 r]
  have hview : PySem.W.KdlKeysView s.heap q p := (I.hok q _ hq : ObjOk X.prog X.w H s.heap q (kvO q p)).1
  have hraw := DcAt.raw I hp
  have hsz : en.size ≤ sizeLine := D.sz
  refine Calls.call_function_entry PyProof.Rows.kind_sorted PyProof.Rows.plain_sorted PyProof.Rows.entry_sorted (PyProof.Rows.args_sorted1 _) ?_
  unfold Builtin.«sorted»
  refine wpAny_bind (m := checkCount "sorted" 1 1 _) (wpAny_pure ?_)
  refine wpAny_bind (PySem.W.kdu_collect (A := X.A.in1) KdlSrc.rawKeys (I.ok.hd hc) ⟨hview, hraw⟩ hsz fun h' tk acc hk hacc => ?_)
  have hl : acc.toList.length = en.size := by rw [Array.length_toList]; exact hacc.1
  refine wpAny_bind (wpAny_newList ?_ (by rw [hl]; exact hsz))
  have e1 : PySem.W.EachIs (fun u d => ∃ v, RelV v u ∧ C.Is F v d) acc.toList (kvs.map (·.1)) := each_keyv D hl fun j v e => hacc.2 j v (by rw [← Array.getElem?_toList]; exact e)
  have I' : L2.Inv X pins σ H { s with heap := h', toks := tk } := I.kept (t' := tk) hk
  have hlt : h'.objs.size < (h'.push { cls := .type "list", data := .seq acc.toList.toArray }).objs.size := by rw [Heap.size_push]; exact Nat.lt_succ_self _
  have hat : (h'.push { cls := .type "list", data := .seq acc.toList.toArray }).get? h'.objs.size = some (PyProof.Rows.seqObj "list" acc.toList.toArray 0) := Heap.get?_push_size _ rfl
  refine wpAny_bind (wpAny_holding (PyProof.Rows.wpAny_call_entry_kw PyProof.Rows.slot_list_sort ⟨_, hat, rfl⟩ PyProof.Rows.entry_list_sort ?body (PyProof.Rows.args_list_sort _)))
  case body =>
    have er : PySem.W.EachIs (fun v b => ∃ as, Reads h' v (id b) as) acc.toList (kvs.map (·.1)) := (PySem.W.each_mem e1).mono fun u d ⟨⟨v, r, i⟩, m⟩ => isd_reads I' (i.mono sF) r (plainA_mem o2 m)
    have er2 : PySem.W.EachIs (fun v b => ∃ as, Reads (PySem.W.sortingHeap (h'.push { cls := .type "list", data := .seq acc.toList.toArray }) h'.objs.size acc.toList) v (id b) as) acc.toList (kvs.map (·.1)) := er.mono fun _ _ ⟨as, r⟩ => ⟨as, PyProof.Rows.Reads.keeps (fun b o e => PySem.W.sortingHeap_old (Nat.ne_of_lt (Heap.lt_size e)) (Heap.get?_push_of_some _ e)) r⟩
    have hal : PySem.W.AllAlike ((kvs.map (·.1)).map id) := by rw [List.map_id]; exact fun d m d' m' => o3 d m d' m'
    have hu2 : ∀ b, b ∈ kvs.map (·.1) → X.A.units + 2 + (id b : PyData).depth < cLine := fun b hb => by have := o4 b hb; show X.A.units + 2 + b.depth < cLine; omega
    have S : PySem.W.SortsAt X.prog X.w X.A.in1.in1 { s with heap := PySem.W.sortingHeap (h'.push { cls := .type "list", data := .seq acc.toList.toArray }) h'.objs.size acc.toList, toks := tk } (PySem.W.dataKind (PySem.W.sortingHeap (h'.push { cls := .type "list", data := .seq acc.toList.toArray }) h'.objs.size acc.toList) ((kvs.map (·.1)).map id)) acc.toList := by
      rcases o5 with o5 | ⟨o5, o6⟩
      · exact PySem.W.SortsAt.data (s := { s with heap := PySem.W.sortingHeap (h'.push { cls := .type "list", data := .seq acc.toList.toArray }) h'.objs.size acc.toList, toks := tk }) (PySem.W.each_map (R := fun v d => ∃ as, Reads (PySem.W.sortingHeap (h'.push { cls := .type "list", data := .seq acc.toList.toArray }) h'.objs.size acc.toList) v d as) id er2) hal (by rw [List.map_id]; exact o5) (PySem.W.bound_map hu2)
      · exact sortsAt_one (s := { s with heap := PySem.W.sortingHeap (h'.push { cls := .type "list", data := .seq acc.toList.toArray }) h'.objs.size acc.toList, toks := tk }) (PySem.W.each_map (R := fun v d => ∃ as, Reads (PySem.W.sortingHeap (h'.push { cls := .type "list", data := .seq acc.toList.toArray }) h'.objs.size acc.toList) v d as) id er2) hal (by rw [List.map_id]; exact o6) (by rw [e1.length]; exact o5) (PySem.W.bound_map hu2)
    refine PySem.W.list_sort_vals (s := { s with heap := h'.push { cls := .type "list", data := .seq acc.toList.toArray }, toks := tk }) hat S (by rw [hl]; exact hsz) ?_
    refine ⟨_, rfl, wpAny_pure ⟨_, rfl, ?_⟩⟩
    have he := PySem.W.sortVals_data (R := fun u d => ∃ v, RelV v u ∧ C.Is F v d) false e1 er2 hal
    obtain ⟨ys, ry, iy⟩ := of_each (ds := sortD (kvs.map (·.1))) he
    obtain ⟨ep', he'⟩ := PyProof.Rows.sortedHeap_at (out := (PySem.W.sortVals (PySem.W.dataKind (PySem.W.sortingHeap (h'.push { cls := .type "list", data := .seq acc.toList.toArray }) h'.objs.size acc.toList) ((kvs.map (·.1)).map id)) false acc.toList acc.toList).toArray) hat
    have hlen : ys.length ≤ sizeLine := by rw [iy.length]; unfold sortD; rw [List.length_mergeSort]; exact line5 o1
    refine ⟨.ref h'.objs.size, upd H h'.objs.size (.lst ys), I'.laid (t' := tk) (fun b o e => ?_) (Nat.le_refl _) ⟨hlen, _, ep', ry, he'⟩, rfl, k _ ys (I'.hok.fresh (Nat.le_refl _)) iy⟩
    rw [PyProof.Rows.sortedHeap_old (Nat.ne_of_lt (Heap.lt_size e)) (Nat.lt_trans (Heap.lt_size e) hlt)]
    exact Heap.get?_push_of_some _ e
def xSortK (t : PEt) : PEt := fun δ ρ Q => t δ ρ fun d ρ1 => ∃ kvs, d = dc kvs ∧ SortOk (kvs.map (·.1)) ∧ Q (.list (sortD (kvs.map (·.1)))) ρ1
theorem jsortK {p : Pos} (hc : X.calm = true) (hu : X.A.units + 100 < cLine) (hm : X.mg "sorted" = none) (ha : JC X C e t) (hg : Gl X "sorted" := by rfl) (hbase : attributeBase e "keys" X.env (eval e X.env) = eval e X.env := by rfl) (hline : (apos.endLine == cpos.line) = true := by rfl)
    (he : starEach [.Call (.Attribute e "keys" apos) [] [] cpos] X.env = (false, eval (.Call (.Attribute e "keys" apos) [] [] cpos) X.env) :: starEach [] X.env := by rfl) : JF X C (.Call (.Name "sorted" p) [.Call (.Attribute e "keys" apos) [] [] cpos] [] pos) (xSortK t) :=
  PE.weak (pe_callB (cr_sortKV (C := C) hc hu) hg hm (by decide +kernel) (pa_cons (pe_keys ha hbase hline) pa_nil he) (by decide) (by decide) he rfl) fun σ H Q h => by
    obtain ⟨δ, ρ, F, Q', R, q, k⟩ := h
    refine ⟨δ, ρ, F, fun (kvs : List (PyData × PyData)) ρ1 => SortOk (List.map (fun z : PyData × PyData => z.1) kvs) ∧ Q' (.list (sortD (List.map (fun z : PyData × PyData => z.1) kvs))) ρ1, R, q, fun p en ep xs kvs ρ1 F1 H1 q g1 R1 hp D q1 n => ?_⟩
    obtain ⟨so, q1⟩ := q1
    have g2 := g1.tr (gr_newO (o := kvO q p) n) R1
    have R2 := R1.newO (o := kvO q p) n
    exact ⟨F1, q, p, en, ep, xs, kvs, rfl, R2.frz, upd_same, by rw [upd_ne (ne_of_none hp n)]; exact hp, D, so, fun l ys nl iy => k l _ _ ρ1 F1 _ (g2.tr (gr_newO nl) R2) (R2.newO nl) (g2.free R2 nl) (R2.freeF nl) upd_same (.lst iy) q1⟩
end
end HB

set_option Elab.async false
set_option linter.all false
set_option maxRecDepth 100000
set_option maxHeartbeats 4000000
set_option autoImplicit false
namespace HB
open PySem PySem.Spec L2
section
variable {X : Cx} {C : Cc} {a b c e f tg iter : Expr} {ta tb tc t : PEt} {tt tu : PTt} {tas : PAt} {pos p2 apos cpos : Pos} {es rest : List Expr} {st : Stmt} {sts : List Stmt} {s1 s2 s3 : PSt}
variable {δ δ' : Enm} {ρ ρ' : Rw} {σ σ' : L2.St} {F F' H H' : Hp}

/-! ### sum(d.values()) -/
theorem vv_ok {P : Program} {w : World} {H : Hp} {h : Heap} {q p : Addr} (r : h.IsValuesView q p) : ObjOk P w H h q (vvO q p) :=
  ⟨r, (let ⟨o, e, _⟩ := r; ⟨o, e⟩), fun h1 h2 ⟨o, e, x⟩ k => ⟨o, k o e, x⟩⟩
def tVV (C : Cc) (t : PEt) : TE := fun σ H Q => ∃ δ ρ F, ∃ Q' : List (PyData × PyData) → Rw → Prop, Rl C δ ρ σ F H ∧ t δ ρ (fun d ρ1 => ∃ kvs, d = dc kvs ∧ Q' kvs ρ1) ∧
  ∀ p en ep xs kvs ρ1 F1 H1 q, Gr C F H F1 H1 → Rl C δ ρ1 σ F1 H1 → H1 p = some (dctO p en ep) → DcAt C F1 p en xs kvs → Q' kvs ρ1 → H1 q = none → Q (.ref q) (upd H1 q (vvO q p))
theorem pe_values (he : JC X C e t) (hbase : attributeBase e "values" X.env (eval e X.env) = eval e X.env := by rfl) (hline : (apos.endLine == cpos.line) = true := by rfl) : PE X (.Call (.Attribute e "values" apos) [] [] cpos) (tVV C t) := by
  refine ⟨fun pins s σ H Q I h => ?_⟩
  obtain ⟨δ, ρ, F, Q', R0, q, k⟩ := h
  refine wpAny_Call_method (T := "dict") (id := "dict.values") hbase rfl hline PySem.F.plainAttrs_dict PySem.F.slot_dict_values PySem.F.type_dict_values (thn (he.run pins s σ H (fun v H1 => ∃ ρ1 F1 kvs, Gr C F H F1 H1 ∧ Rl C δ ρ1 σ F1 H1 ∧ CIs C F1 H1 v (dc kvs) ∧ Q' kvs ρ1) I ⟨δ, ρ, F, _, R0, q, fun v d ρ1 F1 H1 g1 R1 i1 q1 => ?_⟩) fun u s1 ⟨x, H1, I1, rx, ρ1, F1, kvs, g1, R1, i1, q1⟩ => ?_)
  · obtain ⟨kvs, rfl, q1⟩ := q1
    exact ⟨ρ1, F1, kvs, g1, R1, i1, q1⟩
  · obtain ⟨p, en, ep, xs, rfl, hp, D⟩ := i1.dct R1.frz
    obtain rfl : u = Value.ref p := rx
    obtain ⟨t1, t2⟩ := noDict_q I1 hp
    refine ⟨t1, t2, ?_⟩
    have hraw := DcAt.raw I1 hp
    have n := I1.hok.fresh (Nat.le_refl s1.heap.objs.size)
    have I2 : L2.Inv X pins σ (upd H1 s1.heap.objs.size (vvO s1.heap.objs.size p)) { s1 with heap := s1.heap.push { cls := .type "dict_values", data := .fields #[.ref p] } } := I1.laid (t' := s1.toks) (fun b ob q => Heap.get?_push_of_some _ q) (Nat.le_refl _) (vv_ok ⟨_, Heap.get?_push_size _ rfl, rfl, rfl⟩)
    show wpAny _ _ (callWith cpos (.builtin "dict.values") [.ref p] [] []) _ X.xe s1
    exact method_meetsIn PySem.F.slot_dict_values PySem.F.entry_dict_values rfl (PySem.evalArgs_none ⟨rfl, t1, PySem.F.args_dict_values_1 _, _, meets_dict_values_raw p D.ns, ⟨⟨en, ep, hraw⟩, ⟨.ref s1.heap.objs.size, _, I2, rfl, k p en ep xs kvs ρ1 F1 H1 _ g1 R1 hp D q1 n⟩⟩⟩)
theorem preSum_sum (f : Nat → Int) : ∀ ns : List Int, (∀ (i : Nat) n, ns[i]? = some n → f i = n) → PySem.preSum f ns.length = ns.sum := by
  intro ns h
  have key : ∀ k, k ≤ ns.length → PySem.preSum f k = (ns.take k).sum := by
    intro k
    induction k with
    | zero => intro _; rfl
    | succ k ih =>
      intro hk
      have e : ns[k]? = some ns[k] := List.getElem?_eq_getElem (by omega)
      show PySem.preSum f k + f k = _
      rw [ih (by omega), h k _ e, List.take_add_one, e]
      show _ = (List.take k ns ++ [ns[k]]).sum
      rw [List.sum_append]
      simp
  have := key ns.length (Nat.le_refl _)
  rwa [List.take_length] at this
def rSumVV (C : Cc) : List V → Hp → VK → Prop := fun vs H Q => ∃ (F : Hp) (q p : Addr) (en : Array DictEntry) (ep : Nat) (xs : List (NestedKey × Addr × Value)) (kvs : List (PyData × PyData)) (ns : List Int), vs = [.ref q] ∧ Same F H ∧ H q = some (vvO q p) ∧ H p = some (dctO p en ep) ∧ DcAt C F p en xs kvs ∧ kvs.map (·.2) = ns.map .int ∧ Q (.int ns.sum) H
theorem cr_sumVV (hc : X.calm = true) : CallR X (.builtin "sum") (rSumVV C) := by
  intro pins s σ H vs us Q I r h
  obtain ⟨F, q, p, en, ep, xs, kvs, ns, rfl, sF, hq, hp, D, hn, k⟩ := h
  rw [Vals.ref1 r]
  have hview : s.heap.IsValuesView q p := (I.hok q _ hq : ObjOk X.prog X.w H s.heap q (vvO q p)).1
  have hraw := DcAt.raw I hp
  have hlen : ns.length = en.size := by rw [D.size, ← List.length_map (f := PyData.int), ← hn, List.length_map]
  have K : PySem.W.KdlSrc X.prog X.w "dict_values" q p en.size (fun i v => ∃ hi : i < en.size, v = en[i].val) (fun h => h.IsValuesView q p ∧ h.DictRaw p en ep) := KdlSrc.rawValues
  refine call_sum_walkAnyS ?_
  obtain ⟨oI, St, hit, W, st⟩ := K.iter X.A.in1 s (I.ok.hd hc) ⟨hview, hraw⟩
  refine hit _ _ ⟨s.heap.objs.size, _, _, _, en.size, _, _, fun i => (ns[i]?).getD 0, rfl, W.toS, st, fun b hb => ?_, fun i v ⟨hi, e⟩ => ?_, fun s' t' hm => ?_⟩
  · show b < (s.heap.push oI).objs.size
    rw [Heap.size_push]
    rcases List.mem_cons.mp hb with e | hb
    · rw [e]; exact Nat.lt_succ_self _
    · rw [List.mem_singleton.mp hb]; exact Nat.lt_succ_of_lt hraw.lt_size
  · have hx : (xs.map (entryOfKey (nestedKind C.P C.w)))[i]? = some en[i] := by rw [← D.ents, Array.getElem?_toList]; exact Array.getElem?_eq_getElem hi
    rw [List.getElem?_map] at hx
    obtain ⟨x, hx1, hx2⟩ := Option.map_eq_some_iff.mp hx
    obtain ⟨_, _, _, dv, v', q3, q4, q5⟩ := ent_key D.en hx1
    rw [hn, List.getElem?_map] at q3
    obtain ⟨n, hn1, rfl⟩ := Option.map_eq_some_iff.mp q3
    have : v' = .int n := by
      cases q5 with
      | int => rfl
      | ref _ z => cases z
    subst this
    obtain ⟨tk, ht⟩ := q4
    refine ⟨tk, ?_⟩
    rw [e, ← hx2]
    show x.2.2 = Value.int ((ns[i]?).getD 0) tk
    rw [hn1]; exact ht
  · have hk : ∀ b o, s.heap.get? b = some o → s'.heap.get? b = some o := fun b o e =>
      hm.heap b o (fun hI => absurd (Heap.lt_size e) (by rw [List.mem_singleton.mp hI]; exact Nat.lt_irrefl _)) (Heap.get?_push_of_some _ e)
    rw [Moved.eq_with hm]
    refine ⟨.int ns.sum, H, I.kept (t' := s'.toks) hk, ⟨t', ?_⟩, k⟩
    rw [← hlen, preSum_sum]
    intro i n e; rw [e]; rfl
def xSumV (t : PEt) : PEt := fun δ ρ Q => t δ ρ fun d ρ1 => ∃ kvs ns, d = dc kvs ∧ kvs.map (·.2) = List.map PyData.int ns ∧ Q (.int ns.sum) ρ1
theorem jsumV {p : Pos} (hc : X.calm = true) (hm : X.mg "sum" = none) (ha : JC X C e t) (hg : Gl X "sum" := by rfl) (hbase : attributeBase e "values" X.env (eval e X.env) = eval e X.env := by rfl) (hline : (apos.endLine == cpos.line) = true := by rfl)
    (he : starEach [.Call (.Attribute e "values" apos) [] [] cpos] X.env = (false, eval (.Call (.Attribute e "values" apos) [] [] cpos) X.env) :: starEach [] X.env := by rfl) : JE X C (.Call (.Name "sum" p) [.Call (.Attribute e "values" apos) [] [] cpos] [] pos) (xSumV t) :=
  PE.weak (pe_callB (cr_sumVV (C := C) hc) hg hm (by decide +kernel) (pa_cons (pe_values ha hbase hline) pa_nil he) (by decide) (by decide) he rfl) fun σ H Q h => by
    obtain ⟨δ, ρ, F, Q', R, q, k⟩ := h
    refine ⟨δ, ρ, F, fun (kvs : List (PyData × PyData)) ρ1 => ∃ ns, kvs.map (·.2) = List.map PyData.int ns ∧ Q' (.int ns.sum) ρ1, R, ?_, fun p en ep xs kvs ρ1 F1 H1 q g1 R1 hp D q1 n => ?_⟩
    · have : (fun (d : PyData) ρ1 => ∃ kvs ns, d = dc kvs ∧ kvs.map (·.2) = List.map PyData.int ns ∧ Q' (.int ns.sum) ρ1) = fun d ρ1 => ∃ kvs : List (PyData × PyData), d = dc kvs ∧ ∃ ns, kvs.map (·.2) = List.map PyData.int ns ∧ Q' (.int ns.sum) ρ1 := by
        funext d ρ1
        apply propext
        exact ⟨fun ⟨kvs, ns, h1, h2⟩ => ⟨kvs, h1, ns, h2⟩, fun ⟨kvs, h1, ns, h2⟩ => ⟨kvs, ns, h1, h2⟩⟩
      rw [← this]; exact q
    · obtain ⟨ns, hn, q1⟩ := q1
      have g2 := g1.tr (gr_newO (o := vvO q p) n) R1
      have R2 := R1.newO (o := vvO q p) n
      exact ⟨F1, q, p, en, ep, xs, kvs, ns, rfl, R2.frz, upd_same, by rw [upd_ne (ne_of_none hp n)]; exact hp, D, hn, k _ _ ρ1 F1 _ g2 R2 (.int _) q1⟩

/-! ### d.get(k, x) -/
def xDget (td tk tx : PEt) : PEt := fun δ ρ Q => td δ ρ fun d ρ1 => ∃ kvs, d = dc kvs ∧ tk δ ρ1 fun y ρ2 => tx δ ρ2 fun x ρ3 => kOk y ∧ Q ((dlk kvs y).getD x) ρ3
theorem jdget (hP : C.P = X.prog ∧ C.w = X.w) (hu : X.A.units + 100 < cLine) (ho : JC X C e ta) (hk : JE X C a tb) (hx : JE X C b tc)
    (base : attributeBase e "get" X.env (eval e X.env) = eval e X.env := by rfl) (few : ((backTo cpos (starEach [a, b] X.env)).all (fun x => !x.1) && (backToKw cpos (keywordEach [] X.env)).all (fun x => x.1.isSome)
    && decide (([a, b] : List Expr).length + ([] : List Keyword).length + (if ([] : List Keyword).isEmpty then 0 else 1) < 30)) = true := by rfl)
    (line : (apos.endLine == cpos.line) = true := by rfl) (trees : backTo cpos (starEach [a, b] X.env) = [(false, eval a X.env), (false, eval b X.env)] := by rfl) : JE X C (.Call (.Attribute e "get" apos) [a, b] [] cpos) (xDget ta tb tc) := by
  refine ⟨fun pins s σ H Q I h => ?_⟩
  obtain ⟨δ, ρ, F, Q', R0, q, k⟩ := h
  refine wpAny_Call_method base few line PySem.F.plainAttrs_dict PySem.F.slot_dict_get PySem.F.type_dict_get (thn (ho.run pins s σ H (fun v H1 => ∃ kvs ρ1 F1, Gr C F H F1 H1 ∧ Rl C δ ρ1 σ F1 H1 ∧ CIs C F1 H1 v (dc kvs) ∧ tb δ ρ1 fun y ρ2 => tc δ ρ2 fun x ρ3 => kOk y ∧ Q' ((dlk kvs y).getD x) ρ3) I ⟨δ, ρ, F, _, R0, q, fun v d ρ1 F1 H1 g1 R1 i1 q1 => ?_⟩) fun u s1 ⟨x, H1, I1, rx, kvs, ρ1, F1, g1, R1, i1, q1⟩ => ?_)
  · obtain ⟨kvs, rfl, q1⟩ := q1
    exact ⟨kvs, ρ1, F1, g1, R1, i1, q1⟩
  · obtain ⟨p, en, ep, xs, rfl, hp, D⟩ := i1.dct R1.frz
    obtain rfl : u = Value.ref p := rx
    obtain ⟨t1, t2⟩ := noDict_q I1 hp
    refine ⟨t1, t2, ?_⟩
    rw [trees]
    refine Calls.callWith_builtin rfl (Calls.evalArgs_plain (Calls.spliced_cons (thn (hk.run pins s1 σ H1 (fun v H2 => ∃ y ρ2 F2, Gr C F1 H1 F2 H2 ∧ Rl C δ ρ2 σ F2 H2 ∧ C.Is F2 v y ∧ tc δ ρ2 fun x ρ3 => kOk y ∧ Q' ((dlk kvs y).getD x) ρ3) I1 ⟨δ, ρ1, F1, _, R1, q1, fun v y ρ2 F2 H2 g2 R2 i2 q2 => ⟨y, ρ2, F2, g2, R2, i2, q2⟩⟩) fun iv s2 ⟨vy, H2, I2, ry, y, ρ2, F2, g2, R2, i2, q2⟩ =>
      Calls.spliced_cons (thn (hx.run pins s2 σ H2 (fun v H3 => ∃ x ρ3 F3, Gr C F2 H2 F3 H3 ∧ Rl C δ ρ3 σ F3 H3 ∧ C.Is F3 v x ∧ kOk y ∧ Q' ((dlk kvs y).getD x) ρ3) I2 ⟨δ, ρ2, F2, _, R2, q2, fun v x ρ3 F3 H3 g3 R3 i3 q3 => ⟨x, ρ3, F3, g3, R3, i3, q3⟩⟩) fun fv s3 ⟨vx, H3, I3, rz, x, ρ3, F3, g3, R3, i3, ky, q3⟩ => Calls.spliced_nil ?_))))
    have g12 := g2.tr g3 R2
    have nr : C.r ≠ some p := fun z => by
      have := (R1.row p z).2.2.1
      rw [hp] at this; cases this
    have hp3 : H3 p = some (dctO p en ep) := g12.h p _ nr hp
    have D3 : DcAt C F3 p en xs kvs := ⟨D.ns, D.ents, D.nd, D.sz, D.en.mono g12.f⟩
    obtain ⟨q', rfl⟩ := ky.ref i2
    cases ry
    obtain ⟨kk, rfl, hd⟩ := ky.key
    have iy3 : C.Is H3 (.ref q') kk.data := (i2.mono g3.f).mono R3.frz
    refine getOr_keyed (knd := nestedKind X.prog X.w) (by show X.A.units + 1 + 8 < cLine; omega) (key_is I3 hP iy3 hd) D3.ns (D3.keyed I3 hP R3.frz hp3) ?_
    obtain ⟨e1, e2, _⟩ := ent_dlk kk D3.en
    cases hz : dlk kvs kk.data with
    | none =>
      rw [e2 hz]
      rw [hz] at q3
      exact ⟨vx, H3, I3.tok _, rz, k vx x ρ3 F3 H3 (g1.tr g12 R1) R3 i3 q3⟩
    | some r =>
      obtain ⟨u', v', h1, h2, h3⟩ := e1 r hz
      rw [h1]
      rw [hz] at q3
      exact ⟨v', H3, I3.tok _, h2, k v' r ρ3 F3 H3 (g1.tr g12 R1) R3 h3 q3⟩

/-! ### dict(pairs) -/
def isPair : PyData → Prop := fun d => ∃ k v, d = .tuple [k, v] ∧ kOk k
def dpairs (ds : List PyData) : List (PyData × PyData) := ds.foldl (fun acc d => match d with | .tuple [k, v] => dput acc k v | _ => acc) []
end
end HB

set_option Elab.async false
set_option linter.all false
set_option maxRecDepth 100000
set_option maxHeartbeats 4000000
set_option autoImplicit false
namespace HB
open PySem PySem.Spec L2
section
variable {X : Cx} {C : Cc} {a b c e f tg iter : Expr} {ta tb tc t : PEt} {tt tu : PTt} {tas : PAt} {pos p2 apos cpos : Pos} {es rest : List Expr} {st : Stmt} {sts : List Stmt} {s1 s2 s3 : PSt}
variable {δ δ' : Enm} {ρ ρ' : Rw} {σ σ' : L2.St} {F F' H H' : Hp}
abbrev PRow := Addr × (NestedKey × Addr × Value)
inductive Prs (C : Cc) (F : Hp) (h : Heap) : List Value → List PyData → List PRow → Prop
  | nil : Prs C F h [] [] []
  | cons {T q : Addr} {u : Value} {k : NestedKey} {v : V} {vd : PyData} {us : List Value} {ds : List PyData} {rows : List PRow} : h.IsTuple T #[.ref q, u] → C.Is F (.ref q) k.data → k.depth ≤ 8 → RelV v u → C.Is F v vd → Prs C F h us ds rows → Prs C F h (.ref T :: us) (.tuple [k.data, vd] :: ds) ((T, (k, q, u)) :: rows)
theorem prs_of {pins : List (Addr × Obj)} {s : Shared} (I : L2.Inv X pins σ H s) (sm : Same F H) : ∀ {xs : List V} {us : List Value} {ds : List PyData}, IsdA C.P C.w F xs ds → Vals xs us → (∀ d ∈ ds, isPair d) → ∃ rows, Prs C F s.heap us ds rows
  | _, _, _, .nil, r, _ => by cases r; exact ⟨[], .nil⟩
  | _, _, _, .cons (d := d) i1 i2, r, hp => by
    cases r with
    | cons r1 r2 =>
      obtain ⟨rows, h2⟩ := prs_of I sm i2 r2 fun d hd => hp d (List.mem_cons_of_mem _ hd)
      obtain ⟨kd, vd, rfl, hk⟩ := hp d (List.mem_cons_self ..)
      obtain ⟨T, vs, rfl, hT, hv⟩ := tup_inv i1
      cases hv with
      | cons j1 hv =>
        cases hv with
        | cons j2 hv =>
          cases hv
          obtain ⟨q, rfl⟩ := hk.ref j1
          obtain ⟨k, rfl, hd⟩ := hk.key
          cases r1
          obtain ⟨its, rv, ht, _⟩ := I.tuple (SqT.of (sm _ _ hT))
          cases rv with
          | cons k1 rv =>
            cases rv with
            | cons k2 rv =>
              cases rv
              cases k1
              exact ⟨_, .cons ht j1 hd k2 j2 h2⟩
theorem Prs.len {h : Heap} : ∀ {us : List Value} {ds : List PyData} {rows : List PRow}, Prs C F h us ds rows → us.length = rows.length ∧ ds.length = rows.length
  | _, _, _, .nil => ⟨rfl, rfl⟩
  | _, _, _, .cons _ _ _ _ _ p => by obtain ⟨a, b⟩ := Prs.len p; exact ⟨by simp [a], by simp [b]⟩
theorem Prs.at {h : Heap} : ∀ {us : List Value} {ds : List PyData} {rows : List PRow} {j : Nat} {r : PRow}, Prs C F h us ds rows → rows[j]? = some r → us[j]? = some (.ref r.1) ∧ h.IsTuple r.1 #[.ref r.2.2.1, r.2.2.2] ∧ C.Is F (.ref r.2.2.1) r.2.1.data ∧ r.2.1.depth ≤ 8
  | _, _, _, _, _, .nil, e => by simp at e
  | _, _, _, 0, _, .cons h1 h2 h3 _ _ p, e => by simp at e; subst e; exact ⟨rfl, h1, h2, h3⟩
  | _, _, _, j + 1, _, .cons _ _ _ _ _ p, e => by
    obtain ⟨q1, q2⟩ := Prs.at (j := j) p (by simpa using e)
    exact ⟨by simpa using q1, q2⟩
def dput1 (acc : List (PyData × PyData)) (d : PyData) : List (PyData × PyData) := match d with | .tuple [k, v] => dput acc k v | _ => acc
theorem Prs.ent {h : Heap} {us : List Value} {ds : List PyData} {rows : List PRow} (p : Prs C F h us ds rows) : ∀ {xs : List (NestedKey × Addr × Value)} {kvs : List (PyData × PyData)}, Ent C.P C.w F xs kvs → Ent C.P C.w F (storedAllH xs (rows.map (·.2))) (ds.foldl dput1 kvs) := by
  induction p with
  | nil => exact fun e => e
  | cons h1 h2 h3 h4 h5 p ih => exact fun e => ih (ent_stored h2 h3 h4 h5 e)
theorem dputs_len : ∀ (ds : List PyData) (kvs : List (PyData × PyData)), (ds.foldl dput1 kvs).length ≤ kvs.length + ds.length
  | [], kvs => by simp
  | d :: ds, kvs => by
    have h1 := dputs_len ds (dput1 kvs d)
    have h2 : (dput1 kvs d).length ≤ kvs.length + 1 := by
      unfold dput1; split
      · exact dput_len ..
      · omega
    show ((ds.foldl dput1 (dput1 kvs d))).length ≤ _
    rw [List.length_cons]; omega
def rDictP (C : Cc) : List V → Hp → VK → Prop := fun vs H Q => ∃ (F : Hp) (p : Addr) (xs : List V) (ds : List PyData), vs = [.ref p] ∧ Same F H ∧ H p = some (.lst xs) ∧ IsdA C.P C.w F xs ds ∧ (∀ d ∈ ds, isPair d) ∧ ds.length ≤ 100000 ∧
  ∀ l en ep xs', H l = none → DcAt C F l en xs' (ds.foldl dput1 []) → Q (.ref l) (upd H l (dctO l en ep))
theorem cr_dictP (hP : C.P = X.prog ∧ C.w = X.w) (hc : X.calm = true) (hu : X.A.units + 100 < cLine) : CallR X (.type "dict") (rDictP C) := by
  intro pins s σ H vs us Q I r h
  obtain ⟨F, p, xs, ds, rfl, sm, hp, hi, hpr, hl, k⟩ := h
  rw [Vals.ref1 r]
  obtain ⟨its, rv, hL, _⟩ := I.list (SqL.of hp)
  obtain ⟨rows, hrows⟩ := prs_of I sm hi rv hpr
  obtain ⟨l1, l2⟩ := hrows.len
  have row_at : ∀ (j : Nat) kk vv, (rows.map fun r => (Value.ref r.2.2.1, r.2.2.2))[j]? = some (kk, vv) → ∃ r, rows[j]? = some r ∧ kk = .ref r.2.2.1 ∧ vv = r.2.2.2 := fun j kk vv e => by
    rw [List.getElem?_map] at e
    obtain ⟨r, hr, e2⟩ := Option.map_eq_some_iff.mp e
    cases e2
    exact ⟨r, hr, rfl, rfl⟩
  have pa := PairArg.list (prog := X.prog) (w := X.w) p its.toArray (fun j => ((rows.map (·.1))[j]?).getD 0) (rows.map fun r => (Value.ref r.2.2.1, r.2.2.2))
  refine call_dict_pairsH (knd := nestedKind X.prog X.w) (ps := rows.map (·.2)) pa (I.ok.hd hc) (by show X.A.units + 1 + 1 + 8 < cLine; omega) ⟨?_, ?_, fun j kk vv e => ?_⟩ ⟨?_, fun i key v hr => ?_⟩ (fun h' hk x hx => ?_) (by rw [List.length_map, ← l2, sizeLine_eq]; omega) fun h' tk dd hk => ?_
  · obtain ⟨o, n, ho, hcl, hdn, hdt⟩ := hL
    exact ⟨_, n, ho, hcl, hdn, hdt⟩
  · rw [List.size_toArray, List.length_map, l1]
  · obtain ⟨r, hr, rfl, rfl⟩ := row_at j kk vv e
    obtain ⟨q1, q2, _⟩ := hrows.at hr
    have et : ((rows.map (·.1))[j]?).getD 0 = r.1 := by rw [List.getElem?_map, hr]; rfl
    refine ⟨?_, .inl ?_⟩
    · show its.toArray[j]? = some (Value.ref (((rows.map (·.1))[j]?).getD 0))
      rw [et]; simpa using q1
    · show s.heap.IsTuple (((rows.map (·.1))[j]?).getD 0) _
      rw [et]; exact q2
  · rw [List.length_map, List.length_map]
  · obtain ⟨r, hr', rfl, rfl⟩ := row_at i key v hr
    exact ⟨r.2.1, r.2.2.1, by rw [List.getElem?_map, hr']; rfl, rfl⟩
  · obtain ⟨r, hr, rfl⟩ := List.mem_map.mp hx
    obtain ⟨j, hj⟩ := List.getElem?_of_mem hr
    obtain ⟨_, _, q3, q4⟩ := hrows.at hj
    have hk' := key_is I hP (q3.mono sm) q4
    exact nestedKind_stays.stays (fun b o vs n e _ => hk b o (Nat.ne_of_lt (Heap.lt_size e)) (by simp) e) hk'
  · have n := I.hok.fresh (Nat.le_refl s.heap.objs.size)
    have hn : (s.heap.objs.size == sysModules) = false := beq_eq_false_iff_ne.mpr (Ne.symm (Nat.ne_of_lt I.big))
    have hl2 : (ds.foldl dput1 []).length ≤ 100001 := by have := dputs_len ds []; simp at this; omega
    obtain ⟨en, ep, hr, D⟩ := ofH_dc (C := C) (F := F) (X := X) hP dd hn (hrows.ent Ent.nil) hl2
    exact ⟨.ref s.heap.objs.size, _, I.laid (a := s.heap.objs.size) (o := dctO s.heap.objs.size en ep) (t' := tk) (fun b o e => hk b o (by simp) e) (Nat.le_refl _) (dctO_ok hr), rfl, k _ en ep _ n D⟩
def xDictOf (t : PEt) : PEt := fun δ ρ Q => t δ ρ fun d ρ1 => ∃ ds, d = .list ds ∧ (∀ d ∈ ds, isPair d) ∧ ds.length ≤ 100000 ∧ Q (dc (ds.foldl dput1 [])) ρ1
theorem jdictOf {p : Pos} (hP : C.P = X.prog ∧ C.w = X.w) (hc : X.calm = true) (hu : X.A.units + 100 < cLine) (hm : X.mg "dict" = none) (ha : JC X C e t) (hg : Gl X "dict" := by rfl) (he : starEach [e] X.env = (false, eval e X.env) :: starEach [] X.env := by rfl) : JF X C (.Call (.Name "dict" p) [e] [] pos) (xDictOf t) :=
  PE.weak (pe_callTy (cr_dictP (C := C) hP hc hu) hg hm (by decide +kernel) (pa_cons ha pa_nil he) (by decide) (by decide) he rfl) fun σ H Q h => by
    obtain ⟨δ, ρ, F, Q', R, q, k⟩ := h
    refine ⟨δ, ρ, F, _, R, q, fun v d ρ1 F1 H1 g1 R1 i1 q1 => ?_⟩
    obtain ⟨ds, rfl, so, sl, q1⟩ := q1
    obtain ⟨p, vs, rfl, hp, hv⟩ := i1.lst R1.frz
    exact ⟨F1, p, vs, ds, rfl, R1.frz, hp, hv, so, sl, fun l en ep xs' n D => k l _ _ ρ1 F1 _ (g1.tr (gr_newO n) R1) (R1.newO n) (g1.free R1 n) (R1.freeF n) upd_same (.dct D.ns D.ents D.nd D.sz D.en) q1⟩
end
end HB

set_option Elab.async false
set_option linter.all false
set_option maxRecDepth 100000
set_option maxHeartbeats 4000000
set_option autoImplicit false
namespace HB
open PySem PySem.Spec L2
section
variable {X : Cx} {C : Cc} {a b c e f tg iter : Expr} {ta tb tc t : PEt} {tt tu : PTt} {tas : PAt} {pos p2 apos cpos : Pos} {es rest : List Expr} {st : Stmt} {sts : List Stmt} {s1 s2 s3 : PSt}
variable {δ δ' : Enm} {ρ ρ' : Rw} {σ σ' : L2.St} {F F' H H' : Hp}

/-! ### several values, some owned, given to several names -/
abbrev PMt := Enm → Rw → (List Slo → Rw → Prop) → Prop
/-- vs are what ss say; the owned ones stand apart from each other and from the slots -/
inductive Mx (C : Cc) (δ : Enm) (σ : L2.St) (F H : Hp) : List V → List Slo → Prop
  | nil : Mx C δ σ F H [] []
  | cons {v : V} {s : Slo} {vs : List V} {ss : List Slo} : SlV C F H v s → Apt δ σ v s → (∀ d, s = .ow d → ∀ (j : Nat) d', ss[j]? = some (.ow d') → vs[j]? ≠ some v) → Mx C δ σ F H vs ss → Mx C δ σ F H (v :: vs) (s :: ss)
def LM (C : Cc) (t : PMt) : TA := fun σ H Q => ∃ δ ρ F Q', Rl C δ ρ σ F H ∧ t δ ρ Q' ∧ ∀ vs ss ρ' F' H', Gr C F H F' H' → Rl C δ ρ' σ F' H' → Mx C δ σ F' H' vs ss → (∀ (j : Nat) d a, ss[j]? = some (.ow d) → vs[j]? = some (.ref a) → H a = none) → Q' ss ρ' → Q vs H'
abbrev JM (X : Cx) (C : Cc) (es : List Expr) (t : PMt) : Prop := PA X es (LM C t)
def xMn : PMt := fun _ ρ Q => Q [] ρ
def xMf (t : PEt) (u : PMt) : PMt := fun δ ρ Q => t δ ρ fun d ρ1 => u δ ρ1 fun ss ρ2 => Q (.fz d :: ss) ρ2
def xMo (t : PEt) (u : PMt) : PMt := fun δ ρ Q => t δ ρ fun d ρ1 => u δ ρ1 fun ss ρ2 => Q (.ow d :: ss) ρ2
theorem jmnil : JM X C [] xMn := PA.weak' pa_nil fun σ H Q h => by
  obtain ⟨δ, ρ, F, Q', R, q, k⟩ := h
  exact k [] [] ρ F H Gr.refl R .nil (fun j d a e _ => by simp at e) q
theorem SlV.grow {v : V} {s : Slo} (h : SlV C F H v s) (g : Gr C F H F' H') (R : Rl C δ ρ σ F H) : SlV C F' H' v s := by
  cases s with
  | no => trivial
  | fz d => exact h.mono g.f
  | ow d =>
    obtain ⟨a, o, rfl, h1, h2, h3, h4⟩ := h
    exact ⟨a, o, rfl, by rw [g.e a o h3, h1], h2, g.h a o (fun z => (R.row a z).1 h2) h3, h4.mono g.f⟩
  | row => exact h.elim
theorem jmfz {u : PMt} (ha : JE X C e t) (hr : JM X C es u) (hs : starEach (e :: es) X.env = (false, eval e X.env) :: starEach es X.env := by rfl) : JM X C (e :: es) (xMf t u) := PA.weak' (pa_cons ha hr hs) fun σ H Q h => by
  obtain ⟨δ, ρ, F, Q', R, q, k⟩ := h
  refine ⟨δ, ρ, F, _, R, q, fun v d ρ1 F1 H1 g1 R1 i1 q1 => ⟨δ, ρ1, F1, _, R1, q1, fun vs ss ρ2 F2 H2 g2 R2 m2 n2 q2 => ?_⟩⟩
  refine k _ _ ρ2 F2 H2 (g1.tr g2 R1) R2 (.cons (show SlV C F2 H2 v (.fz d) from i1.mono g2.f) apt_fz (fun _ z => by cases z) m2) (fun j d' a e1 e2 => ?_) q2
  cases j with
  | zero => simp at e1
  | succ j => exact g1.free R1 (n2 j d' a (by simpa using e1) (by simpa using e2))
theorem jmow {u : PMt} (ha : JF X C e t) (hr : JM X C es u) (hs : starEach (e :: es) X.env = (false, eval e X.env) :: starEach es X.env := by rfl) : JM X C (e :: es) (xMo t u) := PA.weak' (pa_cons ha hr hs) fun σ H Q h => by
  obtain ⟨δ, ρ, F, Q', R, q, k⟩ := h
  refine ⟨δ, ρ, F, _, R, q, fun a o d ρ1 F1 H1 g1 R1 n1 f1 h1 hd q1 => ⟨δ, ρ1, F1, _, R1, q1, fun vs ss ρ2 F2 H2 g2 R2 m2 n2 q2 => ?_⟩⟩
  have sv : SlV C F1 H1 (.ref a) (.ow d) := ⟨a, o, rfl, f1, R.h0 n1, h1, hd⟩
  refine k _ _ ρ2 F2 H2 (g1.tr g2 R1) R2 (.cons (sv.grow g2 R1) (apt_new R n1) (fun _ _ j d' e1 e2 => ?_) m2) (fun j d' a' e1 e2 => ?_) q2
  · have := n2 j d' a e1 e2
    rw [h1] at this; cases this
  · cases j with
    | zero => simp at e2; rw [← e2]; exact n1
    | succ j => exact g1.free R1 (n2 j d' a' (by simpa using e1) (by simpa using e2))
theorem Mx.grow {vs : List V} {ss : List Slo} (m : Mx C δ σ F H vs ss) (g : Gr C F H F' H') (R : Rl C δ ρ σ F H) : Mx C δ σ F' H' vs ss := by
  induction m with
  | nil => exact .nil
  | cons h1 h2 h3 m ih => exact .cons (h1.grow g R) h2 h3 ih
/-- the slots is_ set to ss -/
def setS (δ : Enm) : List Nat → List Slo → Enm
  | i :: is_, s :: ss => setS (δ.set i s) is_ ss
  | _, _ => δ
def setV (σ : L2.St) : List Nat → List V → L2.St
  | i :: is_, v :: vs => setV (σ.set i (some v)) is_ vs
  | _, _ => σ
theorem Mx.tailset {i : Nat} {v : V} {s : Slo} {vs : List V} {ss : List Slo} (m : Mx C δ σ F H vs ss) (hl : δ.length = σ.length) (hs : ∀ d, s = .ow d → ∀ (j : Nat) d', ss[j]? = some (.ow d') → vs[j]? ≠ some v) : Mx C (δ.set i s) (σ.set i (some v)) F H vs ss := by
  induction m with
  | nil => exact .nil
  | @cons v' s' vs' ss' h1 h2 h3 m ih =>
    refine .cons h1 (fun d hd j dj e1 e2 => ?_) h3 (ih fun d hd j d' e1 e2 => hs d hd (j + 1) d' (by simpa using e1) (by simpa using e2))
    by_cases hj : i = j
    · subst hj
      have hi : i < δ.length := by
        have := (List.getElem?_eq_some_iff.mp e1).1; rwa [List.length_set] at this
      rw [List.getElem?_set_self hi] at e1
      rw [List.getElem?_set_self (by rw [← hl]; exact hi)] at e2
      cases e1
      have := Option.some.inj (Option.some.inj e2)
      exact hs dj rfl 0 d (by simp [hd]) (by simp [this])
    · rw [List.getElem?_set_ne hj] at e1 e2
      exact h2 d hd j dj e1 e2
theorem Rl.setMany : ∀ {is_ : List Nat} {δ : Enm} {σ : L2.St} {vs : List V} {ss : List Slo}, Rl C δ ρ σ F H → Mx C δ σ F H vs ss → Rl C (setS δ is_ ss) ρ (setV σ is_ vs) F H
  | [], _, _, _, _, R, _ => by simpa [setS, setV] using R
  | _ :: _, _, _, _, _, R, .nil => by simpa [setS, setV] using R
  | i :: is_, _, _, _, _, R, .cons h1 h2 h3 m => Rl.setMany (is_ := is_) (R.set h1 h2) (m.tailset R.len h3)
def sMix (is_ : List Nat) (t : PMt) : PSt := fun D δ ρ => t δ ρ fun ss ρ1 => ss.length = is_.length ∧ D.nx (setS δ is_ ss) ρ1
theorem mx_len {vs : List V} {ss : List Slo} (m : Mx C δ σ F H vs ss) : vs.length = ss.length := by
  induction m with
  | nil => rfl
  | cons _ _ _ _ ih => rw [List.length_cons, List.length_cons, ih]
theorem len2 {α : Type} {l : List α} (h : l.length = 2) : ∃ x y, l = [x, y] := by
  match l, h with
  | [x, y], _ => exact ⟨x, y, rfl⟩
theorem len3 {α : Type} {l : List α} (h : l.length = 3) : ∃ x y z, l = [x, y, z] := by
  match l, h with
  | [x, y, z], _ => exact ⟨x, y, z, rfl⟩
/-- a, b = x, y of local names: stored from the right, no tuple -/
theorem jpar2 {i j : Nat} {is_ : List Nat} {x y : Str} {px py pt : Pos} {kt k2 : Nat} {pt2 : Pos} {u : PMt} (hN : X.N.Nodup) (ha : JM X C [a, b] u) (his : is_ = [i, j] := by rfl) (hc : X.calm = true := by rfl) (hi : X.N[i]? = some x := by rfl) (hj : X.N[j]? = some y := by rfl) (hij : i ≠ j := by decide)
    (hx : X.env.scope.names.lookup x = some .local := by rfl) (hy : X.env.scope.names.lookup y = some .local := by rfl)
    (hw : swappedStores [.Tuple [.Name x px, .Name y py] kt pt] (.Tuple [a, b] k2 pt2) X.env = pure (some [x, y]) := by rfl)
    (hs : swapsWithSole [.Tuple [.Name x px, .Name y py] kt pt] (.Tuple [a, b] k2 pt2) pos.line X.env = pure false := by rfl) : JS X C (.Assign [.Tuple [.Name x px, .Name y py] kt pt] (.Tuple [a, b] k2 pt2) pos) (sMix is_ u) := PS.weak (ps_par hc hN hi hj hij hx hy ha hw hs) fun D σ H h => by
  subst his
  obtain ⟨δ, ρ, F, D', R, q, E⟩ := h
  refine ⟨δ, ρ, F, _, R, q, fun vs ss ρ1 F1 H1 g1 R1 m1 n1 q1 => ?_⟩
  obtain ⟨hl, q1⟩ := q1
  obtain ⟨v, w, rfl⟩ := len2 ((mx_len m1).trans hl)
  exact ⟨v, w, rfl, E.nx _ ρ1 _ F1 H1 g1.f (R1.setMany m1) q1⟩
/-- .. by way of a tuple -/
theorem jmix2 {i j : Nat} {is_ : List Nat} {x y : Str} {px py pt : Pos} {kt k2 : Nat} {pt2 : Pos} {u : PMt} (hN : X.N.Nodup) (ha : JM X C [a, b] u) (his : is_ = [i, j] := by rfl) (hc : X.calm = true := by rfl) (hi : X.N[i]? = some x := by rfl) (hj : X.N[j]? = some y := by rfl)
    (hx : Loc X.env.scope x := by first | exact .inl rfl | exact .inr rfl) (hy : Loc X.env.scope y := by first | exact .inl rfl | exact .inr rfl) (fx : X.fn x = true := by rfl) (fy : X.fn y = true := by rfl)
    (hs : swapsWithSole [.Tuple [.Name x px, .Name y py] kt pt] (.Tuple [a, b] k2 pt2) pos.line X.env = pure false := by rfl) (hw : swappedStores [.Tuple [.Name x px, .Name y py] kt pt] (.Tuple [a, b] k2 pt2) X.env = pure none := by rfl) :
    JS X C (.Assign [.Tuple [.Name x px, .Name y py] kt pt] (.Tuple [a, b] k2 pt2) pos) (sMix is_ u) :=
  PS.weak (ps_asg (pe_tup ha) (pg_tup hc (pgs_cons (pg_name (i := i) hN hi hx (.inl fx)) (pgs_cons (pg_name (i := j) hN hj hy (.inl fy)) pgs_nil)) (n := 2) (by rfl) (by rfl)) hs hw) fun D σ H h => by
  subst his
  obtain ⟨δ, ρ, F, D', R, q, E⟩ := h
  refine ⟨δ, ρ, F, _, R, q, fun vs ss ρ1 F1 H1 g1 R1 m1 n1 q1 => ?_⟩
  obtain ⟨hl, q1⟩ := q1
  obtain ⟨v, w, rfl⟩ := len2 ((mx_len m1).trans hl)
  refine ⟨by show 2 ≤ sizeLine; decide, fun p n => ⟨p, [v, w], rfl, SqT.of upd_same, rfl, v, [w], rfl, w, [], rfl, rfl, ?_⟩⟩
  have m2 := m1.grow (gr_newO (o := .tup [v, w]) n) R1
  exact E.nx _ ρ1 _ F1 _ g1.f ((R1.newO n).setMany m2) q1
/-- three at a time -/
theorem jmix3 {i j l : Nat} {is_ : List Nat} {x y z : Str} {px py pz pt : Pos} {kt k2 : Nat} {pt2 : Pos} {u : PMt} (hN : X.N.Nodup) (ha : JM X C [a, b, c] u) (his : is_ = [i, j, l] := by rfl) (hc : X.calm = true := by rfl) (hi : X.N[i]? = some x := by rfl) (hj : X.N[j]? = some y := by rfl) (hk : X.N[l]? = some z := by rfl)
    (hx : Loc X.env.scope x := by first | exact .inl rfl | exact .inr rfl) (hy : Loc X.env.scope y := by first | exact .inl rfl | exact .inr rfl) (hz : Loc X.env.scope z := by first | exact .inl rfl | exact .inr rfl) (fx : X.fn x = true := by rfl) (fy : X.fn y = true := by rfl) (fz : X.fn z = true := by rfl)
    (hs : swapsWithSole [.Tuple [.Name x px, .Name y py, .Name z pz] kt pt] (.Tuple [a, b, c] k2 pt2) pos.line X.env = pure false := by rfl) (hw : swappedStores [.Tuple [.Name x px, .Name y py, .Name z pz] kt pt] (.Tuple [a, b, c] k2 pt2) X.env = pure none := by rfl) :
    JS X C (.Assign [.Tuple [.Name x px, .Name y py, .Name z pz] kt pt] (.Tuple [a, b, c] k2 pt2) pos) (sMix is_ u) :=
  PS.weak (ps_asg (pe_tup ha) (pg_tup hc (pgs_cons (pg_name (i := i) hN hi hx (.inl fx)) (pgs_cons (pg_name (i := j) hN hj hy (.inl fy)) (pgs_cons (pg_name (i := l) hN hk hz (.inl fz)) pgs_nil))) (n := 3) (by rfl) (by rfl)) hs hw) fun D σ H h => by
  subst his
  obtain ⟨δ, ρ, F, D', R, q, E⟩ := h
  refine ⟨δ, ρ, F, _, R, q, fun vs ss ρ1 F1 H1 g1 R1 m1 n1 q1 => ?_⟩
  obtain ⟨hl, q1⟩ := q1
  obtain ⟨v, w, u, rfl⟩ := len3 ((mx_len m1).trans hl)
  refine ⟨by show 3 ≤ sizeLine; decide, fun p n => ⟨p, [v, w, u], rfl, SqT.of upd_same, rfl, v, [w, u], rfl, w, [u], rfl, u, [], rfl, rfl, ?_⟩⟩
  have m2 := m1.grow (gr_newO (o := .tup [v, w, u]) n) R1
  exact E.nx _ ρ1 _ F1 _ g1.f ((R1.newO n).setMany m2) q1
end
end HB

set_option Elab.async false
set_option linter.all false
set_option maxRecDepth 100000
set_option maxHeartbeats 4000000
set_option autoImplicit false
namespace HB
open PySem PySem.Spec L2
/-! ### enumerate(tuple) -/
theorem meets_enumB1 {v : Value} {o : Obj} {Hh : Heap → Prop} (B : Begins v o Hh) :
    Meets (Builtin.«enumerate.__new__» ⟨[.type "enumerate", v], []⟩) (fun _ R s => Hh s.heap ∧
      R (.ok (.ret (.ref (s.heap.push o).objs.size))) { s with heap := (s.heap.push o).push { cls := .type "enumerate", data := .fields #[.none, .bool false, .ref s.heap.objs.size, rawInt 0, .none, .none] } }) :=
  .of_wp fun prog w A R s h => by
    obtain ⟨hp, g, d, tk, os⟩ := s; obtain ⟨h1, h⟩ := h
    have hsub := sub_enumerate
    have q1 : ∀ {A' : Around} {E : Value → Shared → Prop} {Q : Value → Shared → Prop}, Q (.ref hp.objs.size) ⟨hp.push o, g, d, tk, os⟩ → wpAny (model prog w) A' (pyIter v) Q E ⟨hp, g, d, tk, os⟩ :=
      fun q => B.iter prog w _ _ ⟨hp, g, d, tk, os⟩ _ h1 q
    wp_walk using q1
    refine wpAny_stack_any fun st => wpAny_pure ?_
    split
    · rename_i c _ _ _ _ _
      cases (c == Value.type "enumerate")
      · wp_walk using q1
        exact ⟨_, rfl, h⟩
      · wp_walk using q1
        exact ⟨_, rfl, h⟩
    · wp_walk using q1
      exact ⟨_, rfl, h⟩
theorem call_enumT {prog : Program} {w : World} {A : Around} {E : Value → Shared → Prop} {s : Shared} {t : Addr} {items : Array Value} {Q : Value → Shared → Prop} (hT : s.heap.IsTuple t items)
    (h : ∀ h', IsEnum h' (s.heap.objs.size + 1) s.heap.objs.size 0 .none → h'.IsTupleIter s.heap.objs.size t 0 →
      (∀ b o, s.heap.get? b = some o → h'.get? b = some o) → Q (.ref (s.heap.objs.size + 1)) { s with heap := h' }) :
    wpAny (model prog w) A (call (.type "enumerate") [.ref t]) Q E s := by
  refine callType_new F.called_enumerate (by decide) (F.typeCall_enumerate_1 _) (F.newCall_enumerate_1 _) (fun obj => F.args_object_init_2 obj _) F.entry_enumerate_new
    (meets_enumB1 (begins_tuple t items)) ⟨hT, ?_⟩
  generalize ho : ({ cls := .type "tuple_iterator", data := .fields #[.ref t, .int 0 0] } : Obj) = o
  have hfr : o.isFreed = false := by rw [← ho]; rfl
  have hz : (s.heap.push o).objs.size = s.heap.objs.size + 1 := Heap.size_push ..
  show _ ∧ _
  rw [hz]
  have he : IsEnum ((s.heap.push o).push { cls := .type "enumerate", data := .fields #[.none, .bool false, .ref s.heap.objs.size, rawInt 0, .none, .none] }) (s.heap.objs.size + 1) s.heap.objs.size 0 .none := by
    have := Heap.get?_push_size (s.heap.push o) (o := { cls := .type "enumerate", data := .fields #[.none, .bool false, .ref s.heap.objs.size, rawInt 0, .none, .none] }) rfl
    rw [hz] at this; exact this
  refine ⟨⟨_, he, rfl⟩, h _ he ⟨o, Heap.get?_push_of_some _ (Heap.get?_push_size _ hfr), by rw [← ho], by rw [← ho]; rfl⟩ fun b o x => Heap.get?_push_of_some _ (Heap.get?_push_of_some _ x)⟩
/-- the tuple at a, each item in a new pair -/
def Iet (K : PySem.W.Frag) (a : Addr) (n : Nat) : It :=
  ⟨fun i H => i < n ∧ ∃ (xs : List V) (x : V), SqT K H a xs ∧ xs[i]? = some x, fun i H v H' => ∃ T x, v = .ref T ∧ H T = none ∧ H' = upd H T (.tup [.int (i : Nat), x]) ∧ ∀ xs, SqT K H a xs → xs[i]? = some x, fun i H => n ≤ i ∧ ∃ xs : List V, SqT K H a xs ∧ xs.length = n⟩
theorem turn_enumT {P : Program} {w : World} {K : PySem.W.Frag} {elts : List Expr} {kk : Nat} {tpos : Pos} (a e it : Addr) (n : Nat) :
    Turn P w K (.Tuple elts kk tpos) (Iet K a n) [e, it] e (fun i h => (∃ old, IsEnum h e it ((i : Nat) : Int) old) ∧ h.IsTupleIter it a i ∧ e ≠ it ∧ i ≤ n) where
  mem := by simp
  obj := fun i h st b hb => by
    obtain ⟨⟨old, he⟩, ⟨o, ho, hc, hd⟩, _⟩ := st
    have e' : b = e ∨ b = it := by simpa using hb
    rcases e' with z | z
    · rw [z]; exact ⟨_, he, fun v q => nomatch q⟩
    · rw [z]; exact ⟨o, ho, fun v q => by rw [hd] at q; cases q⟩
  keep := fun i h h' st k => let ⟨⟨old, he⟩, hi, hne, hin⟩ := st; ⟨⟨old, k e (by simp) _ he⟩, hi.at fun o q => k it (by simp) o q, hne, hin⟩
  item := by
    intro X hP hw hK hc i pins s σ H E I hf st hg
    subst hP hw hK
    obtain ⟨⟨old, he⟩, hit, hne, hin⟩ := st
    obtain ⟨hgo, xs, x, hq, hx⟩ := hg
    obtain ⟨its, rv, p, hz⟩ := I.tuple hq
    obtain ⟨u, hu, ru⟩ := rv.get hx
    have hT : s.heap.IsTuple a its.toArray := p
    have hat : a ≠ it := fun z => by
      subst z
      obtain ⟨o1, e1, c1, _⟩ := hT
      obtain ⟨o2, e2, c2, _⟩ := hit
      rw [e1] at e2; cases e2
      rw [c1] at c2; exact absurd c2 (by decide)
    have hae : e ≠ a := fun z => by
      subst z
      obtain ⟨o1, e1, c1, _⟩ := hT
      have e2 : s.heap.get? e = _ := he
      rw [e1] at e2; cases e2
      have c3 : Value.type "enumerate" = Value.type "tuple" := c1
      exact absurd c3 (by decide)
    have D := Draws.tuple (prog := X.prog) (w := X.w) (A := X.A.in1) (I.ok.hd hc) it a hat its.toArray
    have hel : e < s.heap.objs.size := Heap.lt_size he
    have hil : it < s.heap.objs.size := by obtain ⟨_, q, _⟩ := hit; exact Heap.lt_size q
    have hlt : i < its.toArray.size := by
      have := (List.getElem?_eq_some_iff.mp hu).1; simpa using this
    refine wpAny_pyNext_enum_itemC D he ⟨hit, hT⟩ hlt hne (by simp [hne, hae]) fun x2 h' tk hx2 ho hit' hTT hsz hk => ?_
    have ex2 : x2 = u := by
      have h1 : its.toArray[i]? = some x2 := hx2
      have h2 : its.toArray[i]? = some u := by simpa using hu
      rw [h1] at h2; exact Option.some.inj h2
    subst ex2
    refine ⟨_, rfl, wpAny_letOwnedTupleGo_enum (s := { s with heap := h', toks := tk + 1 }) ho fun h'' he' sb => ?_⟩
    have hT2 : h''.get? s.heap.objs.size = some { cls := .type "tuple", data := .seq #[.int i tk, x2] } := (sb.2 _ (Nat.ne_of_gt hel)).trans hTT
    have new : ObjOk X.prog X.w (upd H s.heap.objs.size (.tup [.int (i : Nat), x])) h'' s.heap.objs.size (.tup [.int (i : Nat), x]) :=
      ⟨by show 2 ≤ sizeLine; decide, [.int i tk, x2], .cons ⟨_, rfl⟩ (.cons ru .nil), ⟨_, hT2, rfl, _, rfl⟩⟩
    have I1 : Inv X pins σ (upd H s.heap.objs.size (.tup [.int (i : Nat), x])) { s with heap := h'', toks := tk + 1 } :=
      I.turnedNew (ch := [e, it]) (fun b ob hb q => (sb.2 b (fun z => hb (by simp [z]))).trans (hk b ob (fun z => hb (by simp [z])) (fun z => hb (by simp [z])) q)) hf (Nat.le_refl _) new
    refine ⟨.ref s.heap.objs.size, _, I1, rfl, ⟨_, x, rfl, I.hok.fresh (Nat.le_refl _), rfl, fun ys hy => by rw [I.tuple_inj hy hq]; exact hx⟩, ⟨⟨x2, ?_⟩, hit'.1.at fun o q => (sb.2 it (Ne.symm hne)).trans q, hne, hgo⟩, fun b hb => ?_⟩
    · have e1 : ((i + 1 : Nat) : Int) = (i : Int) + 1 := by omega
      rw [e1]; exact he'
    · have hb' : b < s.heap.objs.size := by
        have e' : b = e ∨ b = it := by simpa using hb
        rcases e' with z | z
        · rw [z]; exact hel
        · rw [z]; exact hil
      rw [upd_ne (Nat.ne_of_lt hb')]
      exact (hf b hb).1
  done := by
    intro X hP hw hK hc i pins s σ H E I hf st hg
    subst hP hw hK
    obtain ⟨⟨old, he⟩, hit, hne, hin⟩ := st
    obtain ⟨hst', xs, hq, hx⟩ := hg
    obtain ⟨its, rv, p, hz⟩ := I.tuple hq
    have hT : s.heap.IsTuple a its.toArray := p
    have hat : a ≠ it := fun z => by
      subst z
      obtain ⟨o1, e1, c1, _⟩ := hT
      obtain ⟨o2, e2, c2, _⟩ := hit
      rw [e1] at e2; cases e2
      rw [c1] at c2; exact absurd c2 (by decide)
    have D := Draws.tuple (prog := X.prog) (w := X.w) (A := X.A.in1) (I.ok.hd hc) it a hat its.toArray
    obtain ⟨f0, f1, f2, f3, f4, f5⟩ := hf it (by simp)
    have hl := rv.length
    have hsz : its.toArray.size = i := by simp; omega
    have hst : s.heap.IsTupleIter it a its.toArray.size := by rw [hsz]; exact hit
    exact wpAny_pyNext_enum_endD D he ⟨hst, hT⟩ fun h' eb => ⟨rfl, I.turned (t' := s.toks) (fun b o hb q => eb b o hb q) f0 f1 f3 f4 f5⟩
  self := fun A i s Q E st h => let ⟨⟨_, he⟩, _⟩ := st; wpAny_pyIter_enum he h
def iEnumT (K : PySem.W.Frag) (te : TE) : TI := fun σ H R => te σ H fun x H1 => ∃ a xs, x = .ref a ∧ SqT K H1 a xs ∧ R (Iet K a xs.length) H1
open PyProof.Rows in
theorem pi_enumT {X : Cx} {e : Expr} {te : TE} {p pos tpos : Pos} {elts : List Expr} {kk : Nat} (hg : Gl X "enumerate") (hm : X.mg "enumerate" = none) (ha : PE X e te) (hs : starEach [e] X.env = (false, eval e X.env) :: starEach [] X.env := by rfl) :
    PI X (.Tuple elts kk tpos) (.Call (.Name "enumerate" p) [e] [] pos) (iEnumT X.K te) := by
  refine ⟨fun pins s σ H R I h => ?_⟩
  refine PyProof.Rows.Call_ (ld_blt I hg hm boot_enumerate (PyProof.Rows.callWith_type1 (args_cons (thn (ha.run pins s σ H _ I h) fun us s1 ⟨v, H1, I1, r1, q1⟩ => args_nil ?_) hs) hs))
  obtain ⟨a, xs, rfl, hq, q⟩ := q1
  cases r1
  obtain ⟨its, rv, p', hz⟩ := I1.tuple hq
  refine call_enumT (show s1.heap.IsTuple a its.toArray from p') fun h' he hit hk => wpAny_pyIter_enum he ?_
  have I2 : Inv X pins σ H1 { s1 with heap := h' } := I1.kept (t' := s1.toks) hk
  refine ⟨s1.heap.objs.size + 1, [s1.heap.objs.size + 1, s1.heap.objs.size], _, _, H1, rfl, I2, turn_enumT a (s1.heap.objs.size + 1) s1.heap.objs.size xs.length, ⟨⟨.none, he⟩, hit, Nat.succ_ne_self _, Nat.zero_le _⟩, fun b hb => ?_, q⟩
  have e' : b = s1.heap.objs.size + 1 ∨ b = s1.heap.objs.size := by simpa using hb
  have hle : s1.heap.objs.size ≤ b := by
    rcases e' with z | z
    · rw [z]; exact Nat.le_add_right _ _
    · rw [z]; exact Nat.le_refl _
  exact I1.fpOk hle (I1.hok.fresh hle)
section
variable {X : Cx} {C : Cc} {a b c e tg iter : Expr} {ta tb tc t : PEt} {tt tu : PTt} {tas : PAt} {pos p2 : Pos} {es rest : List Expr} {st : Stmt} {sts : List Stmt} {s1 s2 s3 : PSt}
variable {δ δ' : Enm} {ρ ρ' : Rw} {σ σ' : L2.St} {F F' H H' : Hp}
def enD (ds : List PyData) : List PyData := (List.range ds.length).map fun i => .tuple [.int (i : Nat), ds.getD i .none]
theorem enD_len (ds : List PyData) : (enD ds).length = ds.length := by simp [enD]
theorem enD_at {ds : List PyData} {i : Nat} {x : PyData} (h : ds[i]? = some x) : (enD ds)[i]? = some (.tuple [.int (i : Nat), x]) := by
  obtain ⟨hi, e⟩ := List.getElem?_eq_some_iff.mp h
  simp [enD, hi, e]
theorem src_enT {K : PySem.W.Frag} {p : Addr} {vs : List V} {ds : List PyData} (hp : F p = some (.tup vs)) (hv : IsdA C.P C.w F vs ds) : SrcOk C (Iet K p vs.length) (enD ds) F where
  turn := fun F1 H1 i s1 s2 hi => by
    rw [enD_len] at hi
    obtain ⟨v, e1, e2⟩ := hv.get (List.getElem?_eq_getElem hi)
    have hs : SqT K H1 p vs := SqT.of (s2 _ _ (s1 _ _ hp))
    refine ⟨⟨by rw [hv.length]; exact hi, vs, v, hs, e1⟩, fun w H2 y => ?_⟩
    obtain ⟨T, x, rfl, n, rfl, y⟩ := y
    have := Option.some.inj ((y _ hs).symm.trans e1)
    subst this
    refine ⟨upd F1 T (.tup [.int (i : Nat), x]), _, enD_at (List.getElem?_eq_getElem hi), gr_new n s2, same_new n s2, fun r _ z => upd_ne fun y => z (by rw [y]; exact n), .ref upd_same (.tup (.cons (.int _) (.cons ((e2.mono s1).mono (gr_new (C := C) n s2).f) .nil)))⟩
  stop := fun F1 H1 i s1 s2 hi => by
    rw [enD_len] at hi
    exact ⟨by rw [hv.length]; exact hi, vs, SqT.of (s2 _ _ (s1 _ _ hp)), rfl⟩
def iEnT (t : PEt) : PIt := fun δ ρ Q => t δ ρ fun d ρ1 => ∃ ds, d = .tuple ds ∧ Q (enD ds) ρ1
def iEnL (t : PEt) : PIt := fun δ ρ Q => t δ ρ fun d ρ1 => ∃ ds, d = .list ds ∧ Q (enD ds) ρ1
theorem jiEnT {elts : List Expr} {kk : Nat} {p tpos : Pos} (hm : X.mg "enumerate" = none) (he : JE X C e t) (hg : Gl X "enumerate" := by rfl) (hs : starEach [e] X.env = (false, eval e X.env) :: starEach [] X.env := by rfl) :
    JI X C (.Tuple elts kk tpos) (.Call (.Name "enumerate" p) [e] [] pos) (iEnT t) := PI.weak (pi_enumT hg hm he hs) fun σ H R h => by
  obtain ⟨δ, ρ, F, Q', R, q, k⟩ := h
  refine ⟨δ, ρ, F, _, R, q, fun v d ρ1 F1 H1 g1 R1 i1 q1 => ?_⟩
  obtain ⟨ds, rfl, q1⟩ := q1
  obtain ⟨p, vs, rfl, hp, hv⟩ := tup_inv i1
  exact ⟨p, vs, rfl, SqT.of (R1.frz _ _ hp), k _ _ ρ1 F1 H1 g1 R1 (src_enT hp hv) q1⟩
theorem src_enL {K : PySem.W.Frag} {p : Addr} {vs : List V} {ds : List PyData} (hp : F p = some (.lst vs)) (hv : IsdA C.P C.w F vs ds) : SrcOk C (Ite K p) (enD ds) F where
  turn := fun F1 H1 i s1 s2 hi => by
    rw [enD_len] at hi
    obtain ⟨v, e1, e2⟩ := hv.get (List.getElem?_eq_getElem hi)
    have hs : SqL K H1 p vs := SqL.of (s2 _ _ (s1 _ _ hp))
    refine ⟨⟨vs, v, hs, e1⟩, fun w H2 y => ?_⟩
    obtain ⟨T, x, rfl, n, rfl, y⟩ := y
    have := Option.some.inj ((y _ hs).symm.trans e1)
    subst this
    refine ⟨upd F1 T (.tup [.int (i : Nat), x]), _, enD_at (List.getElem?_eq_getElem hi), gr_new n s2, same_new n s2, fun r _ z => upd_ne fun y => z (by rw [y]; exact n), .ref upd_same (.tup (.cons (.int _) (.cons ((e2.mono s1).mono (gr_new (C := C) n s2).f) .nil)))⟩
  stop := fun F1 H1 i s1 s2 hi => by
    rw [enD_len] at hi
    exact ⟨vs, SqL.of (s2 _ _ (s1 _ _ hp)), by rw [hv.length]; exact hi⟩
theorem jiEnL {elts : List Expr} {kk : Nat} {p tpos : Pos} (hm : X.mg "enumerate" = none) (he : JE X C e t) (hg : Gl X "enumerate" := by rfl) (hs : starEach [e] X.env = (false, eval e X.env) :: starEach [] X.env := by rfl) (hs' : starEach [e] X.env = [(false, eval e X.env)] := by rfl) :
    JI X C (.Tuple elts kk tpos) (.Call (.Name "enumerate" p) [e] [] pos) (iEnL t) := PI.weak (pi_enum hg hm (pa_cons he pa_nil hs) hs') fun σ H R h => by
  obtain ⟨δ, ρ, F, Q', R, q, k⟩ := h
  refine ⟨δ, ρ, F, _, R, q, fun v d ρ1 F1 H1 g1 R1 i1 q1 => ?_⟩
  obtain ⟨ds, rfl, q1⟩ := q1
  obtain ⟨p, vs, rfl, hp, hv⟩ := lst_inv i1
  exact ⟨p, vs, rfl, SqL.of (R1.frz _ _ hp), k _ _ ρ1 F1 H1 g1 R1 (src_enL hp hv) q1⟩
/-! ### range(a, b, -1) -/
def dnD (i : Int) (n : Nat) : List PyData := (List.range n).map fun k => PyData.int (i - (k : Nat))
theorem dnD_len (lo : Int) (n : Nat) : (dnD lo n).length = n := by simp [dnD]
def iR3 (t : PAt) : PIt := fun δ ρ Q => t δ ρ fun ds ρ1 => ∃ i j : Int, ds = [.int i, .int j, .int (-1)] ∧ (-1000000 ≤ i ∧ i ≤ 1000000 ∧ -1000000 ≤ j ∧ j ≤ 1000000) ∧ Q (dnD i (i - j).toNat) ρ1
theorem src_dn {lo : Int} {n : Nat} : SrcOk C (Itc lo (-1) n) (dnD lo n) F where
  turn := fun F1 H1 i s1 s2 hi => by
    rw [dnD_len] at hi
    refine ⟨hi, fun w H2 y => ?_⟩
    obtain ⟨rfl, rfl⟩ := y
    refine ⟨F1, .int (lo + (i : Nat) * (-1)), ?_, Gr.refl, s2, fun _ _ _ => rfl, .int _⟩
    have : lo + (i : Int) * (-1) = lo - i := by omega
    rw [this]; simp [dnD, hi]
  stop := fun F1 H1 i s1 s2 hi => by rw [dnD_len] at hi; exact hi
theorem jiR3 {p : Pos} (hm : X.mg "range" = none) (ha : JAC X C [a, b, c] tas) (hg : Gl X "range" := by rfl) (hs : starEach [a, b, c] X.env = (false, eval a X.env) :: starEach [b, c] X.env := by rfl) (hpl : (backTo pos (starEach [b, c] X.env)).any (·.1) = false := by rfl) : JI X C tg (.Call (.Name "range" p) [a, b, c] [] pos) (iR3 tas) := PI.weak (pi_range3 hg hm ha hs hpl) fun σ H R h => by
  obtain ⟨δ, ρ, F, Q', R, q, k⟩ := h
  refine ⟨δ, ρ, F, _, R, q, fun vs ds ρ1 F1 H1 g1 R1 i1 q1 => ?_⟩
  obtain ⟨i, j, rfl, ⟨z1, z2, z3, z4⟩, q1⟩ := q1
  have ev : vs = [.int i, .int j, .int (-1)] := by
    cases i1 with
    | cons h1 t => cases t with
      | cons h2 t => cases t with
        | cons h3 t => cases t; rw [h1.int, h2.int, h3.int]
  exact ⟨i, j, -1, _, ev, RgC.neg (by omega) (by omega) (by omega) (by omega), k _ _ ρ1 F1 H1 g1 R1 src_dn q1⟩
/-! ### x *= e -/
def sAugM (i : Nat) (t : PEt) : PSt := fun D δ ρ => ∃ x : Int, δ[i]? = some (.fz (.int x)) ∧ t δ ρ fun d ρ1 => ∃ y : Int, d = .int y ∧ (-(2 ^ 64) < x ∧ x < 2 ^ 64) ∧ D.nx (δ.set i (.fz (.int (x * y)))) ρ1
theorem jaugM {i : Nat} {x : Str} {pos' : Pos} (hN : X.N.Nodup) (he : JC X C e t) (hi : X.N[i]? = some x := by rfl) (hx : Loc X.env.scope x := by first | exact .inl rfl | exact .inr rfl) (hf : X.fn x = true ∨ X.env.scope.names.lookup x = some .local := by first | exact .inl rfl | exact .inr rfl) :
    JS X C (.AugAssign (.Name x pos') .Mult e pos) (sAugM i t) := PS.weak (ps_aug hN hi hx he (show PIp X .Mult _ from iop_mul) hf) fun D σ H h => by
  obtain ⟨δ, ρ, F, D', R, ⟨x, e0, q⟩, E⟩ := h
  obtain ⟨v, e1, i1⟩ := R.slot i _ e0
  have hv : v = .int x := CIs.int (F := F) (H := H) (.inl i1)
  subst hv
  refine ⟨.int x, e1, δ, ρ, F, _, R, q, fun v d ρ1 F1 H1 g1 R1 i1 q1 => ?_⟩
  obtain ⟨y, rfl, hc, q1⟩ := q1
  exact ⟨x, y, rfl, i1.int, .inl hc, E.nx _ ρ1 _ F1 H1 g1.f (R1.setF (.int _)) q1⟩
end
end HB

set_option Elab.async false
set_option linter.all false
set_option maxRecDepth 100000
set_option maxHeartbeats 4000000
set_option autoImplicit false
namespace HB
open PySem PySem.Spec L2
section
variable {X : Cx} {C : Cc} {a b c e tg iter : Expr} {ta tb tc t : PEt} {tt tu : PTt} {tas : PAt} {pos p2 : Pos} {es rest : List Expr} {st : Stmt} {sts : List Stmt} {s1 s2 s3 : PSt}
variable {δ δ' : Enm} {ρ ρ' : Rw} {σ σ' : L2.St} {F F' H H' : Hp}
/-! ### t.index(x) -/
def rTIndexD (K : PySem.W.Frag) : V → List V → Hp → VK → Prop := fun x xs H Q => ∃ (a : Addr) (y : V) (d : PyData) (ds : List PyData) (j : Nat) (z : PyData), x = V.ref a ∧ xs = [y] ∧ Dp K H (V.ref a) (.tuple ds) ∧ Dp K H y d ∧
  SeqAt.shaped (.tuple ds) = true ∧ SeqAt.shaped d = true ∧ ds[j]? = some z ∧ PyData.eqv z d = true ∧ (∀ (m : Nat) (z' : PyData), m < j → ds[m]? = some z' → PyData.eqv z' d = false) ∧ Q (.int (j : Nat)) H
theorem mt_tindexD (hu : X.A.units + 65 < cLine) : MtR X "tuple.index" (rTIndexD X.K) := by
  intro pins s σ H x xs v us Q I rx rxs h
  obtain ⟨a, y, d, ds, j, z, rfl, rfl, hl, hy, sl, sd, hz, hzj, hno, q⟩ := h
  cases rx
  cases rxs with
  | cons ry rt =>
    rename_i uy ut
    cases rt
    obtain ⟨bs, r1⟩ := Dp.reads I d y uy hy ry
    have hxs : PyData.canLayAll0 ds = true := SeqAt.canLay_of_shaped sl
    have hroom : X.A.units + 1 + min (PyData.depthAll ds) d.depth < cLine := PyProof.Rows.room_in_shaped sd hu
    cases hl with
    | tup hs ha =>
      obtain ⟨its, rv, ⟨⟨cls, dd, data, sls⟩, ho, hc, n, hdt⟩, hlen⟩ := I.tuple hs
      simp only at hc hdt
      subst hc hdt
      obtain ⟨as, h4⟩ := Dp.readsAll I ds _ its ha rv
      have hn : its.length = ds.length := SeqAt.ReadsAll.length ds its as h4
      have hmap : its.map (SeqAt.readOf s.heap) = ds := SeqAt.readsAll_map ds its as hxs h4
      have hvl := rv.length
      have hsl := sizeLine_eq
      obtain ⟨hjd, _⟩ := List.getElem?_eq_some_iff.mp hz
      have hjl : j < its.length := by omega
      have hj : j < its.toArray.size := by simpa using hjl
      have at_ : ∀ (m : Nat) (hm : m < its.toArray.size) (z' : PyData), ds[m]? = some z' → SeqAt.readOf s.heap its.toArray[m] = z' := by
        intro m hm z' hz'
        have hml : m < its.length := by simpa using hm
        rw [← hmap, List.getElem?_map, List.getElem?_eq_getElem hml] at hz'
        have e1 : SeqAt.readOf s.heap its[m] = z' := Option.some.inj (show some (SeqAt.readOf s.heap its[m]) = some z' from hz')
        simpa using e1
      have at2 : ∀ (m : Nat) (hm : m < its.toArray.size), its.toArray.getD m .none = its.toArray[m] := fun m hm => by
        have hm2 : m < its.length := by simpa using hm
        simp [Array.getD, hm2]
      have EA := SeqAt.items_eqAt (A := X.A) (s := s) (vs := its.toArray) (show ReadsAll s.heap its.toArray.toList ds as from h4) r1 hxs (SeqAt.canLay_of_shaped sd) hroom
      refine call_meets PySem.F.slot_tuple_index ⟨_, ho, rfl⟩ PySem.F.entry_tuple_index (PySem.F.args_tuple_index_2 _ _)
        (SeqAt.tuple_index2_found a its.toArray n dd sls uy (fun m => PyData.eqv (SeqAt.readOf s.heap (its.toArray.getD m .none)) d) j hj (Nat.zero_le _) hj ?_ ?_) ⟨ho, fun m hm => ?_, ?_⟩
      · show PyData.eqv (SeqAt.readOf s.heap (its.toArray.getD j .none)) d = true
        rw [at2 j hj, at_ j hj z hz]
        exact hzj
      · intro m hm _ hmj
        have hmd : m < ds.length := by
          have : m < its.length := by simpa using hm
          omega
        have hz' : ds[m]? = some ds[m] := List.getElem?_eq_getElem hmd
        show PyData.eqv (SeqAt.readOf s.heap (its.toArray.getD m .none)) d = false
        rw [at2 m hm, at_ m hm _ hz']
        exact hno m _ hmj hz'
      · show SeqAt.EqAt X.A.in1 s its.toArray[m] uy (PyData.eqv (SeqAt.readOf s.heap (its.toArray.getD m .none)) d)
        rw [at2 m hm]
        exact EA _ (by simp)
      · exact ⟨.int (j : Nat), H, I.tok _, ⟨_, rfl⟩, q⟩
/-- the first place of an equal one -/
def fplace (ds : List PyData) (d : PyData) : Option Nat := ds.findIdx? fun z => PyData.eqv z d
/-- t.index(x), t a line -/
def xTIndex (ta tb : PEt) : PEt := fun δ ρ Q => ta δ ρ fun x ρ1 => ∃ ds, x = ln ds ∧ tb δ ρ1 fun y ρ2 => ∃ j, okD (.tuple ds) = true ∧ okD y = true ∧ fplace ds y = some j ∧ Q (.int (j : Nat)) ρ2
theorem CIs.lin {v : V} {ds : List PyData} (s : Same F H) (h : CIs C F H v (ln ds)) : ∃ a o vs, v = .ref a ∧ H a = some (.frz o (.tup vs)) ∧ o.dict = none ∧ IsdA C.P C.w F vs ds := by
  rcases h with h | ⟨a, o, rfl, _, e, h⟩
  · cases h with
    | ref e h => cases h with
      | lin h1 h2 => exact ⟨_, _, _, rfl, s _ _ e, h1, h2⟩
  · cases h with
    | lin h1 h2 => exact ⟨_, _, _, rfl, e, h1, h2⟩
theorem SqT.fz {K : PySem.W.Frag} {H : Hp} {a : Addr} {o : Obj} {xs : List V} (h : H a = some (.frz o (.tup xs))) : SqT K H a xs := .inl (.inr ⟨o, h⟩)
theorem jtindex {apos cpos : Pos} (hu : X.A.units + 65 < cLine) (ha : JC X C a ta) (hb : JC X C b tb) (hs : starEach [b] X.env = (false, eval b X.env) :: starEach [] X.env := by rfl)
    (hbase : attributeBase a "index" X.env (eval a X.env) = eval a X.env := by rfl)
    (hfew : ((backTo cpos (starEach [b] X.env)).all (fun x => !x.1) && (backToKw cpos (keywordEach [] X.env)).all (fun x => x.1.isSome)
      && decide ([b].length + ([] : List Keyword).length + (if ([] : List Keyword).isEmpty then 0 else 1) < 30)) = true := by rfl)
    (hline : (apos.endLine == cpos.line) = true := by rfl) : JE X C (.Call (.Attribute a "index" apos) [b] [] cpos) (xTIndex ta tb) := by
  refine ⟨fun pins s σ H Q I h => ?_⟩
  obtain ⟨δ, ρ, F, Q', R, q, k⟩ := h
  refine wpAny_Call_method_late hbase hfew hline rfl (thn (ha.run pins s σ H (fun v H1 => ∃ ρ1 F1 ds, Gr C F H F1 H1 ∧ Rl C δ ρ1 σ F1 H1 ∧ CIs C F1 H1 v (ln ds) ∧ tb δ ρ1 fun y ρ2 => ∃ j, okD (.tuple ds) = true ∧ okD y = true ∧ fplace ds y = some j ∧ Q' (.int (j : Nat)) ρ2) I ⟨δ, ρ, F, _, R, q, fun v x ρ1 F1 H1 g1 R1 i1 q1 => ?_⟩) fun v s1 ⟨x, H1, I1, r1, ρ1, F1, ds, g1, R1, i1, q1⟩ => ?_)
  · obtain ⟨ds, rfl, q1⟩ := q1
    exact ⟨ρ1, F1, ds, g1, R1, i1, q1⟩
  · obtain ⟨p, o, vs, rfl, hp, hd, hv⟩ := i1.lin R1.frz
    obtain rfl : v = .ref p := r1
    obtain ⟨ho, _, its, _, ob, ho2, hc, _⟩ := (I1.hok p _ hp : ObjOk X.prog X.w H1 s1.heap p (.frz o (.tup vs)))
    rw [ho] at ho2; cases ho2
    refine ⟨"tuple", "tuple.index", PySem.F.plainAttrs_tuple, PySem.F.slot_tuple_index, PySem.F.type_tuple_index, ⟨o, ho, hc⟩, fun b e => by cases e; exact ⟨o, ho, hd⟩, ?_⟩
    have hA := (pa_cons hb pa_nil hs).run cpos pins s1 σ H1 (fun us H2 => ∃ u y ρ2 F2, us = [u] ∧ Gr C F1 H1 F2 H2 ∧ Rl C δ ρ2 σ F2 H2 ∧ CIs C F2 H2 u y ∧ ∃ j, okD (.tuple ds) = true ∧ okD y = true ∧ fplace ds y = some j ∧ Q' (.int (j : Nat)) ρ2) I1 ⟨δ, ρ1, F1, _, R1, q1, fun u y ρ2 F2 H2 g2 R2 i2 q2 => ⟨u, y, ρ2, F2, rfl, g2, R2, i2, q2⟩⟩
    rw [hs] at hA ⊢
    refine Calls.callWith_builtin (by rfl) (Calls.evalArgs_plain ?_)
    refine thn hA fun us s2 ⟨vs2, H2, I2, r2, q2⟩ => ?_
    obtain ⟨u, y, ρ2, F2, rfl, g2, R2, i2, j, ok1, ok2, hj, q2⟩ := q2
    simp only [okD, Bool.and_eq_true] at ok1 ok2
    obtain ⟨hlt, h1, h2⟩ := List.findIdx?_eq_some_iff_getElem.mp hj
    have nr : C.r ≠ some p := fun z => by
      have := (R1.row p z).2.2.1
      rw [hp] at this; cases this
    have hp2 := g2.h _ _ nr hp
    have hv2 := IsdA.dp (K := X.K) (((hv.mono g2.f).mono R2.frz)) (by simpa [plainD] using ok1.1)
    exact mt_tindexD hu pins s2 σ H2 (.ref p) [u] (.ref p) us Q I2 rfl r2 ⟨p, u, y, ds, j, ds[j], rfl, rfl, .tup (SqT.fz hp2) hv2, (i2.up R2.frz).dp ok2.1, ok1.2, ok2.2, List.getElem?_eq_getElem hlt, h1, fun m z' hm hz => by
      have := h2 m hm
      obtain ⟨hm', e⟩ := List.getElem?_eq_some_iff.mp hz
      subst e
      simpa using this, k _ _ ρ2 F2 H2 (g1.tr g2 R1) R2 (.int _) q2⟩
/-! ### lines -/
def tTupF (t : TA) : TE := fun σ H Q => t σ H fun xs H1 => xs.length ≤ sizeLine ∧ ∀ p o, H1 p = none → Obj.dict o = none → Q (.ref p) (upd H1 p (.frz o (.tup xs)))
theorem pe_tupF {x1 : Nat} {t : TA} (h : PA X es t) : PE X (.Tuple es x1 pos) (tTupF t) := by
  refine ⟨fun pins s σ H Q I hq => ?_⟩
  refine wpAny_Tuple_spliced (thn (h.run pos pins s σ H _ I hq) fun us s1 ⟨xs, H1, I1, r, z, q⟩ => ⟨by rw [← r.length]; exact z, ?_⟩)
  have hf : H1 s1.heap.objs.size = none := I1.hok.fresh (Nat.le_refl _)
  refine ⟨.ref s1.heap.objs.size, upd H1 s1.heap.objs.size (.frz { cls := .type "tuple", data := .seq us.toArray } (.tup xs)), I1.laid (t' := s1.toks) (fun b u e => Heap.get?_push_of_some _ e) (Nat.le_refl _) ?_, rfl, q _ _ hf rfl⟩
  exact ⟨Heap.get?_push_size _ rfl, z, us, r, ⟨_, Heap.get?_push_size _ rfl, rfl, _, rfl⟩⟩
def rCatF (K : PySem.W.Frag) : R2 := fun x y H Q => ∃ a b xs ys, x = .ref a ∧ y = .ref b ∧ SqT K H a xs ∧ SqT K H b ys ∧ xs.length + ys.length ≤ sizeLine ∧
  (xs = [] → Q (.ref b) H) ∧ (ys = [] → Q (.ref a) H) ∧ (∀ p o, H p = none → Obj.dict o = none → Q (.ref p) (upd H p (.frz o (.tup (xs ++ ys)))))
theorem op_catF : OpR X (binaryOp .Add) (rCatF X.K) := by
  intro pins s σ H x y v u Q I rx ry h
  obtain ⟨a, b, xs, ys, rfl, rfl, ha, hb, hz, q0, q1, q2⟩ := h
  cases rx
  cases ry
  obtain ⟨its, r1, p1, _⟩ := I.tuple ha
  obtain ⟨its2, r2, p2, _⟩ := I.tuple hb
  by_cases hx : xs = []
  · subst hx
    cases r1
    exact cat_tup0 p1 p2 ⟨.ref b, H, I, rfl, q0 rfl⟩
  · refine HT.cat_tup p1 p2 (fun z => hx (r1.nil_iff.mp z)) (fun z => ⟨.ref a, H, I, rfl, q1 (r2.nil_iff.mp z)⟩) (fun z => ?_) (by rw [← r1.length, ← r2.length]; exact hz)
    refine ⟨.ref s.heap.objs.size, _, I.laid (t' := s.toks) (o := .frz { cls := .type "tuple", data := .seq (its ++ its2).toArray } (.tup (xs ++ ys))) (fun b ob q => Heap.get?_push_of_some _ q) (Nat.le_refl _) ?_, rfl, q2 _ _ (I.hok.fresh (Nat.le_refl _)) rfl⟩
    exact ⟨Heap.get?_push_size _ rfl, by rw [List.length_append]; exact hz, _, r1.append r2, ⟨_, Heap.get?_push_size _ rfl, rfl, _, rfl⟩⟩
def xTupF (t : PAt) : PEt := fun δ ρ Q => t δ ρ fun ds ρ1 => small ds ∧ Q (ln ds) ρ1
theorem jltup {x1 : Nat} (h : JA X C es tas) : JE X C (.Tuple es x1 pos) (xTupF tas) := PE.weak (pe_tupF h) fun σ H Q h => by
  obtain ⟨δ, ρ, F, Q', R, q, k⟩ := h
  refine ⟨δ, ρ, F, _, R, q, fun vs ds ρ1 F1 H1 g1 R1 i1 q1 => ?_⟩
  obtain ⟨z, q1⟩ := q1
  exact ⟨by rw [i1.length]; exact small_ok z, fun p o n hd => k _ _ ρ1 _ _ (g1.tr (gr_new n R1.frz) R1) (R1.new n) (.ref upd_same (.lin hd (i1.mono (gr_new (C := C) n R1.frz).f))) q1⟩
def xCatF (ta tb : PEt) : PEt := fun δ ρ Q => ta δ ρ fun x ρ1 => tb δ ρ1 fun y ρ2 => ∃ xs ys, x = ln xs ∧ y = ln ys ∧ xs.length + ys.length ≤ 100000 ∧ Q (ln (xs ++ ys)) ρ2
theorem lin_inv {v : V} {ds : List PyData} (h : C.Is F v (ln ds)) : ∃ a o vs, v = .ref a ∧ F a = some (.frz o (.tup vs)) ∧ o.dict = none ∧ IsdA C.P C.w F vs ds := by
  cases h with
  | ref e h => cases h with
    | lin h1 h2 => exact ⟨_, _, _, rfl, e, h1, h2⟩
theorem jlcat (ha : JE X C a ta) (hb : JE X C b tb) : JE X C (.BinOp a .Add b pos) (xCatF ta tb) := PE.weak (pe_op op_catF ha hb) fun σ H Q h => by
  obtain ⟨δ, ρ, F, Q', R, q, k⟩ := h
  refine ⟨δ, ρ, F, _, R, q, fun v x ρ1 F1 H1 g1 R1 i1 q1 => ⟨δ, ρ1, F1, _, R1, q1, fun u y ρ2 F2 H2 g2 R2 i2 q2 => ?_⟩⟩
  obtain ⟨xs, ys, rfl, rfl, z, q2⟩ := q2
  have g := g1.tr g2 R1
  have j1 : C.Is F2 v (ln xs) := i1.mono g2.f
  have j1' := j1
  have i2' := i2
  obtain ⟨p, o, vs, rfl, hp, hd, hv⟩ := lin_inv j1
  obtain ⟨p', o', vs', rfl, hp', hd', hv'⟩ := lin_inv i2
  refine ⟨p, p', vs, vs', rfl, rfl, SqT.fz (R2.frz _ _ hp), SqT.fz (R2.frz _ _ hp'), by rw [hv.length, hv'.length]; exact line5 z, fun e => ?_, fun e => ?_, fun p o n hd => ?_⟩
  · have : xs = [] := List.length_eq_zero_iff.mp (by rw [← hv.length, e]; rfl)
    subst this
    exact k _ _ ρ2 F2 H2 g R2 i2' (by simpa using q2)
  · have : ys = [] := List.length_eq_zero_iff.mp (by rw [← hv'.length, e]; rfl)
    subst this
    exact k _ _ ρ2 F2 H2 g R2 j1' (by simpa using q2)
  · exact k _ _ ρ2 _ _ (g.tr (gr_new n R2.frz) R2) (R2.new n) (.ref upd_same (.lin hd ((hv.append hv').mono (gr_new (C := C) n R2.frz).f))) q2
def iLn (t : PEt) : PIt := fun δ ρ Q => t δ ρ fun d ρ1 => ∃ ds, d = ln ds ∧ Q ds ρ1
theorem src_lin {K : PySem.W.Frag} {p : Addr} {o : Obj} {vs : List V} {ds : List PyData} (hp : F p = some (.frz o (.tup vs))) (hv : IsdA C.P C.w F vs ds) : SrcOk C (Itt K p) ds F where
  turn := fun F1 H1 i s1 s2 hi => by
    obtain ⟨v, e1, e2⟩ := hv.get (List.getElem?_eq_getElem hi)
    have hs : SqT K H1 p vs := SqT.fz (s2 _ _ (s1 _ _ hp))
    refine ⟨⟨vs, v, hs, e1⟩, fun w H2 y => ?_⟩
    obtain ⟨rfl, y⟩ := y
    have := Option.some.inj ((y _ hs).symm.trans e1)
    subst this
    exact ⟨F1, _, List.getElem?_eq_getElem hi, Gr.refl, s2, fun _ _ _ => rfl, e2.mono s1⟩
  stop := fun F1 H1 i s1 s2 hi => ⟨vs, SqT.fz (s2 _ _ (s1 _ _ hp)), by rw [hv.length]; exact hi⟩
theorem jiLn (he : JE X C e t) : JI X C tg e (iLn t) := PI.weak (pi_tup he) fun σ H R h => by
  obtain ⟨δ, ρ, F, Q', R, q, k⟩ := h
  refine ⟨δ, ρ, F, _, R, q, fun v d ρ1 F1 H1 g1 R1 i1 q1 => ?_⟩
  obtain ⟨ds, rfl, q1⟩ := q1
  obtain ⟨p, o, vs, rfl, hp, hd, hv⟩ := lin_inv i1
  exact ⟨p, rfl, ⟨vs, SqT.fz (R1.frz _ _ hp)⟩, k _ ds ρ1 F1 H1 g1 R1 (src_lin hp hv) q1⟩

/-! ### isinstance -/
inductive Ty5 where | int | bool | str | list | tuple
def Ty5.id : Ty5 → String
  | .int => "int" | .bool => "bool" | .str => "str" | .list => "list" | .tuple => "tuple"
def isK : Ty5 → PyData → Bool
  | .int, .int _ => true | .int, .bool _ => true | .bool, .bool _ => true | .str, .str _ => true | .list, .list _ => true | .tuple, .tuple _ => true
  | _, _ => false
def tyN : PyData → String
  | .none => "NoneType" | .bool _ => "bool" | .int _ => "int" | .str _ => "str" | .list _ => "list" | .tuple _ => "tuple" | .dict _ => "dict"
def notDict : PyData → Bool
  | .dict _ => false
  | _ => true
theorem kit5 (k : Ty5) (d : PyData) (hd : notDict d = true) : kitB (tyN d) k.id = some (isK k d) := by
  cases d with
  | dict => cases hd
  | none => cases k <;> decide +kernel
  | bool b => cases k <;> first | (change kitB "bool" _ = some true; decide +kernel) | (change kitB "bool" _ = some false; decide +kernel)
  | int b => cases k <;> first | (change kitB "int" _ = some true; decide +kernel) | (change kitB "int" _ = some false; decide +kernel)
  | str b => cases k <;> first | (change kitB "str" _ = some true; decide +kernel) | (change kitB "str" _ = some false; decide +kernel)
  | list b => cases k <;> first | (change kitB "list" _ = some true; decide +kernel) | (change kitB "list" _ = some false; decide +kernel)
  | tuple b => cases k <;> first | (change kitB "tuple" _ = some true; decide +kernel) | (change kitB "tuple" _ = some false; decide +kernel)
theorem tyx_of {K : PySem.W.Frag} {v : V} {d : PyData} (s : Same F H) (h : CIs C F H v d) (hd : notDict d = true) : TyX K H v (.type (tyN d)) := by
  cases d with
  | dict => cases hd
  | none => rw [h.non]; exact .base .non
  | bool b => rw [h.bl]; exact .base (.bl b)
  | int i => rw [h.int]; exact .base (.int i)
  | str x => rw [h.str]; exact .base (.str x)
  | list ds => obtain ⟨a, vs, rfl, hp, _⟩ := h.lst s; exact .base (.lst hp)
  | tuple ds => obtain ⟨a, vs, rfl, hp, _⟩ := h.tup s; exact .base (.tup hp)
theorem pa2 {t1 : TE} {v : V} {e1 e2 : Expr} (h1 : PE X e1 t1) (h2 : PE X e2 (tC v)) (hs : starEach [e1, e2] X.env = (false, eval e1 X.env) :: starEach [e2] X.env) (hs2 : starEach [e2] X.env = (false, eval e2 X.env) :: starEach [] X.env) : PA X [e1, e2] (tCons t1 (tCons (tC v) tNil)) := pa_cons h1 (pa_cons h2 pa_nil hs2) hs
def xIsi (k : Ty5) (t : PEt) : PEt := fun δ ρ Q => t δ ρ fun d ρ1 => notDict d = true ∧ Q (.bool (isK k d)) ρ1
theorem jisi (k : Ty5) {x : Str} {p pn : Pos} (hm : X.mg "isinstance" = none) (hmx : X.mg x = none) (ha : JC X C a ta) (hv : bootBuiltins x = some (.type k.id) := by decide +kernel) (hg : Gl X "isinstance" := by rfl) (hgx : Gl X x := by rfl) (hn : x ≠ "__name__" := by decide) (hdb : (x == ("__debug__" : Str)) = false := by decide)
    (he : starEach [a, .Name x pn] X.env = (false, eval a X.env) :: starEach [.Name x pn] X.env := by rfl) (he2 : starEach [.Name x pn] X.env = (false, eval (.Name x pn) X.env) :: starEach [] X.env := by rfl) (hpl : (backTo pos (starEach [.Name x pn] X.env)).any (·.1) = false := by rfl) :
    JE X C (.Call (.Name "isinstance" p) [a, .Name x pn] [] pos) (xIsi k ta) :=
  PE.weak (pe_callB call_isi hg hm (by decide +kernel) (pa2 ha (pe_bltn (v := .ty k.id) hgx hmx hv rfl hn hdb) he he2) (by decide) (by decide) he hpl) fun σ H Q h => by
    obtain ⟨δ, ρ, F, Q', R, q, kk⟩ := h
    refine ⟨δ, ρ, F, _, R, q, fun v d ρ1 F1 H1 g1 R1 i1 q1 => ?_⟩
    exact ⟨v, _, _, _, _, rfl, .ty _, tyx_of R1.frz i1 q1.1, kit_ty (kit5 k d q1.1), kk _ _ ρ1 F1 H1 g1 R1 (.bl _) q1.2⟩
def xIsi2 (k l : Ty5) (t : PEt) : PEt := fun δ ρ Q => t δ ρ fun d ρ1 => notDict d = true ∧ Q (.bool (isK k d || isK l d)) ρ1
theorem jisi2 (k l : Ty5) {x y : Str} {x1 : Nat} {p pn pm pt : Pos} (hm : X.mg "isinstance" = none) (hmx : X.mg x = none) (hmy : X.mg y = none) (ha : JC X C a ta) (hv : bootBuiltins x = some (.type k.id) := by decide +kernel) (hv2 : bootBuiltins y = some (.type l.id) := by decide +kernel) (hg : Gl X "isinstance" := by rfl) (hgx : Gl X x := by rfl) (hgy : Gl X y := by rfl) (hn : x ≠ "__name__" := by decide) (hdb : (x == ("__debug__" : Str)) = false := by decide) (hn2 : y ≠ "__name__" := by decide) (hdb2 : (y == ("__debug__" : Str)) = false := by decide)
    (he : starEach [a, .Tuple [.Name x pn, .Name y pm] x1 pt] X.env = (false, eval a X.env) :: starEach [.Tuple [.Name x pn, .Name y pm] x1 pt] X.env := by rfl) (he2 : starEach [.Tuple [.Name x pn, .Name y pm] x1 pt] X.env = (false, eval (.Tuple [.Name x pn, .Name y pm] x1 pt) X.env) :: starEach [] X.env := by rfl) (hpl : (backTo pos (starEach [.Tuple [.Name x pn, .Name y pm] x1 pt] X.env)).any (·.1) = false := by rfl)
    (he3 : starEach [.Name x pn, .Name y pm] X.env = (false, eval (.Name x pn) X.env) :: starEach [.Name y pm] X.env := by rfl) (he4 : starEach [.Name y pm] X.env = (false, eval (.Name y pm) X.env) :: starEach [] X.env := by rfl) :
    JE X C (.Call (.Name "isinstance" p) [a, .Tuple [.Name x pn, .Name y pm] x1 pt] [] pos) (xIsi2 k l ta) :=
  PE.weak (pe_callB call_isiT hg hm (by decide +kernel) (pa_cons ha (pa_cons (pe_tup (pa2 (pe_bltn (v := .ty k.id) hgx hmx hv rfl hn hdb) (pe_bltn (v := .ty l.id) hgy hmy hv2 rfl hn2 hdb2) he3 he4)) pa_nil he2) he) (by decide) (by decide) he hpl) fun σ H Q h => by
    obtain ⟨δ, ρ, F, Q', R, q, kk⟩ := h
    refine ⟨δ, ρ, F, _, R, q, fun v d ρ1 F1 H1 g1 R1 i1 q1 => ⟨by show 2 ≤ sizeLine; decide, fun p n => ?_⟩⟩
    have g2 := gr_newO (C := C) (F := F1) (o := .tup [V.ty k.id, V.ty l.id]) n
    have R2 := R1.newO (o := .tup [V.ty k.id, V.ty l.id]) n
    refine ⟨v, p, [.ty k.id, .ty l.id], _, [.type k.id, .type l.id], _, rfl, upd_same, .cons (.ty _) (.cons (.ty _) .nil), tyx_of R2.frz (i1.grow g2) q1.1, kitAny_cons (kit_ty (kit5 k d q1.1)) (r := isK k d || isK l d) (fun e => ?_) (fun e => by rw [e]; rfl), kk _ _ ρ1 F1 _ (g1.tr g2 R1) R2 (.bl _) q1.2⟩
    rw [e, Bool.false_or]
    exact kitAny_cons (kit_ty (kit5 l d q1.1)) (fun e => by rw [e]; exact kitAny_nil) (fun e => e)
end
end HB

set_option Elab.async false
set_option linter.all false
set_option maxRecDepth 100000
set_option maxHeartbeats 4000000
set_option autoImplicit false
namespace HB
open PySem PySem.Spec L2
section
variable {X : Cx} {C : Cc} {a b c e tg iter : Expr} {ta tb tc t : PEt} {tt tu : PTt} {tas : PAt} {pos p2 : Pos} {es rest : List Expr} {st : Stmt} {sts : List Stmt} {s1 s2 s3 : PSt}
variable {δ δ' : Enm} {ρ ρ' : Rw} {σ σ' : L2.St} {F F' H H' : Hp}
/-! ### pairs of ints, one <= other -/
def tleI : PyData → PyData → Option PyData
  | .tuple [.int a, .int b], .tuple [.int c, .int d] => some (.bool (decide (a < c ∨ (a = c ∧ b ≤ d))))
  | _, _ => none
theorem o_leT (hu : X.A.units < cLine) : OpS X C .LtE tleI := ⟨_, op_leT hu, fun F H v u x y z Q s i1 i2 e k => by
  unfold tleI at e; split at e
  · rename_i a b c d
    cases e
    obtain ⟨p, vs, rfl, hp, hv⟩ := i1.tup s
    obtain ⟨p', vs', rfl, hp', hv'⟩ := i2.tup s
    have e1 : vs = [a, b].map V.int := hv.ints (ns := [a, b])
    have e2 : vs' = [c, d].map V.int := hv'.ints (ns := [c, d])
    subst e1 e2
    refine ⟨p, p', [a, b], [c, d], rfl, rfl, SqT.of hp, SqT.of hp', ?_⟩
    have : Ob.lexAt (fun j => decide (([a, b] : List Int).getD j 0 = ([c, d] : List Int).getD j 0)) (fun j => decide (([a, b] : List Int).getD j 0 ≤ ([c, d] : List Int).getD j 0)) (decide (([a, b] : List Int).length ≤ ([c, d] : List Int).length)) 0 (min ([a, b] : List Int).length ([c, d] : List Int).length) = decide (a < c ∨ (a = c ∧ b ≤ d)) := by
      show Ob.lexAt _ _ true 0 2 = _
      simp only [Ob.lexAt, List.getD_cons_zero, List.getD_cons_succ]
      by_cases h1 : a = c
      · by_cases h2 : b = d
        · simp [h1, h2]
        · simp [h1, h2]
      · simp [h1]; omega
    rw [this]
    exact k _ (.bl _)
  · cases e⟩
/-! ### t[::-1] -/
theorem sliceApplied_rev {prog : Program} {w : World} {A : Around} {E : Value → Shared → Prop} {s : Shared} {sl : Addr} {vl vu vs : Value} {n : Nat} {Q : Int × Int × Nat → Shared → Prop} (hs : s.heap.IsSliceOf sl vl vu vs) (pl : IsPart vl none) (pu : IsPart vu none) (ps : IsPart vs (some (-1)))
    (h : Q ((n : Int) - 1, -1, n) s) : wpAny (model prog w) A (Builtin.Slice.sliceApplied (.ref sl) (pure (n : Int))) Q E s := by
  obtain ⟨os, hos, hcs, hds⟩ := id hs
  unfold Builtin.Slice.sliceApplied Builtin.Slice.sliceFields
  refine wpAny_bind (wpAny_bind (wpAny_field hos hds (x := vl) rfl (wpAny_bind (wpAny_field hos hds (x := vu) rfl (wpAny_bind (wpAny_field hos hds (x := vs) rfl (wpAny_pure ?_)))))))
  refine wpAny_bind (HT.slicePart_ ps ?_)
  show wpAny _ _ (if ((-1 : Int) == 0) = true then _ else _) _ _ s
  rw [if_neg (by decide)]
  refine wpAny_bind (HT.slicePart_ pl (wpAny_bind (HT.slicePart_ pu (wpAny_bind (wpAny_pure ?_)))))
  have e1 : Builtin.Slice.sliceAdjust none none (-1) (n : Int) = ((n : Int) - 1, -1) := rfl
  have e2 : Builtin.Slice.slicePlaces ((n : Int) - 1) (-1) (-1) = n := by
    unfold Builtin.Slice.slicePlaces
    rw [if_neg (by omega)]
    have : (- (-1 : Int)) = 1 := rfl
    rw [this, Int.ediv_one]
    split <;> omega
  show wpAny _ _ (match Builtin.Slice.sliceAdjust none none (-1) (n : Int) with | (lo, hi) => pure (lo, (-1 : Int), Builtin.Slice.slicePlaces lo hi (-1))) _ _ s
  rw [e1]
  show wpAny _ _ (pure ((n : Int) - 1, (-1 : Int), Builtin.Slice.slicePlaces ((n : Int) - 1) (-1) (-1))) _ _ s
  rw [e2]
  exact wpAny_pure h
theorem rev_pick (xs : Array Value) : ((List.range xs.size).filterMap fun (k : Nat) => xs[(((xs.size : Int) - 1) + (k : Int) * (-1)).toNat]?) = xs.toList.reverse := by
  apply List.ext_getElem?
  intro i
  have key : ∀ n, n ≤ xs.size → ((List.range n).filterMap fun (k : Nat) => xs[(((xs.size : Int) - 1) + (k : Int) * (-1)).toNat]?) = (xs.toList.reverse).take n := by
    intro n
    induction n with
    | zero => intro _; rfl
    | succ n ih =>
      intro hn
      have hidx : (((xs.size : Int) - 1) + (n : Int) * (-1)).toNat = xs.size - 1 - n := by omega
      have hlt : xs.size - 1 - n < xs.size := by omega
      have hlr : n < xs.toList.reverse.length := by simp; omega
      rw [List.range_succ, List.filterMap_append, ih (by omega), List.take_add_one, List.getElem?_eq_getElem hlr]
      congr 1
      simp only [List.filterMap_cons, List.filterMap_nil, hidx]
      rw [Array.getElem?_eq_getElem hlt]
      simp
  rw [key xs.size (Nat.le_refl _), List.take_of_length_le (by simp)]
theorem getItem_tuple_rev {prog : Program} {w : World} {A : Around} {E : Value → Shared → Prop} {s : Shared} {t sl : Addr} {items : Array Value} {vl vu vs : Value} {Q : Value → Shared → Prop} (ht : PyProof.Rows.IsTup s.heap t items) (hs : s.heap.IsSliceOf sl vl vu vs) (pl : IsPart vl none) (pu : IsPart vu none) (ps : IsPart vs (some (-1)))
    (h : Q (.ref s.heap.objs.size) { s with heap := s.heap.push { cls := .type "tuple", data := .seq items.toList.reverse.toArray } })
    (hsz : items.size ≤ sizeLine) : wpAny (model prog w) A (getItem (.ref t) (.ref sl)) Q E s := by
  have htake : sizeOk (.seq items.toList.reverse.toArray) := by
    show items.toList.reverse.toArray.size ≤ sizeLine
    simpa using hsz
  obtain ⟨os, hos, hcs, hds⟩ := id hs
  have hTs : s.TypeIs (.ref sl) "slice" := ⟨os, hos, hcs⟩
  unfold getItem
  try with_reducible refine wpAny_holding ?_
  first | refine wpAny_bind (wpAny_pure ?_) | skip
  refine wpAny_bind (wpAny_sequenceKey ht.typeIs (by decide) ?_)
  refine wpAny_bind (wpAny_callSpecial?_slot (name := Str.ofString "__getitem__") ht.typeIs PyProof.Rows.slot_tuple_getitem
    (wpAny_call_entry PyProof.Rows.slot_tuple_getitem ht.typeIs PyProof.Rows.entry_tuple_getitem ?_ (PyProof.Rows.args_tuple_getitem _ _)))
  show wpAny _ _ (Builtin.Tuple.tupleItemsOf (.ref t) >>= _) _ _ s
  refine wpAny_bind (PyProof.Rows.tupleItemsOf_ ht ?_)
  refine wpAny_bind (wpAny_typeOf hTs ?_)
  rw [if_pos (by decide)]
  refine wpAny_bind (sliceApplied_rev hs pl pu ps ?_)
  have hno : ¬ ((((items.size : Int) - 1) == 0 && (-1 : Int) == 1 && items.size == items.size) = true) := by simp
  show wpAny _ _ (if (((items.size : Int) - 1) == 0 && (-1 : Int) == 1 && items.size == items.size) = true then _ else _) _ _ s
  rw [if_neg hno, rev_pick]
  first
    | exact wpAny_bind (m := Builtin.Tuple.tupleExact _) (wpAny_newObj_type (wpAny_pure ⟨_, rfl, wpAny_pure h⟩) htake)
    | exact wpAny_bind (m := Builtin.Tuple.tupleExact _) (wpAny_newObj_type (wpAny_bind (wpAny_pure (wpAny_pure ⟨_, rfl, wpAny_pure h⟩))) htake)
    | exact wpAny_bind (wpAny_bind (m := Builtin.Tuple.tupleExact _) (wpAny_newObj_type (wpAny_pure (wpAny_pure ⟨_, rfl, wpAny_pure h⟩)) htake))
    | exact wpAny_bind (wpAny_bind (m := Builtin.Tuple.tupleExact _) (wpAny_newObj_type (wpAny_pure ⟨_, rfl, wpAny_pure h⟩) htake))
def tRevT (K : PySem.W.Frag) (te : TE) : TE := fun σ H Q => te σ H fun x H1 => ∃ a xs, x = .ref a ∧ SqT K H1 a xs ∧ ∀ p, H1 p = none → Q (.ref p) (upd H1 p (.tup xs.reverse))
open PyProof.Rows in
theorem pe_revT {e : Expr} {te : TE} {k : Nat} {p1 p2 p3 pos : Pos} (he : PE X e te) : PE X (.Subscript e (.Slice none none (some (.UnaryOp .USub (.Constant (.int 1) k p1) p2)) p3) pos) (tRevT X.K te) := by
  refine ⟨fun pins s σ H Q I h => ?_⟩
  refine Subscript_ (thn (he.run pins s σ H _ I h) fun v s1 ⟨x, H1, I1, r1, q1⟩ => ?_)
  obtain ⟨a, xs, ex, hx, q⟩ := q1
  subst ex
  cases r1
  have hst : PO X (some (.UnaryOp .USub (.Constant (.int 1) k p1) p2)) (tPart (tUn (rU fun i => .int (-i)) (tC (.int 1)))) := po_some (pe_un un_neg pe_int)
  refine wpAny_Slice (thn (po_none.run pins s1 σ H1 (fun o H2 => o = none ∧ H2 = H1) I1 ⟨rfl, rfl⟩) fun vl s2 ⟨l, H2, I2, pl, el, e2⟩ => ?_)
  subst el e2
  refine thn (po_none.run pins s2 σ H2 (fun o H3 => o = none ∧ H3 = H2) I2 ⟨rfl, rfl⟩) fun vu s3 ⟨u, H3, I3, pu, eu, e3⟩ => ?_
  subst eu e3
  refine thn (hst.run pins s3 σ H3 (fun o H4 => o = some (-1) ∧ H4 = H3) I3 ⟨1, rfl, -1, rfl, rfl, rfl⟩) fun vs s4 ⟨o, H4, I4, ps, eo, e4⟩ => ?_
  subst eo e4
  have I5 : L2.Inv X pins σ H4 { s4 with heap := s4.heap.push { cls := .type "slice", data := .fields #[vl, vu, vs] } } := I4.kept (t' := s4.toks) fun b ob q => Heap.get?_push_of_some _ q
  obtain ⟨its, r, ht, hz⟩ := I5.tuple hx
  have hlen := r.length
  show wpAny (model X.prog X.w) X.A (subscriptTail e (.Slice none none (some (.UnaryOp .USub (.Constant (.int 1) k p1) p2)) p3) (.ref a) (.ref s4.heap.objs.size)) (EP X pins σ Q) X.xe { s4 with heap := s4.heap.push { cls := .type "slice", data := .fields #[vl, vu, vs] } }
  refine tail_any (ops := [.ref a, .ref s4.heap.objs.size]) ht.typeIs PyProof.Rows.slot_tuple_getitem.lookup ?_ (by with_unfolding_all rfl)
  refine getItem_tuple_rev ht (Heap.IsSliceOf.new _ vl vu vs) pl pu ps ?_ (by rw [List.size_toArray]; omega)
  refine ⟨.ref _, _, I5.laid (t' := s4.toks) (o := .tup xs.reverse) (fun b ob q => Heap.get?_push_of_some _ q) (Nat.le_refl _) ?_, rfl, q _ (I5.hok.fresh (Nat.le_refl _))⟩
  exact ⟨by rw [List.length_reverse]; exact hz, _, r.reverse, IsTup.new _ _⟩
def xRevT (t : PEt) : PEt := fun δ ρ Q => t δ ρ fun d ρ1 => ∃ ds, d = .tuple ds ∧ Q (.tuple ds.reverse) ρ1
theorem jrevT {k : Nat} {p1 p3 p4 : Pos} (he : JE X C e t) : JE X C (.Subscript e (.Slice none none (some (.UnaryOp .USub (.Constant (.int 1) k p1) p3)) p4) pos) (xRevT t) := PE.weak (pe_revT he) fun σ H Q h => by
  obtain ⟨δ, ρ, F, Q', R, q, k⟩ := h
  refine ⟨δ, ρ, F, _, R, q, fun v d ρ1 F1 H1 g1 R1 i1 q1 => ?_⟩
  obtain ⟨ds, rfl, q1⟩ := q1
  obtain ⟨p, vs, rfl, hp, hv⟩ := tup_inv i1
  exact ⟨p, vs, rfl, SqT.of (R1.frz _ _ hp), fun p n => k _ _ ρ1 _ _ (g1.tr (gr_new n R1.frz) R1) (R1.new n) (.ref upd_same (.tup (hv.reverse.mono (gr_new (C := C) n R1.frz).f))) q1⟩
/-! ### list(range(a, b, -1)) -/
def dnV (i : Int) (n : Nat) : List V := (List.range n).map fun k => V.int (i - (k : Nat))
theorem vals_dn {i : Int} {n : Nat} {acc : Array Value} (h : ItemsOf (fun k v => ∃ t, v = .int (i + k * (-1)) t) acc n) : Vals (dnV i n) acc.toList := by
  have e : acc.toList.length = n := by rw [Array.length_toList]; exact h.1
  unfold dnV
  rw [← e]
  refine vals_of_get acc.toList _ fun j u hj => ?_
  obtain ⟨t, rfl⟩ := h.2 j u (by rw [← hj, Array.getElem?_toList])
  exact ⟨t, by congr 1; omega⟩
theorem isdA_dn (i : Int) (n : Nat) : IsdA C.P C.w F (dnV i n) (dnD i n) := by
  unfold dnV dnD
  induction n with
  | zero => exact .nil
  | succ n ih => rw [List.range_succ, List.map_append, List.map_append]; exact ih.append (.cons (.int _) .nil)
def tLstR3 (ta tb tc : TE) : TE := fun σ H Q => ta σ H fun x H1 => tb σ H1 fun y H2 => tc σ H2 fun z H3 => ∃ i j : Int, x = .int i ∧ y = .int j ∧ z = .int (-1) ∧ (-1000000 ≤ i ∧ i ≤ 1000000 ∧ -1000000 ≤ j ∧ j ≤ 1000000) ∧ ∀ q, H3 q = none → Q (.ref q) (upd H3 q (.lst (dnV i (i - j).toNat)))
open PyProof.Rows in
theorem pe_listR3 {ta tb tc : TE} {p pr : Pos} (hc : X.calm = true) (hg : Gl X "list") (hm : X.mg "list" = none) (hgr : Gl X "range") (hr : X.mg "range" = none) (ha : PE X a ta) (hb : PE X b tb) (hcc : PE X c tc)
    (na : starEach [a, b, c] X.env = (false, eval a X.env) :: starEach [b, c] X.env) (nb : starEach [b, c] X.env = (false, eval b X.env) :: starEach [c] X.env) (nc : starEach [c] X.env = (false, eval c X.env) :: starEach [] X.env)
    (ne : starEach [.Call (.Name "range" pr) [a, b, c] [] p2] X.env = (false, eval (.Call (.Name "range" pr) [a, b, c] [] p2) X.env) :: starEach [] X.env) (hp : (backTo p2 (starEach [b, c] X.env)).any (·.1) = false) :
    PE X (.Call (.Name "list" p) [.Call (.Name "range" pr) [a, b, c] [] p2] [] pos) (tLstR3 ta tb tc) := by
  refine ⟨fun pins s σ H Q I h => ?_⟩
  have he : wpAny (model X.prog X.w) X.A (eval (.Call (.Name "range" pr) [a, b, c] [] p2) X.env) (fun x s' => ∃ r i j t u v H', x = .ref r ∧ IsRange s'.heap r i j (-1) t u v ∧ L2.Inv X pins σ H' s' ∧ (-1000000 ≤ i ∧ i ≤ 1000000 ∧ -1000000 ≤ j ∧ j ≤ 1000000) ∧ ∀ q, H' q = none → Q (.ref q) (upd H' q (.lst (dnV i (i - j).toNat)))) X.xe s := by
    refine Call_ (ld_blt I hgr hr boot_range (PyProof.Rows.callWith_type1 (args_cons (thn (ha.run pins s σ H _ I h) fun v s1 ⟨x, H1, I1, r1, q1⟩ => args_cons (thn (hb.run pins s1 σ H1 _ I1 q1) fun u s2 ⟨y, H2, I2, r2, q2⟩ => one_arg hcc I2 q2 (fun u3 s3 z H3 I3 r3 q3 => ?_) nc) nb) na) na hp))
    obtain ⟨i, j, rfl, rfl, rfl, hz, q3⟩ := q3
    obtain ⟨t, rfl⟩ := r1
    obtain ⟨t', rfl⟩ := r2
    obtain ⟨t'', rfl⟩ := r3
    exact call_range_3 (by decide) ⟨_, i, j, _, _, _, H3, rfl, IsRange.new _ _ _ _ _ _ _, I3.kept fun b u e => Heap.get?_push_of_some _ e, hz, q3⟩ (.inl (PyProof.noPylong_small (by decide)))
  refine Call_ (ld_blt I hg hm boot_list (PyProof.Rows.callWith_type1 (args_cons (thn he fun x s1 ⟨r, i, j, t, u, v, H1, ex, hr, I1, ok, q⟩ => args_nil ?_) ne) ne))
  subst ex
  obtain ⟨b1, b2, b3, b4⟩ := ok
  obtain ⟨_, _, c3, c4⟩ := RgC.neg (i := i) (j := j) (by omega) (by omega) (by omega) (by omega)
  refine call_list_range (n := (i - j).toNat) (I1.ok.hd hc) hr c3 c4 (by omega) fun h' tk acc c' hk e' hi => ?_
  refine ⟨.ref s1.heap.objs.size, upd H1 s1.heap.objs.size (.lst (dnV i (i - j).toNat)), I1.laid hk (Nat.le_refl _) (show ObjOk X.prog X.w _ _ _ (.lst (dnV i (i - j).toNat)) from ⟨?_, acc.toList, c', vals_dn hi, ?_⟩), rfl, q _ (I1.hok.fresh (Nat.le_refl _))⟩
  · unfold dnV; rw [List.length_map, List.length_range, sizeLine_eq]; omega
  · rw [Array.toArray_toList]; exact e'
def xRngL3 (ta tb tc : PEt) : PEt := fun δ ρ Q => ta δ ρ fun x ρ1 => tb δ ρ1 fun y ρ2 => tc δ ρ2 fun z ρ3 => ∃ i j : Int, x = .int i ∧ y = .int j ∧ z = .int (-1) ∧ (-1000000 ≤ i ∧ i ≤ 1000000 ∧ -1000000 ≤ j ∧ j ≤ 1000000) ∧ Q (.list (dnD i (i - j).toNat)) ρ3
theorem jlistR3 {p pr : Pos} (hm : X.mg "list" = none) (hr : X.mg "range" = none) (ha : JC X C a ta) (hb : JC X C b tb) (hcc : JC X C c tc) (hc : X.calm = true := by rfl) (hg : Gl X "list" := by rfl) (hgr : Gl X "range" := by rfl)
    (na : starEach [a, b, c] X.env = (false, eval a X.env) :: starEach [b, c] X.env := by rfl) (nb : starEach [b, c] X.env = (false, eval b X.env) :: starEach [c] X.env := by rfl) (nc : starEach [c] X.env = (false, eval c X.env) :: starEach [] X.env := by rfl)
    (ne : starEach [.Call (.Name "range" pr) [a, b, c] [] p2] X.env = (false, eval (.Call (.Name "range" pr) [a, b, c] [] p2) X.env) :: starEach [] X.env := by rfl) (hp : (backTo p2 (starEach [b, c] X.env)).any (·.1) = false := by rfl) :
    JF X C (.Call (.Name "list" p) [.Call (.Name "range" pr) [a, b, c] [] p2] [] pos) (xRngL3 ta tb tc) :=
  PE.weak (pe_listR3 hc hg hm hgr hr ha hb hcc na nb nc ne hp) fun σ H Q h => by
    obtain ⟨δ, ρ, F, Q', R, q, k⟩ := h
    refine ⟨δ, ρ, F, _, R, q, fun v x ρ1 F1 H1 g1 R1 i1 q1 => ⟨δ, ρ1, F1, _, R1, q1, fun u y ρ2 F2 H2 g2 R2 i2 q2 => ⟨δ, ρ2, F2, _, R2, q2, fun u3 y3 ρ3 F3 H3 g3 R3 i3 q3 => ?_⟩⟩⟩
    obtain ⟨i, j, rfl, rfl, rfl, z, q3⟩ := q3
    have g := (g1.tr g2 R1).tr g3 R2
    exact ⟨i, j, ((i1.grow g2).grow g3).int, (i2.grow g3).int, i3.int, z, fun p n => k p _ _ ρ3 F3 _ (g.tr (gr_newO n) R3) (R3.newO n) (g.free R3 n) (R3.freeF n) upd_same (.lst (isdA_dn _ _)) q3⟩
/-! ### sorted(set(t)) of ints -/
def rSetT (K : PySem.W.Frag) (w : World) : List V → Hp → VK → Prop := fun xs H Q => ∃ (a : Addr) (ns : List Int), xs = [V.ref a] ∧ SqT K H a (ns.map V.int) ∧ ns.length < 60 ∧ ∀ (p : Addr) (c : Nat), H p = none → c ≤ ns.length → Q (.ref p) (upd H p (SetO w p (fun j => decide (j ∈ ns)) c))
theorem cr_setT (hc : X.calm = true) : CallR X (.type "set") (rSetT X.K X.w) := by
  intro pins s σ H xs us Q I r h
  obtain ⟨a, ns, rfl, ha, hl, q⟩ := h
  obtain ⟨u, rfl, ru⟩ := vals1 r
  cases ru
  obtain ⟨its, rv, p, hz⟩ := I.tuple ha
  exact call_set_tupI ns (I.ok.hd hc) (show s.heap.IsTuple a its.toArray from p) (Vals.ints rv) (by unfold scanBound; omega) fun h' tk c R1 hcn k =>
    ⟨.ref s.heap.objs.size, upd H s.heap.objs.size (SetO X.w s.heap.objs.size (fun j => decide (j ∈ ns)) c), I.laid k (Nat.le_refl _) (setO_new R1), rfl, q _ c (I.hok.fresh (Nat.le_refl _)) hcn⟩
def xSortSet (t : PEt) : PEt := fun δ ρ Q => t δ ρ fun d ρ1 => ∃ ns : List Int, d = .tuple (ns.map .int) ∧ ns.length < 60 ∧ ∀ l : List Int, l.Pairwise (· < ·) → (∀ k, k ∈ l ↔ k ∈ ns) → Q (.list (l.map .int)) ρ1
theorem jsortSet {p ps pc : Pos} (hc : X.calm = true) (hm : X.mg "sorted" = none) (hms : X.mg "set" = none) (ha : JC X C e t) (hg : Gl X "sorted" := by rfl) (hgs : Gl X "set" := by rfl) (he : starEach [e] X.env = (false, eval e X.env) :: starEach [] X.env := by rfl)
    (he2 : starEach [.Call (.Name "set" ps) [e] [] pc] X.env = (false, eval (.Call (.Name "set" ps) [e] [] pc) X.env) :: starEach [] X.env := by rfl) :
    JF X C (.Call (.Name "sorted" p) [.Call (.Name "set" ps) [e] [] pc] [] pos) (xSortSet t) :=
  PE.weak (pe_callB (cr_sortedSet hc) hg hm (by decide +kernel) (pa_cons (pe_callTy (cr_setT hc) hgs hms (by decide +kernel) (pa_cons ha pa_nil he) (by decide) (by decide) he rfl) pa_nil he2) (by decide) (by decide) he2 rfl) fun σ H Q h => by
    obtain ⟨δ, ρ, F, Q', R, q, k⟩ := h
    refine ⟨δ, ρ, F, _, R, q, fun v d ρ1 F1 H1 g1 R1 i1 q1 => ?_⟩
    obtain ⟨ns, rfl, hl, q1⟩ := q1
    obtain ⟨p, vs, rfl, hp, hv⟩ := i1.tup R1.frz
    rw [hv.ints] at hp
    refine ⟨p, ns, rfl, SqT.of hp, hl, fun pq c n hcn => ⟨pq, _, c, rfl, upd_same, by omega, fun l p2 hs hm _ n2 => ?_⟩⟩
    have g2 := gr_newO (C := C) (F := F1) (o := SetO X.w pq (fun j => decide (j ∈ ns)) c) n
    have R2 := R1.newO (o := SetO X.w pq (fun j => decide (j ∈ ns)) c) n
    have g := g1.tr g2 R1
    exact k p2 _ _ ρ1 F1 _ (g.tr (gr_newO n2) R2) (R2.newO n2) (g.free R2 n2) (R2.freeF n2) upd_same (.lst (isdA_ints l)) (q1 l hs fun k => by rw [hm k]; exact decide_eq_true_iff)
end
end HB

set_option Elab.async false
set_option linter.all false
set_option maxRecDepth 100000
set_option maxHeartbeats 4000000
set_option autoImplicit false
namespace HB
open PySem PySem.Spec L2
section
variable {X : Cx} {C : Cc} {a b c e tg iter : Expr} {ta tb tc t : PEt} {tt tu : PTt} {tas : PAt} {pos p2 : Pos} {es rest : List Expr} {st : Stmt} {sts : List Stmt} {s1 s2 s3 : PSt}
variable {δ δ' : Enm} {ρ ρ' : Rw} {σ σ' : L2.St} {F F' H H' : Hp}
theorem gr_sbd {i j : Nat} : GR (gSbD i (xZ j)) := fun _ _ _ _ ⟨_, _, _, _, h⟩ => ⟨_, _, h.2.2⟩
/-! ### the row of drawn numbers -/
theorem Rl.rowat (R : Rl C δ ρ σ F H) {i : Nat} (h : δ[i]? = some .row) : ∃ r, σ[i]? = some (some (.ref r)) ∧ C.r = some r ∧ C.H0 r ≠ none ∧ F r = none ∧ H r = some (.lst [.ref C.sa, .int ρ.1, .int ρ.2.1, .int ρ.2.2]) ∧ C.sa ≠ r ∧ SqL C.K H C.sa (C.ns.map V.int) := by
  obtain ⟨r, e1, e2⟩ := R.slot i _ h
  obtain ⟨h1, h2, h3, h4, h5⟩ := R.row r e2
  refine ⟨r, e1, e2, h1, h2, h3, h4, ?_⟩
  have hs : ∀ o, C.H0 C.sa = some o → H C.sa = some o := fun o z => R.same _ o (fun y => h4 (by rw [e2] at y; exact (Option.some.inj y).symm)) z
  rcases h5 with (h5 | ⟨o, h5⟩) | h5
  · exact .inl (.inl (hs _ h5))
  · exact .inl (.inr ⟨o, hs _ h5⟩)
  · exact .inr h5
theorem RowOk.put (R : Rl C δ ρ σ F H) {r : Addr} (h : C.r = some r) (ρ' : Rw) : Gr C F H F (upd H r (.lst [.ref C.sa, .int ρ'.1, .int ρ'.2.1, .int ρ'.2.2])) ∧ Rl C δ ρ' σ F (upd H r (.lst [.ref C.sa, .int ρ'.1, .int ρ'.2.1, .int ρ'.2.2])) := by
  obtain ⟨h1, h2, h3, h4, h5⟩ := R.row r h
  have g : Gr C F H F (upd H r (.lst [.ref C.sa, .int ρ'.1, .int ρ'.2.1, .int ρ'.2.2])) := ⟨Same.refl _, fun b o n z => by rw [upd_ne fun q => n (by rw [q]; exact h)]; exact z, fun _ _ _ => rfl⟩
  refine ⟨g, R.grow g (fun b o z => by rw [upd_ne (ne_of_none z h2)]; exact R.frz b o z) fun r' e => ?_⟩
  have : r' = r := by rw [h] at e; exact (Option.some.inj e).symm
  subst this
  exact ⟨h1, h2, upd_same, h4, h5⟩
def rwAt (ρ : Rw) : Nat → Int
  | 1 => ρ.1
  | 2 => ρ.2.1
  | _ => ρ.2.2
def rwSet (ρ : Rw) (k : Nat) (v : Int) : Rw := match k with
  | 1 => (v, ρ.2.1, ρ.2.2)
  | 2 => (ρ.1, v, ρ.2.2)
  | _ => (ρ.1, ρ.2.1, v)
def xRow (i k : Nat) : PEt := fun δ ρ Q => δ[i]? = some .row ∧ Q (.int (rwAt ρ k)) ρ
theorem jrow (i k : Nat) {x : Str} {px pc : Pos} {j : Nat} (ho : PE X (.Name x px) (tVar i)) (hk : k = 1 ∨ k = 2 ∨ k = 3 := by decide) : JE X C (.Subscript (.Name x px) (.Constant (.int ((k : Nat) : Int)) j pc) pos) (xRow i k) := PE.weak (pe_ix ix_list ho pe_int fun _ _ => rfl) fun σ H Q h => by
  obtain ⟨δ, ρ, F, Q', R, ⟨h, q⟩, kk⟩ := h
  obtain ⟨r, e1, e2, _, _, h3, h4, h5⟩ := R.rowat h
  refine ⟨.ref r, e1, r, _, ((k : Nat) : Int), .int (rwAt ρ k), rfl, rfl, SqL.of h3, ?_, kk _ _ ρ F H Gr.refl R (.int _) q⟩
  rcases hk with rfl | rfl | rfl <;> rfl
def gRow (i k : Nat) : PGt := fun d δ ρ Q => δ[i]? = some .row ∧ ∃ v, d = .int v ∧ Q δ (rwSet ρ k v)
theorem jgrow (i k : Nat) {x : Str} {px pc : Pos} {j : Nat} (ho : PE X (.Name x px) (tVar i)) (hk : k = 1 ∨ k = 2 ∨ k = 3 := by decide) (ha : ∀ v, assign (.Subscript (.Name x px) (.Constant (.int ((k : Nat) : Int)) j pc) pos) X.env v = (do
      let ov ← holding [v] (eval (.Name x px) X.env)
      let iv ← holding [v, ov] (eval (.Constant (.int ((k : Nat) : Int)) j pc) X.env)
      standAt pos
      holding [v, ov, iv] (setItem ov iv v)
      release [v, ov, iv] []) := by intro _; rfl) : JG X C false [] (.Subscript (.Name x px) (.Constant (.int ((k : Nat) : Int)) j pc) pos) (gRow i k) := PG.weak (pg_sub ho pe_int set_list ha) fun v σ H Q h => by
  obtain ⟨δ, ρ, F, d, Q', R, hd, ⟨h, v', rfl, q⟩, kk⟩ := h
  obtain ⟨r, e1, e2, _, _, h3, h4, h5⟩ := R.rowat h
  have hv : v = .int v' := CIs.int (F := F) (H := H) (.inl hd)
  subst hv
  obtain ⟨g, R'⟩ := RowOk.put R e2 (rwSet ρ k v')
  have e4 : ixN ([V.ref C.sa, V.int ρ.1, V.int ρ.2.1, V.int ρ.2.2]).length ((k : Nat) : Int) = some k := by rcases hk with rfl | rfl | rfl <;> rfl
  have e5 : ([V.ref C.sa, V.int ρ.1, V.int ρ.2.1, V.int ρ.2.2]).set k (V.int v') = [V.ref C.sa, V.int (rwSet ρ k v').1, V.int (rwSet ρ k v').2.1, V.int (rwSet ρ k v').2.2] := by rcases hk with rfl | rfl | rfl <;> rfl
  refine ⟨.ref r, e1, r, _, ((k : Nat) : Int), k, rfl, rfl, h3, e4, ?_⟩
  rw [e5]
  exact kk _ _ σ F _ (Same.refl _) (fun z => by cases z) R' (But.refl _ _) q
/-- row[0], the drawn list -/
def LR0 (C : Cc) (i : Nat) : TE := fun σ H Q => ∃ δ ρ F, Rl C δ ρ σ F H ∧ δ[i]? = some .row ∧ (SqL C.K H C.sa (C.ns.map V.int) → Q (.ref C.sa) H)
theorem jr0 (i : Nat) {x : Str} {px pc : Pos} {j : Nat} (ho : PE X (.Name x px) (tVar i)) : PE X (.Subscript (.Name x px) (.Constant (.int 0) j pc) pos) (LR0 C i) := PE.weak (pe_ix ix_list ho pe_int fun _ _ => rfl) fun σ H Q h => by
  obtain ⟨δ, ρ, F, R, h, q⟩ := h
  obtain ⟨r, e1, e2, _, _, h3, h4, h5⟩ := R.rowat h
  exact ⟨.ref r, e1, r, _, 0, .ref C.sa, rfl, rfl, SqL.of h3, rfl, q h5⟩
def xLen0 (C : Cc) (i : Nat) : PEt := fun δ ρ Q => δ[i]? = some .row ∧ Q (.int C.ns.length) ρ
theorem jlen0 (i : Nat) {x : Str} {px pc p : Pos} {j : Nat} (hK : C.K = X.K) (hm : X.mg "len" = none) (ho : PE X (.Name x px) (tVar i)) (hg : Gl X "len" := by rfl)
    (he : starEach [.Subscript (.Name x px) (.Constant (.int 0) j pc) p2] X.env = (false, eval (.Subscript (.Name x px) (.Constant (.int 0) j pc) p2) X.env) :: starEach [] X.env := by rfl) :
    JE X C (.Call (.Name "len" p) [.Subscript (.Name x px) (.Constant (.int 0) j pc) p2] [] pos) (xLen0 C i) :=
  PE.weak (pe_callB call_len_seq hg hm (by decide +kernel) (pa_cons (jr0 (C := C) i ho) pa_nil he) (by decide) (by decide) he rfl) fun σ H Q h => by
    obtain ⟨δ, ρ, F, Q', R, ⟨h, q⟩, kk⟩ := h
    refine ⟨δ, ρ, F, R, h, fun hs => ⟨C.sa, _, rfl, .inl (by rw [← hK]; exact hs), ?_⟩⟩
    rw [List.length_map]
    exact kk _ _ ρ F H Gr.refl R (.int _) q
def xCell (C : Cc) (i : Nat) (t : PEt) : PEt := fun δ ρ Q => δ[i]? = some .row ∧ t δ ρ fun d ρ1 => ∃ k n, d = .int k ∧ atI C.ns k = some n ∧ Q (.int n) ρ1
theorem jcell (i : Nat) {x : Str} {px pc : Pos} {j : Nat} (hK : C.K = X.K) (ho : PE X (.Name x px) (tVar i)) (he : JC X C e t) (hs : PlainIx e := by exact fun _ _ => rfl) :
    JE X C (.Subscript (.Subscript (.Name x px) (.Constant (.int 0) j pc) p2) e pos) (xCell C i t) :=
  PE.weak (pe_ix ix_list (jr0 (C := C) i ho) he hs) fun σ H Q h => by
    obtain ⟨δ, ρ, F, Q', R, ⟨h, q⟩, kk⟩ := h
    refine ⟨δ, ρ, F, R, h, fun _ => ⟨δ, ρ, F, _, R, q, fun v d ρ1 F1 H1 g1 R1 i1 q1 => ?_⟩⟩
    obtain ⟨k, n, rfl, ha, q1⟩ := q1
    obtain ⟨_, _, _, _, _, _, _, hs⟩ := R1.rowat h
    refine ⟨C.sa, _, k, .int n, rfl, i1.int, by rw [← hK]; exact hs, ?_, kk _ _ ρ1 F1 H1 g1 R1 (.int _) q1⟩
    unfold atI at ha ⊢
    rw [List.length_map]
    cases z : ixN C.ns.length k with
    | none => rw [z] at ha; cases ha
    | some m =>
      rw [z] at ha
      show (C.ns.map V.int)[m]? = _
      rw [List.getElem?_map, show C.ns[m]? = some n from ha]; rfl

/-! ### defs that draw from the row -/
abbrev SpR := List Int → Rw → List PyData → (PyData → Rw → Prop) → Prop
def spR (P : Program) (w : World) (K : PySem.W.Frag) (S : SpR) : Sp := fun vs H Q _ => ∃ (F : Hp) (r sa : Addr) (vs' : List V) (ns : List Int) (ρ : Rw) (ds : List PyData) (W : PyData → Rw → Prop), vs = .ref r :: vs' ∧ F r = none ∧ H r = some (.lst [.ref sa, .int ρ.1, .int ρ.2.1, .int ρ.2.2]) ∧ sa ≠ r ∧ SqL K H sa (ns.map V.int) ∧
  Same F H ∧ IsdA P w F vs' ds ∧ S ns ρ ds W ∧
  ∀ v d ρ' F' H', Same F F' → (∀ b o, b ≠ r → H b = some o → H' b = some o) → F' r = none → H' r = some (.lst [.ref sa, .int ρ'.1, .int ρ'.2.1, .int ρ'.2.2]) → Same F' H' → (∀ b o, H b = some o → F' b = F b) → Isd P w F' v d → W d ρ' → Q v H'
structure DfR (P : Program) (w : World) (K : PySem.W.Frag) (mg : Str → Option Value) (base : Heap) (x : Str) (k : Nat) (S : SpR) : Prop where
  ex : ∃ f fd ps, FnOk P w K mg base CX0 k f fd ps (spR P w K S) ∧ mg x = some (.ref f) ∧ PySem.W.keepIn K (.ref f) = true ∧ Binds K fd ps []
def xCallR (C : Cc) (S : SpR) (i : Nat) (tas : PAt) : PEt := fun δ ρ Q => δ[i]? = some .row ∧ tas δ ρ fun ds ρ1 => S C.ns ρ1 ds Q
theorem jcallR {x y : Str} {p px : Pos} {k : Nat} {S : SpR} (G : DfR X.prog X.w X.K X.mg X.base x k S) (hP : C.P = X.prog ∧ C.w = X.w ∧ C.K = X.K) (hr : Room k X.A) (i : Nat) (ho : PE X (.Name y px) (tVar i)) (ha : JA X C es tas) (hg : Gl X x := by rfl) (hdb : (x == ("__debug__" : Str)) = false := by decide)
    (he : starEach (.Name y px :: es) X.env = (false, eval (.Name y px) X.env) :: starEach es X.env := by rfl) (hpl : (backTo pos (starEach es X.env)).any (·.1) = false := by rfl) : JE X C (.Call (.Name x p) (.Name y px :: es) [] pos) (xCallR C S i tas) := by
  obtain ⟨f, fd, ps, G, hm, hk, hb⟩ := G.ex
  refine PE.weak (pe_call G hr hg hm hk hb .nil pass0 (pa_cons ho ha he) hdb he hpl) fun σ H Q h => ?_
  obtain ⟨δ, ρ, F, Q', R1, ⟨h, q⟩, kk⟩ := h
  obtain ⟨r, e1, e2, _⟩ := R1.rowat h
  refine ⟨.ref r, e1, δ, ρ, F, _, R1, q, fun vs ds ρ2 F2 H2 g2 R2 i2 q2 => ?_⟩
  obtain ⟨r', e1', e2', h0, hf, h3, h4, h5⟩ := R2.rowat h
  rw [e2] at e2'; cases e2'
  rw [hP.1, hP.2.1] at i2
  rw [hP.2.2] at h5
  refine ⟨F2, r, C.sa, vs, C.ns, ρ2, ds, _, by rw [List.append_nil], hf, h3, h4, h5, R2.frz, i2, q2, fun v d ρ3 F3 H3 s1 s2 f3 s3 s4 e3 i3 w3 => ?_⟩
  have g3 : Gr C F2 H2 F3 H3 := ⟨s1, fun b o n z => s2 b o (fun q => n (by rw [q]; exact e2)) z, e3⟩
  refine kk v d ρ3 F3 H3 (g2.tr g3 R2) (R2.grow g3 s4 fun r' z => ?_) ?_ w3
  · rw [e2] at z; cases z
    obtain ⟨h1, _, _, h4', h5'⟩ := R2.row r e2
    exact ⟨h1, f3, s3, h4', h5'⟩
  · show Isd C.P C.w F3 v d
    rw [hP.1, hP.2.1]; exact i3
abbrev bCR (P : Program) (w : World) (K : PySem.W.Frag) (F H : Hp) (r sa : Addr) (ns : List Int) : Cc := ⟨P, w, K, F, H, some r, sa, ns⟩
def startR (N : List Str) (ds : List PyData) : Enm := Slo.row :: (ds.map Slo.fz ++ List.replicate (N.length - (ds.length + 1)) Slo.no)
theorem rl_startR {P : Program} {w : World} {K : PySem.W.Frag} {N : List Str} {vs : List V} {ds : List PyData} {r sa : Addr} {ns : List Int} {ρ : Rw} (s : Same F H) (h : IsdA P w F vs ds) (hf : F r = none) (hr : H r = some (.lst [.ref sa, .int ρ.1, .int ρ.2.1, .int ρ.2.2])) (hsa : sa ≠ r) (hq : SqL K H sa (ns.map V.int)) :
    Rl (bCR P w K F H r sa ns) (startR N ds) ρ (L2.start N (.ref r :: vs)) F H where
  len := by simp [startR, L2.start, h.length]
  slot := fun i sl e => by
    unfold startR at e
    cases i with
    | zero =>
      simp at e; subst e
      exact ⟨r, rfl, rfl⟩
    | succ i =>
      rw [List.getElem?_cons_succ] at e
      by_cases hi : i < ds.length
      · rw [List.getElem?_append_left (by simpa using hi), List.getElem?_map, List.getElem?_eq_getElem hi] at e
        cases e
        obtain ⟨v, e1, i1⟩ := h.get (List.getElem?_eq_getElem hi)
        refine ⟨v, ?_, i1⟩
        unfold L2.start
        rw [List.map_cons, List.cons_append, List.getElem?_cons_succ, List.getElem?_append_left (by simpa [h.length] using hi), List.getElem?_map, e1]; rfl
      · rw [List.getElem?_append_right (by simpa using hi), List.getElem?_replicate] at e
        split at e
        · cases e; trivial
        · cases e
  apart := fun i j di dj a e1 e2 _ _ => by
    exfalso
    unfold startR at e1
    cases i with
    | zero => simp at e1
    | succ i =>
      rw [List.getElem?_cons_succ] at e1
      by_cases hi : i < ds.length
      · rw [List.getElem?_append_left (by simpa using hi), List.getElem?_map, List.getElem?_eq_getElem hi] at e1
        cases e1
      · rw [List.getElem?_append_right (by simpa using hi), List.getElem?_replicate] at e1
        split at e1 <;> cases e1
  same := fun b o _ z => z
  frz := s
  ext := fun _ _ _ => rfl
  old := Same.refl _
  row := fun r' z => by
    cases z
    exact ⟨by show H r ≠ none; rw [hr]; simp, hf, hr, hsa, hq⟩
theorem mkdefR {P : Program} {w : World} {K : PySem.W.Frag} {mg : Str → Option Value} {base : Heap} {x name qual : Str} {st : Stmt} {f : Addr} {fd : FuncData} {N ps : List Str} {k : Nat} {S : SpR}
    (Fd : FunD K name qual (defArgs st) (defBody st) (defScope st) [] [] f fd) (hm : mg x = some (.ref f)) (Sc : FnScope N ps (defScope st)) (b : Binds K fd ps []) (len : ∀ ns ρ ds W, S ns ρ ds W → ds.length + 1 = ps.length)
    (hbody : ∀ (cdv : Value) (A : Around) (outer : List Env) (s : Shared) (H F : Hp) (E : XK) (r sa : Addr) (ns : List Int), Room k (A.deeper (PyProof.Rows.envOfC qual (defScope st) s.heap.objs.size f cdv)) →
      ∃ t, JB (bX P w K mg base N qual (defScope st) f cdv A outer s H E) (bCR P w K F H r sa ns) (defBody st) t ∧ ∀ ρ ds W, S ns ρ ds W → t { nx := fun _ ρ' => W .none ρ', rt := fun d ρ' => W d ρ' } (startR N ds) ρ) :
    DfR P w K mg base x (k + 1) S := by
  refine ⟨f, fd, ps, ?_, hm, Fd.kp, b⟩
  refine Fd.ok Sc (fun vs H Q E h => ?_) (fun cdv A outer s H vs Q E hr h => ?_)
  · obtain ⟨F, r, sa, vs', ns, ρ, ds, W, rfl, _, _, _, _, _, i, q, _⟩ := h
    rw [List.length_cons, i.length, len ns ρ ds W q]
  · obtain ⟨F, r, sa, vs', ns, ρ, ds, W, rfl, hf, hrr, hsa, hq, sF, i, r', q⟩ := h
    obtain ⟨t, hb, ht⟩ := hbody cdv A outer s H F E r sa ns hr
    have fin : ∀ {δ ρ2 σ F' H'}, Rl (bCR P w K F H r sa ns) δ ρ2 σ F' H' → (∀ b o, b ≠ r → H b = some o → H' b = some o) ∧ F' r = none ∧ H' r = some (.lst [.ref sa, .int ρ2.1, .int ρ2.2.1, .int ρ2.2.2]) ∧ Same F' H' ∧ (∀ b o, H b = some o → F' b = F b) := fun R' => by
      obtain ⟨_, h2, h3, _⟩ := R'.row r rfl
      exact ⟨fun b o n z => R'.same b o (fun y => n (Option.some.inj y).symm) z, h2, h3, R'.frz, fun b o z => R'.ext b o z⟩
    refine ⟨_, PSs.nox hb, startR N ds, ρ, F, _, rl_startR sF i hf hrr hsa hq, ht ρ ds W r', ⟨fun δ ρ σ F' H' s' R' z => ?_, fun v d' δ ρ σ F' H' s' R' i' z => ?_, fun _ _ _ _ _ _ _ z => z.elim, fun _ _ _ _ _ _ _ z => z.elim⟩⟩
    · obtain ⟨c1, c2, c3, c4, c5⟩ := fin R'
      exact q .non .none ρ F' H' s' c1 c2 c3 c4 c5 .non z
    · obtain ⟨c1, c2, c3, c4, c5⟩ := fin R'
      exact q v d' ρ F' H' s' c1 c2 c3 c4 c5 i' z
/-! ### tuple(range(a, b)) -/
def xRngT (ta tb : PEt) : PEt := fun δ ρ Q => ta δ ρ fun x ρ1 => tb δ ρ1 fun y ρ2 => ∃ i j : Int, x = .int i ∧ y = .int j ∧ (-1000000 ≤ i ∧ i ≤ 1000000 ∧ -1000000 ≤ j ∧ j ≤ 1000000) ∧ Q (.tuple (rngD i (j - i).toNat)) ρ2
theorem jtupR2 {p pr : Pos} (hm : X.mg "tuple" = none) (hr : X.mg "range" = none) (ha : JC X C a ta) (hb : JC X C b tb) (hc : X.calm = true := by rfl) (hg : Gl X "tuple" := by rfl) (hgr : Gl X "range" := by rfl) (na : starEach [a, b] X.env = (false, eval a X.env) :: starEach [b] X.env := by rfl)
    (na2 : starEach [b] X.env = (false, eval b X.env) :: starEach [] X.env := by rfl) (ne : starEach [.Call (.Name "range" pr) [a, b] [] p2] X.env = (false, eval (.Call (.Name "range" pr) [a, b] [] p2) X.env) :: starEach [] X.env := by rfl) (hp : (backTo p2 (starEach [b] X.env)).any (·.1) = false := by rfl) :
    JE X C (.Call (.Name "tuple" p) [.Call (.Name "range" pr) [a, b] [] p2] [] pos) (xRngT ta tb) :=
  PE.weak (pe_tupRg hc hg hm (prg_2 hgr hr ha hb na na2 hp) ne) fun σ H Q h => by
    obtain ⟨δ, ρ, F, Q', R, q, k⟩ := h
    refine ⟨δ, ρ, F, _, R, q, fun v x ρ1 F1 H1 g1 R1 i1 q1 => ⟨δ, ρ1, F1, _, R1, q1, fun u y ρ2 F2 H2 g2 R2 i2 q2 => ?_⟩⟩
    obtain ⟨i, j, rfl, rfl, z, q2⟩ := q2
    have g := g1.tr g2 R1
    exact ⟨i, j, (i1.grow g2).int, i2.int, ⟨by omega, by omega, by omega, by omega, by omega⟩, fun p n => k _ _ ρ2 _ _ (g.tr (gr_new n R2.frz) R2) (R2.new n) (.ref upd_same (.tup (isdA_rng i j))) q2⟩
/-! ### the def that makes the row -/
/-- from here on the list at slot i is the row: the rest returns -/
def sBase (i : Nat) (u : Cc → PSt) (C : Cc) : PSt := fun D δ ρ => ∃ ns a b c, δ[i]? = some (.ow (.list [.list (ns.map .int), .int a, .int b, .int c])) ∧ (∀ (j : Nat) s, δ[j]? = some s → j ≠ i → s = .no ∨ ∃ d, s = .fz d) ∧
  ∀ C', C'.P = C.P → C'.w = C.w → C'.K = C.K → C'.ns = ns → u C' { nx := fun _ _ => False, rt := fun d _ => ∀ ρ, D.rt d ρ } (δ.set i .row) (a, b, c)
theorem jbase (i : Nat) {u : Cc → PSt} (hr : C.r = none) (h : ∀ C', C'.P = C.P → C'.w = C.w → C'.K = C.K → JB X C' sts (u C')) : JB X C sts (sBase i u C) := by
  refine ⟨fun pins s σ H D I q => ?_⟩
  obtain ⟨δ, ρ, F, D', R, ⟨ns, a, b, c, e0, hz, q⟩, E⟩ := q
  obtain ⟨r, o, e1, hf, h0, ho, hd⟩ := R.slot i _ e0
  cases hd with
  | lst hv =>
    rename_i vs
    cases hv with
    | cons hv0 hv =>
    cases hv with
    | cons hv1 hv =>
    cases hv with
    | cons hv2 hv =>
    cases hv with
    | cons hv3 hv =>
    cases hv
    obtain ⟨sa, vss, rfl, hsa, hvs⟩ := lst_inv hv0
    have z1 := CIs.int (C := C) (F := F) (H := H) (.inl hv1)
    have z2 := CIs.int (C := C) (F := F) (H := H) (.inl hv2)
    have z3 := CIs.int (C := C) (F := F) (H := H) (.inl hv3)
    subst z1 z2 z3
    rw [hvs.ints] at hsa
    have nsr : sa ≠ r := fun z => by rw [z, hf] at hsa; cases hsa
    let C' : Cc := ⟨C.P, C.w, C.K, F, H, some r, sa, ns⟩
    have q' := q C' rfl rfl rfl rfl
    have hi : i < δ.length := (List.getElem?_eq_some_iff.mp e0).1
    have R' : Rl C' (δ.set i .row) (a, b, c) σ F H := {
      len := by rw [List.length_set]; exact R.len
      slot := fun j s e => by
        by_cases hj : i = j
        · subst hj
          rw [List.getElem?_set_self hi] at e; cases e
          exact ⟨r, e1, rfl⟩
        · rw [List.getElem?_set_ne hj] at e
          rcases hz j s e (fun z => hj z.symm) with rfl | ⟨d, rfl⟩
          · trivial
          · exact R.slot j _ e
      apart := fun j k dj dk x q1 q2 _ _ => by
        by_cases hj : i = j
        · subst hj; rw [List.getElem?_set_self hi] at q1; cases q1
        · rw [List.getElem?_set_ne hj] at q1
          rcases hz j _ q1 (fun z => hj z.symm) with z | ⟨d, z⟩ <;> cases z
      same := fun b o _ z => z
      frz := R.frz
      ext := fun _ _ _ => rfl
      old := Same.refl _
      row := fun r' z => by
        cases z
        exact ⟨by show H r ≠ none; rw [ho]; simp, hf, ho, nsr, SqL.of (R.frz _ _ hsa)⟩ }
    refine (h C' rfl rfl rfl).run pins s σ H D I ⟨δ.set i .row, (a, b, c), F, _, R', q', ⟨fun δ ρ σ F' H' s' R2 z => z.elim, fun v d δ2 ρ2 σ2 F' H' s' R2 i2 z => ?_, fun _ _ _ _ _ _ _ z => z.elim, fun _ _ _ _ _ _ _ z => z.elim⟩⟩
    have R3 : Rl C (List.replicate σ2.length Slo.no) ρ σ2 F' H' := {
      len := by simp
      slot := fun j s e => by
        rw [List.getElem?_replicate] at e
        split at e
        · cases e; trivial
        · cases e
      apart := fun j k dj dk x q1 _ _ _ => by
        rw [List.getElem?_replicate] at q1
        split at q1 <;> cases q1
      same := fun b o n z => R2.same b o (fun y => by
        have : r = b := Option.some.inj y
        subst this
        rw [h0] at z; cases z) (R.same b o n z)
      frz := R2.frz
      ext := fun x o z => by
        have z2 : H x = some o := R.same x o (by rw [hr]; simp) z
        have := R2.ext x o z2
        rw [this]; exact R.ext x o z
      old := R.old.trans R2.old
      row := fun r' z => by rw [hr] at z; cases z }
    exact E.rt v d _ ρ σ2 F' H' R2.old R3 i2 (z ρ)
end
end HB

set_option Elab.async false
set_option linter.all false
set_option maxRecDepth 100000
set_option maxHeartbeats 4000000
set_option autoImplicit false
namespace HB
open PySem PySem.Spec L2
/-- a def of the text stands where the module's name x says -/
structure Fn (K : PySem.W.Frag) (mg : Str → Option Value) (x name : Str) (i : Nat) : Prop where
  ex : ∃ f fd, FunD K name name (defArgs (top i)) (defBody (top i)) (defScope (top i)) [] [] f fd ∧ mg x = some (.ref f)
theorem mkfn {P : Program} {w : World} {K : PySem.W.Frag} {mg : Str → Option Value} {base : Heap} {x name : Str} {i : Nat} {N ps : List Str} {k : Nat} {R : SpT}
    (Fn : Fn K mg x name i) (S : FnScope N ps (defScope (top i)))
    (b : ∀ (kV doc pm : Value) (an : Option Addr) (cdv ct : Value) (us : List Value), us.length = ps.length → bindArgs (PySem.W.fnOf name name (defArgs (top i)) (defBody (top i)) (defScope (top i)) .none kV doc pm an cdv ct) ⟨us, []⟩ = pure (ps.zip us))
    (len : ∀ ds W, R ds W → ds.length = ps.length)
    (hbody : ∀ (f : Addr) (cdv : Value) (A : Around) (outer : List Env) (s : Shared) (H F : Hp) (E : XK), Room k (A.deeper (PyProof.Rows.envOfC name (defScope (top i)) s.heap.objs.size f cdv)) →
      ∃ t, JB (bX P w K mg base N name (defScope (top i)) f cdv A outer s H E) (bC P w K F H) (defBody (top i)) t ∧ ∀ ds W, R ds W → t { nx := fun _ _ => W .none, rt := fun d _ => W d } (start' N ds) (0, 0, 0)) :
    Df P w K mg base x (k + 1) R := by
  obtain ⟨f, fd, F, hm⟩ := Fn.ex
  exact mkdef F hm S (F.bindsN b) len fun cdv A outer s H F E hr => hbody f cdv A outer s H F E hr
theorem _root_.L2.Room.u_0 {k : Nat} {A : Around} (r : Room k A) : A.units < cLine := by have := r.un; omega
theorem _root_.L2.Room.u65 {k : Nat} {A : Around} (r : Room k A) : A.units + 65 < cLine := by have := r.un; omega
theorem _root_.L2.Room.u_s {k : Nat} {A : Around} (r : Room k A) : A.units + 100 < cLine := by have := r.un; omega
theorem _root_.L2.Room.u_d {k : Nat} {A : Around} (r : Room k A) : A.units + 100 < cLine := by have := r.un; omega
abbrev N_is_in : List Str := ["value", "least", "most"]
theorem sc_is_in : FnScope N_is_in ["value", "least", "most"] (defScope (top 9)) := ⟨rfl, rfl, rfl, by decide +kernel, rfl, by decide +kernel, by decide +kernel⟩
abbrev N_is_row : List Str := ["value", "roof", "one"]
theorem sc_is_row : FnScope N_is_row ["value", "roof"] (defScope (top 12)) := ⟨rfl, rfl, rfl, by decide +kernel, rfl, by decide +kernel, by decide +kernel⟩
abbrev N_need_book : List Str := ["book"]
theorem sc_need_book : FnScope N_need_book ["book"] (defScope (top 13)) := ⟨rfl, rfl, rfl, by decide +kernel, rfl, by decide +kernel, by decide +kernel⟩
abbrev N_lets : List Str := ["book", "own", "near", "up"]
theorem sc_lets : FnScope N_lets ["book", "own", "near", "up"] (defScope (top 14)) := ⟨rfl, rfl, rfl, by decide +kernel, rfl, by decide +kernel, by decide +kernel⟩
abbrev N_all_pairs : List Str := ["roof", "found", "one", "other"]
theorem sc_all_pairs : FnScope N_all_pairs ["roof"] (defScope (top 16)) := ⟨rfl, rfl, rfl, by decide +kernel, rfl, by decide +kernel, by decide +kernel⟩
abbrev N_behind : List Str := ["pair", "place", "up", "step"]
theorem sc_behind : FnScope N_behind ["pair", "place", "up"] (defScope (top 17)) := ⟨rfl, rfl, rfl, by decide +kernel, rfl, by decide +kernel, by decide +kernel⟩
abbrev N_deeds_in_twos : List Str := ["book", "pair", "found", "up", "place"]
theorem sc_deeds_in_twos : FnScope N_deeds_in_twos ["book", "pair"] (defScope (top 18)) := ⟨rfl, rfl, rfl, by decide +kernel, rfl, by decide +kernel, by decide +kernel⟩
abbrev N_from_in : List Str := ["book", "pair", "found", "rows", "more", "here", "up", "place", "there"]
theorem sc_from_in : FnScope N_from_in ["book", "pair"] (defScope (top 20)) := ⟨rfl, rfl, rfl, by decide +kernel, rfl, by decide +kernel, by decide +kernel⟩
abbrev N_off : List Str := ["pair", "other"]
theorem sc_off : FnScope N_off ["pair", "other"] (defScope (top 21)) := ⟨rfl, rfl, rfl, by decide +kernel, rfl, by decide +kernel, by decide +kernel⟩
abbrev N_crooked_in : List Str := ["book", "pair", "told", "bad", "other"]
theorem sc_crooked_in : FnScope N_crooked_in ["book"] (defScope (top 22)) := ⟨rfl, rfl, rfl, by decide +kernel, rfl, by decide +kernel, by decide +kernel⟩
abbrev N_shuffles_in : List Str := ["book", "pair", "other", "rows", "turn", "more", "word", "here", "place", "up"]
theorem sc_shuffles_in : FnScope N_shuffles_in ["book", "pair", "other"] (defScope (top 24)) := ⟨rfl, rfl, rfl, by decide +kernel, rfl, by decide +kernel, by decide +kernel⟩
abbrev N_way : List Str := ["first", "last"]
theorem sc_way : FnScope N_way ["first", "last"] (defScope (top 25)) := ⟨rfl, rfl, rfl, by decide +kernel, rfl, by decide +kernel, by decide +kernel⟩
abbrev N_bounds : List Str := ["words", "many", "found", "index", "ahead", "word", "spot", "at", "place"]
theorem sc_bounds : FnScope N_bounds ["words", "many"] (defScope (top 26)) := ⟨rfl, rfl, rfl, by decide +kernel, rfl, by decide +kernel, by decide +kernel⟩
abbrev N_told_in : List Str := ["book", "pair", "other", "words", "found", "first", "second", "index", "least", "most", "k"]
theorem sc_told_in : FnScope N_told_in ["book", "pair", "other"] (defScope (top 27)) := ⟨rfl, rfl, rfl, by decide +kernel, rfl, by decide +kernel, by decide +kernel⟩
abbrev N_counted : List Str := ["limits", "rows", "least", "most", "more", "low", "here"]
theorem sc_counted : FnScope N_counted ["limits"] (defScope (top 28)) := ⟨rfl, rfl, rfl, by decide +kernel, rfl, by decide +kernel, by decide +kernel⟩
abbrev N_is_told_in : List Str := ["book", "pair", "other", "words"]
theorem sc_is_told_in : FnScope N_is_told_in ["book", "pair", "other"] (defScope (top 29)) := ⟨rfl, rfl, rfl, by decide +kernel, rfl, by decide +kernel, by decide +kernel⟩
abbrev N_courses_in : List Str := ["book", "every", "found", "pair", "other"]
theorem sc_courses_in : FnScope N_courses_in ["book"] (defScope (top 30)) := ⟨rfl, rfl, rfl, by decide +kernel, rfl, by decide +kernel, by decide +kernel⟩
abbrev N_untold_in : List Str := ["book", "pair", "other"]
theorem sc_untold_in : FnScope N_untold_in ["book"] (defScope (top 31)) := ⟨rfl, rfl, rfl, by decide +kernel, rfl, by decide +kernel, by decide +kernel⟩
abbrev N_all_kinds : List Str := ["roof", "found", "first", "last", "at"]
theorem sc_all_kinds : FnScope N_all_kinds ["roof"] (defScope (top 33)) := ⟨rfl, rfl, rfl, by decide +kernel, rfl, by decide +kernel, by decide +kernel⟩
abbrev N_leads_in : List Str := ["book", "found", "first", "last", "at", "step", "pair", "other", "place", "there", "then", "one"]
theorem sc_leads_in : FnScope N_leads_in ["book"] (defScope (top 34)) := ⟨rfl, rfl, rfl, by decide +kernel, rfl, by decide +kernel, by decide +kernel⟩
abbrev N_ranks_in : List Str := ["book", "found", "kind", "some", "turn", "moved", "one", "other"]
theorem sc_ranks_in : FnScope N_ranks_in ["book"] (defScope (top 35)) := ⟨rfl, rfl, rfl, by decide +kernel, rfl, by decide +kernel, by decide +kernel⟩
abbrev N_verdict_in : List Str := ["book"]
theorem sc_verdict_in : FnScope N_verdict_in ["book"] (defScope (top 37)) := ⟨rfl, rfl, rfl, by decide +kernel, rfl, by decide +kernel, by decide +kernel⟩
abbrev N_need_kept : List Str := ["book"]
theorem sc_need_kept : FnScope N_need_kept ["book"] (defScope (top 38)) := ⟨rfl, rfl, rfl, by decide +kernel, rfl, by decide +kernel, by decide +kernel⟩
abbrev N_is_edge : List Str := ["value", "many", "one"]
theorem sc_is_edge : FnScope N_is_edge ["value", "many"] (defScope (top 41)) := ⟨rfl, rfl, rfl, by decide +kernel, rfl, by decide +kernel, by decide +kernel⟩
abbrev N_need_web : List Str := ["web", "index", "one"]
theorem sc_need_web : FnScope N_need_web ["web"] (defScope (top 42)) := ⟨rfl, rfl, rfl, by decide +kernel, rfl, by decide +kernel, by decide +kernel⟩
abbrev N_need_heights : List Str := ["book", "many", "heights", "index", "one"]
theorem sc_need_heights : FnScope N_need_heights ["book", "many", "heights"] (defScope (top 43)) := ⟨rfl, rfl, rfl, by decide +kernel, rfl, by decide +kernel, by decide +kernel⟩
abbrev N_beside : List Str := ["web", "place", "one", "other"]
theorem sc_beside : FnScope N_beside ["web", "place"] (defScope (top 44)) := ⟨rfl, rfl, rfl, by decide +kernel, rfl, by decide +kernel, by decide +kernel⟩
abbrev N_is_let : List Str := ["book", "web", "heights", "up", "place", "own", "one"]
theorem sc_is_let : FnScope N_is_let ["book", "web", "heights", "up", "place"] (defScope (top 45)) := ⟨rfl, rfl, rfl, by decide +kernel, rfl, by decide +kernel, by decide +kernel⟩
abbrev N_deeds_in_webs : List Str := ["book", "web", "heights", "found", "place"]
theorem sc_deeds_in_webs : FnScope N_deeds_in_webs ["book", "web", "heights"] (defScope (top 46)) := ⟨rfl, rfl, rfl, by decide +kernel, rfl, by decide +kernel, by decide +kernel⟩
abbrev N_changed : List Str := ["heights", "deed", "up", "place"]
theorem sc_changed : FnScope N_changed ["heights", "deed"] (defScope (top 48)) := ⟨rfl, rfl, rfl, by decide +kernel, rfl, by decide +kernel, by decide +kernel⟩
abbrev N_bars_in : List Str := ["book", "web", "one", "other", "found", "a", "b"]
theorem sc_bars_in : FnScope N_bars_in ["book", "web", "one", "other"] (defScope (top 51)) := ⟨rfl, rfl, rfl, by decide +kernel, rfl, by decide +kernel, by decide +kernel⟩
abbrev N_need_kept_both : List Str := ["book", "web", "one", "other"]
theorem sc_need_kept_both : FnScope N_need_kept_both ["book", "web", "one", "other"] (defScope (top 52)) := ⟨rfl, rfl, rfl, by decide +kernel, rfl, by decide +kernel, by decide +kernel⟩
abbrev N_sum_of : List Str := ["one", "other", "place", "height"]
theorem sc_sum_of : FnScope N_sum_of ["one", "other"] (defScope (top 53)) := ⟨rfl, rfl, rfl, by decide +kernel, rfl, by decide +kernel, by decide +kernel⟩
abbrev N_need_way : List Str := ["book", "web", "one", "other"]
theorem sc_need_way : FnScope N_need_way ["book", "web", "one", "other"] (defScope (top 54)) := ⟨rfl, rfl, rfl, by decide +kernel, rfl, by decide +kernel, by decide +kernel⟩
abbrev N_pairs_in : List Str := ["book", "web", "one", "other", "found", "place", "height", "line", "k", "edge", "a", "b", "first", "at", "second", "then"]
theorem sc_pairs_in : FnScope N_pairs_in ["book", "web", "one", "other"] (defScope (top 55)) := ⟨rfl, rfl, rfl, by decide +kernel, rfl, by decide +kernel, by decide +kernel⟩
abbrev N_order_pairs : List Str := ["book", "web", "one", "other"]
theorem sc_order_pairs : FnScope N_order_pairs ["book", "web", "one", "other"] (defScope (top 56)) := ⟨rfl, rfl, rfl, by decide +kernel, rfl, by decide +kernel, by decide +kernel⟩
abbrev N_nearer : List Str := ["book", "web", "here", "other", "found", "up", "place"]
theorem sc_nearer : FnScope N_nearer ["book", "web", "here", "other"] (defScope (top 57)) := ⟨rfl, rfl, rfl, by decide +kernel, rfl, by decide +kernel, by decide +kernel⟩
abbrev N_ways_count : List Str := ["book", "web", "one", "other", "size", "place", "height", "rows", "turn", "more", "here", "deed", "there"]
theorem sc_ways_count : FnScope N_ways_count ["book", "web", "one", "other"] (defScope (top 58)) := ⟨rfl, rfl, rfl, by decide +kernel, rfl, by decide +kernel, by decide +kernel⟩
abbrev N_law_taken : List Str := ["_law_row", "_law_many", "_law_found", "_law_cell"]
theorem sc_law_taken : FnScope N_law_taken ["_law_row", "_law_many"] (defScope (top 60)) := ⟨rfl, rfl, rfl, by decide +kernel, rfl, by decide +kernel, by decide +kernel⟩
abbrev N_law_book : List Str := ["_law_row", "_law_most", "_law_roof", "_law_way_here", "_law_every", "_law_raising", "_law_one", "_law_lowering"]
theorem sc_law_book : FnScope N_law_book ["_law_row", "_law_most"] (defScope (top 61)) := ⟨rfl, rfl, rfl, by decide +kernel, rfl, by decide +kernel, by decide +kernel⟩
abbrev N_law_pairs : List Str := ["_law_roof", "_law_found", "_law_one", "_law_other"]
theorem sc_law_pairs : FnScope N_law_pairs ["_law_roof"] (defScope (top 62)) := ⟨rfl, rfl, rfl, by decide +kernel, rfl, by decide +kernel, by decide +kernel⟩
abbrev N_law_lets : List Str := ["_law_book_here", "_law_own", "_law_near", "_law_up"]
theorem sc_law_lets : FnScope N_law_lets ["_law_book_here", "_law_own", "_law_near", "_law_up"] (defScope (top 63)) := ⟨rfl, rfl, rfl, by decide +kernel, rfl, by decide +kernel, by decide +kernel⟩
abbrev N_law_two : List Str := ["_law_book_here", "_law_pair", "_law_found", "_law_up", "_law_place", "_law_step"]
theorem sc_law_two : FnScope N_law_two ["_law_book_here", "_law_pair"] (defScope (top 64)) := ⟨rfl, rfl, rfl, by decide +kernel, rfl, by decide +kernel, by decide +kernel⟩
abbrev N_law_from : List Str := ["_law_book_here", "_law_pair", "_law_found", "_law_rows", "_law_here", "_law_deed", "_law_there"]
theorem sc_law_from : FnScope N_law_from ["_law_book_here", "_law_pair"] (defScope (top 65)) := ⟨rfl, rfl, rfl, by decide +kernel, rfl, by decide +kernel, by decide +kernel⟩
abbrev N_law_off : List Str := ["_law_one", "_law_other", "_law_k"]
theorem sc_law_off : FnScope N_law_off ["_law_one", "_law_other"] (defScope (top 66)) := ⟨rfl, rfl, rfl, by decide +kernel, rfl, by decide +kernel, by decide +kernel⟩
abbrev N_law_straight : List Str := ["_law_book_here", "_law_pair", "_law_told_here", "_law_other"]
theorem sc_law_straight : FnScope N_law_straight ["_law_book_here"] (defScope (top 67)) := ⟨rfl, rfl, rfl, by decide +kernel, rfl, by decide +kernel, by decide +kernel⟩
abbrev N_law_shuffles : List Str := ["_law_book_here", "_law_pair", "_law_other", "_law_found", "_law_place", "_law_up", "_law_step", "_law_word"]
theorem sc_law_shuffles : FnScope N_law_shuffles ["_law_book_here", "_law_pair", "_law_other"] (defScope (top 68)) := ⟨rfl, rfl, rfl, by decide +kernel, rfl, by decide +kernel, by decide +kernel⟩
abbrev N_law_courses : List Str := ["_law_book_here", "_law_found", "_law_pair", "_law_other"]
theorem sc_law_courses : FnScope N_law_courses ["_law_book_here"] (defScope (top 69)) := ⟨rfl, rfl, rfl, by decide +kernel, rfl, by decide +kernel, by decide +kernel⟩
abbrev N_law_way : List Str := ["_law_first", "_law_last", "_law_at"]
theorem sc_law_way : FnScope N_law_way ["_law_first", "_law_last"] (defScope (top 70)) := ⟨rfl, rfl, rfl, by decide +kernel, rfl, by decide +kernel, by decide +kernel⟩
abbrev N_law_orders : List Str := ["_law_first", "_law_second", "_law_pairs_here", "_law_rows", "_law_turn", "_law_more", "_law_i", "_law_j", "_law_k"]
theorem sc_law_orders : FnScope N_law_orders ["_law_first", "_law_second", "_law_pairs_here"] (defScope (top 71)) := ⟨rfl, rfl, rfl, by decide +kernel, rfl, by decide +kernel, by decide +kernel⟩
abbrev N_law_lines : List Str := ["_law_pair", "_law_other", "_law_words", "_law_found", "_law_word", "_law_here", "_law_line", "_law_place"]
theorem sc_law_lines : FnScope N_law_lines ["_law_pair", "_law_other", "_law_words"] (defScope (top 72)) := ⟨rfl, rfl, rfl, by decide +kernel, rfl, by decide +kernel, by decide +kernel⟩
abbrev N_law_told : List Str := ["_law_book_here", "_law_pair", "_law_other", "_law_lines_here", "_law_found", "_law_first", "_law_second", "_law_line"]
theorem sc_law_told : FnScope N_law_told ["_law_book_here", "_law_pair", "_law_other"] (defScope (top 73)) := ⟨rfl, rfl, rfl, by decide +kernel, rfl, by decide +kernel, by decide +kernel⟩
abbrev N_law_is_told : List Str := ["_law_book_here", "_law_pair", "_law_other", "_law_first", "_law_at", "_law_second"]
theorem sc_law_is_told : FnScope N_law_is_told ["_law_book_here", "_law_pair", "_law_other"] (defScope (top 74)) := ⟨rfl, rfl, rfl, by decide +kernel, rfl, by decide +kernel, by decide +kernel⟩
abbrev N_law_kinds : List Str := ["_law_roof", "_law_found", "_law_first", "_law_last", "_law_at"]
theorem sc_law_kinds : FnScope N_law_kinds ["_law_roof"] (defScope (top 75)) := ⟨rfl, rfl, rfl, by decide +kernel, rfl, by decide +kernel, by decide +kernel⟩
abbrev N_law_leads : List Str := ["_law_book_here", "_law_found", "_law_first", "_law_last", "_law_at", "_law_step", "_law_pair", "_law_other", "_law_place", "_law_there", "_law_then"]
theorem sc_law_leads : FnScope N_law_leads ["_law_book_here"] (defScope (top 76)) := ⟨rfl, rfl, rfl, by decide +kernel, rfl, by decide +kernel, by decide +kernel⟩
abbrev N_law_rises : List Str := ["_law_book_here", "_law_some", "_law_found", "_law_left", "_law_rank", "_law_firsts", "_law_kind", "_law_one", "_law_other"]
theorem sc_law_rises : FnScope N_law_rises ["_law_book_here"] (defScope (top 77)) := ⟨rfl, rfl, rfl, by decide +kernel, rfl, by decide +kernel, by decide +kernel⟩
abbrev N_law_verdict : List Str := ["_law_book_here", "_law_course"]
theorem sc_law_verdict : FnScope N_law_verdict ["_law_book_here"] (defScope (top 78)) := ⟨rfl, rfl, rfl, by decide +kernel, rfl, by decide +kernel, by decide +kernel⟩
abbrev N_law_kept : List Str := ["_law_row", "_law_most", "_law_turn", "_law_book_here", "_law_roof"]
theorem sc_law_kept : FnScope N_law_kept ["_law_row", "_law_most"] (defScope (top 79)) := ⟨rfl, rfl, rfl, by decide +kernel, rfl, by decide +kernel, by decide +kernel⟩
abbrev N_law_web : List Str := ["_law_row", "_law_most", "_law_many", "_law_way_here", "_law_edges", "_law_k", "_law_j"]
theorem sc_law_web : FnScope N_law_web ["_law_row", "_law_most"] (defScope (top 80)) := ⟨rfl, rfl, rfl, by decide +kernel, rfl, by decide +kernel, by decide +kernel⟩
abbrev N_law_heights : List Str := ["_law_row", "_law_many", "_law_roof", "_law_k"]
theorem sc_law_heights : FnScope N_law_heights ["_law_row", "_law_many", "_law_roof"] (defScope (top 81)) := ⟨rfl, rfl, rfl, by decide +kernel, rfl, by decide +kernel, by decide +kernel⟩
abbrev N_law_after : List Str := ["_law_book_here", "_law_web_here", "_law_heights_here", "_law_found", "_law_up", "_law_k", "_law_near", "_law_a", "_law_b", "_law_free", "_law_one"]
theorem sc_law_after : FnScope N_law_after ["_law_book_here", "_law_web_here", "_law_heights_here"] (defScope (top 82)) := ⟨rfl, rfl, rfl, by decide +kernel, rfl, by decide +kernel, by decide +kernel⟩
abbrev N_law_pick : List Str := ["_law_row", "_law_things"]
theorem sc_law_pick : FnScope N_law_pick ["_law_row", "_law_things"] (defScope (top 83)) := ⟨rfl, rfl, rfl, by decide +kernel, rfl, by decide +kernel, by decide +kernel⟩
abbrev N_law_reached : List Str := ["_law_row", "_law_book_here", "_law_web_here", "_law_heights_here", "_law_most", "_law_here", "_law_turn", "_law_some"]
theorem sc_law_reached : FnScope N_law_reached ["_law_row", "_law_book_here", "_law_web_here", "_law_heights_here", "_law_most"] (defScope (top 84)) := ⟨rfl, rfl, rfl, by decide +kernel, rfl, by decide +kernel, by decide +kernel⟩
abbrev N_law_ahead : List Str := ["_law_book_here", "_law_web_here", "_law_one", "_law_other", "_law_found", "_law_k", "_law_line", "_law_at", "_law_edge", "_law_first", "_law_second", "_law_then"]
theorem sc_law_ahead : FnScope N_law_ahead ["_law_book_here", "_law_web_here", "_law_one", "_law_other"] (defScope (top 85)) := ⟨rfl, rfl, rfl, by decide +kernel, rfl, by decide +kernel, by decide +kernel⟩
abbrev N_law_alike : List Str := ["_law_found", "_law_due", "_law_k"]
theorem sc_law_alike : FnScope N_law_alike ["_law_found", "_law_due"] (defScope (top 86)) := ⟨rfl, rfl, rfl, by decide +kernel, rfl, by decide +kernel, by decide +kernel⟩
abbrev N_law_straight_words : List Str := ["_law_book_here", "_law_web_here", "_law_one", "_law_other", "_law_most", "_law_rows", "_law_turn", "_law_more", "_law_line", "_law_here", "_law_up", "_law_k", "_law_there"]
theorem sc_law_straight_words : FnScope N_law_straight_words ["_law_book_here", "_law_web_here", "_law_one", "_law_other", "_law_most"] (defScope (top 87)) := ⟨rfl, rfl, rfl, by decide +kernel, rfl, by decide +kernel, by decide +kernel⟩
abbrev N_law_orders_of : List Str := ["_law_some", "_law_pairs_here", "_law_most", "_law_rows", "_law_turn", "_law_more", "_law_line", "_law_deed", "_law_first", "_law_second"]
theorem sc_law_orders_of : FnScope N_law_orders_of ["_law_some", "_law_pairs_here", "_law_most"] (defScope (top 88)) := ⟨rfl, rfl, rfl, by decide +kernel, rfl, by decide +kernel, by decide +kernel⟩
abbrev N_law_singles : List Str := ["_law_one", "_law_other", "_law_found", "_law_k", "_law_at"]
theorem sc_law_singles : FnScope N_law_singles ["_law_one", "_law_other"] (defScope (top 89)) := ⟨rfl, rfl, rfl, by decide +kernel, rfl, by decide +kernel, by decide +kernel⟩
abbrev N_law : List Str := ["_law_script", "_law_row", "_law_book_here", "_law_web_here", "_law_one", "_law_other", "_law_pairs_here", "_law_words"]
theorem sc_law : FnScope N_law ["_law_script"] (defScope (top 90)) := ⟨rfl, rfl, rfl, by decide +kernel, rfl, by decide +kernel, by decide +kernel⟩
end HB

set_option Elab.async false
set_option linter.all false
set_option maxRecDepth 100000
set_option maxHeartbeats 4000000
set_option autoImplicit false
namespace HB
open PySem PySem.Spec L2
theorem mkfnR {P : Program} {w : World} {K : PySem.W.Frag} {mg : Str → Option Value} {base : Heap} {x name : Str} {i : Nat} {N ps : List Str} {k : Nat} {S : SpR}
    (Fn : Fn K mg x name i) (Sc : FnScope N ps (defScope (top i)))
    (b : ∀ (kV doc pm : Value) (an : Option Addr) (cdv ct : Value) (us : List Value), us.length = ps.length → bindArgs (PySem.W.fnOf name name (defArgs (top i)) (defBody (top i)) (defScope (top i)) .none kV doc pm an cdv ct) ⟨us, []⟩ = pure (ps.zip us))
    (len : ∀ ns ρ ds W, S ns ρ ds W → ds.length + 1 = ps.length)
    (hbody : ∀ (f : Addr) (cdv : Value) (A : Around) (outer : List Env) (s : Shared) (H F : Hp) (E : XK) (r sa : Addr) (ns : List Int), Room k (A.deeper (PyProof.Rows.envOfC name (defScope (top i)) s.heap.objs.size f cdv)) →
      ∃ t, JB (bX P w K mg base N name (defScope (top i)) f cdv A outer s H E) (bCR P w K F H r sa ns) (defBody (top i)) t ∧ ∀ ρ ds W, S ns ρ ds W → t { nx := fun _ ρ' => W .none ρ', rt := fun d ρ' => W d ρ' } (startR N ds) ρ) :
    DfR P w K mg base x (k + 1) S := by
  obtain ⟨f, fd, F, hm⟩ := Fn.ex
  exact mkdefR F hm Sc (F.bindsN b) len fun cdv A outer s H F E r sa ns hr => hbody f cdv A outer s H F E r sa ns hr
end HB

set_option Elab.async false
set_option linter.all false
set_option autoImplicit false
namespace HB
theorem nodup_sub_len {α : Type} [DecidableEq α] : ∀ {l l' : List α}, l.Nodup → (∀ x ∈ l, x ∈ l') → l.length ≤ l'.length
  | [], _, _, _ => Nat.zero_le _
  | x :: l, l', h, s => by
    rw [List.nodup_cons] at h
    have hx := s x (List.mem_cons_self ..)
    have ih := nodup_sub_len (l := l) (l' := l'.erase x) h.2 fun y hy => by
      have hne : y ≠ x := fun e => h.1 (e ▸ hy)
      exact (List.mem_erase_of_ne hne).mpr (s y (List.mem_cons_of_mem _ hy))
    rw [List.length_erase_of_mem hx] at ih
    have hp : 0 < l'.length := List.length_pos_of_mem hx
    rw [List.length_cons]; omega
/-- ints of a span, told apart, are few -/
theorem nodup_span {l : List Int} {a : Int} {n : Nat} (h : l.Nodup) (s : ∀ x ∈ l, a ≤ x ∧ x < a + n) : l.length ≤ n := by
  have := nodup_sub_len (l := l) (l' := (List.range n).map fun (i : Nat) => a + (i : Int)) h fun x hx => by
    obtain ⟨h1, h2⟩ := s x hx
    exact List.mem_map.mpr ⟨(x - a).toNat, List.mem_range.mpr (by omega), by omega⟩
  simpa using this

/-! ### counting rows -/
def cget (m : List (Int × Int)) (k : Int) : Option Int := (m.find? fun p => decide (p.1 = k)).map (·.2)
def cput (m : List (Int × Int)) (k v : Int) : List (Int × Int) := if m.any (fun p => decide (p.1 = k)) = true then m.map (fun p => if p.1 = k then (p.1, v) else p) else m ++ [(k, v)]
def cadd (m : List (Int × Int)) (k d : Int) : List (Int × Int) := cput m k ((cget m k).getD 0 + d)
def crow (l u : Int) (m : List (Int × Int)) (p : Int × Int) : List (Int × Int) := (List.range (u + 1 - max p.1 l).toNat).foldl (fun m i => cadd m (max p.1 l + (i : Nat)) p.2) m
def cstep (m : List (Int × Int)) (b : Int × Int) : List (Int × Int) := m.foldl (crow b.1 b.2) []
def cnt (lims : List (Int × Int)) : Int := ((lims.foldl cstep [(0, 1)]).map (·.2)).sum
def CGood (m : List (Int × Int)) : Prop := (m.map (·.1)).Nodup ∧ ∀ p ∈ m, 0 ≤ p.1 ∧ p.1 ≤ 100
theorem cput_keys (m : List (Int × Int)) (k v : Int) : (cput m k v).map (·.1) = if k ∈ m.map (·.1) then m.map (·.1) else m.map (·.1) ++ [k] := by
  unfold cput
  have e : (m.any (fun p => decide (p.1 = k)) = true) ↔ k ∈ m.map (·.1) := by
    rw [List.any_eq_true, List.mem_map]
    exact ⟨fun ⟨p, h1, h2⟩ => ⟨p, h1, of_decide_eq_true h2⟩, fun ⟨p, h1, h2⟩ => ⟨p, h1, decide_eq_true h2⟩⟩
  by_cases h : k ∈ m.map (·.1)
  · rw [if_pos (e.mpr h), if_pos h, List.map_map]
    apply List.map_congr_left
    intro p _
    show (if p.1 = k then (p.1, v) else p).1 = p.1
    split <;> rfl
  · rw [if_neg fun z => h (e.mp z), if_neg h, List.map_append]; rfl
theorem CGood.put {m : List (Int × Int)} (h : CGood m) {k v : Int} (h0 : 0 ≤ k) (h1 : k ≤ 100) : CGood (cput m k v) := by
  refine ⟨?_, fun p hp => ?_⟩
  · rw [cput_keys]
    split
    · exact h.1
    · rename_i hk
      rw [List.nodup_append]
      exact ⟨h.1, by simp, fun a ha b hb => by simp at hb; subst hb; exact fun e => hk (e ▸ ha)⟩
  · have : p.1 ∈ (cput m k v).map (·.1) := List.mem_map_of_mem hp
    rw [cput_keys] at this
    have key : p.1 ∈ m.map (·.1) ∨ p.1 = k := by
      split at this
      · exact .inl this
      · rw [List.mem_append] at this
        rcases this with z | z
        · exact .inl z
        · simp at z; exact .inr z
    rcases key with z | z
    · obtain ⟨q, hq, e⟩ := List.mem_map.mp z
      rw [← e]; exact h.2 q hq
    · rw [z]; exact ⟨h0, h1⟩
theorem CGood.len {m : List (Int × Int)} (h : CGood m) : m.length ≤ 101 := by
  have := nodup_span (a := 0) (n := 101) h.1 fun x hx => by
    obtain ⟨q, hq, e⟩ := List.mem_map.mp hx
    have := h.2 q hq
    rw [← e]; exact ⟨this.1, by omega⟩
  simpa using this
end HB
namespace HB
theorem cget_at {m : List (Int × Int)} (h : (m.map (·.1)).Nodup) {j : Nat} {k v : Int} (e : m[j]? = some (k, v)) : cget m k = some v := by
  induction m generalizing j with
  | nil => simp at e
  | cons p m ih =>
    unfold cget
    rw [List.find?_cons]
    rw [List.map_cons, List.nodup_cons] at h
    cases j with
    | zero =>
      rw [List.getElem?_cons_zero] at e; cases e
      simp
    | succ j =>
      rw [List.getElem?_cons_succ] at e
      have hne : ¬ p.1 = k := fun z => h.1 (by rw [z]; exact List.mem_map.mpr ⟨(k, v), List.mem_of_getElem? e, rfl⟩)
      rw [decide_eq_false hne]
      exact ih h.2 e
end HB

set_option Elab.async false
set_option linter.all false
set_option maxRecDepth 100000
set_option maxHeartbeats 4000000
set_option autoImplicit false
namespace HB
open PySem PySem.Spec L2
/-! ### typed values as data -/
class En (α : Type) where
  enc : α → PyData
  dep : Nat
  pl : ∀ a, plainD (enc a) = true
  cl : ∀ a, (enc a).canLay0 = true
  dp : ∀ a, (enc a).depth ≤ dep
  al : ∀ a b, PySem.W.alike (enc a) (enc b) = true
  ev : ∀ a b, PyData.eqv (enc a) (enc b) = true ↔ a = b
open En (enc)
/-- no bools within: a key -/
class Ky (α : Type) extends En α where
  ky : ∀ a, isKey (enc a) = true
instance : Ky Int where
  enc := .int
  dep := 0
  pl _ := by simp [plainD]
  cl _ := by simp [PyData.canLay0]
  dp _ := by simp [PyData.depth]
  al _ _ := by simp [PySem.W.alike]
  ev a b := by simp [PyData.eqv]
  ky _ := by simp [isKey]
instance : En Bool where
  enc := .bool
  dep := 0
  pl _ := by simp [plainD]
  cl _ := by simp [PyData.canLay0]
  dp _ := by simp [PyData.depth]
  al _ _ := by simp [PySem.W.alike]
  ev a b := by simp [PyData.eqv]
/-- the two coordinates -/
inductive Pc where | z | o
deriving DecidableEq
def Pc.v : Pc → Int
  | .z => 0 | .o => 1
theorem Pc.v_inj : ∀ {a b : Pc}, a.v = b.v → a = b
  | .z, .z, _ => rfl
  | .o, .o, _ => rfl
  | .z, .o, h => by simp [Pc.v] at h
  | .o, .z, h => by simp [Pc.v] at h
def Pc.n : Pc → Pc
  | .z => .o | .o => .z
instance : Ky Pc where
  enc p := .int p.v
  dep := 0
  pl _ := by simp [plainD]
  cl _ := by simp [PyData.canLay0]
  dp _ := by simp [PyData.depth]
  al _ _ := by simp [PySem.W.alike]
  ev a b := by
    simp only [PyData.eqv, beq_iff_eq]
    exact ⟨Pc.v_inj, fun h => by rw [h]⟩
  ky _ := by simp [isKey]
instance {α β : Type} [En α] [En β] : En (α × β) where
  enc p := .tuple [enc p.1, enc p.2]
  dep := max (En.dep α) (En.dep β) + 1
  pl p := by simp [plainD, plainA, En.pl]
  cl p := by simp [PyData.canLay0, PyData.canLayAll0, En.cl]
  dp p := by
    have h1 := En.dp p.1
    have h2 := En.dp p.2
    simp only [PyData.depth, PyData.depthAll]; omega
  al p q := by simp [PySem.W.alike, PySem.W.alikeAll, En.al]
  ev p q := by
    simp only [PyData.eqv, PyData.eqvAll, Bool.and_true, Bool.and_eq_true, En.ev]
    exact ⟨fun h => Prod.ext h.1 h.2, fun h => by rw [h]; exact ⟨rfl, rfl⟩⟩
instance {α β : Type} [Ky α] [Ky β] : Ky (α × β) where
  ky p := by simp [enc, isKey, isKeys]; exact ⟨Ky.ky p.1, Ky.ky p.2⟩
/-- (first, last, at) -/
structure K3 where
  a : Int
  b : Int
  c : Int
deriving DecidableEq
instance : Ky K3 where
  enc k := .tuple [.int k.a, .int k.b, .int k.c]
  dep := 1
  pl _ := by simp [plainD, plainA]
  cl _ := by simp [PyData.canLay0, PyData.canLayAll0]
  dp _ := by simp [PyData.depth, PyData.depthAll]
  al _ _ := by simp [PySem.W.alike, PySem.W.alikeAll]
  ev p q := by
    cases p; cases q
    simp [PyData.eqv, PyData.eqvAll]
  ky _ := by simp [isKey, isKeys]
section
variable {α : Type} [En α]
theorem plA (l : List α) : plainA (l.map enc) = true := by
  induction l with
  | nil => simp [plainA]
  | cons a l ih => simp [plainA, ih, En.pl]
theorem clA (l : List α) : PyData.canLayAll0 (l.map enc) = true := by
  induction l with
  | nil => simp [PyData.canLayAll0]
  | cons a l ih => simp [PyData.canLayAll0, ih, En.cl]
theorem dpA (l : List α) : PyData.depthAll (l.map enc) ≤ En.dep α := by
  induction l with
  | nil => simp [PyData.depthAll]
  | cons a l ih =>
    have := En.dp a
    simp only [List.map_cons, PyData.depthAll]; omega
theorem alA : ∀ (l m : List α), PySem.W.alikeAll (l.map enc) (m.map enc) = true
  | [], _ => by simp [PySem.W.alikeAll]
  | _ :: _, [] => by simp [PySem.W.alikeAll]
  | a :: l, b :: m => by simp [PySem.W.alikeAll, alA l m, En.al]
theorem evA : ∀ (l m : List α), PyData.eqvAll (l.map enc) (m.map enc) = true ↔ l = m
  | [], [] => by simp [PyData.eqvAll]
  | [], _ :: _ => by simp [PyData.eqvAll]
  | _ :: _, [] => by simp [PyData.eqvAll]
  | a :: l, b :: m => by
    simp only [List.map_cons, PyData.eqvAll, Bool.and_eq_true, En.ev, evA l m]
    exact ⟨fun h => by rw [h.1, h.2], fun h => by cases h; exact ⟨rfl, rfl⟩⟩
end
/-- lists of the mirror are tuples of the text -/
instance {α : Type} [En α] : En (List α) where
  enc l := .tuple (l.map enc)
  dep := En.dep α + 1
  pl l := by simp only [plainD]; exact plA l
  cl l := by simp only [PyData.canLay0]; exact clA l
  dp l := by
    have := dpA l
    simp only [PyData.depth]; omega
  al l m := by simp only [PySem.W.alike]; exact alA l m
  ev l m := by simp only [PyData.eqv]; exact evA l m
theorem kyA {α : Type} [Ky α] (l : List α) : isKeys (l.map enc) = true := by
  induction l with
  | nil => simp [isKeys]
  | cons a l ih => simp [isKeys, ih, Ky.ky]
instance {α : Type} [Ky α] : Ky (List α) where
  ky l := by simp only [enc, isKey]; exact kyA l
/-- a list of the text -/
def encL {α : Type} [En α] (l : List α) : PyData := .list (l.map enc)
section
variable {α : Type} [En α] [DecidableEq α]
theorem ev_dec (a b : α) : PyData.eqv (enc a) (enc b) = decide (a = b) := by
  by_cases h : a = b
  · rw [decide_eq_true h]; exact (En.ev a b).mpr h
  · rw [decide_eq_false h]
    cases z : PyData.eqv (enc a) (enc b) with
    | false => rfl
    | true => exact absurd ((En.ev a b).mp z) h
theorem any_ev (l : List α) (a : α) : ((l.map enc).any fun z => PyData.eqv z (enc a)) = decide (a ∈ l) := by
  induction l with
  | nil => simp
  | cons b l ih =>
    rw [List.map_cons, List.any_cons, ih, ev_dec]
    simp only [List.mem_cons]
    by_cases h : b = a
    · subst h; simp
    · have h' : a ≠ b := fun z => h z.symm
      simp [h, h']
end
class Flat (α : Type) [En α] : Prop where
  le : En.dep α ≤ 20
theorem okE {α : Type} [En α] (h : En.dep α ≤ 60 := by decide) (a : α) : okD (enc a) = true := by
  have := En.dp a
  simp only [okD, SeqAt.shaped, En.pl, En.cl, Bool.true_and, decide_eq_true_eq]; omega
theorem okL {α : Type} [En α] (h : En.dep α ≤ 60 := by decide) (l : List α) : okD (encL l) = true := by
  have := dpA l
  simp only [okD, SeqAt.shaped, encL, plainD, plA, PyData.canLay0, clA, PyData.depth, Bool.true_and, decide_eq_true_eq]; omega
theorem kOkE {α : Type} [Ky α] (a : α) (ht : (match enc a with | .tuple _ => true | _ => false) = true := by rfl) (h : En.dep α ≤ 8 := by decide) : kOk (enc a) := ⟨ht, Ky.ky a, Nat.le_trans (En.dp a) h⟩
theorem deqE {α : Type} [En α] [DecidableEq α] (h : En.dep α ≤ 60 := by decide) (a b : α) : deq (enc a) (enc b) = some (.bool (decide (a = b))) := by
  unfold deq; rw [okE h, okE h, ev_dec]; rfl
theorem dneE {α : Type} [En α] [DecidableEq α] (h : En.dep α ≤ 60 := by decide) (a b : α) : dne (enc a) (enc b) = some (.bool (decide (a ≠ b))) := by
  unfold dne; rw [okE h, okE h, ev_dec]
  by_cases e : a = b <;> simp [e]
theorem evL {α : Type} [En α] [DecidableEq α] (a b : List α) : PyData.eqv (encL a) (encL b) = decide (a = b) := by
  unfold encL; simp only [PyData.eqv]
  by_cases h : a = b
  · rw [decide_eq_true h]; exact (evA a b).mpr h
  · rw [decide_eq_false h]
    cases z : PyData.eqvAll (a.map enc) (b.map enc) with
    | false => rfl
    | true => exact absurd ((evA a b).mp z) h
theorem deqL {α : Type} [En α] [DecidableEq α] (h : En.dep α ≤ 60 := by decide) (a b : List α) : deq (encL a) (encL b) = some (.bool (decide (a = b))) := by
  unfold deq; rw [okL h, okL h, evL]; rfl
theorem dneL {α : Type} [En α] [DecidableEq α] (h : En.dep α ≤ 60 := by decide) (a b : List α) : dne (encL a) (encL b) = some (.bool (decide (a ≠ b))) := by
  unfold dne; rw [okL h, okL h, evL]
  by_cases e : a = b <;> simp [e]
theorem dne0 {α : Type} [En α] (h : En.dep α ≤ 60 := by decide) (a : List α) : dne (encL a) (.list []) = some (.bool (!a.isEmpty)) := by
  unfold dne
  have e0 : okD (.list []) = true := by decide
  rw [okL h, e0]
  cases a with
  | nil => simp [encL, PyData.eqv, PyData.eqvAll]
  | cons x l => simp [encL, PyData.eqv, PyData.eqvAll]
theorem deq0 {α : Type} [En α] (h : En.dep α ≤ 60 := by decide) (a : List α) : deq (encL a) (.list []) = some (.bool a.isEmpty) := by
  unfold deq
  have e0 : okD (.list []) = true := by decide
  rw [okL h, e0]
  cases a with
  | nil => simp [encL, PyData.eqv, PyData.eqvAll]
  | cons x l => simp [encL, PyData.eqv, PyData.eqvAll]
theorem dinE {α : Type} [En α] [DecidableEq α] (h : En.dep α ≤ 59 := by decide) (neg : Bool) (a : α) (l : List α) : din neg (enc a) (.tuple (l.map enc)) = some (.bool (if neg then !decide (a ∈ l) else decide (a ∈ l))) := by
  have ok2 : okD (.tuple (l.map enc)) = true := okE (α := List α) (by show En.dep α + 1 ≤ 60; omega) l
  simp only [din, okE (show En.dep α ≤ 60 by omega), ok2, Bool.and_self, if_true, any_ev]
theorem dinL {α : Type} [En α] [DecidableEq α] (h : En.dep α ≤ 60 := by decide) (neg : Bool) (a : α) (l : List α) : din neg (enc a) (encL l) = some (.bool (if neg then !decide (a ∈ l) else decide (a ∈ l))) := by
  have ok2 := okL h l
  unfold encL at ok2 ⊢
  simp only [din, okE h, ok2, Bool.and_self, if_true, any_ev]
/-! ### dicts -/
section
variable {κ : Type} [DecidableEq κ] {β : Type}
def alook (m : List (κ × β)) (k : κ) : Option β := (m.find? fun p => decide (p.1 = k)).map (·.2)
def aput (m : List (κ × β)) (k : κ) (v : β) : List (κ × β) := if m.any (fun p => decide (p.1 = k)) = true then m.map (fun p => if p.1 = k then (p.1, v) else p) else m ++ [(k, v)]
def adel (m : List (κ × β)) : List κ := m.map (·.1)
theorem any_keys (m : List (κ × β)) (k : κ) : (m.any fun p => decide (p.1 = k)) = decide (k ∈ m.map (·.1)) := by
  induction m with
  | nil => simp
  | cons p m ih =>
    rw [List.any_cons, ih, List.map_cons]
    by_cases h : p.1 = k
    · subst h; simp
    · have h' : k ≠ p.1 := fun z => h z.symm
      simp [h, h']
end
section
variable {κ : Type} [DecidableEq κ] [Ky κ] {β : Type} (f : β → PyData)
def encM (m : List (κ × β)) : List (PyData × PyData) := m.map fun p => (enc p.1, f p.2)
theorem encM_any (m : List (κ × β)) (k : κ) : ((encM f m).any fun p => PyData.eqv p.1 (enc k)) = decide (k ∈ m.map (·.1)) := by
  unfold encM
  rw [List.any_map]
  induction m with
  | nil => simp
  | cons p m ih =>
    rw [List.any_cons, ih]
    show (PyData.eqv (enc p.1) (enc k) || _) = _
    rw [ev_dec, List.map_cons]
    by_cases h : p.1 = k
    · subst h; simp
    · have h' : k ≠ p.1 := fun z => h z.symm
      simp [h, h']
theorem encM_dlk (m : List (κ × β)) (k : κ) : dlk (encM f m) (enc k) = (alook m k).map f := by
  unfold dlk alook encM
  induction m with
  | nil => rfl
  | cons p m ih =>
    rw [List.map_cons, List.find?_cons, List.find?_cons]
    show Option.map _ (match PyData.eqv (enc p.1) (enc k) with | true => _ | false => _) = _
    rw [ev_dec]
    by_cases h : p.1 = k
    · simp [h]
    · simp only [h, decide_false]; exact ih
theorem encM_put (m : List (κ × β)) (k : κ) (v : β) : dput (encM f m) (enc k) (f v) = encM f (aput m k v) := by
  unfold dput aput
  rw [encM_any, any_keys]
  by_cases h : k ∈ m.map (·.1)
  · rw [decide_eq_true h, if_pos rfl, if_pos rfl]
    unfold encM
    rw [List.map_map, List.map_map]
    apply List.map_congr_left
    intro p _
    show (if PyData.eqv (enc p.1) (enc k) = true then (enc p.1, f v) else (enc p.1, f p.2)) = _
    rw [ev_dec]
    by_cases q : p.1 = k
    · rw [if_pos (decide_eq_true q)]; show _ = (enc (if p.1 = k then (p.1, v) else p).1, f (if p.1 = k then (p.1, v) else p).2); rw [if_pos q]
    · rw [if_neg (by simp [q])]; show _ = (enc (if p.1 = k then (p.1, v) else p).1, f (if p.1 = k then (p.1, v) else p).2); rw [if_neg q]
  · rw [decide_eq_false h, if_neg (by simp), if_neg (by simp)]
    unfold encM; rw [List.map_append]; rfl
theorem encM_keys (m : List (κ × β)) : (encM f m).map (·.1) = (m.map (·.1)).map enc := by
  unfold encM; rw [List.map_map, List.map_map]; rfl
end
/-! ### loops as folds -/
section
variable {α β ε : Type}
theorem loop_fold {en : α → PyData} {g : PGt} {tb : PSt} {D : PEn} {δ : Enm} {ρ : Rw} (l : List α) (st : β → ε → Enm) (step : β → α → β) (b0 : β) (e0 : ε) (hδ : δ = st b0 e0)
    (hs : ∀ pre a post, l = pre ++ a :: post → ∀ e, g (en a) (st (pre.foldl step b0) e) ρ fun δ2 ρ2 => tb { D with nx := fun δ3 ρ3 => ρ3 = ρ ∧ ∃ e', δ3 = st (step (pre.foldl step b0) a) e', ct := fun δ3 ρ3 => ρ3 = ρ ∧ ∃ e', δ3 = st (step (pre.foldl step b0) a) e', bk := D.nx } δ2 ρ2)
    (hd : ∀ e, D.nx (st (l.foldl step b0) e) ρ) : xLoop (l.map en) g tb D δ ρ := by
  refine ⟨fun pre δ' ρ' => ρ' = ρ ∧ ∃ e, δ' = st ((l.take pre.length).foldl step b0) e, ⟨rfl, e0, by rw [List.length_nil, List.take_zero]; exact hδ⟩, ?_, ?_⟩
  · rintro pre x post hl δ' ρ' ⟨rfl, e, rfl⟩
    have hlen : pre.length < l.length := by
      have := congrArg List.length hl
      rw [List.length_map, List.length_append, List.length_cons] at this; omega
    have hx : en l[pre.length] = x := by
      have h1 : (l.map en)[pre.length]? = some (en l[pre.length]) := by rw [List.getElem?_map, List.getElem?_eq_getElem hlen]; rfl
      rw [hl, List.getElem?_append_right (Nat.le_refl _), Nat.sub_self, List.getElem?_cons_zero] at h1
      exact (Option.some.inj h1).symm
    have hsp : l = l.take pre.length ++ l[pre.length] :: l.drop (pre.length + 1) := by
      rw [← List.drop_eq_getElem_cons hlen, List.take_append_drop]
    have h3 := hs _ _ _ hsp e
    subst hx
    have e1 : (pre ++ [en l[pre.length]]).length = pre.length + 1 := by rw [List.length_append]; rfl
    have e2 : l.take (pre.length + 1) = l.take pre.length ++ [l[pre.length]] := by
      rw [List.take_add_one, List.getElem?_eq_getElem hlen]; rfl
    simp only []
    rw [e1, e2, List.foldl_append]
    exact h3
  · rintro δ' ρ' ⟨rfl, e, rfl⟩
    rw [List.length_map, List.take_length]
    exact hd e
/-- a comprehension: filter, map -/
theorem lc_of {en : α → PyData} {g : PGt} {tt : PTt} {te : PEt} {vs : List Nat} {δ : Enm} {ρ : Rw} {Q : PyData → Rw → Prop} (l : List α) (p : α → Bool) (f : α → PyData) (hl : l.length < 100000)
    (hs : ∀ a ∈ l, ∀ (K1 : PyData → Rw → Prop) (K0 : Rw → Prop), (p a = true → K1 (f a) ρ) → (p a = false → K0 ρ) → g (en a) (wip δ vs) ρ fun δ2 ρ2 => tt δ2 ρ2 fun k ρ3 => (k = true → te δ2 ρ3 K1) ∧ (k = false → K0 ρ3))
    (hq : Q (.list ((l.filter p).map f)) ρ) : xLcL (l.map en) g tt te vs δ ρ Q := by
  refine ⟨fun pre acc ρ' => ρ' = ρ ∧ acc = ((l.take pre.length).filter p).map f, ⟨rfl, by simp⟩, ?_, ?_⟩
  · rintro pre x post acc ρ' hlx ⟨rfl, rfl⟩
    have hlen : pre.length < l.length := by
      have := congrArg List.length hlx
      rw [List.length_map, List.length_append, List.length_cons] at this; omega
    have hx : en l[pre.length] = x := by
      have h1 : (l.map en)[pre.length]? = some (en l[pre.length]) := by rw [List.getElem?_map, List.getElem?_eq_getElem hlen]; rfl
      rw [hlx, List.getElem?_append_right (Nat.le_refl _), Nat.sub_self, List.getElem?_cons_zero] at h1
      exact (Option.some.inj h1).symm
    subst hx
    have e1 : (pre ++ [en l[pre.length]]).length = pre.length + 1 := by rw [List.length_append]; rfl
    have e2 : l.take (pre.length + 1) = l.take pre.length ++ [l[pre.length]] := by
      rw [List.take_add_one, List.getElem?_eq_getElem hlen]; rfl
    refine hs l[pre.length] (List.getElem_mem hlen) _ _ (fun hp => ⟨?_, rfl, ?_⟩) (fun hp => ⟨rfl, ?_⟩)
    · have h1 := List.length_filter_le p (l.take pre.length)
      rw [List.length_map]; rw [List.length_take] at h1; omega
    · rw [e1, e2, List.filter_append, List.map_append]
      simp [hp]
    · rw [e1, e2, List.filter_append, List.map_append]
      simp [hp]
  · rintro acc ρ' ⟨rfl, rfl⟩
    rw [List.length_map, List.take_length]
    exact hq
/-- .. that takes all -/
theorem lc_all {en : α → PyData} {g : PGt} {te : PEt} {vs : List Nat} {δ : Enm} {ρ : Rw} {Q : PyData → Rw → Prop} (l : List α) (f : α → PyData) (hl : l.length < 100000)
    (hs : ∀ a ∈ l, ∀ (K1 : PyData → Rw → Prop), K1 (f a) ρ → g (en a) (wip δ vs) ρ fun δ2 ρ2 => te δ2 ρ2 K1)
    (hq : Q (.list (l.map f)) ρ) : xLcL (l.map en) g xYes te vs δ ρ Q := by
  refine ⟨fun pre acc ρ' => ρ' = ρ ∧ acc = (l.take pre.length).map f, ⟨rfl, by simp⟩, ?_, ?_⟩
  · rintro pre x post acc ρ' hlx ⟨rfl, rfl⟩
    have hlen : pre.length < l.length := by
      have := congrArg List.length hlx
      rw [List.length_map, List.length_append, List.length_cons] at this; omega
    have hx : en l[pre.length] = x := by
      have h1 : (l.map en)[pre.length]? = some (en l[pre.length]) := by rw [List.getElem?_map, List.getElem?_eq_getElem hlen]; rfl
      rw [hlx, List.getElem?_append_right (Nat.le_refl _), Nat.sub_self, List.getElem?_cons_zero] at h1
      exact (Option.some.inj h1).symm
    subst hx
    have e1 : (pre ++ [en l[pre.length]]).length = pre.length + 1 := by rw [List.length_append]; rfl
    have e2 : l.take (pre.length + 1) = l.take pre.length ++ [l[pre.length]] := by
      rw [List.take_add_one, List.getElem?_eq_getElem hlen]; rfl
    have k1 : ((l.take pre.length).map f).length < 100000 := by rw [List.length_map, List.length_take]; omega
    have h3 := hs l[pre.length] (List.getElem_mem hlen) (fun d ρ4 => ((l.take pre.length).map f).length < 100000 ∧ ρ4 = ρ' ∧ (l.take pre.length).map f ++ [d] = (l.take (pre ++ [en l[pre.length]]).length).map f) ⟨k1, rfl, by rw [e1, e2, List.map_append]; rfl⟩
    have key : (fun (δ2 : Enm) (ρ2 : Rw) => te δ2 ρ2 fun d ρ4 => ((l.take pre.length).map f).length < 100000 ∧ ρ4 = ρ' ∧ (l.take pre.length).map f ++ [d] = (l.take (pre ++ [en l[pre.length]]).length).map f) = fun δ2 ρ2 => xYes δ2 ρ2 fun k ρ3 =>
      (k = true → te δ2 ρ3 fun d ρ4 => ((l.take pre.length).map f).length < 100000 ∧ ρ4 = ρ' ∧ (l.take pre.length).map f ++ [d] = (l.take (pre ++ [en l[pre.length]]).length).map f) ∧ (k = false → ρ3 = ρ' ∧ (l.take pre.length).map f = (l.take (pre ++ [en l[pre.length]]).length).map f) := by
      funext δ2 ρ2
      apply propext
      simp [xYes]
    rw [key] at h3
    exact h3
  · rintro acc ρ' ⟨rfl, rfl⟩
    rw [List.length_map, List.take_length]
    exact hq
theorem lc_ofE {γ : Type} [En γ] {en : α → PyData} {g : PGt} {tt : PTt} {te : PEt} {vs : List Nat} {δ : Enm} {ρ : Rw} {Q : PyData → Rw → Prop} (l : List α) (p : α → Bool) (f : α → γ) (hl : l.length < 100000)
    (hs : ∀ a ∈ l, ∀ (K1 : PyData → Rw → Prop) (K0 : Rw → Prop), (p a = true → K1 (enc (f a)) ρ) → (p a = false → K0 ρ) → g (en a) (wip δ vs) ρ fun δ2 ρ2 => tt δ2 ρ2 fun k ρ3 => (k = true → te δ2 ρ3 K1) ∧ (k = false → K0 ρ3))
    (hq : Q (encL ((l.filter p).map f)) ρ) : xLcL (l.map en) g tt te vs δ ρ Q := lc_of l p (fun a => enc (f a)) hl hs (by unfold encL at hq; rw [List.map_map] at hq; exact hq)
theorem lc_allE {γ : Type} [En γ] {en : α → PyData} {g : PGt} {te : PEt} {vs : List Nat} {δ : Enm} {ρ : Rw} {Q : PyData → Rw → Prop} (l : List α) (f : α → γ) (hl : l.length < 100000)
    (hs : ∀ a ∈ l, ∀ (K1 : PyData → Rw → Prop), K1 (enc (f a)) ρ → g (en a) (wip δ vs) ρ fun δ2 ρ2 => te δ2 ρ2 K1)
    (hq : Q (encL (l.map f)) ρ) : xLcL (l.map en) g xYes te vs δ ρ Q := lc_all l (fun a => enc (f a)) hl hs (by unfold encL at hq; rw [List.map_map] at hq; exact hq)
end
end HB

set_option Elab.async false
set_option linter.all false
set_option autoImplicit false
namespace HB
open PySem PySem.Spec L2
open En (enc)
section
variable {α β ε : Type}
theorem loop_relR {en : α → PyData} {g : PGt} {tb : PSt} {D : PEn} {δ : Enm} {ρ : Rw} (l : List α) (st : β → ε → Enm) (J : List α → β → Rw → Prop) (b0 : β) (e0 : ε) (hδ : δ = st b0 e0) (h0 : J [] b0 ρ)
    (hs : ∀ pre a post, l = pre ++ a :: post → ∀ b e ρ1, J pre b ρ1 → g (en a) (st b e) ρ1 fun δ2 ρ2 => tb { D with nx := fun δ3 ρ3 => ∃ b' e', δ3 = st b' e' ∧ J (pre ++ [a]) b' ρ3, ct := fun δ3 ρ3 => ∃ b' e', δ3 = st b' e' ∧ J (pre ++ [a]) b' ρ3, bk := D.nx } δ2 ρ2)
    (hd : ∀ b e ρ1, J l b ρ1 → D.nx (st b e) ρ1) : xLoop (l.map en) g tb D δ ρ := by
  refine ⟨fun pre δ' ρ' => ∃ b e, δ' = st b e ∧ J (l.take pre.length) b ρ', ⟨b0, e0, hδ, by rw [List.length_nil, List.take_zero]; exact h0⟩, ?_, ?_⟩
  · rintro pre x post hl δ' ρ' ⟨b, e, rfl, hJ⟩
    have hlen : pre.length < l.length := by
      have := congrArg List.length hl
      rw [List.length_map, List.length_append, List.length_cons] at this; omega
    have hx : en l[pre.length] = x := by
      have h1 : (l.map en)[pre.length]? = some (en l[pre.length]) := by rw [List.getElem?_map, List.getElem?_eq_getElem hlen]; rfl
      rw [hl, List.getElem?_append_right (Nat.le_refl _), Nat.sub_self, List.getElem?_cons_zero] at h1
      exact (Option.some.inj h1).symm
    have hsp : l = l.take pre.length ++ l[pre.length] :: l.drop (pre.length + 1) := by
      rw [← List.drop_eq_getElem_cons hlen, List.take_append_drop]
    have h3 := hs _ _ _ hsp b e ρ' hJ
    subst hx
    have e1 : (pre ++ [en l[pre.length]]).length = pre.length + 1 := by rw [List.length_append]; rfl
    have e2 : l.take (pre.length + 1) = l.take pre.length ++ [l[pre.length]] := by
      rw [List.take_add_one, List.getElem?_eq_getElem hlen]; rfl
    simp only []
    rw [e1, e2]
    exact h3
  · rintro δ' ρ' ⟨b, e, rfl, hJ⟩
    rw [List.length_map, List.take_length] at hJ
    exact hd b e ρ' hJ
theorem loop_rel {en : α → PyData} {g : PGt} {tb : PSt} {D : PEn} {δ : Enm} {ρ : Rw} (l : List α) (st : β → ε → Enm) (J : List α → β → Prop) (b0 : β) (e0 : ε) (hδ : δ = st b0 e0) (h0 : J [] b0)
    (hs : ∀ pre a post, l = pre ++ a :: post → ∀ b e, J pre b → g (en a) (st b e) ρ fun δ2 ρ2 => tb { D with nx := fun δ3 ρ3 => ρ3 = ρ ∧ ∃ b' e', δ3 = st b' e' ∧ J (pre ++ [a]) b', ct := fun δ3 ρ3 => ρ3 = ρ ∧ ∃ b' e', δ3 = st b' e' ∧ J (pre ++ [a]) b', bk := D.nx } δ2 ρ2)
    (hd : ∀ b e, J l b → D.nx (st b e) ρ) : xLoop (l.map en) g tb D δ ρ := by
  have key : ∀ (P : List α → β → Prop), (fun (δ3 : Enm) (ρ3 : Rw) => ρ3 = ρ ∧ ∃ b' e', δ3 = st b' e' ∧ P [] b') = fun δ3 ρ3 => ∃ b' e', δ3 = st b' e' ∧ (ρ3 = ρ ∧ P [] b') := fun P => by
    funext δ3 ρ3
    apply propext
    exact ⟨fun ⟨h1, b, e, h2, h3⟩ => ⟨b, e, h2, h1, h3⟩, fun ⟨b, e, h2, h1, h3⟩ => ⟨h1, b, e, h2, h3⟩⟩
  refine loop_relR l st (fun pre b ρ' => ρ' = ρ ∧ J pre b) b0 e0 hδ ⟨rfl, h0⟩ (fun pre a post hl b e ρ1 hJ => ?_) fun b e ρ1 hJ => ?_
  · obtain ⟨rfl, hJ⟩ := hJ
    have := hs pre a post hl b e hJ
    rw [key (fun _ b => J (pre ++ [a]) b)] at this
    exact this
  · obtain ⟨rfl, hJ⟩ := hJ
    exact hd b e hJ
end
end HB

set_option Elab.async false
set_option linter.all false
set_option autoImplicit false
namespace HB
open PySem PySem.Spec L2
open En (enc)
section
variable {X : Cx} {C : Cc}
/-- a list of anything against a list with nothing in it -/
def rEq0 : R2 := fun x y H Q => ∃ a b vs, x = .ref a ∧ y = .ref b ∧ H a = some (.lst vs) ∧ H b = some (.lst []) ∧ Q (.bl vs.isEmpty) H
theorem op_eq0 (hu : X.A.units + 64 < cLine) : OpR X (compareOp .Eq) rEq0 := by
  intro pins s σ H x y v u Q I rx ry h
  obtain ⟨a, b, vs, rfl, rfl, ha, hb, q⟩ := h
  cases (show v = Value.ref a from rx)
  cases (show u = Value.ref b from ry)
  obtain ⟨us, r1, p1, _⟩ := I.list (.inl (.inl ha))
  obtain ⟨ws, r2, p2, _⟩ := I.list (.inl (.inl hb))
  cases r2
  cases vs with
  | nil =>
    cases r1
    exact SeqAt.RcAt.lists (e := fun _ => true) p1.isList p2.isList rfl (by omega) (fun j h1 h2 => by simp at h1) X.prog X.w _ _ ⟨.bl true, H, I, rfl, q⟩
  | cons w vs =>
    cases r1 with
    | cons h1 h2 =>
      exact SeqAt.RcAt.lists_lengths p1.isList p2.isList (by simp) (by omega) X.prog X.w _ _ ⟨.bl false, H, I, rfl, q⟩
def deq0D : PyData → PyData → Option PyData := fun x y => match x, y with
  | .list xs, .list [] => some (.bool xs.isEmpty)
  | _, _ => none
theorem deq0D_list (xs : List PyData) : deq0D (.list xs) (.list []) = some (.bool xs.isEmpty) := rfl
theorem o_eq0 (hu : X.A.units + 64 < cLine) : OpS X C .Eq deq0D := ⟨_, op_eq0 hu, fun F H v u x y z Q s i1 i2 e k => by
  unfold deq0D at e
  split at e
  · cases e
    rename_i xs
    obtain ⟨a, vs, rfl, ha, h1⟩ := i1.lst s
    obtain ⟨b, ws, rfl, hb, h2⟩ := i2.lst s
    cases h2
    have e1 : xs.isEmpty = vs.isEmpty := by cases h1 <;> rfl
    exact ⟨a, b, vs, rfl, rfl, ha, hb, by rw [← e1]; exact k _ (.bl _)⟩
  · cases e⟩
end
end HB

set_option Elab.async false
set_option linter.all false
set_option maxRecDepth 100000
set_option maxHeartbeats 4000000
set_option autoImplicit false
namespace HB
open PySem PySem.Spec L2
open En (enc)
/-! ### dicts of ints by ints, at the lower layer -/
def mk (m : List (Int × Int)) : List (Key × V) := m.map fun p => (Sum.inl p.1, V.int p.2)
theorem mk_get (m : List (Int × Int)) (k : Int) : valV (mk m) (.inl k) = (cget m k).map V.int := by
  unfold valV mk cget
  induction m with
  | nil => rfl
  | cons p m ih =>
    rw [List.map_cons, List.find?_cons, List.find?_cons]
    by_cases h : p.1 = k
    · have h1 : decide ((Sum.inl p.1 : Key) = Sum.inl k) = true := by rw [h]; exact decide_eq_true rfl
      have h2 : decide (p.1 = k) = true := decide_eq_true h
      rw [h1, h2]; rfl
    · have h1 : decide ((Sum.inl p.1 : Key) = Sum.inl k) = false := decide_eq_false fun z => h (Sum.inl.inj z)
      have h2 : decide (p.1 = k) = false := decide_eq_false h
      rw [h1, h2]; exact ih
theorem mk_put (m : List (Int × Int)) (k v : Int) : putK (mk m) (.inl k) (V.int v) = mk (cput m k v) := by
  unfold putK cput
  have e : ((mk m).any fun kv => decide (kv.1 = (Sum.inl k : Key))) = m.any fun p => decide (p.1 = k) := by
    unfold mk
    rw [List.any_map]
    congr 1
    funext p
    show decide ((Sum.inl p.1 : Key) = Sum.inl k) = decide (p.1 = k)
    exact decide_eq_decide.mpr ⟨Sum.inl.inj, fun z => by rw [z]⟩
  rw [e]
  by_cases h : (m.any fun p => decide (p.1 = k)) = true
  · rw [if_pos h, if_pos h]
    unfold mk
    rw [List.map_map, List.map_map]
    apply List.map_congr_left
    intro p _
    show (if (Sum.inl p.1 : Key) = Sum.inl k then ((Sum.inl p.1 : Key), V.int v) else (Sum.inl p.1, V.int p.2)) = _
    by_cases q : p.1 = k
    · rw [if_pos (by rw [q])]; show _ = ((Sum.inl (if p.1 = k then (p.1, v) else p).1 : Key), V.int (if p.1 = k then (p.1, v) else p).2); rw [if_pos q]
    · rw [if_neg fun z => q (Sum.inl.inj z)]; show _ = ((Sum.inl (if p.1 = k then (p.1, v) else p).1 : Key), V.int (if p.1 = k then (p.1, v) else p).2); rw [if_neg q]
  · rw [if_neg h, if_neg h]
    unfold mk
    rw [List.map_append]; rfl
section
variable {X : Cx} {e : Expr} {te : TE} {pos apos cpos : Pos}
def tVK (te : TE) : TE := fun σ H Q => te σ H fun x H1 => ∃ p m, x = .ref p ∧ H1 p = some (.dK (mk m)) ∧ ∀ q, H1 q = none → Q (.ref q) (upd H1 q (vvO q p))
theorem pairs_vals {P : Program} {w : World} : ∀ {es : List DictEntry} {vs : List (Key × Value)} {m : List (Int × Int)}, Pairs (mixKind P w) es vs → KV (mk m) vs → es.length = m.length ∧ ∀ (i : Nat) e, es[i]? = some e → ∃ t, e.val = .int ((m.map (·.2))[i]?.getD 0) t
  | _, _, m, .nil, kv => by
    cases m with
    | nil => exact ⟨rfl, fun i e z => by simp at z⟩
    | cons p m => cases kv
  | _, _, m, .cons h1 h2 h3, kv => by
    cases m with
    | nil => cases kv
    | cons p m =>
      cases kv with
      | cons k1 k2 =>
        obtain ⟨i1, i2⟩ := pairs_vals h3 k2
        refine ⟨by rw [List.length_cons, List.length_cons, i1], fun i e z => ?_⟩
        cases i with
        | zero =>
          rw [List.getElem?_cons_zero] at z; cases z
          obtain ⟨t, ht⟩ := k1.2
          exact ⟨t, by rw [h2, ht]; rfl⟩
        | succ i =>
          rw [List.getElem?_cons_succ] at z
          obtain ⟨t, ht⟩ := i2 i e z
          exact ⟨t, ht⟩
theorem dk_raw {pins : List (Addr × Obj)} {σ : St} {H : Hp} {s : Shared} (I : L2.Inv X pins σ H s) {p : Addr} {m : List (Int × Int)} (hp : H p = some (.dK (mk m))) : ∃ es ep, s.heap.DictRaw p es ep ∧ es.size = m.length ∧ (p == sysModules) = false ∧ ∀ (i : Nat) (h : i < es.size), ∃ t, es[i].val = .int ((m.map (·.2))[i]?.getD 0) t := by
  obtain ⟨z, ns, vs, kv, o, es, ep, h1, h2, h3, h4, h5, h6⟩ := dk_of I.hok hp
  obtain ⟨i1, i2⟩ := pairs_vals h5 kv
  exact ⟨es, ep, ⟨o, h1, h2, h3⟩, by rw [← Array.length_toList]; exact i1, ns, fun i h => i2 i _ (by rw [Array.getElem?_toList]; exact Array.getElem?_eq_getElem h)⟩
theorem pe_valuesK (he : PE X e te) (hbase : attributeBase e "values" X.env (eval e X.env) = eval e X.env := by rfl) (hline : (apos.endLine == cpos.line) = true := by rfl) : PE X (.Call (.Attribute e "values" apos) [] [] cpos) (tVK te) := by
  refine ⟨fun pins s σ H Q I h => ?_⟩
  refine wpAny_Call_method (T := "dict") (id := "dict.values") hbase rfl hline PySem.F.plainAttrs_dict PySem.F.slot_dict_values PySem.F.type_dict_values (thn (he.run pins s σ H _ I h) fun u s1 ⟨x, H1, I1, rx, p, m, ex, hp, q1⟩ => ?_)
  subst ex
  obtain rfl : u = Value.ref p := rx
  obtain ⟨es, ep, hraw, _, ns, _⟩ := dk_raw I1 hp
  obtain ⟨o, eo, ho, hd⟩ := id hraw
  have t1 : s1.TypeIs (.ref p) "dict" := ⟨o, eo, ho.1⟩
  refine ⟨t1, fun b z => by cases z; exact ⟨o, eo, ho.2.1⟩, ?_⟩
  have n := I1.hok.fresh (Nat.le_refl s1.heap.objs.size)
  have I2 : L2.Inv X pins σ (upd H1 s1.heap.objs.size (vvO s1.heap.objs.size p)) { s1 with heap := s1.heap.push { cls := .type "dict_values", data := .fields #[.ref p] } } := I1.laid (t' := s1.toks) (fun b ob q => Heap.get?_push_of_some _ q) (Nat.le_refl _) (vv_ok ⟨_, Heap.get?_push_size _ rfl, rfl, rfl⟩)
  show wpAny _ _ (callWith cpos (.builtin "dict.values") [.ref p] [] []) _ X.xe s1
  exact method_meetsIn PySem.F.slot_dict_values PySem.F.entry_dict_values rfl (PySem.evalArgs_none ⟨rfl, t1, PySem.F.args_dict_values_1 _, _, meets_dict_values_raw p ns, ⟨⟨es, ep, hraw⟩, ⟨.ref s1.heap.objs.size, _, I2, rfl, q1 _ n⟩⟩⟩)
def rSumK : List V → Hp → VK → Prop := fun vs H Q => ∃ (q p : Addr) (m : List (Int × Int)), vs = [.ref q] ∧ H q = some (vvO q p) ∧ H p = some (.dK (mk m)) ∧ Q (.int (m.map (·.2)).sum) H
theorem cr_sumK (hc : X.calm = true) : CallR X (.builtin "sum") rSumK := by
  intro pins s σ H vs us Q I r h
  obtain ⟨q, p, m, rfl, hq, hp, k⟩ := h
  rw [Vals.ref1 r]
  have hview : s.heap.IsValuesView q p := (I.hok q _ hq : ObjOk X.prog X.w H s.heap q (vvO q p)).1
  obtain ⟨en, ep, hraw, hsz, ns, hval⟩ := dk_raw I hp
  have hlen : (m.map (·.2)).length = en.size := by rw [List.length_map, hsz]
  have K : PySem.W.KdlSrc X.prog X.w "dict_values" q p en.size (fun i v => ∃ hi : i < en.size, v = en[i].val) (fun h => h.IsValuesView q p ∧ h.DictRaw p en ep) := KdlSrc.rawValues
  refine call_sum_walkAnyS ?_
  obtain ⟨oI, St, hit, W, st⟩ := K.iter X.A.in1 s (I.ok.hd hc) ⟨hview, hraw⟩
  refine hit _ _ ⟨s.heap.objs.size, _, _, _, en.size, _, _, fun i => ((m.map (·.2))[i]?).getD 0, rfl, W.toS, st, fun b hb => ?_, fun i v ⟨hi, e⟩ => ?_, fun s' t' hm => ?_⟩
  · show b < (s.heap.push oI).objs.size
    rw [Heap.size_push]
    rcases List.mem_cons.mp hb with e | hb
    · rw [e]; exact Nat.lt_succ_self _
    · rw [List.mem_singleton.mp hb]; exact Nat.lt_succ_of_lt hraw.lt_size
  · obtain ⟨t, ht⟩ := hval i hi
    exact ⟨t, by rw [e, ht]⟩
  · have hk : ∀ b o, s.heap.get? b = some o → s'.heap.get? b = some o := fun b o e =>
      hm.heap b o (fun hI => absurd (Heap.lt_size e) (by rw [List.mem_singleton.mp hI]; exact Nat.lt_irrefl _)) (Heap.get?_push_of_some _ e)
    rw [Moved.eq_with hm]
    refine ⟨.int (m.map (·.2)).sum, H, I.kept (t' := s'.toks) hk, ⟨t', ?_⟩, k⟩
    rw [← hlen, preSum_sum]
    intro i n e; rw [e]; rfl
end
/-! ### counted(limits) -/
def limD (b : Int × Int) : PyData := .tuple [.int b.1, .int b.2]
def S_counted : SpT := fun ds W => ∃ lims : List (Int × Int), ds = [.list (lims.map limD)] ∧ (∀ b ∈ lims, 0 ≤ b.1 ∧ b.1 ≤ 100 ∧ b.2 ≤ 100 ∧ -100 ≤ b.2) ∧ W (.int (cnt lims))
section
variable {P : Program} {w : World} {K : PySem.W.Frag} {mg : Str → Option Value} {base : Heap}
theorem getK (H : Hp) {p : Addr} {m : List (Int × Int)} (h : Rd H p (.dK (mk m))) (k : Int) : DGet H p (.int k) ((cget m k).map V.int) := .inl ⟨mk m, .inl k, h, rfl, (mk_get m k).symm⟩
theorem putK' {H : Hp} {p : Addr} {m : List (Int × Int)} (h : H p = some (.dK (mk m))) (g : CGood m) (k v : Int) : DPut H p (.int k) (.int v) (upd H p (.dK (mk (cput m k v)))) := .inl ⟨mk m, .inl k, h, rfl, by
  have := g.len
  unfold mk; rw [List.length_map, sizeLine_eq]; omega, by rw [mk_put]⟩
theorem isd_lims {F : Hp} : ∀ {vs : List V} {lims : List (Int × Int)}, IsdA P w F vs (lims.map limD) → ∀ (i : Nat) v, vs[i]? = some v → ∃ b p, lims[i]? = some b ∧ v = .ref p ∧ F p = some (.tup [.int b.1, .int b.2]) := fun {vs lims} h i v e => by
  obtain ⟨d, e1, i1⟩ := h.getV e
  rw [List.getElem?_map] at e1
  obtain ⟨b, e2, rfl⟩ := Option.map_eq_some_iff.mp e1
  cases i1 with
  | ref hp hv =>
    cases hv with
    | tup hv =>
      have := hv.ints (ns := [b.1, b.2])
      subst this
      exact ⟨b, _, e2, rfl, hp⟩
theorem mkfnH {x name : Str} {i : Nat} {N ps : List Str} {k : Nat} {R : SpT}
    (Fn : Fn K mg x name i) (S : FnScope N ps (defScope (top i)))
    (b : ∀ (kV doc pm : Value) (an : Option Addr) (cdv ct : Value) (us : List Value), us.length = ps.length → bindArgs (PySem.W.fnOf name name (defArgs (top i)) (defBody (top i)) (defScope (top i)) .none kV doc pm an cdv ct) ⟨us, []⟩ = pure (ps.zip us))
    (len : ∀ ds W, R ds W → ds.length = ps.length)
    (hbody : ∀ (f : Addr) (cdv : Value) (A : Around) (outer : List Env) (s : Shared) (H : Hp) (E : XK), Room k (A.deeper (PyProof.Rows.envOfC name (defScope (top i)) s.heap.objs.size f cdv)) →
      ∃ t, PSs (bX P w K mg base N name (defScope (top i)) f cdv A outer s H E) (defBody (top i)) t ∧ ∀ F vs ds W Q, Same F H → IsdA P w F vs ds → R ds W →
        (∀ v d F' H', Same F F' → Same H H' → Same F' H' → (∀ b o, H b = some o → F' b = F b) → Isd P w F' v d → W d → Q v H') → t { nx := fun _ H' => Q .non H', rt := Q } (start N vs) H) :
    Df P w K mg base x (k + 1) R := by
  obtain ⟨f, fd, Fd, hm⟩ := Fn.ex
  refine ⟨f, fd, ps, ?_, hm, Fd.kp, Fd.bindsN b⟩
  refine Fd.ok S (fun vs H Q E h => ?_) (fun cdv A outer s H vs Q E hr h => ?_)
  · obtain ⟨F, ds, W, _, i, r, _⟩ := h
    rw [i.length, len ds W r]
  · obtain ⟨F, ds, W, sF, i, r, q⟩ := h
    obtain ⟨t, hb, ht⟩ := hbody f cdv A outer s H E hr
    exact ⟨t, PSs.nox hb, ht F vs ds W Q sF i r q⟩
theorem df_counted (Fn : Fn K mg "counted" "counted" 28) (h_max : mg "max" = none) (h_range : mg "range" = none) (h_sum : mg "sum" = none) : Df P w K mg base "counted" 1 S_counted := by
  refine mkfnH Fn sc_counted (fun kV doc pm an cdv ct us h => by rcases us with _ | ⟨a, _ | ⟨b, r⟩⟩ <;> first | rfl | (simp at h)) (fun ds W ⟨_, e, _⟩ => by rw [e]; rfl) fun f cdv A outer s H E hr => ?_
  have hu : (A.deeper (PyProof.Rows.envOfC "counted" (defScope (top 28)) s.heap.objs.size f cdv)).units + 1 < cLine := by have := hr.u_s; omega
  refine ⟨_, pss_cons (ps_set (i := 1) sc_counted.nd rfl (.inl rfl) (pe_disp (pps_cons pe_int pe_int pps_nil) rfl rfl (fun z => nomatch z) (Nat.le_of_ble_eq_true rfl)) rfl (.inl rfl)) (pss_cons
      (ps_for PassesOwn.never rfl (pi_list (pv 0)) (pg_tup rfl (pgs_cons (pg_name (i := 2) sc_counted.nd rfl (.inl rfl) (.inl rfl)) (pgs_cons (pg_name (i := 3) sc_counted.nd rfl (.inl rfl) (.inl rfl)) pgs_nil)) (n := 2) rfl rfl)
        (pss_cons (ps_set (i := 4) sc_counted.nd rfl (.inl rfl) pe_dnewK rfl (.inl rfl))
        (pss_cons (ps_lock (ps_for PassesOwn.never rfl (pi_keysM (pv 1)) (pg_name (i := 5) sc_counted.nd rfl (.inl rfl) (.inl rfl)) (pss_one
          (ps_for PassesOwn.never rfl (pi_range2 (by rfl) h_range (pa_cons (pe_callB (call_max2 rfl) (by rfl) h_max (by decide +kernel) (pa_cons (pv 5) (pa_cons (pv 2) pa_nil)) (by decide) (by decide) rfl rfl) (pa_cons (pe_op op_add (pv 3) pe_int) pa_nil)) rfl rfl) (pg_name (i := 6) sc_counted.nd rfl (.inl rfl) (.inl rfl)) (pss_one
            (ps_asg (pe_op op_add (pe_dget2 hu (pv 4) (pv 6) pe_int ⟨rfl, rfl, rfl, rfl⟩) (pe_dget hu (pv 1) (pv 5) (fun _ _ => rfl))) (pg_sub (pv 4) (pv 6) (set_dict hu) (by intro _; rfl)) rfl rfl rfl)) (by intro _; rfl))) (by intro _; rfl)))
        (pss_one (ps_set (i := 1) sc_counted.nd rfl (.inl rfl) (pv 4) rfl (.inl rfl))))) (by intro _; rfl))
      (pss_one (ps_ret (pe_callB (cr_sumK rfl) (by rfl) h_sum (by decide +kernel) (pa_cons (pe_valuesK (pv 1)) pa_nil) (by decide) (by decide) rfl rfl)))), ?_⟩
  intro F vs ds W Q sF i ⟨lims, e, hl, hw⟩ q
  subst e
  cases i with
  | cons i0 inil =>
  cases inil
  obtain ⟨la, vsl, rfl, hla, hvs⟩ := lst_inv (C := bC P w K F H) i0
  have hlen : vsl.length = lims.length := by rw [hvs.length, List.length_map]
  intro p hp
  refine ⟨upd_same, [(.inl 0, .int 1)], rfl, by decide, ?_⟩
  have e0 : upd (upd H p (.dK [])) p (.dK (mergeK [] [(Sum.inl 0, V.int 1)])) = upd H p (.dK (mk [(0, 1)])) := by rw [upd_upd]; rfl
  rw [e0]
  refine ⟨.ref la, rfl, la, rfl, ⟨vsl, SqL.of (by rw [upd_ne (ne_of_none (sF _ _ hla) hp)]; exact sF _ _ hla)⟩, ?_⟩
  refine for_list (xs := vsl) (fun i σ H' => ∃ p m a b c d e, σ = [some (.ref la), some (.ref p), a, b, c, d, e] ∧ H' p = some (.dK (mk m)) ∧ m = (lims.take i).foldl cstep [(0, 1)] ∧ CGood m ∧ H p = none ∧ Same H H') ?_ ?_ ?_ ?_
  · exact ⟨p, [(0, 1)], _, _, _, _, _, rfl, upd_same, rfl, ⟨by decide, by decide⟩, hp, same_newO hp (Same.refl _)⟩
  · intro i σ H' hi ⟨p, m, a, b, c, d, e, _, _, _, _, _, s⟩
    exact SqL.of (s _ _ (sF _ _ hla))
  · intro i x σ H' hx ⟨p, m, a, b, c, d, e, hσ, hpm, hm, hg, hpn, s⟩
    subst hσ
    obtain ⟨bd, pb, hb, rfl, hpb⟩ := isd_lims hvs i x hx
    obtain ⟨l0, l1, l2, l3⟩ := hl bd (List.mem_of_getElem? hb)
    refine ⟨pb, _, rfl, SqT.of (s _ _ (sF _ _ hpb)), rfl, _, _, rfl, _, _, rfl, rfl, ?_⟩
    intro p4 h4
    have n4 : p ≠ p4 := ne_of_none hpm h4
    refine ⟨p, .dK (mk m), by rw [upd_ne n4]; exact hpm, True.intro, fun od => ?_⟩
    refine ⟨.ref p, rfl, p, od, mk m, rfl, upd_same, ?_⟩
    refine for_it walk_keys (fun j σ H2 => ∃ m2 d e, σ = [some (.ref la), some (.ref p), some (.int bd.1), some (.int bd.2), some (.ref p4), d, e] ∧ H2 p = some (.frz od (.dK (mk m))) ∧ H2 p4 = some (.dK (mk m2)) ∧ m2 = (m.take j).foldl (crow bd.1 bd.2) [] ∧ CGood m2 ∧ ∀ b o, b ≠ p → H' b = some o → H2 b = some o) ?_ ?_ ?_ ?_
    · refine ⟨[], _, _, rfl, upd_same, by rw [upd_ne (Ne.symm n4)]; exact upd_same, rfl, ⟨by decide, fun p z => nomatch z⟩, fun b o n z => ?_⟩
      rw [upd_ne n, upd_ne (ne_of_none z h4)]; exact z
    · intro j σ H2 _ ⟨m2, d, e, _, h, _⟩
      exact h
    · rintro j x σ H2 H3 hj ⟨m2, d, e, rfl, h1, h2, hm2, hg2, hs2⟩ ⟨rfl, k, v, hkv, rfl⟩
      have hj2 : j < m.length := by unfold mk at hj; simpa using hj
      have hmj : m[j]? = some m[j] := List.getElem?_eq_getElem hj2
      have ek : k = .inl m[j].1 ∧ v = .int m[j].2 := by
        unfold mk at hkv
        rw [List.getElem?_map, hmj] at hkv
        cases hkv; exact ⟨rfl, rfl⟩
      obtain ⟨rfl, rfl⟩ := ek
      generalize hpp : m[j] = pr at hmj
      obtain ⟨lo, vl⟩ := pr
      have hlo := hg.2 (lo, vl) (List.mem_of_getElem? hmj)
      have emax : (if bd.1 > lo then bd.1 else lo) = max lo bd.1 := by split <;> omega
      refine ⟨.int lo, rfl, .int bd.1, rfl, lo, bd.1, rfl, ?_⟩
      rw [emax]
      refine ⟨.int bd.2, rfl, bd.2, 1, rfl, rfl, max lo bd.1, bd.2 + 1, rfl, ⟨by omega, by omega, by omega, by omega⟩, ?_⟩
      refine for_range (fun t σ H4 => ∃ m3 e, σ = [some (.ref la), some (.ref p), some (.int bd.1), some (.int bd.2), some (.ref p4), some (.int lo), e] ∧ H4 p = some (.frz od (.dK (mk m))) ∧ H4 p4 = some (.dK (mk m3)) ∧ m3 = (List.range t).foldl (fun m i => cadd m (max lo bd.1 + (i : Nat)) vl) m2 ∧ CGood m3 ∧ ∀ b o, b ≠ p → H' b = some o → H4 b = some o) ?_ ?_ ?_
      · exact ⟨m2, _, rfl, h1, h2, rfl, hg2, hs2⟩
      · rintro t σ H4 ht ⟨m3, e, rfl, g1, g2, hm3, hg3, hs3⟩
        have hk : 0 ≤ max lo bd.1 + (t : Int) ∧ max lo bd.1 + (t : Int) ≤ 100 := ⟨by omega, by omega⟩
        refine ⟨.ref p4, rfl, p4, rfl, .inl ⟨_, .inl g2⟩, .int _, rfl, _, getK H4 (.inl g2) _, .ref p, rfl, .int lo, rfl, p, .int vl, rfl, ?_, (cget m3 (max lo bd.1 + (t : Int))).getD 0, vl, ?_, rfl, ?_⟩
        · have := getK H4 (.inr ⟨od, g1⟩) lo
          rw [cget_at hg.1 hmj] at this; exact this
        · cases cget m3 (max lo bd.1 + (t : Int)) <;> rfl
        refine ⟨.ref p4, rfl, .int _, rfl, p4, _, rfl, putK' g2 hg3 _ _, ?_⟩
        refine ⟨cadd m3 (max lo bd.1 + (t : Int)) vl, _, rfl, ?_, upd_same, ?_, hg3.put hk.1 hk.2, fun b o n z => ?_⟩
        · rw [upd_ne n4]; exact g1
        · rw [List.range_succ, List.foldl_append, ← hm3]; rfl
        · rw [upd_ne (ne_of_none z h4)]; exact hs3 b o n z
      · rintro σ H4 ⟨m3, e, rfl, g1, g2, hm3, hg3, hs3⟩
        refine ⟨m3, _, _, rfl, g1, g2, ?_, hg3, hs3⟩
        rw [List.take_add_one, List.foldl_append, ← hm2, hmj, hm3]; rfl
    · rintro σ H2 ⟨m2, d, e, rfl, h1, h2, hm2, hg2, hs2⟩
      refine ⟨h1, .ref p4, rfl, p4, m2, _, _, _, _, _, rfl, ?_, ?_, hg2, ?_, fun b o z => ?_⟩
      · rw [upd_ne (Ne.symm n4)]; exact h2
      · unfold mk at hm2
        rw [List.length_map, List.take_length] at hm2
        rw [List.take_add_one, List.foldl_append, ← hm, hb, hm2]; rfl
      · cases z : H p4 with
        | none => rfl
        | some o => rw [s _ _ z] at h4; cases h4
      · have n : b ≠ p := ne_of_none z hpn
        rw [upd_ne n]
        exact hs2 b o n (s b o z)
  · rintro σ H' ⟨p, m, a, b, c, d, e, rfl, hpm, hm, hg, hpn, s⟩
    refine ⟨.ref p, rfl, p, m, rfl, hpm, fun vq hq => ⟨vq, p, m, rfl, upd_same, by rw [upd_ne (ne_of_none hpm hq)]; exact hpm, ?_⟩⟩
    have hw' : W (.int (m.map (·.2)).sum) := by
      rw [hlen, List.take_length] at hm
      rw [hm]; exact hw
    exact q _ _ F _ (Same.refl _) (fun b o z => by rw [upd_ne (ne_of_none (s b o z) hq)]; exact s b o z) (fun b o z => by rw [upd_ne (ne_of_none (s _ _ (sF b o z)) hq)]; exact s _ _ (sF b o z)) (fun _ _ _ => rfl) (.int _) hw'
end
end HB

set_option Elab.async false
set_option linter.all false
set_option autoImplicit false
namespace HB
open PySem PySem.Spec L2
open En (enc)
/-! ### mirrors -/
structure Bk where
  r : Int
  up : List Int
  dn : List Int
def bkD (B : Bk) : PyData := .tuple [.int B.r, .tuple (B.up.map .int), .tuple (B.dn.map .int)]
def lets (B : Bk) (own near : Int) (up : Bool) : Bool := if up then decide (own < B.r) && decide (near - own ∈ B.up) else decide (0 < own) && decide (near - own ∈ B.dn)
abbrev Pr := Int × Int
def rng (n : Int) : List Int := (List.range n.toNat).map fun (i : Nat) => (i : Int)
/-- lo, .., hi - 1 -/
def rgI (lo hi : Int) : List Int := (List.range (hi - lo).toNat).map fun (i : Nat) => lo + (i : Int)
def dnI (hi lo : Int) : List Int := (List.range (hi - lo).toNat).map fun (i : Nat) => hi - (i : Int)
def apStep (r : Int) (b : List Pr) (i : Int) : List Pr := b ++ (rgI 0 (r + 1)).map fun j => (i, j)
def allPairs (r : Int) : List Pr := (rgI 0 (r + 1)).foldl (apStep r) []
def co (p : Pr) : Pc → Int
  | .z => p.1 | .o => p.2
def sg (up : Bool) : Int := if up then 1 else -1
def behind (p : Pr) (k : Pc) (up : Bool) : Pr := match k with
  | .z => (p.1 + sg up, p.2)
  | .o => (p.1, p.2 + sg up)
abbrev Dd := Bool × Pc
def allD : List Dd := [(false, .z), (false, .o), (true, .z), (true, .o)]
def can (B : Bk) (p : Pr) (d : Dd) : Bool := lets B (co p d.2) (co p d.2.n) d.1
def deedsT (B : Bk) (p : Pr) : List Dd := allD.filter (can B p)
def offP (p q : Pr) : Int := ((p.1 - q.1).natAbs : Int) + ((p.2 - q.2).natAbs : Int)
structure Valid (B : Bk) : Prop where
  r0 : 1 ≤ B.r
  r1 : B.r ≤ 4
  us : B.up.Pairwise (· < ·)
  ds : B.dn.Pairwise (· < ·)
  ur : ∀ x ∈ B.up, -B.r ≤ x ∧ x ≤ B.r
  dr : ∀ x ∈ B.dn, -B.r ≤ x ∧ x ≤ B.r
theorem mapI_inj {a b : List Int} (h : a.map PyData.int = b.map PyData.int) : a = b := (List.map_inj_right (fun x y h => PyData.int.inj h)).mp h
theorem bkD_inj {A B : Bk} (h : bkD A = bkD B) : A = B := by
  obtain ⟨a, b, c⟩ := A; obtain ⟨d, e, f⟩ := B
  unfold bkD at h
  simp only [PyData.tuple.injEq, List.cons.injEq, PyData.int.injEq, and_true] at h
  obtain ⟨h1, h2, h3⟩ := h
  rw [h1, mapI_inj h2, mapI_inj h3]
theorem enc_inj {α : Type} [En α] {a b : α} (h : (enc a : PyData) = enc b) : a = b := (En.ev a b).mp (by rw [h]; exact (En.ev b b).mpr rfl)
theorem itb0 (B : Bk) : ditem (bkD B) (.int 0) = some (.int B.r) := rfl
theorem itb1 (B : Bk) : ditem (bkD B) (.int 1) = some (.tuple (B.up.map .int)) := rfl
theorem itb2 (B : Bk) : ditem (bkD B) (.int 2) = some (.tuple (B.dn.map .int)) := rfl
theorem nd_i (i : Int) : notDict (.int i) = true := rfl
theorem nd_b (i : Bool) : notDict (.bool i) = true := rfl
theorem nd_s (i : Str) : notDict (.str i) = true := rfl
theorem nd_n : notDict .none = true := rfl
theorem nd_l (i : List PyData) : notDict (.list i) = true := rfl
theorem nd_t (i : List PyData) : notDict (.tuple i) = true := rfl
theorem ik_ii (i : Int) : isK .int (.int i) = true := rfl
theorem ik_ib (i : Int) : isK .bool (.int i) = false := rfl
theorem ik_tt (i : List PyData) : isK .tuple (.tuple i) = true := rfl
theorem bk_nt (B : Bk) : notDict (bkD B) = true := rfl
theorem bk_tu (B : Bk) : isK .tuple (bkD B) = true := rfl
theorem bk_len (B : Bk) (Q : PyData → Prop) : dlen [bkD B] Q ↔ Q (.int 3) := by
  unfold dlen bkD; simp
theorem encL_list {α : Type} [En α] (l : List α) (xs : List PyData) : (encL l = .list xs) ↔ (l.map enc = xs) := by unfold encL; simp
theorem list_encL {α : Type} [En α] (l : List α) (xs : List PyData) : (.list xs = encL l) ↔ (xs = l.map enc) := by unfold encL; simp
theorem len_L {α : Type} [En α] (l : List α) (Q : PyData → Prop) : dlen [encL l] Q ↔ Q (.int l.length) := by unfold dlen encL; simp
theorem len_l (l : List PyData) (Q : PyData → Prop) : dlen [.list l] Q ↔ Q (.int l.length) := by unfold dlen; simp
theorem len_t (l : List PyData) (Q : PyData → Prop) : dlen [.tuple l] Q ↔ Q (.int l.length) := by unfold dlen; simp
/-! ### reading lemmas -/
theorem it2_0 (a b : PyData) : ditem (.tuple [a, b]) (.int 0) = some a := rfl
theorem it2_1 (a b : PyData) : ditem (.tuple [a, b]) (.int 1) = some b := rfl
theorem it3_0 (a b c : PyData) : ditem (.tuple [a, b, c]) (.int 0) = some a := rfl
theorem it3_1 (a b c : PyData) : ditem (.tuple [a, b, c]) (.int 1) = some b := rfl
theorem it3_2 (a b c : PyData) : ditem (.tuple [a, b, c]) (.int 2) = some c := rfl
theorem il2_0 (a b : PyData) : ditem (.list [a, b]) (.int 0) = some a := rfl
theorem il2_1 (a b : PyData) : ditem (.list [a, b]) (.int 1) = some b := rfl
theorem il1_0 (a : PyData) (l : List PyData) : ditem (.list (a :: l)) (.int 0) = some a := by
  show atI (a :: l) 0 = _
  unfold atI ixN
  rw [if_pos (by decide), if_pos (by simp)]; rfl
theorem it2_v (a b : Int) (k : Pc) : ditem (.tuple [.int a, .int b]) (.int k.v) = some (.int (co (a, b) k)) := by cases k <;> rfl
theorem it2_n (a b : Int) (k : Pc) : ditem (.tuple [.int a, .int b]) (.int (1 - k.v)) = some (.int (co (a, b) k.n)) := by cases k <;> rfl
theorem icmp_i (p : Int → Int → Bool) (i j : Int) : icmp p (.int i) (.int j) = some (.bool (p i j)) := rfl
theorem isub_i (i j : Int) : isub (.int i) (.int j) = some (.int (i - j)) := rfl
theorem iadd_i (i j : Int) : iadd (.int i) (.int j) = some (.int (i + j)) := rfl
theorem enc_i (i : Int) : (enc i : PyData) = .int i := rfl
theorem enc_b (i : Bool) : (enc i : PyData) = .bool i := rfl
theorem enc_k (k : Pc) : (enc k : PyData) = .int k.v := rfl
theorem enc_p {α β : Type} [En α] [En β] (p : α × β) : (enc p : PyData) = .tuple [enc p.1, enc p.2] := rfl
theorem enc_3 (k : K3) : (enc k : PyData) = .tuple [.int k.a, .int k.b, .int k.c] := rfl
theorem enc_l {α : Type} [En α] (l : List α) : (enc l : PyData) = .tuple (l.map enc) := rfl
theorem disN_n (x : PyData) : disN x .none = some (.bool (isNo x)) := rfl
theorem dnotN_n (x : PyData) : dnotN x .none = some (.bool (!isNo x)) := rfl
theorem din_i (n : Bool) (x : Int) (l : List Int) : din n (.int x) (.tuple (l.map .int)) = some (.bool (if n then !decide (x ∈ l) else decide (x ∈ l))) := dinE (α := Int) (by decide) n x l
theorem din_iL (n : Bool) (x : Int) (l : List Int) : din n (.int x) (.list (l.map .int)) = some (.bool (if n then !decide (x ∈ l) else decide (x ∈ l))) := dinL (α := Int) (by decide) n x l
theorem deq_i (x y : Int) : deq (.int x) (.int y) = some (.bool (decide (x = y))) := deqE (α := Int) (by decide) x y
theorem dne_i (x y : Int) : dne (.int x) (.int y) = some (.bool (decide (x ≠ y))) := dneE (α := Int) (by decide) x y
theorem deq_b (x y : Bool) : deq (.bool x) (.bool y) = some (.bool (decide (x = y))) := deqE (α := Bool) (by decide) x y
theorem dne_b (x y : Bool) : dne (.bool x) (.bool y) = some (.bool (decide (x ≠ y))) := dneE (α := Bool) (by decide) x y
theorem dseq_t (l : List PyData) (Q : List PyData → Prop) : dseq (.tuple l) Q ↔ Q l := by unfold dseq; simp
theorem dseq_l (l : List PyData) (Q : List PyData → Prop) : dseq (.list l) Q ↔ Q l := by unfold dseq; simp
theorem deq_il (a b : List Int) : deq (.list (a.map .int)) (.list (b.map .int)) = some (.bool (decide (a = b))) := deqL (α := Int) (by decide) a b
theorem rngD_eq (lo : Int) (n : Nat) : rngD lo n = ((List.range n).map fun (i : Nat) => lo + (i : Int)).map PyData.int := by
  unfold rngD; rw [List.map_map]; rfl
theorem rngD_rg (lo hi : Int) : rngD lo (hi - lo).toNat = (rgI lo hi).map PyData.int := rngD_eq _ _
theorem dnD_dn (hi lo : Int) : dnD hi (hi - lo).toNat = (dnI hi lo).map PyData.int := by
  unfold dnD dnI; rw [List.map_map]; rfl
theorem rngD_0 (hi : Int) : rngD 0 hi.toNat = (rgI 0 hi).map PyData.int := by
  have := rngD_rg 0 hi
  rwa [Int.sub_zero] at this
theorem mem_rgI {lo hi x : Int} : x ∈ rgI lo hi ↔ lo ≤ x ∧ x < hi := by
  unfold rgI
  rw [List.mem_map]
  constructor
  · rintro ⟨i, h, rfl⟩
    have := List.mem_range.mp h; omega
  · rintro ⟨h1, h2⟩
    exact ⟨(x - lo).toNat, List.mem_range.mpr (by omega), by omega⟩
theorem len_rgI (lo hi : Int) : (rgI lo hi).length = (hi - lo).toNat := by simp [rgI]
theorem span_len {l : List Int} {a b : Int} (hs : l.Pairwise (· < ·)) (h : ∀ x ∈ l, a ≤ x ∧ x ≤ b) : l.length ≤ (b + 1 - a).toNat := nodup_span (a := a) (hs.imp fun h => by omega) fun x hx => by
  have := h x hx; omega
theorem Valid.ul {B : Bk} (V : Valid B) : B.up.length ≤ 9 := by
  have := span_len V.us V.ur; have := V.r1; omega
theorem Valid.dl {B : Bk} (V : Valid B) : B.dn.length ≤ 9 := by
  have := span_len V.ds V.dr; have := V.r1; omega
theorem sorted_ext {l l' : List Int} (h : l.Pairwise (· < ·)) (h' : l'.Pairwise (· < ·)) (m : ∀ k, k ∈ l ↔ k ∈ l') : l = l' := by
  induction l generalizing l' with
  | nil =>
    cases l' with
    | nil => rfl
    | cons a l' => exact absurd ((m a).mpr (List.mem_cons_self ..)) (by simp)
  | cons a l ih =>
    cases l' with
    | nil => exact absurd ((m a).mp (List.mem_cons_self ..)) (by simp)
    | cons b l' =>
      rw [List.pairwise_cons] at h h'
      have e : a = b := by
        have h1 := (m a).mp (List.mem_cons_self ..)
        have h2 := (m b).mpr (List.mem_cons_self ..)
        rcases List.mem_cons.mp h1 with e | h1
        · exact e
        · rcases List.mem_cons.mp h2 with e | h2
          · exact e.symm
          · have := h.1 b h2; have := h'.1 a h1; omega
      subst e
      rw [ih h.2 h'.2 fun k => ?_]
      constructor
      · intro hk
        rcases List.mem_cons.mp ((m k).mp (List.mem_cons_of_mem _ hk)) with e | z
        · have := h.1 k hk; omega
        · exact z
      · intro hk
        rcases List.mem_cons.mp ((m k).mpr (List.mem_cons_of_mem _ hk)) with e | z
        · have := h'.1 k hk; omega
        · exact z
theorem kOk_p (a b : Int) : kOk (.tuple [.int a, .int b]) := kOkE (α := Pr) (a, b)
theorem any_p {β : Type} (f : β → PyData) (m : List (Pr × β)) (a b : Int) : ((encM f m).any fun p => PyData.eqv p.1 (.tuple [.int a, .int b])) = decide ((a, b) ∈ m.map (·.1)) := (encM_any f m (a, b)).trans (decide_eq_decide.mpr Iff.rfl)
theorem dlk_p {β : Type} (f : β → PyData) (m : List (Pr × β)) (a b : Int) : dlk (encM f m) (.tuple [.int a, .int b]) = (alook m (a, b)).map f := encM_dlk f m (a, b)
theorem put_p (m : List (Pr × Int)) (a b v : Int) : dput (encM .int m) (.tuple [.int a, .int b]) (.int v) = encM .int (aput m (a, b) v) := encM_put .int m (a, b) v
theorem dne0_p (a : List Pr) : dne (encL a) (.list []) = some (.bool (!a.isEmpty)) := dne0 (by decide) a
theorem deq0_p (a : List Pr) : deq (encL a) (.list []) = some (.bool a.isEmpty) := deq0 (by decide) a
theorem dne0_i (a : List Int) : dne (encL a) (.list []) = some (.bool (!a.isEmpty)) := dne0 (by decide) a
theorem dne0_w (a : List (List Pc)) : dne (encL a) (.list []) = some (.bool (!a.isEmpty)) := dne0 (by decide) a
theorem deq0_w (a : List (List Pc)) : deq (encL a) (.list []) = some (.bool a.isEmpty) := deq0 (by decide) a
theorem encM_len {κ β : Type} [DecidableEq κ] [Ky κ] (f : β → PyData) (m : List (κ × β)) : (encM f m).length = m.length := by unfold encM; rw [List.length_map]
theorem gC_c (g : PGt) (u : PGst) (d : PyData) (r : List PyData) (δ : Enm) (ρ : Rw) (Q : Enm → Rw → Prop) : gC g u (d :: r) δ ρ Q ↔ g d δ ρ fun δ1 ρ1 => u r δ1 ρ1 Q := by unfold gC; simp [and_assoc]
theorem gN_n (δ : Enm) (ρ : Rw) (Q : Enm → Rw → Prop) : gN [] δ ρ Q ↔ Q δ ρ := by unfold gN; simp
theorem gTp_t (g : PGst) (ds : List PyData) (δ : Enm) (ρ : Rw) (Q : Enm → Rw → Prop) : gTp g (.tuple ds) δ ρ Q ↔ g ds δ ρ Q := by unfold gTp; simp
theorem ex2_eq {α β : Type} (u : α) (v : β) (P : α → β → Prop) : (∃ i j, (u = i ∧ v = j) ∧ P i j) ↔ P u v := ⟨fun ⟨_, _, ⟨h1, h2⟩, h⟩ => by subst h1; subst h2; exact h, fun h => ⟨u, v, ⟨rfl, rfl⟩, h⟩⟩
end HB

set_option Elab.async false
set_option linter.all false
set_option autoImplicit false
namespace HB
open PySem PySem.Spec L2
open En (enc)
/-! ### paths of a pair -/
def box (r : Int) (p : Pr) : Prop := (0 ≤ p.1 ∧ p.1 ≤ r) ∧ (0 ≤ p.2 ∧ p.2 ≤ r)
abbrev mv (p : Pr) (d : Dd) : Pr := behind p d.2 d.1
theorem can_box {B : Bk} {p : Pr} {d : Dd} (h : box B.r p) (c : can B p d = true) : box B.r (mv p d) := by
  obtain ⟨u, k⟩ := d
  obtain ⟨a, b⟩ := p
  obtain ⟨⟨h1, h2⟩, h3, h4⟩ := h
  simp only at h1 h2 h3 h4
  cases u <;> cases k <;> simp [can, lets, co, mv, behind, sg, box, Pc.n] at c ⊢ <;> (have c := of_decide_eq_true c.1; omega)
inductive Path (B : Bk) (p : Pr) : Pr → Nat → Prop
  | nil : Path B p p 0
  | snoc {q : Pr} {k : Nat} {d : Dd} : Path B p q k → can B q d = true → Path B p (mv q d) (k + 1)
theorem Path.box {B : Bk} {p q : Pr} {k : Nat} (h : Path B p q k) (b : box B.r p) : HB.box B.r q := by
  induction h with
  | nil => exact b
  | snoc _ c ih => exact can_box ih c
theorem Path.off {B : Bk} {p q : Pr} {k : Nat} (h : Path B p q k) : offP p q ≤ k := by
  induction h with
  | nil => simp [offP]
  | @snoc q k d _ c ih =>
    obtain ⟨u, l⟩ := d
    obtain ⟨a, b⟩ := q
    cases u <;> cases l <;> simp [offP, mv, behind, sg] at ih ⊢ <;> omega
theorem mem_foldl_ap (r : Int) (p : Pr) : ∀ (l : List Int) (b : List Pr), p ∈ l.foldl (apStep r) b ↔ p ∈ b ∨ (p.1 ∈ l ∧ p.2 ∈ rgI 0 (r + 1))
  | [], b => by simp
  | i :: l, b => by
    rw [List.foldl_cons, mem_foldl_ap r p l, apStep, List.mem_append, List.mem_map]
    constructor
    · rintro ((h | ⟨j, h1, h2⟩) | ⟨h1, h2⟩)
      · exact .inl h
      · subst h2; exact .inr ⟨List.mem_cons_self .., h1⟩
      · exact .inr ⟨List.mem_cons_of_mem _ h1, h2⟩
    · rintro (h | ⟨h1, h2⟩)
      · exact .inl (.inl h)
      · rcases List.mem_cons.mp h1 with e | h1
        · exact .inl (.inr ⟨p.2, h2, by rw [← e]⟩)
        · exact .inr ⟨h1, h2⟩
theorem mem_allPairs {r : Int} {p : Pr} : p ∈ allPairs r ↔ box r p := by
  unfold allPairs
  rw [mem_foldl_ap, mem_rgI, mem_rgI]
  simp only [List.not_mem_nil, false_or, box]
  omega
theorem ap_len0 (r : Int) (h1 : r ≤ 4) : ∀ (l : List Int) (b : List Pr), (l.foldl (apStep r) b).length ≤ b.length + 5 * l.length
  | [], b => by simp
  | i :: l, b => by
    have h2 := ap_len0 r h1 l (apStep r b i)
    have h3 : (apStep r b i).length ≤ b.length + 5 := by
      unfold apStep; rw [List.length_append, List.length_map, len_rgI]; omega
    rw [List.foldl_cons, List.length_cons]; omega
theorem allPairs_len {r : Int} (h : r ≤ 4) : (allPairs r).length ≤ 25 := by
  have := ap_len0 r h (rgI 0 (r + 1)) []
  rw [len_rgI] at this
  unfold allPairs; simp at this; omega
/-! ### reached pairs by layers -/
abbrev Mp := List (Pr × Int)
theorem alook_mem {κ β : Type} [DecidableEq κ] {m : List (κ × β)} (h : (m.map (·.1)).Nodup) {k : κ} {v : β} (e : (k, v) ∈ m) : alook m k = some v := by
  induction m with
  | nil => simp at e
  | cons p m ih =>
    unfold alook
    rw [List.find?_cons]
    rw [List.map_cons, List.nodup_cons] at h
    rcases List.mem_cons.mp e with e | e
    · subst e; simp
    · have hne : ¬ p.1 = k := fun z => h.1 (by rw [z]; exact List.mem_map.mpr ⟨(k, v), e, rfl⟩)
      rw [decide_eq_false hne]
      exact ih h.2 e
theorem mem_alook {κ β : Type} [DecidableEq κ] {m : List (κ × β)} {k : κ} {v : β} (e : alook m k = some v) : (k, v) ∈ m := by
  unfold alook at e
  obtain ⟨p, h1, h2⟩ := Option.map_eq_some_iff.mp e
  have := List.find?_some h1
  simp at this
  rw [← this, ← h2]; exact List.mem_of_find?_eq_some h1
structure FromOk (B : Bk) (p : Pr) (m : Mp) : Prop where
  nd : (m.map (·.1)).Nodup
  pa : ∀ q n, (q, n) ∈ m → ∃ k : Nat, n = k ∧ Path B p q k
  all : ∀ q k, Path B p q k → ∃ n, (q, n) ∈ m ∧ n ≤ (k : Int)
def addR (s : Mp × List Pr) (here there : Pr) : Mp × List Pr := if there ∈ s.1.map (·.1) then s else (aput s.1 there ((alook s.1 here).getD 0 + 1), s.2 ++ [there])
def rowR (B : Bk) (s : Mp × List Pr) (here : Pr) : Mp × List Pr := (deedsT B here).foldl (fun s d => addR s here (mv here d)) s
structure Lay (B : Bk) (p : Pr) (m0 : Mp) (t : Nat) (dn : List Pr) (s : Mp × List Pr) : Prop where
  nd : (s.1.map (·.1)).Nodup
  mem : ∀ q n, (q, n) ∈ s.1 ↔ (q, n) ∈ m0 ∨ (n = (t : Int) + 1 ∧ q ∈ s.2)
  new : ∀ q ∈ s.2, Path B p q (t + 1)
  dne : ∀ q ∈ dn, q ∈ s.1.map (·.1)
  len : s.1.length = m0.length + s.2.length
theorem aput_new {κ β : Type} [DecidableEq κ] {m : List (κ × β)} {k : κ} {v : β} (h : k ∉ m.map (·.1)) : aput m k v = m ++ [(k, v)] := by
  unfold aput; rw [any_keys, decide_eq_false h, if_neg (by simp)]
theorem Lay.add {B : Bk} {p : Pr} {m0 : Mp} {t : Nat} {dn : List Pr} {s : Mp × List Pr} (L : Lay B p m0 t dn s) {here there : Pr} (hh : (here, (t : Int)) ∈ m0) (hp : Path B p there (t + 1)) : Lay B p m0 t (dn ++ [there]) (addR s here there) := by
  unfold addR
  by_cases h : there ∈ s.1.map (·.1)
  · rw [if_pos h]
    exact ⟨L.nd, L.mem, L.new, fun q hq => by
      rcases List.mem_append.mp hq with z | z
      · exact L.dne q z
      · simp at z; subst z; exact h, L.len⟩
  · rw [if_neg h, aput_new h, alook_mem L.nd ((L.mem here t).mpr (.inl hh))]
    refine ⟨?_, fun q n => ?_, fun q hq => ?_, fun q hq => ?_, ?_⟩
    · rw [List.map_append, List.nodup_append]
      exact ⟨L.nd, by simp, fun a ha b hb => by simp at hb; subst hb; exact fun e => h (e ▸ ha)⟩
    · simp only [List.mem_append, L.mem, List.mem_singleton, Prod.mk.injEq, Option.getD_some]
      constructor
      · rintro ((z | ⟨z1, z2⟩) | ⟨rfl, rfl⟩)
        · exact .inl z
        · exact .inr ⟨z1, .inl z2⟩
        · exact .inr ⟨rfl, .inr rfl⟩
      · rintro (z | ⟨rfl, z | rfl⟩)
        · exact .inl (.inl z)
        · exact .inl (.inr ⟨rfl, z⟩)
        · exact .inr ⟨rfl, rfl⟩
    · rcases List.mem_append.mp hq with z | z
      · exact L.new q z
      · simp at z; subst z; exact hp
    · rw [List.map_append, List.mem_append]
      rcases List.mem_append.mp hq with z | z
      · exact .inl (L.dne q z)
      · simp at z; subst z; exact .inr (by simp)
    · simp only [List.length_append, List.length_cons, List.length_nil]
      have := L.len; omega
theorem Lay.row {B : Bk} {p : Pr} {m0 : Mp} {t : Nat} {here : Pr} (hh : (here, (t : Int)) ∈ m0) (hp : Path B p here t) : ∀ (ds : List Dd) (dn : List Pr) (s : Mp × List Pr), (∀ d ∈ ds, can B here d = true) → Lay B p m0 t dn s → Lay B p m0 t (dn ++ ds.map (mv here)) (ds.foldl (fun s d => addR s here (mv here d)) s)
  | [], dn, s, _, L => by simpa using L
  | d :: ds, dn, s, hc, L => by
    have := Lay.row hh hp ds (dn ++ [mv here d]) _ (fun d hd => hc d (List.mem_cons_of_mem _ hd)) (L.add hh (.snoc hp (hc d (List.mem_cons_self ..))))
    simpa using this
theorem mem_deedsT {B : Bk} {p : Pr} {d : Dd} : d ∈ deedsT B p ↔ can B p d = true := by
  unfold deedsT
  rw [List.mem_filter]
  exact ⟨fun h => h.2, fun h => ⟨by obtain ⟨u, k⟩ := d; cases u <;> cases k <;> decide, h⟩⟩
theorem Lay.rows {B : Bk} {p : Pr} {m0 : Mp} {t : Nat} (hp0 : ∀ q, (q, (t : Int)) ∈ m0 → Path B p q t) : ∀ (rs : List Pr) (dn : List Pr) (s : Mp × List Pr), (∀ q ∈ rs, (q, (t : Int)) ∈ m0) → Lay B p m0 t dn s → Lay B p m0 t (dn ++ rs.flatMap fun here => (deedsT B here).map (mv here)) (rs.foldl (rowR B) s)
  | [], dn, s, _, L => by simpa using L
  | q :: rs, dn, s, hr, L => by
    have h1 := Lay.row (hr q (List.mem_cons_self ..)) (hp0 q (hr q (List.mem_cons_self ..))) (deedsT B q) dn s (fun d hd => mem_deedsT.mp hd) L
    have := Lay.rows hp0 rs _ _ (fun q hq => hr q (List.mem_cons_of_mem _ hq)) h1
    rw [List.foldl_cons, List.flatMap_cons, ← List.append_assoc]; exact this
structure FInv (B : Bk) (p : Pr) (m : Mp) (rs : List Pr) (t : Nat) : Prop where
  nd : (m.map (·.1)).Nodup
  pa : ∀ q n, (q, n) ∈ m → ∃ k : Nat, n = k ∧ Path B p q k ∧ k ≤ t
  all : ∀ q k, k ≤ t → Path B p q k → ∃ n, (q, n) ∈ m ∧ n ≤ (k : Int)
  rw : ∀ q, q ∈ rs ↔ (q, (t : Int)) ∈ m
theorem FInv.start (B : Bk) (p : Pr) : FInv B p [(p, 0)] [p] 0 where
  nd := by simp
  pa := fun q n h => by
    simp at h; obtain ⟨rfl, rfl⟩ := h
    exact ⟨0, rfl, .nil, Nat.le_refl _⟩
  all := fun q k hk h => by
    have : k = 0 := by omega
    subst this
    cases h
    exact ⟨0, by simp, by simp⟩
  rw := fun q => by simp
theorem FInv.lay {B : Bk} {p : Pr} {m : Mp} {rs : List Pr} {t : Nat} (I : FInv B p m rs t) : Lay B p m t [] (m, []) := ⟨I.nd, fun q n => by simp, fun q h => by simp at h, fun q h => by simp at h, by simp⟩
theorem FInv.path {B : Bk} {p : Pr} {m : Mp} {rs : List Pr} {t : Nat} (I : FInv B p m rs t) : ∀ q, (q, (t : Int)) ∈ m → Path B p q t := fun q h => by
  obtain ⟨k, e, hp, _⟩ := I.pa q _ h
  have : k = t := by omega
  subst this; exact hp
theorem FInv.step {B : Bk} {p : Pr} {m : Mp} {rs : List Pr} {t : Nat} (I : FInv B p m rs t) : FInv B p (rs.foldl (rowR B) (m, [])).1 (rs.foldl (rowR B) (m, [])).2 (t + 1) ∧ (rs.foldl (rowR B) (m, [])).1.length = m.length + (rs.foldl (rowR B) (m, [])).2.length := by
  have L := Lay.rows I.path rs [] (m, []) (fun q hq => (I.rw q).mp hq) I.lay
  rw [List.nil_append] at L
  generalize hs : rs.foldl (rowR B) (m, []) = s at L
  refine ⟨⟨L.nd, fun q n h => ?_, fun q k hk hp => ?_, fun q => ?_⟩, L.len⟩
  · rcases (L.mem q n).mp h with z | ⟨z1, z2⟩
    · obtain ⟨k, e, hp, hk⟩ := I.pa q n z
      exact ⟨k, e, hp, by omega⟩
    · exact ⟨t + 1, by rw [z1]; simp, L.new q z2, Nat.le_refl _⟩
  · by_cases hk2 : k ≤ t
    · obtain ⟨n, h1, h2⟩ := I.all q k hk2 hp
      exact ⟨n, (L.mem q n).mpr (.inl h1), h2⟩
    · have hk3 : k = t + 1 := by omega
      subst hk3
      cases hp with
      | @snoc q' _ d hp' c =>
        obtain ⟨n', h1, h2⟩ := I.all q' t (Nat.le_refl _) hp'
        obtain ⟨k', e, hp2, hk'⟩ := I.pa q' n' h1
        by_cases hlt : k' = t
        · subst hlt
          subst e
          have hin : mv q' d ∈ rs.flatMap fun here => (deedsT B here).map (mv here) := List.mem_flatMap.mpr ⟨q', (I.rw q').mpr h1, List.mem_map.mpr ⟨d, mem_deedsT.mpr c, rfl⟩⟩
          obtain ⟨⟨q2, n⟩, hn, e2⟩ := List.mem_map.mp (L.dne _ hin)
          simp only at e2
          subst e2
          refine ⟨n, hn, ?_⟩
          rcases (L.mem _ n).mp hn with z | ⟨z1, z2⟩
          · obtain ⟨k2, e3, _, h3⟩ := I.pa _ n z
            omega
          · omega
        · have hp3 := Path.snoc hp2 c
          obtain ⟨n, h3, h4⟩ := I.all _ (k' + 1) (by omega) hp3
          exact ⟨n, (L.mem _ n).mpr (.inl h3), by omega⟩
  · constructor
    · intro h
      exact (L.mem q _).mpr (.inr ⟨by simp, h⟩)
    · intro h
      rcases (L.mem q _).mp h with z | ⟨_, z⟩
      · obtain ⟨k2, e3, _, h3⟩ := I.pa _ _ z
        omega
      · exact z
theorem FInv.fin {B : Bk} {p : Pr} {m : Mp} {t : Nat} (I : FInv B p m [] t) : FromOk B p m where
  nd := I.nd
  pa := fun q n h => let ⟨k, e, hp, _⟩ := I.pa q n h; ⟨k, e, hp⟩
  all := by
    intro q k hp
    induction hp with
    | nil => exact I.all _ 0 (Nat.zero_le _) .nil
    | @snoc q' k d hp c ih =>
      obtain ⟨n', h1, h2⟩ := ih
      obtain ⟨k', e, hp2, hk'⟩ := I.pa q' n' h1
      have hne : k' ≠ t := fun z => by
        have := (I.rw q').mpr (by rw [← z, ← e]; exact h1)
        simp at this
      obtain ⟨n, h3, h4⟩ := I.all _ (k' + 1) (by omega) (.snoc hp2 c)
      exact ⟨n, h3, by omega⟩
theorem keys_len {B : Bk} {p : Pr} {m : Mp} (hb : box B.r p) (hr : B.r ≤ 4) (nd : (m.map (·.1)).Nodup) (pa : ∀ q n, (q, n) ∈ m → ∃ k : Nat, Path B p q k) : m.length ≤ 25 := by
  have h1 := nodup_sub_len (l' := allPairs B.r) nd fun x hx => by
    obtain ⟨⟨q, n⟩, h, rfl⟩ := List.mem_map.mp hx
    obtain ⟨k, hp⟩ := pa q n h
    exact mem_allPairs.mpr (hp.box hb)
  have h2 := allPairs_len hr
  rw [List.length_map] at h1; omega
end HB

set_option Elab.async false
set_option linter.all false
set_option autoImplicit false
namespace HB
open PySem PySem.Spec L2
open En (enc)
/-! ### sorted lists of typed values -/
class Tu (α : Type) extends En α where
  tu : ∀ a : α, ∃ x r, (enc a : PyData) = .tuple (x :: r)
instance {α β : Type} [En α] [En β] : Tu (α × β) where
  tu a := ⟨_, _, rfl⟩
instance : Tu K3 where
  tu a := ⟨_, _, rfl⟩
def leE {α : Type} [En α] (a b : α) : Bool := PySem.W.dataLe false id (enc a) (enc b)
def sortE {α : Type} [En α] (l : List α) : List α := l.mergeSort leE
theorem sortD_E {α : Type} [En α] (l : List α) : sortD (l.map enc) = (sortE l).map enc := by
  unfold sortD sortE
  rw [List.map_mergeSort]
  intro a _ b _; rfl
theorem mem_sortE {α : Type} [En α] (l : List α) (a : α) : a ∈ sortE l ↔ a ∈ l := List.mem_mergeSort
theorem len_sortE {α : Type} [En α] (l : List α) : (sortE l).length = l.length := List.length_mergeSort l
theorem sortOk_E {α : Type} [Tu α] (l : List α) (hl : l.length ≤ 100000) (hd : En.dep α ≤ 64 := by decide) : SortOk (l.map enc) := by
  refine ⟨by rw [List.length_map]; exact hl, plA l, fun d hd d' hd' => ?_, fun d hd => ?_, .inl (.inl fun d hd => ?_)⟩
  · obtain ⟨a, _, rfl⟩ := List.mem_map.mp hd
    obtain ⟨b, _, rfl⟩ := List.mem_map.mp hd'
    exact En.al a b
  · obtain ⟨a, _, rfl⟩ := List.mem_map.mp hd
    exact Nat.le_trans (En.dp a) ‹_›
  · obtain ⟨a, _, rfl⟩ := List.mem_map.mp hd
    exact Tu.tu a
/-! ### straightness -/
def Straight (B : Bk) : Prop := ∀ p q k, box B.r p → Path B p q k → ∃ k', Path B p q k' ∧ (k' : Int) = offP p q
theorem from_off {B : Bk} {p : Pr} {m : Mp} (S : Straight B) (hb : box B.r p) (F : FromOk B p m) : ∀ q n, (q, n) ∈ m → n = offP p q := by
  intro q n h
  obtain ⟨k, e, hp⟩ := F.pa q n h
  obtain ⟨k', hp', e'⟩ := S p q k hb hp
  obtain ⟨n2, h2, h3⟩ := F.all q k' hp'
  have h4 : n2 = n := by
    have a1 := alook_mem F.nd h
    have a2 := alook_mem F.nd h2
    rw [a1] at a2; exact (Option.some.inj a2).symm
  have := hp.off
  omega
theorem FromOk.len {B : Bk} {p : Pr} {m : Mp} (F : FromOk B p m) (hb : box B.r p) (hr : B.r ≤ 4) : m.length ≤ 25 := keys_len hb hr F.nd fun q n h => let ⟨k, _, hp⟩ := F.pa q n h; ⟨k, hp⟩
/-! ### words that lead straight -/
def shStep (B : Bk) (q : Pr) (w : List Pc) (here : Pr) (b : List (List Pc × Pr)) (k : Pc) : List (List Pc × Pr) := if co here k ≠ co q k ∧ lets B (co here k) (co here k.n) (decide (co here k < co q k)) = true then b ++ [(w ++ [k], behind here k (decide (co here k < co q k)))] else b
def shRow (B : Bk) (q : Pr) (b : List (List Pc × Pr)) (x : List Pc × Pr) : List (List Pc × Pr) := [Pc.z, Pc.o].foldl (shStep B q x.1 x.2) b
def shTurn (B : Bk) (q : Pr) (rows : List (List Pc × Pr)) : List (List Pc × Pr) := rows.foldl (shRow B q) []
def shuf (B : Bk) (p q : Pr) : List (List Pc) := ((rgI 0 (offP p q)).foldl (fun r _ => shTurn B q r) [([], p)]).map (·.1)
theorem shStep_len (B : Bk) (q : Pr) (w : List Pc) (here : Pr) : ∀ (l : List Pc) (b : List (List Pc × Pr)), (l.foldl (shStep B q w here) b).length ≤ b.length + l.length
  | [], b => by simp
  | k :: l, b => by
    have h := shStep_len B q w here l (shStep B q w here b k)
    have h2 : (shStep B q w here b k).length ≤ b.length + 1 := by
      unfold shStep; split
      · simp
      · omega
    rw [List.foldl_cons, List.length_cons]; omega
theorem shRow_len (B : Bk) (q : Pr) : ∀ (l : List (List Pc × Pr)) (b : List (List Pc × Pr)), (l.foldl (shRow B q) b).length ≤ b.length + 2 * l.length
  | [], b => by simp
  | x :: l, b => by
    have h := shRow_len B q l (shRow B q b x)
    have h2 : (shRow B q b x).length ≤ b.length + 2 := shStep_len B q x.1 x.2 [.z, .o] b
    rw [List.foldl_cons, List.length_cons]; omega
theorem sh_len (B : Bk) (q : Pr) : ∀ (l : List Int) (r : List (List Pc × Pr)), (l.foldl (fun r _ => shTurn B q r) r).length ≤ r.length * 2 ^ l.length
  | [], r => by simp
  | x :: l, r => by
    have h := sh_len B q l (shTurn B q r)
    have h2 : (shTurn B q r).length ≤ 2 * r.length := by
      have := shRow_len B q r []
      simpa [shTurn] using this
    rw [List.foldl_cons, List.length_cons, Nat.pow_succ]
    calc _ ≤ _ := h
      _ ≤ (2 * r.length) * 2 ^ l.length := Nat.mul_le_mul_right _ h2
      _ = _ := by rw [Nat.mul_comm 2 r.length, Nat.mul_assoc, Nat.mul_comm 2]
def shOk (B : Bk) (q : Pr) (here : Pr) (k : Pc) : Prop := co here k ≠ co q k ∧ lets B (co here k) (co here k.n) (decide (co here k < co q k)) = true
abbrev shTo (q : Pr) (here : Pr) (k : Pc) : Pr := behind here k (decide (co here k < co q k))
theorem mem_shStep {B : Bk} {q : Pr} {w : List Pc} {here : Pr} {y : List Pc × Pr} : ∀ (l : List Pc) (b : List (List Pc × Pr)), y ∈ l.foldl (shStep B q w here) b ↔ y ∈ b ∨ ∃ k ∈ l, shOk B q here k ∧ y = (w ++ [k], shTo q here k)
  | [], b => by simp
  | k :: l, b => by
    rw [List.foldl_cons, mem_shStep l, shStep]
    constructor
    · rintro (h | ⟨k2, h1, h2⟩)
      · split at h
        · rcases List.mem_append.mp h with z | z
          · exact .inl z
          · simp at z; exact .inr ⟨k, List.mem_cons_self .., by assumption, z⟩
        · exact .inl h
      · exact .inr ⟨k2, List.mem_cons_of_mem _ h1, h2⟩
    · rintro (h | ⟨k2, h1, h2, h3⟩)
      · left; split
        · exact List.mem_append_left _ h
        · exact h
      · rcases List.mem_cons.mp h1 with e | h1
        · subst e; left; rw [if_pos (show co here k2 ≠ co q k2 ∧ _ from h2)]; exact List.mem_append_right _ (by simp [h3])
        · exact .inr ⟨k2, h1, h2, h3⟩
theorem mem_shRow {B : Bk} {q : Pr} {y : List Pc × Pr} : ∀ (l : List (List Pc × Pr)) (b : List (List Pc × Pr)), y ∈ l.foldl (shRow B q) b ↔ y ∈ b ∨ ∃ x ∈ l, ∃ k, shOk B q x.2 k ∧ y = (x.1 ++ [k], shTo q x.2 k)
  | [], b => by simp
  | x :: l, b => by
    rw [List.foldl_cons, mem_shRow l, shRow, mem_shStep]
    constructor
    · rintro ((h | ⟨k, _, h2, h3⟩) | ⟨x2, h1, h2⟩)
      · exact .inl h
      · exact .inr ⟨x, List.mem_cons_self .., k, h2, h3⟩
      · exact .inr ⟨x2, List.mem_cons_of_mem _ h1, h2⟩
    · rintro (h | ⟨x2, h1, k, h2, h3⟩)
      · exact .inl (.inl h)
      · rcases List.mem_cons.mp h1 with e | h1
        · subst e; exact .inl (.inr ⟨k, by cases k <;> simp, h2, h3⟩)
        · exact .inr ⟨x2, h1, k, h2, h3⟩
theorem mem_shTurn {B : Bk} {q : Pr} {y : List Pc × Pr} {rs : List (List Pc × Pr)} : y ∈ shTurn B q rs ↔ ∃ x ∈ rs, ∃ k, shOk B q x.2 k ∧ y = (x.1 ++ [k], shTo q x.2 k) := by
  unfold shTurn; rw [mem_shRow]; simp
theorem sh_wlen (B : Bk) (q : Pr) : ∀ (l : List Int) (r : List (List Pc × Pr)) (n : Nat), (∀ x ∈ r, x.1.length = n) → ∀ x ∈ l.foldl (fun r _ => shTurn B q r) r, x.1.length = n + l.length
  | [], r, n, h => h
  | a :: l, r, n, h => by
    intro x hx
    rw [List.foldl_cons] at hx
    have := sh_wlen B q l (shTurn B q r) (n + 1) (fun y hy => by
      obtain ⟨z, hz, k, _, rfl⟩ := mem_shTurn.mp hy
      simp [h z hz]) x hx
    rw [List.length_cons]; omega
end HB

set_option Elab.async false
set_option linter.all false
set_option autoImplicit false
namespace HB
open PySem PySem.Spec L2
open En (enc)
theorem it_L (l : List PyData) {i : Int} (h0 : 0 ≤ i) : ditem (.list l) (.int i) = l[i.toNat]? := by
  show atI l i = _
  unfold atI ixN
  rw [if_pos h0]
  by_cases h : i < l.length
  · rw [if_pos h]; rfl
  · rw [if_neg h, List.getElem?_eq_none (by omega)]; rfl
theorem it_T (l : List PyData) {i : Int} (h0 : 0 ≤ i) : ditem (.tuple l) (.int i) = l[i.toNat]? := it_L l h0
theorem cut_take (ds : List PyData) (s : Nat) : cutD ds none (some (s : Int)) = ds.take s := by
  unfold cutD
  show ((ds.drop 0).take (HT.sIx ds.length ds.length (some (s : Int)) - 0)) = _
  rw [HT.sIx_nat, List.drop_zero, Nat.sub_zero]
  by_cases h : s ≤ ds.length
  · rw [Nat.min_eq_left h]
  · rw [Nat.min_eq_right (by omega), List.take_of_length_le (Nat.le_refl _), List.take_of_length_le (by omega)]
theorem cut_drop (ds : List PyData) (s : Nat) : cutD ds (some (s : Int)) none = ds.drop s := by
  unfold cutD
  rw [HT.sIx_nat]
  show (ds.drop (min s ds.length)).take (ds.length - min s ds.length) = _
  by_cases h : s ≤ ds.length
  · rw [Nat.min_eq_left h, List.take_of_length_le (by rw [List.length_drop]; omega)]
  · rw [Nat.min_eq_right (by omega), List.drop_of_length_le (Nat.le_refl _), List.drop_of_length_le (by omega), List.take_nil]
theorem fold_snoc {α β : Type} (f : α → β) : ∀ (l : List α) (b : List β), l.foldl (fun b x => b ++ [f x]) b = b ++ l.map f
  | [], b => by simp
  | a :: l, b => by rw [List.foldl_cons, fold_snoc f l]; simp
/-! ### words: the ones ahead of each zero -/
def azG : List Pc → Nat → List Nat
  | [], _ => []
  | .z :: w, m => m :: azG w m
  | .o :: w, m => azG w (m + 1)
def posG : List Pc → Nat → List Nat
  | [], _ => []
  | .z :: w, n => n :: posG w (n + 1)
  | .o :: w, n => posG w (n + 1)
def azi (i : Int) (w : List Pc) : Int := (((azG w 0)[i.toNat]?).getD 0 : Nat)
theorem posG_shift : ∀ (w : List Pc) (n k : Nat), posG w (n + k) = (posG w n).map (· + k)
  | [], _, _ => rfl
  | .z :: w, n, k => by
    have := posG_shift w (n + 1) k
    simp only [posG, List.map_cons]; rw [← this]; congr 2; omega
  | .o :: w, n, k => by
    have := posG_shift w (n + 1) k
    simp only [posG]; rw [← this]; congr 1; omega
theorem posG_filter (w : List Pc) : ((List.range w.length).filter fun i => decide (w[i]? = some Pc.z)) = posG w 0 := by
  induction w with
  | nil => rfl
  | cons k w ih =>
    rw [List.length_cons, List.range_succ_eq_map, List.filter_cons, List.filter_map]
    have e : ((fun i => decide ((k :: w)[i]? = some Pc.z)) ∘ Nat.succ) = fun i => decide (w[i]? = some Pc.z) := by
      funext i; simp [Function.comp]
    rw [e, ih]
    have hs := posG_shift w 0 1
    cases k with
    | z => simp only [List.getElem?_cons_zero, decide_true, if_true, posG]; rw [hs]
    | o => simp [posG]; rw [hs]
theorem posG_az : ∀ (w : List Pc) (n m i : Nat), (posG w n)[i]?.isSome = (azG w m)[i]?.isSome ∧ ∀ s, (posG w n)[i]? = some s → n ≤ s ∧ (azG w m)[i]? = some (m + ((w.take (s - n)).filter fun k => decide (k = Pc.o)).length)
  | [], n, m, i => by simp [posG, azG]
  | .z :: w, n, m, 0 => by
    simp only [posG, azG, List.getElem?_cons_zero, Option.isSome_some, true_and, Option.some.injEq]
    intro s h; subst h; simp
  | .z :: w, n, m, i + 1 => by
    obtain ⟨h1, h2⟩ := posG_az w (n + 1) m i
    simp only [posG, azG, List.getElem?_cons_succ]
    refine ⟨h1, fun s hs => ?_⟩
    obtain ⟨h3, h4⟩ := h2 s hs
    refine ⟨by omega, ?_⟩
    have e : s - n = (s - (n + 1)) + 1 := by omega
    rw [h4, e, List.take_succ_cons, List.filter_cons]
    simp
  | .o :: w, n, m, i => by
    obtain ⟨h1, h2⟩ := posG_az w (n + 1) (m + 1) i
    simp only [posG, azG]
    refine ⟨h1, fun s hs => ?_⟩
    obtain ⟨h3, h4⟩ := h2 s hs
    refine ⟨by omega, ?_⟩
    have e : s - n = (s - (n + 1)) + 1 := by omega
    rw [h4, e, List.take_succ_cons, List.filter_cons]
    simp; omega
theorem azG_len : ∀ (w : List Pc) (m : Nat), (azG w m).length = (w.filter fun k => decide (k = Pc.z)).length
  | [], _ => rfl
  | .z :: w, m => by simp [azG, List.filter_cons, azG_len w m]
  | .o :: w, m => by simp [azG, List.filter_cons, azG_len w (m + 1)]
/-! ### least, most -/
def lmin : List Int → Int
  | [] => 0
  | [a] => a
  | a :: b :: l => min a (lmin (b :: l))
def lmax : List Int → Int
  | [] => 0
  | [a] => a
  | a :: b :: l => max a (lmax (b :: l))
theorem lmin_mem : ∀ (l : List Int), l ≠ [] → lmin l ∈ l ∧ ∀ y ∈ l, lmin l ≤ y
  | [], h => absurd rfl h
  | [a], _ => by simp [lmin]
  | a :: b :: l, _ => by
    obtain ⟨h1, h2⟩ := lmin_mem (b :: l) (by simp)
    unfold lmin
    constructor
    · by_cases z : a ≤ lmin (b :: l)
      · rw [Int.min_eq_left z]; exact List.mem_cons_self ..
      · rw [Int.min_eq_right (by omega)]; exact List.mem_cons_of_mem _ h1
    · intro y hy
      rcases List.mem_cons.mp hy with e | hy
      · subst e; omega
      · have := h2 y hy; omega
theorem lmax_mem : ∀ (l : List Int), l ≠ [] → lmax l ∈ l ∧ ∀ y ∈ l, y ≤ lmax l
  | [], h => absurd rfl h
  | [a], _ => by simp [lmax]
  | a :: b :: l, _ => by
    obtain ⟨h1, h2⟩ := lmax_mem (b :: l) (by simp)
    unfold lmax
    constructor
    · by_cases z : lmax (b :: l) ≤ a
      · rw [Int.max_eq_left z]; exact List.mem_cons_self ..
      · rw [Int.max_eq_right (by omega)]; exact List.mem_cons_of_mem _ h1
    · intro y hy
      rcases List.mem_cons.mp hy with e | hy
      · subst e; omega
      · have := h2 y hy; omega
theorem dminL_of {ns : List Int} (h : ns ≠ []) {Q : PyData → Prop} (q : Q (.int (lmin ns))) : dminL [encL ns] Q :=
  ⟨ns, rfl, List.length_pos_iff.mpr h, fun m h1 h2 => by
    obtain ⟨h3, h4⟩ := lmin_mem ns h
    have := h2 _ h3; have := h4 _ h1
    rw [show m = lmin ns by omega]; exact q⟩
theorem dmaxL_of {ns : List Int} (h : ns ≠ []) {Q : PyData → Prop} (q : Q (.int (lmax ns))) : dmaxL [encL ns] Q :=
  ⟨ns, rfl, List.length_pos_iff.mpr h, fun m h1 h2 => by
    obtain ⟨h3, h4⟩ := lmax_mem ns h
    have := h2 _ h3; have := h4 _ h1
    rw [show m = lmax ns by omega]; exact q⟩
def bnd1 (words : List (List Pc)) (i : Int) : Int × Int := (lmin (words.map (azi i)), lmax (words.map (azi i)))
def bnds (words : List (List Pc)) (many : Int) : List (Int × Int) := (rgI 0 many).map (bnd1 words)
end HB

set_option Elab.async false
set_option linter.all false
set_option autoImplicit false
namespace HB
open PySem PySem.Spec L2
open En (enc)
/-! ### straight words -/
inductive Run (B : Bk) (q p : Pr) : List Pc → Pr → Prop
  | nil : Run B q p [] p
  | snoc {w : List Pc} {here : Pr} {k : Pc} : Run B q p w here → shOk B q here k → Run B q p (w ++ [k]) (shTo q here k)
def zc (w : List Pc) : Nat := (w.filter fun k => decide (k = Pc.z)).length
def oc (w : List Pc) : Nat := (w.filter fun k => decide (k = Pc.o)).length
theorem zc_snoc (w : List Pc) (k : Pc) : zc (w ++ [k]) = zc w + (if k = .z then 1 else 0) := by
  unfold zc; rw [List.filter_append, List.length_append]; cases k <;> simp
theorem oc_snoc (w : List Pc) (k : Pc) : oc (w ++ [k]) = oc w + (if k = .o then 1 else 0) := by
  unfold oc; rw [List.filter_append, List.length_append]; cases k <;> simp
theorem shTo_z {q here : Pr} : (shTo q here .z) = (if here.1 < q.1 then here.1 + 1 else here.1 - 1, here.2) := by
  unfold shTo behind sg co
  by_cases h : here.1 < q.1 <;> simp [h] <;> omega
theorem shTo_o {q here : Pr} : (shTo q here .o) = (here.1, if here.2 < q.2 then here.2 + 1 else here.2 - 1) := by
  unfold shTo behind sg co
  by_cases h : here.2 < q.2 <;> simp [h] <;> omega
theorem Run.facts {B : Bk} {q p : Pr} {w : List Pc} {here : Pr} (h : Run B q p w here) : zc w + (here.1 - q.1).natAbs = (p.1 - q.1).natAbs ∧ oc w + (here.2 - q.2).natAbs = (p.2 - q.2).natAbs ∧ w.length = zc w + oc w := by
  induction h with
  | nil => simp [zc, oc]
  | @snoc w here k _ hk ih =>
    obtain ⟨h1, h2, h3⟩ := ih
    rw [zc_snoc, oc_snoc, List.length_append]
    cases k with
    | z =>
      have hne : here.1 ≠ q.1 := hk.1
      rw [shTo_z]; simp
      split <;> omega
    | o =>
      have hne : here.2 ≠ q.2 := hk.1
      rw [shTo_o]; simp
      split <;> omega
theorem Run.off {B : Bk} {q p : Pr} {w : List Pc} {here : Pr} (h : Run B q p w here) : (w.length : Int) + offP here q = offP p q := by
  obtain ⟨h1, h2, h3⟩ := h.facts
  unfold offP; omega
theorem offP_0 {a b : Pr} (h : offP a b = 0) : a = b := by
  unfold offP at h
  exact Prod.ext (by omega) (by omega)
theorem mem_shRows {B : Bk} {p q : Pr} : ∀ (l : List Int) (r : List (List Pc × Pr)) (n : Nat), (∀ x, x ∈ r ↔ Run B q p x.1 x.2 ∧ x.1.length = n) → ∀ x, x ∈ l.foldl (fun r _ => shTurn B q r) r ↔ Run B q p x.1 x.2 ∧ x.1.length = n + l.length
  | [], r, n, h => h
  | a :: l, r, n, h => by
    intro x
    rw [List.foldl_cons, mem_shRows l (shTurn B q r) (n + 1) (fun y => ?_) x, List.length_cons]
    · constructor
      · rintro ⟨h1, h2⟩; exact ⟨h1, by omega⟩
      · rintro ⟨h1, h2⟩; exact ⟨h1, by omega⟩
    · rw [mem_shTurn]
      constructor
      · rintro ⟨z, hz, k, hk, rfl⟩
        obtain ⟨h1, h2⟩ := (h z).mp hz
        exact ⟨.snoc h1 hk, by simp [h2]⟩
      · rintro ⟨h1, h2⟩
        obtain ⟨w, here⟩ := y
        simp only at h1 h2
        cases h1 with
        | nil => simp at h2
        | @snoc w' here' k h3 h4 =>
          rw [List.length_append, List.length_cons, List.length_nil] at h2
          exact ⟨(w', here'), (h _).mpr ⟨h3, by simp only; omega⟩, k, h4, rfl⟩
theorem mem_shuf {B : Bk} {p q : Pr} {w : List Pc} : w ∈ shuf B p q ↔ Run B q p w q := by
  unfold shuf
  rw [List.mem_map]
  have key := mem_shRows (B := B) (p := p) (q := q) (rgI 0 (offP p q)) [([], p)] 0 (fun x => by
    obtain ⟨w, here⟩ := x
    simp only [List.mem_singleton, Prod.mk.injEq]
    constructor
    · rintro ⟨rfl, rfl⟩; exact ⟨.nil, rfl⟩
    · rintro ⟨h1, h2⟩
      cases h1 with
      | nil => exact ⟨rfl, rfl⟩
      | snoc => simp at h2)
  have hnn : 0 ≤ offP p q := by unfold offP; omega
  have hl : 0 + (rgI 0 (offP p q)).length = (offP p q).toNat := by rw [len_rgI]; omega
  rw [hl] at key
  constructor
  · rintro ⟨⟨w2, here⟩, hx, rfl⟩
    obtain ⟨h1, h2⟩ := (key _).mp hx
    have h3 := h1.off
    have h4 : here = q := offP_0 (by simp only at h2 h3; omega)
    subst h4; exact h1
  · intro h
    have h3 := h.off
    have h0 : offP q q = 0 := by unfold offP; omega
    exact ⟨(w, q), (key _).mpr ⟨h, by simp only; omega⟩, rfl⟩
theorem shuf_len {B : Bk} {p q : Pr} {w : List Pc} (h : w ∈ shuf B p q) : zc w = (p.1 - q.1).natAbs ∧ oc w = (p.2 - q.2).natAbs ∧ w.length = zc w + oc w := by
  obtain ⟨h1, h2, h3⟩ := (mem_shuf.mp h).facts
  exact ⟨by omega, by omega, h3⟩
theorem shuf_many {B : Bk} {p q : Pr} (hp : box B.r p) (hq : box B.r q) (hr : B.r ≤ 4) : (shuf B p q).length ≤ 256 := by
  have := sh_len B q (rgI 0 (offP p q)) [([], p)]
  rw [len_rgI] at this
  have h8 : offP p q ≤ 8 := by
    obtain ⟨⟨_, _⟩, _, _⟩ := hp; obtain ⟨⟨_, _⟩, _, _⟩ := hq
    unfold offP; omega
  have h9 : 2 ^ (offP p q - 0).toNat ≤ 2 ^ 8 := Nat.pow_le_pow_right (by decide) (by omega)
  unfold shuf; rw [List.length_map]
  simp only [List.length_cons, List.length_nil, Nat.zero_add, Nat.one_mul] at this; omega
end HB

set_option Elab.async false
set_option linter.all false
set_option autoImplicit false
namespace HB
open PySem PySem.Spec L2
open En (enc)
def wayI (a b : Int) : List Int := if a < b then rgI a b else dnI a b
theorem len_wayI (a b : Int) : (wayI a b).length = (a - b).natAbs := by
  unfold wayI dnI
  split
  · rw [len_rgI]; omega
  · rw [List.length_map, List.length_range]; omega
abbrev Ev := Pc × Int
def getI (l : List Int) (i : Int) : Int := (l[i.toNat]?).getD 0
theorem it_I (l : List Int) {i : Int} (h0 : 0 ≤ i) (h1 : i < l.length) : ditem (encL l) (.int i) = some (.int (getI l i)) := by
  unfold encL getI
  rw [it_L _ h0, List.getElem?_map, List.getElem?_eq_getElem (by omega)]; rfl
def tdStep (first second : List Int) (lims : List (Int × Int)) (b : List (Ev × Ev)) (i : Nat) : List (Ev × Ev) :=
  (b ++ (rgI 0 ((lims[i]?).getD (0, 0)).1).map fun k => ((Pc.o, getI second k), (Pc.z, getI first i))) ++ (rgI ((lims[i]?).getD (0, 0)).2 second.length).map fun k => ((Pc.z, getI first i), (Pc.o, getI second k))
def tdLims (B : Bk) (p q : Pr) : List (Int × Int) := bnds (shuf B p q) (wayI p.1 q.1).length
def tdRaw (B : Bk) (p q : Pr) : List (Ev × Ev) := (List.range (tdLims B p q).length).foldl (tdStep (wayI p.1 q.1) (wayI p.2 q.2) (tdLims B p q)) []
def toldP (B : Bk) (p q : Pr) : List (Ev × Ev) := sortE (tdRaw B p q)
theorem azG_le : ∀ (w : List Pc) (m : Nat) (x : Nat), x ∈ azG w m → m ≤ x ∧ x ≤ m + oc w
  | [], _, _, h => by simp [azG] at h
  | .z :: w, m, x, h => by
    have e : oc (.z :: w) = oc w := by simp [oc, List.filter_cons]
    rw [e]
    simp only [azG, List.mem_cons] at h
    rcases h with h | h
    · omega
    · exact azG_le w m x h
  | .o :: w, m, x, h => by
    have e : oc (.o :: w) = oc w + 1 := by simp [oc, List.filter_cons]
    rw [e]
    have := azG_le w (m + 1) x h
    omega
theorem azi_le (w : List Pc) (i : Int) : 0 ≤ azi i w ∧ azi i w ≤ oc w := by
  unfold azi
  cases h : (azG w 0)[i.toNat]? with
  | none => simp
  | some x =>
    have := azG_le w 0 x (List.mem_of_getElem? h)
    simp; omega
theorem rgI_at {a b : Int} {i : Nat} {j : Int} (h : (rgI a b)[i]? = some j) : j = a + i ∧ i < (b - a).toNat := by
  unfold rgI at h
  rw [List.getElem?_map] at h
  obtain ⟨k, h1, h2⟩ := Option.map_eq_some_iff.mp h
  obtain ⟨h3, h4⟩ := List.getElem?_eq_some_iff.mp h1
  rw [List.getElem_range] at h4
  rw [List.length_range] at h3
  subst h4; exact ⟨h2.symm, h3⟩
theorem lim_at {B : Bk} {p q : Pr} {i : Nat} {l : Int × Int} (hne : shuf B p q ≠ []) (h : (tdLims B p q)[i]? = some l) : i < (wayI p.1 q.1).length ∧ (0 ≤ l.1 ∧ l.1 ≤ (wayI p.2 q.2).length) ∧ 0 ≤ l.2 ∧ l.2 ≤ (wayI p.2 q.2).length := by
  unfold tdLims bnds at h
  rw [List.getElem?_map] at h
  obtain ⟨j, h1, rfl⟩ := Option.map_eq_some_iff.mp h
  obtain ⟨_, hi⟩ := rgI_at h1
  have hne2 : (shuf B p q).map (azi j) ≠ [] := fun z => hne (List.map_eq_nil_iff.mp z)
  obtain ⟨m1, _⟩ := lmin_mem _ hne2
  obtain ⟨m2, _⟩ := lmax_mem _ hne2
  have key : ∀ x ∈ (shuf B p q).map (azi j), 0 ≤ x ∧ x ≤ (wayI p.2 q.2).length := fun x hx => by
    obtain ⟨w, hw, rfl⟩ := List.mem_map.mp hx
    have h1 := azi_le w j
    have h2 := (shuf_len hw).2.1
    rw [len_wayI]; omega
  exact ⟨by omega, key _ m1, key _ m2⟩
theorem tdLims_len (B : Bk) (p q : Pr) : (tdLims B p q).length = (p.1 - q.1).natAbs := by
  unfold tdLims bnds; rw [List.length_map, len_rgI, len_wayI]; omega
theorem tdStep_len {f s : List Int} {lims : List (Int × Int)} (hs : s.length ≤ 10) (hl : ∀ (i : Nat) l, lims[i]? = some l → l.1 ≤ 10 ∧ 0 ≤ l.2) : ∀ (l : List Nat) (b : List (Ev × Ev)), (l.foldl (tdStep f s lims) b).length ≤ b.length + 20 * l.length
  | [], b => by simp
  | i :: l, b => by
    have h := tdStep_len (f := f) hs hl l (tdStep f s lims b i)
    have h2 : (tdStep f s lims b i).length ≤ b.length + 20 := by
      unfold tdStep
      simp only [List.length_append, List.length_map, len_rgI]
      cases z : lims[i]? with
      | none => simp; omega
      | some v => have := hl i v z; simp; omega
    rw [List.foldl_cons, List.length_cons]; omega
end HB

set_option Elab.async false
set_option linter.all false
set_option autoImplicit false
namespace HB
open PySem PySem.Spec L2
open En (enc)
def isTold (B : Bk) (p q : Pr) : Bool := decide (cnt (tdLims B p q) = ((shuf B p q).length : Int))
theorem lims_ok {B : Bk} {p q : Pr} (hne : shuf B p q ≠ []) (hp : box B.r p) (hq : box B.r q) (hr : B.r ≤ 4) : ∀ b ∈ tdLims B p q, 0 ≤ b.1 ∧ b.1 ≤ 100 ∧ b.2 ≤ 100 ∧ -100 ≤ b.2 := fun b hb => by
  obtain ⟨i, hi⟩ := List.getElem?_of_mem hb
  obtain ⟨_, h1, h2⟩ := lim_at hne hi
  obtain ⟨⟨_, _⟩, _, _⟩ := hp; obtain ⟨⟨_, _⟩, _, _⟩ := hq
  have := len_wayI p.2 q.2
  omega
/-! ### courses, kinds -/
def coStep (B : Bk) (b : List (Pr × Pr)) (p : Pr) : List (Pr × Pr) := b ++ ((allPairs B.r).filter fun q => !(shuf B p q).isEmpty).map fun q => (p, q)
def courses (B : Bk) : List (Pr × Pr) := (allPairs B.r).foldl (coStep B) []
theorem co_len {B : Bk} (hr : B.r ≤ 4) : ∀ (l : List Pr) (b : List (Pr × Pr)), (l.foldl (coStep B) b).length ≤ b.length + 25 * l.length
  | [], b => by simp
  | p :: l, b => by
    have h := co_len hr l (coStep B b p)
    have h2 : (coStep B b p).length ≤ b.length + 25 := by
      unfold coStep
      rw [List.length_append, List.length_map]
      have := List.length_filter_le (fun q => !(shuf B p q).isEmpty) (allPairs B.r)
      have := allPairs_len hr
      omega
    rw [List.foldl_cons, List.length_cons]; omega
theorem mem_co {B : Bk} {p q : Pr} : ∀ (l : List Pr) (b : List (Pr × Pr)), (p, q) ∈ l.foldl (coStep B) b ↔ (p, q) ∈ b ∨ (p ∈ l ∧ q ∈ allPairs B.r ∧ shuf B p q ≠ [])
  | [], b => by simp
  | x :: l, b => by
    rw [List.foldl_cons, mem_co l, coStep, List.mem_append, List.mem_map]
    constructor
    · rintro ((h | ⟨y, h1, h2⟩) | ⟨h1, h2⟩)
      · exact .inl h
      · simp only [Prod.mk.injEq] at h2
        obtain ⟨rfl, rfl⟩ := h2
        rw [List.mem_filter] at h1
        exact .inr ⟨List.mem_cons_self .., h1.1, fun z => by rw [z] at h1; simp at h1⟩
      · exact .inr ⟨List.mem_cons_of_mem _ h1, h2⟩
    · rintro (h | ⟨h1, h2, h3⟩)
      · exact .inl (.inl h)
      · rcases List.mem_cons.mp h1 with e | h1
        · subst e
          exact .inl (.inr ⟨q, List.mem_filter.mpr ⟨h2, by cases z : shuf B p q with | nil => exact absurd z h3 | cons => rfl⟩, rfl⟩)
        · exact .inr ⟨h1, h2, h3⟩
theorem mem_courses {B : Bk} {p q : Pr} : (p, q) ∈ courses B ↔ box B.r p ∧ box B.r q ∧ shuf B p q ≠ [] := by
  unfold courses; rw [mem_co, mem_allPairs, mem_allPairs]; simp
def kdStep (f : Int) (b : List K3) (l : Int) : List K3 := b ++ (wayI f l).map fun a => ⟨f, l, a⟩
def kdRow (r : Int) (b : List K3) (f : Int) : List K3 := (rgI 0 (r + 1)).foldl (kdStep f) b
def kdRaw (r : Int) : List K3 := (rgI 0 (r + 1)).foldl (kdRow r) []
def kinds (r : Int) : List K3 := sortE (kdRaw r)
theorem kdStep_len {f : Int} (h : 0 ≤ f ∧ f ≤ 4) : ∀ (l : List Int) (b : List K3), (∀ x ∈ l, 0 ≤ x ∧ x ≤ 4) → (l.foldl (kdStep f) b).length ≤ b.length + 4 * l.length
  | [], b, _ => by simp
  | x :: l, b, hl => by
    have h1 := kdStep_len h l (kdStep f b x) fun y hy => hl y (List.mem_cons_of_mem _ hy)
    have h2 := hl x (List.mem_cons_self ..)
    have h3 : (kdStep f b x).length ≤ b.length + 4 := by
      unfold kdStep; rw [List.length_append, List.length_map, len_wayI]; omega
    rw [List.foldl_cons, List.length_cons]; omega
theorem rg_bound {r : Int} (hr : r ≤ 4) : ∀ x ∈ rgI 0 (r + 1), 0 ≤ x ∧ x ≤ 4 := fun x hx => by
  have := mem_rgI.mp hx; omega
theorem kdRow_len {r : Int} (hr : r ≤ 4) : ∀ (l : List Int) (b : List K3), (∀ x ∈ l, 0 ≤ x ∧ x ≤ 4) → (l.foldl (kdRow r) b).length ≤ b.length + 20 * l.length
  | [], b, _ => by simp
  | x :: l, b, hl => by
    have h1 := kdRow_len hr l (kdRow r b x) fun y hy => hl y (List.mem_cons_of_mem _ hy)
    have h2 := kdStep_len (hl x (List.mem_cons_self ..)) (rgI 0 (r + 1)) b (rg_bound hr)
    rw [len_rgI] at h2
    have h3 : (kdRow r b x).length ≤ b.length + 20 := by unfold kdRow; omega
    rw [List.foldl_cons, List.length_cons]; omega
theorem kdRaw_len {r : Int} (hr : r ≤ 4) : (kdRaw r).length ≤ 100 := by
  have := kdRow_len hr (rgI 0 (r + 1)) [] (rg_bound hr)
  rw [len_rgI] at this
  unfold kdRaw; simp at this; omega
end HB

set_option Elab.async false
set_option linter.all false
set_option autoImplicit false
namespace HB
open PySem PySem.Spec L2
open En (enc)
/-! ### keys put one by one -/
theorem mem_keys_aput {κ β : Type} [DecidableEq κ] {m : List (κ × β)} {k x : κ} {v : β} : x ∈ (aput m k v).map (·.1) ↔ x ∈ m.map (·.1) ∨ x = k := by
  by_cases h : k ∈ m.map (·.1)
  · unfold aput
    rw [any_keys, decide_eq_true h, if_pos rfl, List.map_map]
    have e : m.map ((·.1) ∘ fun p => if p.1 = k then (p.1, v) else p) = m.map (·.1) := by
      apply List.map_congr_left
      intro p _
      show (if p.1 = k then (p.1, v) else p).1 = p.1
      split <;> rfl
    rw [e]
    exact ⟨.inl, fun z => z.elim id fun z => z ▸ h⟩
  · rw [aput_new h, List.map_append, List.mem_append]; simp
theorem aput_len {κ β : Type} [DecidableEq κ] (m : List (κ × β)) (k : κ) (v : β) : (aput m k v).length ≤ m.length + 1 := by
  unfold aput; split
  · rw [List.length_map]; omega
  · simp
theorem aput_keys_same {κ β : Type} [DecidableEq κ] {m : List (κ × β)} {k : κ} {v : β} (h : k ∈ m.map (·.1)) : (aput m k v).map (·.1) = m.map (·.1) := by
  unfold aput
  rw [any_keys, decide_eq_true h, if_pos rfl, List.map_map]
  apply List.map_congr_left
  intro p _
  show (if p.1 = k then (p.1, v) else p).1 = p.1
  split <;> rfl
theorem alook_cons {κ β : Type} [DecidableEq κ] (p : κ × β) (m : List (κ × β)) (x : κ) : alook (p :: m) x = if p.1 = x then some p.2 else alook m x := by
  unfold alook
  rw [List.find?_cons]
  by_cases h : p.1 = x
  · simp [h]
  · simp [h]
theorem alook_none {κ β : Type} [DecidableEq κ] {m : List (κ × β)} {x : κ} (h : x ∉ m.map (·.1)) : alook m x = none := by
  induction m with
  | nil => rfl
  | cons p m ih =>
    rw [List.map_cons, List.mem_cons] at h
    rw [alook_cons, if_neg fun z => h (.inl z.symm)]
    exact ih fun z => h (.inr z)
theorem alook_some {κ β : Type} [DecidableEq κ] {m : List (κ × β)} {x : κ} (h : x ∈ m.map (·.1)) : ∃ v, alook m x = some v := by
  induction m with
  | nil => simp at h
  | cons p m ih =>
    rw [alook_cons]
    by_cases e : p.1 = x
    · exact ⟨_, if_pos e⟩
    · rw [if_neg e]
      rw [List.map_cons, List.mem_cons] at h
      exact ih (h.resolve_left fun z => e z.symm)
theorem alook_map {κ β : Type} [DecidableEq κ] (k x : κ) (v : β) : ∀ (m : List (κ × β)), alook (m.map fun p => if p.1 = k then (p.1, v) else p) x = if x = k then (alook m x).map (fun _ => v) else alook m x
  | [] => by simp [alook]
  | p :: m => by
    rw [List.map_cons, alook_cons, alook_cons, alook_map k x v m]
    by_cases h1 : p.1 = k
    · by_cases h2 : x = k
      · subst h2; simp [h1]
      · have h3 : p.1 ≠ x := fun z => h2 (by rw [← z, h1])
        have h4 : ¬ k = x := fun z => h2 z.symm
        simp [h1, h2, h3, h4]
    · by_cases h2 : x = k
      · subst h2; simp [h1]
      · by_cases h3 : p.1 = x
        · simp [h1, h2, h3]
        · simp [h1, h2, h3]
theorem alook_aput {κ β : Type} [DecidableEq κ] (m : List (κ × β)) (k x : κ) (v : β) : alook (aput m k v) x = if x = k then some v else alook m x := by
  by_cases h : k ∈ m.map (·.1)
  · unfold aput
    rw [any_keys, decide_eq_true h, if_pos rfl, alook_map]
    by_cases h2 : x = k
    · subst h2
      obtain ⟨u, hu⟩ := alook_some h
      rw [if_pos rfl, if_pos rfl, hu]; rfl
    · rw [if_neg h2, if_neg h2]
  · rw [aput_new h]
    have key : ∀ (m : List (κ × β)), alook (m ++ [(k, v)]) x = (alook m x).or (if x = k then some v else none) := by
      intro m
      induction m with
      | nil =>
        rw [List.nil_append, alook_cons]
        by_cases h2 : k = x
        · subst h2; simp [alook]
        · have h3 : ¬ x = k := fun z => h2 z.symm
          simp [alook, h2, h3]
      | cons p m ih =>
        rw [List.cons_append, alook_cons, alook_cons, ih]
        by_cases h2 : p.1 = x
        · simp [h2]
        · simp [h2]
    rw [key]
    by_cases h2 : x = k
    · subst h2
      rw [alook_none h]; simp
    · rw [if_neg h2, if_neg h2]; simp
/-! ### what leads -/
abbrev KK := K3 × K3
def nx3 (k : K3) : Int := if k.a < k.b then k.c + 1 else k.c - 1
def ld1 (m : List (KK × Bool)) (k : K3) : List (KK × Bool) := if nx3 k ≠ k.b then aput m (k, ⟨k.a, k.b, nx3 k⟩) true else m
def evK (p q : Pr) (e : Ev) : K3 := ⟨co p e.1, co q e.1, e.2⟩
def ld2 (p q : Pr) (m : List (KK × Bool)) (t : Ev × Ev) : List (KK × Bool) := aput m (evK p q t.1, evK p q t.2) true
def ldRow (B : Bk) (m : List (KK × Bool)) (c : Pr × Pr) : List (KK × Bool) := (toldP B c.1 c.2).foldl (ld2 c.1 c.2) m
def ldM (B : Bk) : List (KK × Bool) := (courses B).foldl (ldRow B) ((kinds B.r).foldl ld1 [])
def leads (B : Bk) : List KK := sortE ((ldM B).map (·.1))
theorem ld1_len : ∀ (l : List K3) (m : List (KK × Bool)), (l.foldl ld1 m).length ≤ m.length + l.length
  | [], m => by simp
  | k :: l, m => by
    have h1 := ld1_len l (ld1 m k)
    have h2 : (ld1 m k).length ≤ m.length + 1 := by
      unfold ld1; split
      · exact aput_len _ _ _
      · omega
    rw [List.foldl_cons, List.length_cons]; omega
theorem ld2_len (p q : Pr) : ∀ (l : List (Ev × Ev)) (m : List (KK × Bool)), (l.foldl (ld2 p q) m).length ≤ m.length + l.length
  | [], m => by simp
  | k :: l, m => by
    have h1 := ld2_len p q l (ld2 p q m k)
    have h2 : (ld2 p q m k).length ≤ m.length + 1 := aput_len _ _ _
    rw [List.foldl_cons, List.length_cons]; omega
theorem told_len {B : Bk} {p q : Pr} (hne : shuf B p q ≠ []) (hp : box B.r p) (hq : box B.r q) (hr : B.r ≤ 4) : (toldP B p q).length ≤ 80 := by
  unfold toldP; rw [len_sortE]
  unfold tdRaw
  obtain ⟨⟨_, _⟩, _, _⟩ := hp; obtain ⟨⟨_, _⟩, _, _⟩ := hq
  have h1 := len_wayI p.2 q.2
  have := tdStep_len (f := wayI p.1 q.1) (s := wayI p.2 q.2) (lims := tdLims B p q) (by omega) (fun i l h => by have := lim_at hne h; omega) (List.range (tdLims B p q).length) []
  rw [List.length_range, List.length_nil, tdLims_len] at this
  rw [tdLims_len]; omega
theorem ldRow_len {B : Bk} (hr : B.r ≤ 4) : ∀ (l : List (Pr × Pr)) (m : List (KK × Bool)), (∀ c ∈ l, c ∈ courses B) → (l.foldl (ldRow B) m).length ≤ m.length + 80 * l.length
  | [], m, _ => by simp
  | c :: l, m, h => by
    have h1 := ldRow_len hr l (ldRow B m c) fun x hx => h x (List.mem_cons_of_mem _ hx)
    obtain ⟨hp, hq, hne⟩ := mem_courses.mp (h c (List.mem_cons_self ..))
    have h2 := ld2_len c.1 c.2 (toldP B c.1 c.2) m
    have h3 := told_len hne hp hq hr
    have h4 : (ldRow B m c).length ≤ m.length + 80 := by unfold ldRow; omega
    rw [List.foldl_cons, List.length_cons]; omega
theorem courses_len {B : Bk} (hr : B.r ≤ 4) : (courses B).length ≤ 625 := by
  have h1 := co_len hr (allPairs B.r) []
  have h2 := allPairs_len hr
  unfold courses; simp at h1; omega
theorem kinds_len {r : Int} (hr : r ≤ 4) : (kinds r).length ≤ 100 := by unfold kinds; rw [len_sortE]; exact kdRaw_len hr
theorem ldM_len {B : Bk} (hr : B.r ≤ 4) : (ldM B).length ≤ 50100 := by
  have h1 := ldRow_len hr (courses B) ((kinds B.r).foldl ld1 []) fun c h => h
  have h2 := courses_len hr
  have h3 := ld1_len (kinds B.r) []
  have h4 := kinds_len hr
  unfold ldM; simp at h3; omega
theorem kOk_kk (a b c d e f : Int) : kOk (.tuple [.tuple [.int a, .int b, .int c], .tuple [.int d, .int e, .int f]]) := kOkE (α := KK) (⟨a, b, c⟩, ⟨d, e, f⟩)
theorem put_kk (m : List (KK × Bool)) (a b c d e f : Int) (v : Bool) : dput (encM .bool m) (.tuple [.tuple [.int a, .int b, .int c], .tuple [.int d, .int e, .int f]]) (.bool v) = encM .bool (aput m (⟨a, b, c⟩, ⟨d, e, f⟩) v) := encM_put .bool m (⟨a, b, c⟩, ⟨d, e, f⟩) v
end HB

set_option Elab.async false
set_option linter.all false
set_option autoImplicit false
namespace HB
open PySem PySem.Spec L2
open En (enc)
/-! ### ranks by repeated passes -/
abbrev Rk := List (K3 × Int)
def rk (m : Rk) (k : K3) : Int := (alook m k).getD 0
def rkStep (s : Rk × Bool) (e : KK) : Rk × Bool := if rk s.1 e.2 ≤ rk s.1 e.1 then (aput s.1 e.2 (rk s.1 e.1 + 1), true) else s
structure Ranked (B : Bk) : Prop where
  ex : ∃ lam : K3 → Nat, (∀ e ∈ leads B, lam e.1 < lam e.2) ∧ ∀ k ∈ kinds B.r, lam k < (kinds B.r).length
  en : ∀ e ∈ leads B, e.1 ∈ kinds B.r ∧ e.2 ∈ kinds B.r
theorem rk_aput (m : Rk) (k x : K3) (v : Int) : rk (aput m k v) x = if x = k then v else rk m x := by
  unfold rk; rw [alook_aput]; split <;> rfl
/-- at the start of pass t -/
structure RInv (B : Bk) (lam : K3 → Nat) (t : Nat) (m : Rk) : Prop where
  keys : m.map (·.1) = kinds B.r
  lo : ∀ k, 0 ≤ rk m k
  hi : ∀ k, k ∈ kinds B.r → rk m k ≤ lam k
  viol : ∀ e ∈ leads B, rk m e.2 ≤ rk m e.1 → (t : Int) ≤ rk m e.1
/-- within pass t, the leads of dn done -/
structure RMid (B : Bk) (lam : K3 → Nat) (t : Nat) (m0 : Rk) (dn : List KK) (s : Rk × Bool) : Prop where
  keys : s.1.map (·.1) = kinds B.r
  lo : ∀ k, rk m0 k ≤ rk s.1 k
  hi : ∀ k, k ∈ kinds B.r → rk s.1 k ≤ lam k
  chg : ∀ k, rk s.1 k = rk m0 k ∨ (t : Int) + 1 ≤ rk s.1 k
  dne : ∀ e ∈ dn, rk s.1 e.1 < rk s.1 e.2 ∨ (t : Int) + 1 ≤ rk s.1 e.1
  mv : s.2 = true → ∃ k ∈ kinds B.r, (t : Int) + 1 ≤ rk s.1 k
  st : s.2 = false → s.1 = m0
theorem RMid.step {B : Bk} {lam : K3 → Nat} {t : Nat} {m0 : Rk} {dn : List KK} {s : Rk × Bool} (I0 : RInv B lam t m0) (hl : ∀ e ∈ leads B, lam e.1 < lam e.2) (hen : ∀ e ∈ leads B, e.1 ∈ kinds B.r ∧ e.2 ∈ kinds B.r) (M : RMid B lam t m0 dn s) {e : KK} (he : e ∈ leads B) : RMid B lam t m0 (dn ++ [e]) (rkStep s e) := by
  obtain ⟨a, b⟩ := e
  obtain ⟨ha, hb⟩ := hen _ he
  have hlt := hl _ he
  simp only at ha hb hlt
  unfold rkStep
  simp only
  by_cases h : rk s.1 b ≤ rk s.1 a
  · rw [if_pos h]
    have hne : a ≠ b := fun z => by subst z; omega
    have hnew : (t : Int) + 1 ≤ rk s.1 a + 1 := by
      rcases M.chg a with z | z
      · have h1 : rk m0 b ≤ rk m0 a := by have := M.lo b; omega
        have := I0.viol (a, b) he h1
        simp only at this; omega
      · omega
    have hkb : b ∈ s.1.map (·.1) := by rw [M.keys]; exact hb
    refine ⟨by rw [aput_keys_same hkb]; exact M.keys, fun k => ?_, fun k hk => ?_, fun k => ?_, fun e hx => ?_, fun _ => ⟨b, hb, ?_⟩, fun z => by cases z⟩
    · rw [rk_aput]; split
      · rename_i e; subst e; have := M.lo k; omega
      · exact M.lo k
    · rw [rk_aput]; split
      · rename_i e; subst e; have := M.hi a ha; omega
      · exact M.hi k hk
    · rw [rk_aput]; split
      · exact .inr hnew
      · exact M.chg k
    · rw [rk_aput, rk_aput]
      rcases List.mem_append.mp hx with z | z
      · by_cases e1 : e.1 = b
        · rw [if_pos e1]; exact .inr hnew
        · rw [if_neg e1]
          by_cases e2 : e.2 = b
          · rw [if_pos e2]
            rcases M.dne e z with w | w
            · left; rw [e2] at w; omega
            · exact .inr w
          · rw [if_neg e2]; exact M.dne e z
      · simp at z; subst z
        left
        show (if a = b then _ else rk s.1 a) < (if b = b then _ else _)
        rw [if_neg hne, if_pos rfl]; omega
    · rw [rk_aput, if_pos rfl]; exact hnew
  · rw [if_neg h]
    refine ⟨M.keys, M.lo, M.hi, M.chg, fun e hx => ?_, M.mv, M.st⟩
    rcases List.mem_append.mp hx with z | z
    · exact M.dne e z
    · simp at z; subst z; left; simp only; omega
theorem RMid.fold {B : Bk} {lam : K3 → Nat} {t : Nat} {m0 : Rk} (I0 : RInv B lam t m0) (hl : ∀ e ∈ leads B, lam e.1 < lam e.2) (hen : ∀ e ∈ leads B, e.1 ∈ kinds B.r ∧ e.2 ∈ kinds B.r) : ∀ (l : List KK) (dn : List KK) (s : Rk × Bool), (∀ e ∈ l, e ∈ leads B) → RMid B lam t m0 dn s → RMid B lam t m0 (dn ++ l) (l.foldl rkStep s)
  | [], dn, s, _, M => by simpa using M
  | e :: l, dn, s, h, M => by
    have := RMid.fold I0 hl hen l (dn ++ [e]) (rkStep s e) (fun x hx => h x (List.mem_cons_of_mem _ hx)) (M.step I0 hl hen (h e (List.mem_cons_self ..)))
    simpa using this
theorem RInv.mid {B : Bk} {lam : K3 → Nat} {t : Nat} {m : Rk} (I : RInv B lam t m) : RMid B lam t m [] (m, false) := ⟨I.keys, fun k => Int.le_refl _, I.hi, fun k => .inl rfl, (fun e h => by simp at h), (fun h => by cases h), fun _ => rfl⟩
theorem RMid.next {B : Bk} {lam : K3 → Nat} {t : Nat} {m : Rk} {s : Rk × Bool} (I : RInv B lam t m) (M : RMid B lam t m (leads B) s) : RInv B lam (t + 1) s.1 := ⟨M.keys, fun k => by have := I.lo k; have := M.lo k; omega, M.hi, fun e he h => by
  rcases M.dne e he with z | z
  · omega
  · simpa using z⟩
theorem leads_len {B : Bk} (hr : B.r ≤ 4) : (leads B).length ≤ 50100 := by
  unfold leads; rw [len_sortE, List.length_map]; exact ldM_len hr
theorem kOk_k3 (a b c : Int) : kOk (.tuple [.int a, .int b, .int c]) := kOkE (α := K3) ⟨a, b, c⟩
theorem dlk_k3 (m : Rk) (a b c : Int) : dlk (encM .int m) (.tuple [.int a, .int b, .int c]) = (alook m ⟨a, b, c⟩).map .int := encM_dlk .int m ⟨a, b, c⟩
theorem put_k3 (m : Rk) (a b c v : Int) : dput (encM .int m) (.tuple [.int a, .int b, .int c]) (.int v) = encM .int (aput m ⟨a, b, c⟩ v) := encM_put .int m ⟨a, b, c⟩ v
theorem alook_rk {B : Bk} {m : Rk} (h : m.map (·.1) = kinds B.r) {k : K3} (hk : k ∈ kinds B.r) : alook m k = some (rk m k) := by
  obtain ⟨v, hv⟩ := alook_some (m := m) (x := k) (by rw [h]; exact hk)
  unfold rk; rw [hv]; rfl
/-! ### the kinds stand apart -/
theorem nodup_flatMap {α β : Type} {f : α → List β} (key : β → α) : ∀ (l : List α), l.Nodup → (∀ a ∈ l, (f a).Nodup ∧ ∀ x ∈ f a, key x = a) → (l.flatMap f).Nodup
  | [], _, _ => by simp
  | a :: l, h, hf => by
    rw [List.nodup_cons] at h
    rw [List.flatMap_cons, List.nodup_append]
    refine ⟨(hf a (List.mem_cons_self ..)).1, nodup_flatMap key l h.2 fun b hb => hf b (List.mem_cons_of_mem _ hb), fun x hx y hy e => ?_⟩
    subst e
    obtain ⟨b, hb, hxb⟩ := List.mem_flatMap.mp hy
    have h1 := (hf a (List.mem_cons_self ..)).2 x hx
    have h2 := (hf b (List.mem_cons_of_mem _ hb)).2 x hxb
    exact h.1 (by rw [← h1, h2]; exact hb)
theorem nodup_map {α β : Type} {f : α → β} (h : ∀ x y, f x = f y → x = y) : ∀ {l : List α}, l.Nodup → (l.map f).Nodup
  | [], _ => by simp
  | a :: l, n => by
    rw [List.nodup_cons] at n
    rw [List.map_cons, List.nodup_cons]
    refine ⟨fun z => ?_, nodup_map h n.2⟩
    obtain ⟨b, hb, e⟩ := List.mem_map.mp z
    exact n.1 (h _ _ e ▸ hb)
theorem fold_app {α β : Type} (f : α → List β) : ∀ (l : List α) (b : List β), l.foldl (fun b a => b ++ f a) b = b ++ l.flatMap f
  | [], b => by simp
  | a :: l, b => by rw [List.foldl_cons, fold_app f l, List.flatMap_cons, List.append_assoc]
theorem kdRaw_flat (r : Int) : kdRaw r = (rgI 0 (r + 1)).flatMap fun f => (rgI 0 (r + 1)).flatMap fun l => (wayI f l).map fun a => (⟨f, l, a⟩ : K3) := by
  have h1 : kdRow r = fun b f => b ++ (rgI 0 (r + 1)).flatMap fun l => (wayI f l).map fun a => (⟨f, l, a⟩ : K3) := by
    funext b f
    exact fold_app (fun l => (wayI f l).map fun a => (⟨f, l, a⟩ : K3)) _ b
  unfold kdRaw; rw [h1, fold_app]; simp
theorem nodup_rgI (a b : Int) : (rgI a b).Nodup := by
  unfold rgI
  exact nodup_map (fun x y h => by simp at h; omega) List.nodup_range
theorem nodup_wayI (a b : Int) : (wayI a b).Nodup := by
  unfold wayI; split
  · exact nodup_rgI a b
  · unfold dnI
    exact nodup_map (fun x y h => by simp at h; omega) List.nodup_range
theorem nodup_kinds (r : Int) : (kinds r).Nodup := by
  unfold kinds sortE
  rw [(List.mergeSort_perm _ _).nodup_iff, kdRaw_flat]
  refine nodup_flatMap (fun k => k.a) _ (nodup_rgI _ _) fun f _ => ⟨nodup_flatMap (fun k => k.b) _ (nodup_rgI _ _) fun l _ => ⟨nodup_map (fun x y h => by simp at h; exact h) (nodup_wayI f l), fun x hx => ?_⟩, fun x hx => ?_⟩
  · obtain ⟨a, _, rfl⟩ := List.mem_map.mp hx; rfl
  · obtain ⟨l, _, hx⟩ := List.mem_flatMap.mp hx
    obtain ⟨a, _, rfl⟩ := List.mem_map.mp hx; rfl
theorem fold_aput_new {κ β : Type} [DecidableEq κ] (v : β) : ∀ (l : List κ) (m : List (κ × β)), l.Nodup → (∀ k ∈ l, k ∉ m.map (·.1)) → l.foldl (fun m k => aput m k v) m = m ++ l.map fun k => (k, v)
  | [], m, _, _ => by simp
  | k :: l, m, hn, h => by
    rw [List.nodup_cons] at hn
    rw [List.foldl_cons, aput_new (h k (List.mem_cons_self ..)), fold_aput_new v l _ hn.2 fun x hx => ?_]
    · simp
    · rw [List.map_append, List.mem_append]
      rintro (z | z)
      · exact h x (List.mem_cons_of_mem _ hx) z
      · simp at z; subst z; exact hn.1 hx
def rk0 (B : Bk) : Rk := (kinds B.r).map fun k => (k, 0)
theorem dict_rk0 (B : Bk) : (((kinds B.r).map fun k => (k, (0 : Int))).map enc).foldl dput1 [] = encM .int (rk0 B) := by
  have key : ∀ (l : List K3) (m : Rk), ((l.map fun k => (k, (0 : Int))).map enc).foldl dput1 (encM .int m) = encM .int (l.foldl (fun m k => aput m k 0) m) := by
    intro l
    induction l with
    | nil => intro m; rfl
    | cons k l ih =>
      intro m
      rw [List.map_cons, List.map_cons, List.foldl_cons, List.foldl_cons, ← ih]
      congr 1
      exact encM_put .int m k 0
  have := key (kinds B.r) []
  rw [fold_aput_new 0 _ _ (nodup_kinds B.r) (fun k _ => by simp)] at this
  exact this
theorem RInv.start {B : Bk} (lam : K3 → Nat) : RInv B lam 0 (rk0 B) := by
  have h0 : ∀ k, rk (rk0 B) k = 0 := fun k => by
    unfold rk rk0
    cases z : alook ((kinds B.r).map fun k => (k, (0 : Int))) k with
    | none => rfl
    | some v =>
      have := mem_alook z
      obtain ⟨_, _, e⟩ := List.mem_map.mp this
      simp at e; rw [← e.2]; rfl
  refine ⟨?_, fun k => by rw [h0]; omega, fun k _ => by rw [h0]; omega, fun e _ _ => by rw [h0]; omega⟩
  unfold rk0; rw [List.map_map]; exact List.map_id _
end HB

set_option Elab.async false
set_option linter.all false
set_option autoImplicit false
namespace HB
open PySem PySem.Spec L2
open En (enc)
/-! ### webs -/
structure Wb where
  n : Int
  es : List (Int × Int)
def wbD (w : Wb) : PyData := .tuple [.int w.n, .tuple (w.es.map enc)]
def ltP (a b : Int × Int) : Prop := a.1 < b.1 ∨ (a.1 = b.1 ∧ a.2 < b.2)
structure VWeb (w : Wb) : Prop where
  n0 : 1 ≤ w.n
  n1 : w.n ≤ 8
  ed : ∀ e ∈ w.es, 0 ≤ e.1 ∧ e.1 < e.2 ∧ e.2 < w.n
  so : w.es.Pairwise ltP
theorem wbD_inj {a b : Wb} (h : wbD a = wbD b) : a = b := by
  obtain ⟨n, es⟩ := a; obtain ⟨m, fs⟩ := b
  unfold wbD at h
  simp only [PyData.tuple.injEq, List.cons.injEq, PyData.int.injEq, and_true] at h
  obtain ⟨h1, h2⟩ := h
  have : es = fs := enc_inj (α := List (Int × Int)) (by show PyData.tuple _ = PyData.tuple _; rw [h2])
  rw [h1, this]
theorem itw0 (w : Wb) : ditem (wbD w) (.int 0) = some (.int w.n) := rfl
theorem itw1 (w : Wb) : ditem (wbD w) (.int 1) = some (.tuple (w.es.map enc)) := rfl
theorem wb_nt (B : Wb) : notDict (wbD B) = true := rfl
theorem wb_tu (B : Wb) : isK .tuple (wbD B) = true := rfl
theorem wb_len (B : Wb) (Q : PyData → Prop) : dlen [wbD B] Q ↔ Q (.int 2) := by
  unfold dlen wbD; simp
theorem VWeb.len {w : Wb} (V : VWeb w) : w.es.length ≤ 81 := by
  have hn : w.es.Nodup := V.so.imp fun {a b} h e => by subst e; unfold ltP at h; omega
  have h1 := nodup_sub_len (l' := (rgI 0 9).flatMap fun i => (rgI 0 9).map fun j => (i, j)) hn fun e he => by
    have := V.ed e he; have := V.n1
    exact List.mem_flatMap.mpr ⟨e.1, mem_rgI.mpr ⟨by omega, by omega⟩, List.mem_map.mpr ⟨e.2, mem_rgI.mpr ⟨by omega, by omega⟩, rfl⟩⟩
  have h2 : ((rgI 0 9).flatMap fun i => (rgI 0 9).map fun j => (i, j)).length = 81 := by decide +kernel
  omega
structure VHts (B : Bk) (w : Wb) (h : List Int) : Prop where
  len : (h.length : Int) = w.n
  bd : ∀ x ∈ h, 0 ≤ x ∧ x ≤ B.r
theorem it_t (l : List Int) {i : Int} (h0 : 0 ≤ i) (h1 : i < l.length) : ditem (.tuple (l.map .int)) (.int i) = some (.int (getI l i)) := by
  unfold getI
  rw [it_T _ h0, List.getElem?_map, List.getElem?_eq_getElem (by omega)]; rfl
theorem getI_mem {l : List Int} {i : Int} (h0 : 0 ≤ i) (h1 : i < l.length) : getI l i ∈ l := by
  unfold getI
  rw [List.getElem?_eq_getElem (by omega)]
  exact List.getElem_mem _
def besd (w : Wb) (k : Int) : List Int := ((w.es.filter fun e => decide (e.2 = k)).map (·.1)) ++ (w.es.filter fun e => decide (e.1 = k)).map (·.2)
def canW (B : Bk) (w : Wb) (h : List Int) (u : Bool) (k : Int) : Bool := (if u then decide (getI h k ≠ B.r) else decide (getI h k ≠ 0)) && (besd w k).all fun j => lets B (getI h k) (getI h j) u
abbrev Dw := Bool × Int
def deedsW (B : Bk) (w : Wb) (h : List Int) : List Dw := (((rgI 0 w.n).filter (canW B w h false)).map fun k => (false, k)) ++ ((rgI 0 w.n).filter (canW B w h true)).map fun k => (true, k)
def chg (h : List Int) (d : Dw) : List Int := h.set d.2.toNat (getI h d.2 + sg d.1)
theorem besd_mem {w : Wb} (V : VWeb w) {k j : Int} (h : j ∈ besd w k) : 0 ≤ j ∧ j < w.n := by
  unfold besd at h
  rcases List.mem_append.mp h with z | z
  · obtain ⟨e, he, rfl⟩ := List.mem_map.mp z
    have := V.ed e (List.mem_filter.mp he).1; omega
  · obtain ⟨e, he, rfl⟩ := List.mem_map.mp z
    have := V.ed e (List.mem_filter.mp he).1; omega
theorem sum_L (ns : List Int) (Q : PyData → Prop) : dsum [encL ns] Q ↔ Q (.int ns.sum) := by
  unfold dsum encL
  constructor
  · rintro ⟨ms, e, h⟩
    simp only [List.cons.injEq, PyData.list.injEq, and_true] at e
    rw [show ns = ms from mapI_inj e]; exact h
  · exact fun h => ⟨ns, rfl, h⟩
def sumH (a b : List Int) : Int := ((List.range a.length).map fun (i : Nat) => ((getI a i - getI b i).natAbs : Int)).sum
theorem en_at (l : List Int) {i : Nat} (h : i < l.length) : (l.map PyData.int).getD i .none = .int (getI l i) := by
  unfold getI; simp [h]
def pr2 (h : List Int) (e : Int × Int) : Pr := (getI h e.1, getI h e.2)
/-- every edge's pair of heights can be reached -/
def Reach (B : Bk) (w : Wb) (a b : List Int) : Prop := ∀ e ∈ w.es, ∃ k, Path B (pr2 a e) (pr2 b e) k
theorem VHts.at {B : Bk} {w : Wb} {h : List Int} (V : VHts B w h) {i : Int} (h0 : 0 ≤ i) (h1 : i < w.n) : 0 ≤ getI h i ∧ getI h i ≤ B.r := V.bd _ (getI_mem h0 (by have := V.len; omega))
theorem VHts.box {B : Bk} {w : Wb} {h : List Int} (V : VHts B w h) (W : VWeb w) {e : Int × Int} (he : e ∈ w.es) : HB.box B.r (pr2 h e) := by
  have := W.ed e he
  exact ⟨V.at (by omega) (by omega), V.at (by omega) (by omega)⟩
/-! ### a straight path is a word -/
theorem path_run {B : Bk} {p q : Pr} : ∀ {x : Pr} {k : Nat}, Path B p x k → (k : Int) + offP x q = offP p q → ∃ w, Run B q p w x := by
  intro x k h
  induction h with
  | nil => exact fun _ => ⟨[], .nil⟩
  | @snoc x' k d hp c ih =>
    intro e
    obtain ⟨u, l⟩ := d
    have h1 := hp.off
    have tri : offP p q ≤ offP p x' + offP x' q := by unfold offP; omega
    have hstep : offP x' q ≤ offP (mv x' (u, l)) q + 1 := by
      obtain ⟨a, b⟩ := x'
      cases u <;> cases l <;> simp [offP, mv, behind, sg] <;> omega
    have e1 : (k : Int) + offP x' q = offP p q := by
      have : ((k + 1 : Nat) : Int) = (k : Int) + 1 := by omega
      omega
    obtain ⟨w, hw⟩ := ih e1
    have e2 : offP (mv x' (u, l)) q + 1 = offP x' q := by
      have : ((k + 1 : Nat) : Int) = (k : Int) + 1 := by omega
      omega
    have key : co x' l ≠ co q l ∧ u = decide (co x' l < co q l) := by
      obtain ⟨a, b⟩ := x'
      cases l
      · cases u
        · simp [offP, mv, behind, sg] at e2
          show a ≠ q.1 ∧ false = decide (a < q.1)
          refine ⟨by omega, (decide_eq_false (by omega)).symm⟩
        · simp [offP, mv, behind, sg] at e2
          show a ≠ q.1 ∧ true = decide (a < q.1)
          refine ⟨by omega, (decide_eq_true (by omega)).symm⟩
      · cases u
        · simp [offP, mv, behind, sg] at e2
          show b ≠ q.2 ∧ false = decide (b < q.2)
          refine ⟨by omega, (decide_eq_false (by omega)).symm⟩
        · simp [offP, mv, behind, sg] at e2
          show b ≠ q.2 ∧ true = decide (b < q.2)
          refine ⟨by omega, (decide_eq_true (by omega)).symm⟩
    refine ⟨w ++ [l], ?_⟩
    have : mv x' (u, l) = shTo q x' l := by show behind x' l u = behind x' l _; rw [← key.2]
    rw [this]
    refine .snoc hw ⟨key.1, ?_⟩
    rw [← key.2]; exact c
theorem straight_shuf {B : Bk} (S : Straight B) {p q : Pr} {k : Nat} (hb : box B.r p) (hp : Path B p q k) : shuf B p q ≠ [] := by
  obtain ⟨k', hp', e⟩ := S p q k hb hp
  have h0 : offP q q = 0 := by unfold offP; omega
  obtain ⟨w, hw⟩ := path_run hp' (q := q) (by omega)
  exact List.ne_nil_of_mem (mem_shuf.mpr hw)
/-! ### pairs of events -/
abbrev Ew := Int × Int
def pwA (a b : List Int) (i : Nat) : List (Ew × Ew) := (rgI 0 ((wayI (getI a i) (getI b i)).length - 1)).map fun k => (((i : Int), getI (wayI (getI a i) (getI b i)) k), ((i : Int), getI (wayI (getI a i) (getI b i)) (k + 1)))
def pwE (e : Int × Int) (t : Ev × Ev) : Ew × Ew := ((co e t.1.1, t.1.2), (co e t.2.1, t.2.2))
def pwRow (B : Bk) (a b : List Int) (f : List (Ew × Ew)) (e : Int × Int) : List (Ew × Ew) := (toldP B (pr2 a e) (pr2 b e)).foldl (fun f t => f ++ [pwE e t]) f
def pwRaw (B : Bk) (w : Wb) (a b : List Int) : List (Ew × Ew) := w.es.foldl (pwRow B a b) ((List.range a.length).foldl (fun f i => f ++ pwA a b i) [])
def pairsW (B : Bk) (w : Wb) (a b : List Int) : List (Ew × Ew) := sortE (pwRaw B w a b)
theorem pwA_len {a b : List Int} {i : Nat} (h : (wayI (getI a i) (getI b i)).length ≤ 10) : (pwA a b i).length ≤ 10 := by
  unfold pwA; rw [List.length_map, len_rgI]; omega
theorem pwRow_len {B : Bk} {a b : List Int} : ∀ (l : List (Int × Int)) (f : List (Ew × Ew)), (∀ e ∈ l, (toldP B (pr2 a e) (pr2 b e)).length ≤ 80) → (l.foldl (pwRow B a b) f).length ≤ f.length + 80 * l.length
  | [], f, _ => by simp
  | e :: l, f, h => by
    have h1 := pwRow_len l (pwRow B a b f e) fun x hx => h x (List.mem_cons_of_mem _ hx)
    have h2 := h e (List.mem_cons_self ..)
    have h3 : (pwRow B a b f e).length ≤ f.length + 80 := by unfold pwRow; rw [fold_snoc]; simp; omega
    rw [List.foldl_cons, List.length_cons]; omega
theorem pwFirst_len {a b : List Int} : ∀ (l : List Nat) (f : List (Ew × Ew)), (∀ i ∈ l, (pwA a b i).length ≤ 10) → (l.foldl (fun f i => f ++ pwA a b i) f).length ≤ f.length + 10 * l.length
  | [], f, _ => by simp
  | i :: l, f, h => by
    have h1 := pwFirst_len l (f ++ pwA a b i) fun x hx => h x (List.mem_cons_of_mem _ hx)
    have h2 := h i (List.mem_cons_self ..)
    rw [List.length_append] at h1
    rw [List.foldl_cons, List.length_cons]; omega
end HB

set_option Elab.async false
set_option linter.all false
set_option autoImplicit false
namespace HB
open PySem PySem.Spec L2
open En (enc)
/-! ### all heights -/
def allL : Nat → List (List Int)
  | 0 => [[]]
  | n + 1 => (rgI 0 4).flatMap fun x => (allL n).map fun l => x :: l
theorem len_flatMap_const {α β : Type} {f : α → List β} {c : Nat} : ∀ (l : List α), (∀ a ∈ l, (f a).length = c) → (l.flatMap f).length = l.length * c
  | [], _ => by simp
  | a :: l, h => by
    rw [List.flatMap_cons, List.length_append, h a (List.mem_cons_self ..), len_flatMap_const l fun x hx => h x (List.mem_cons_of_mem _ hx), List.length_cons, Nat.succ_mul]; omega
theorem allL_len : ∀ n, (allL n).length = 4 ^ n
  | 0 => rfl
  | n + 1 => by
    unfold allL
    rw [len_flatMap_const (c := 4 ^ n) _ fun x _ => by rw [List.length_map, allL_len n], len_rgI, Nat.pow_succ]
    show 4 * 4 ^ n = _
    omega
theorem mem_allL : ∀ (l : List Int), (∀ x ∈ l, 0 ≤ x ∧ x ≤ 3) → l ∈ allL l.length
  | [], _ => by simp [allL]
  | a :: l, h => by
    have h1 := h a (List.mem_cons_self ..)
    have h2 := mem_allL l fun x hx => h x (List.mem_cons_of_mem _ hx)
    exact List.mem_flatMap.mpr ⟨a, mem_rgI.mpr ⟨by omega, by omega⟩, List.mem_map.mpr ⟨l, h2, rfl⟩⟩
theorem hts_few {B : Bk} {w : Wb} {ks : List (List Int)} (hr : B.r ≤ 3) (hn : w.n ≤ 5) (nd : ks.Nodup) (hv : ∀ k ∈ ks, VHts B w k) : ks.length ≤ 1024 := by
  by_cases he : ks = []
  · subst he; simp
  obtain ⟨k0, hk0⟩ := List.exists_mem_of_ne_nil ks he
  have h1 := nodup_sub_len (l' := allL k0.length) nd fun k hk => by
    have v := hv k hk
    have v0 := hv k0 hk0
    have hl : k.length = k0.length := by have := v.len; have := v0.len; omega
    rw [← hl]
    exact mem_allL k fun x hx => by have := v.bd x hx; omega
  rw [allL_len] at h1
  have h2 : 4 ^ k0.length ≤ 4 ^ 5 := Nat.pow_le_pow_right (by decide) (by have := (hv k0 hk0).len; omega)
  omega
theorem chg_ok {B : Bk} {w : Wb} {h : List Int} {d : Dw} (VH : VHts B w h) (k0 : 0 ≤ d.2) (k1 : d.2 < w.n) (hc : canW B w h d.1 d.2 = true) : VHts B w (chg h d) := by
  have hb := VH.at k0 k1
  obtain ⟨u, k⟩ := d
  refine ⟨by unfold chg; rw [List.length_set]; exact VH.len, fun x hx => ?_⟩
  unfold chg at hx
  rcases List.mem_or_eq_of_mem_set hx with z | z
  · exact VH.bd x z
  · subst z
    unfold canW at hc
    rw [Bool.and_eq_true] at hc
    have hc := hc.1
    simp only at hb
    cases u with
    | true =>
      have : getI h k ≠ B.r := of_decide_eq_true hc
      simp only [sg]; show 0 ≤ getI h k + 1 ∧ getI h k + 1 ≤ B.r; omega
    | false =>
      have : getI h k ≠ 0 := of_decide_eq_true hc
      simp only [sg]; show 0 ≤ getI h k + -1 ∧ getI h k + -1 ≤ B.r; omega
/-! ### counting by layers -/
abbrev Hm := List (List Int × Int)
def hv (m : Hm) (h : List Int) : Int := (alook m h).getD 0
def wcStep (rows : Hm) (here : List Int) (more : Hm) (d : Dw) : Hm := aput more (chg here d) (hv more (chg here d) + hv rows here)
def nearL (B : Bk) (w : Wb) (h o : List Int) : List Dw := (deedsW B w h).filter fun d => if d.1 then decide (getI h d.2 < getI o d.2) else decide (getI o d.2 < getI h d.2)
def wcRow (B : Bk) (w : Wb) (o : List Int) (rows : Hm) (more : Hm) (here : List Int) : Hm := (nearL B w here o).foldl (wcStep rows here) more
def wcTurn (B : Bk) (w : Wb) (o : List Int) (rows : Hm) : Hm := (rows.map (·.1)).foldl (wcRow B w o rows) []
def wcAll (B : Bk) (w : Wb) (a o : List Int) : Hm := (rgI 0 (sumH a o)).foldl (fun r _ => wcTurn B w o r) [(a, 1)]
structure HGood (B : Bk) (w : Wb) (m : Hm) : Prop where
  nd : (m.map (·.1)).Nodup
  vh : ∀ h ∈ m.map (·.1), VHts B w h
theorem HGood.len {B : Bk} {w : Wb} {m : Hm} (g : HGood B w m) (hr : B.r ≤ 3) (hn : w.n ≤ 5) : m.length ≤ 1024 := by
  have := hts_few hr hn g.nd g.vh
  rwa [List.length_map] at this
theorem HGood.put {B : Bk} {w : Wb} {m : Hm} (g : HGood B w m) {h : List Int} {v : Int} (vh : VHts B w h) : HGood B w (aput m h v) := by
  refine ⟨?_, fun x hx => ?_⟩
  · by_cases z : h ∈ m.map (·.1)
    · rw [aput_keys_same z]; exact g.nd
    · rw [aput_new z, List.map_append, List.nodup_append]
      exact ⟨g.nd, by simp, fun a ha b hb e => by simp at hb; subst hb; exact z (e ▸ ha)⟩
  · rcases mem_keys_aput.mp hx with z | z
    · exact g.vh x z
    · subst z; exact vh
theorem nearL_mem {B : Bk} {w : Wb} {h o : List Int} {d : Dw} (hd : d ∈ nearL B w h o) : (0 ≤ d.2 ∧ d.2 < w.n) ∧ canW B w h d.1 d.2 = true := by
  have h1 := (List.mem_filter.mp hd).1
  obtain ⟨u, k⟩ := d
  unfold deedsW at h1
  simp only [List.mem_append, List.mem_map, List.mem_filter, Prod.mk.injEq, mem_rgI] at h1
  rcases h1 with ⟨a, ⟨h1, h2⟩, rfl, rfl⟩ | ⟨a, ⟨h1, h2⟩, rfl, rfl⟩ <;> exact ⟨h1, h2⟩
theorem HGood.row {B : Bk} {w : Wb} {rows : Hm} {here : List Int} (vh : VHts B w here) : ∀ (l : List Dw) (m : Hm), (∀ d ∈ l, (0 ≤ d.2 ∧ d.2 < w.n) ∧ canW B w here d.1 d.2 = true) → HGood B w m → HGood B w (l.foldl (wcStep rows here) m)
  | [], m, _, g => g
  | d :: l, m, h, g => by
    obtain ⟨⟨k0, k1⟩, hc⟩ := h d (List.mem_cons_self ..)
    exact HGood.row vh l _ (fun x hx => h x (List.mem_cons_of_mem _ hx)) (g.put (chg_ok vh k0 k1 hc))
theorem HGood.rows {B : Bk} {w : Wb} {o : List Int} {rows : Hm} : ∀ (l : List (List Int)) (m : Hm), (∀ h ∈ l, VHts B w h) → HGood B w m → HGood B w (l.foldl (wcRow B w o rows) m)
  | [], m, _, g => g
  | h :: l, m, hv, g => HGood.rows l _ (fun x hx => hv x (List.mem_cons_of_mem _ hx)) (HGood.row (hv h (List.mem_cons_self ..)) _ m (fun d hd => nearL_mem hd) g)
theorem HGood.turns {B : Bk} {w : Wb} {o : List Int} : ∀ (l : List Int) (m : Hm), HGood B w m → HGood B w (l.foldl (fun r _ => wcTurn B w o r) m)
  | [], m, g => g
  | _ :: l, m, g => HGood.turns l _ (HGood.rows _ [] g.vh ⟨by simp, fun h hh => by simp at hh⟩)
theorem kOk_h (h : List Int) : kOk (.tuple (h.map .int)) := kOkE (α := List Int) h
theorem dlk_h (m : Hm) (h : List Int) : dlk (encM .int m) (.tuple (h.map .int)) = (alook m h).map .int := encM_dlk .int m h
theorem put_h (m : Hm) (h : List Int) (v : Int) : dput (encM .int m) (.tuple (h.map .int)) (.int v) = encM .int (aput m h v) := encM_put .int m h v
theorem getD_h (m : Hm) (h : List Int) : ((alook m h).map PyData.int).getD (.int 0) = .int (hv m h) := by
  unfold hv; cases alook m h <;> rfl
def szStep (a o : List Int) (s : Int) (i : Nat) : Int := s * ((getI a i - getI o i).natAbs + 1)
theorem sz_bound {a o : List Int} : ∀ (l : List Nat) (s : Int) (n : Nat), (∀ i ∈ l, (getI a i - getI o i).natAbs ≤ 3) → 1 ≤ s → s ≤ 4 ^ n → 1 ≤ l.foldl (szStep a o) s ∧ l.foldl (szStep a o) s ≤ 4 ^ (n + l.length)
  | [], s, n, _, h1, h2 => ⟨h1, h2⟩
  | i :: l, s, n, h, h1, h2 => by
    have hi := h i (List.mem_cons_self ..)
    have e1 : 1 ≤ szStep a o s i := by
      unfold szStep
      have : s * 1 ≤ s * (((getI a i - getI o i).natAbs : Int) + 1) := Int.mul_le_mul_of_nonneg_left (by omega) (by omega)
      omega
    have e2 : szStep a o s i ≤ 4 ^ (n + 1) := by
      unfold szStep
      have : s * (((getI a i - getI o i).natAbs : Int) + 1) ≤ s * 4 := Int.mul_le_mul_of_nonneg_left (by omega) (by omega)
      rw [Int.pow_succ]; omega
    have := sz_bound l (szStep a o s i) (n + 1) (fun j hj => h j (List.mem_cons_of_mem _ hj)) e1 e2
    rw [List.foldl_cons, List.length_cons, show n + (l.length + 1) = n + 1 + l.length by omega]
    exact this
theorem sum_bd {α : Type} (f : α → Int) (c : Int) : ∀ (l : List α), (∀ x ∈ l, 0 ≤ f x ∧ f x ≤ c) → 0 ≤ (l.map f).sum ∧ (l.map f).sum ≤ c * l.length
  | [], _ => by simp
  | a :: l, h => by
    have h1 := h a (List.mem_cons_self ..)
    have h2 := sum_bd f c l fun x hx => h x (List.mem_cons_of_mem _ hx)
    rw [List.map_cons, List.sum_cons, List.length_cons]
    have e : c * ((l.length + 1 : Nat) : Int) = c * l.length + c := by
      rw [show ((l.length + 1 : Nat) : Int) = (l.length : Int) + 1 by omega, Int.mul_add, Int.mul_one]
    omega
end HB
namespace HB
open PySem PySem.Spec L2
open En (enc)
theorem leE_ii (a b : Int × Int) : leE a b = decide (a.1 < b.1 ∨ (a.1 = b.1 ∧ a.2 ≤ b.2)) := by
  have := PySem.W.dataLe_ii (β := Int × Int) (fun p => p.1) (fun p => p.2)
  have h2 := congrFun (congrFun this a) b
  exact h2
theorem sorted_ltP {l : List (Int × Int)} (nd : l.Nodup) : (sortE l).Pairwise ltP := by
  have h1 : (sortE l).Pairwise fun a b => leE a b = true := by
    unfold sortE
    exact List.pairwise_mergeSort (fun a b c h1 h2 => by
      rw [leE_ii, decide_eq_true_eq] at h1 h2 ⊢; omega) (fun a b => by
      rw [leE_ii, leE_ii, Bool.or_eq_true, decide_eq_true_eq, decide_eq_true_eq]; omega) l
  have h2 : (sortE l).Nodup := by unfold sortE; exact (List.mergeSort_perm _ _).nodup_iff.mpr nd
  refine List.Pairwise.imp₂ ?_ h1 h2
  intro a b ha hb
  rw [leE_ii, decide_eq_true_eq] at ha
  unfold ltP
  by_cases e : a.1 = b.1
  · by_cases e2 : a.2 = b.2
    · exact absurd (Prod.ext e e2) hb
    · omega
  · omega
end HB

set_option Elab.async false
set_option linter.all false
set_option maxRecDepth 100000
set_option maxHeartbeats 4000000
set_option autoImplicit false
namespace HB
open PySem PySem.Spec L2
open En (enc)
section
variable {P : Program} {w : World} {K : PySem.W.Frag} {mg : Str → Option Value} {base : Heap}
local macro_rules | `(tactic| walk_at "rd") => `(tactic| simp [-List.any_eq_true, -List.any_eq_false, sSeq, sIf, sRt, sNx, sAs, sOw, sFz, sDo, sNo, sApp, gNm, gTp_t, gC_c, gN_n, xB, xZ, xA, xK, getZ, getA, fzz, x2, xAnd, xOr, xNot, xAndV, xOrV, xNotV, xIf, xChain, xFn, xTup, xLst, xNil, xCons, xCatL, xCatT, xSlL, xSlT, xNoP, xSoP, xThenL, xTupOf, xRngL, xSort, xSortSet, xSortK, xSumV, xDget, xDictOf, xTIndex, xTupF, xCatF, xRevT, xRngL3, xRngT, xRow, gRow, xLen0, xCell, xCallR, xIsi, xIsi2, xCall, xDnew, xDone, xGetD, xInD, xYes, sFor, iL, iT, iR1, iR2, iR3, iEnT, iEnL, iKs, iLn, xLc, kOk_p, any_p, dlk_p, put_p, dne0_p, deq0_p, dne0_i, dne0_w, deq0_w, encM_len, sMix, xMo, xMf, xMn, setS, gSbD, gSb, cut_take, cut_drop, ex2_eq, kOk_kk, put_kk, kOk_k3, dlk_k3, put_k3, itw0, itw1, wb_nt, wb_tu, wb_len, kOk_h, dlk_h, put_h, getD_h, sAugM, rngD_0, wip, dseq_t, dseq_l, deq_il, rngD_rg, dnD_dn, disN_n, dnotN_n, isNo, start', startR, rwAt, rwSet, dint, itb0, itb1, itb2, bk_nt, bk_tu, bk_len, encL_list, list_encL, len_L, len_l, len_t, it2_0, it2_1, it3_0, it3_1, it3_2, il2_0, il2_1, il1_0, it2_v, it2_n, icmp_i, isub_i, iadd_i, din_i, din_iL, deq_i, dne_i, deq_b, dne_b, nd_i, nd_b, nd_s, nd_n, nd_l, nd_t, ik_ii, ik_ib, ik_tt, small, dabs, dmax2, sum_L, enc_i, enc_b, enc_k, enc_p, enc_3, enc_l])
def S_lets : SpT := fun ds W => ∃ (B : Bk) (own near : Int) (up : Bool), ds = [bkD B, .int own, .int near, .bool up] ∧ W (.bool (lets B own near up))
theorem ln_lets {ds : List PyData} {W : PyData → Prop} (h : S_lets ds W) : ds.length = 4 := by obtain ⟨_, _, _, _, e, _⟩ := h; rw [e]; rfl
theorem u_lets {B : Bk} {o n : Int} {u : Bool} {W : PyData → Prop} : S_lets [bkD B, .int o, .int n, .bool u] W ↔ W (.bool (lets B o n u)) := ⟨fun ⟨B', o', n', u', e, h⟩ => by
  simp only [List.cons.injEq, PyData.int.injEq, PyData.bool.injEq, and_true] at e
  obtain ⟨e1, rfl, rfl, rfl⟩ := e; rw [bkD_inj e1]; exact h, fun h => ⟨_, _, _, _, rfl, h⟩⟩
theorem df_lets (Fn_lets : Fn K mg "lets" "lets" 14) : Df P w K mg base "lets" 1 S_lets := by
  refine mkfn Fn_lets sc_lets (fun kV doc pm an cdv ct us h => by rcases us with _ | ⟨x0, _ | ⟨x1, _ | ⟨x2, _ | ⟨x3, _ | ⟨x4, r4⟩⟩⟩⟩⟩ <;> first | rfl | (simp at h)) (by intro ds W h; exact ln_lets h) fun f cdv A outer s H F E hr => ⟨_, (jbcons (jifs (jt (ja 3)) (jbone (jret (jandV (jc (jcmp o_lt (ja 1) (jc (jix (ja 0) (jc ji))))) (jone (jcmp (o_in hr.u65) (jc (jsub (ja 2) (ja 1))) (jc (jix (ja 0) (jc ji)))))))) jbnil)
    (jbone (jret (jandV (jc (jcmp o_gt (ja 1) (jc ji))) (jone (jcmp (o_in hr.u65) (jc (jsub (ja 2) (ja 1))) (jc (jix (ja 0) (jc ji))))))))), ?_⟩
  intro ds W h
  obtain ⟨B, own, near, up, rfl, h⟩ := h
  walk_at "rd"
  cases up
  · by_cases h0 : 0 < own
    · simp_all [lets]
    · simp_all [lets]
  · by_cases h0 : own < B.r
    · simp_all [lets]
    · simp_all [lets]

def S_is_in : SpT := fun ds W => ∃ (i a b : Int), ds = [.int i, .int a, .int b] ∧ W (.bool (decide (a ≤ i ∧ i ≤ b)))
theorem ln_is_in {ds : List PyData} {W : PyData → Prop} (h : S_is_in ds W) : ds.length = 3 := by obtain ⟨_, _, _, e, _⟩ := h; rw [e]; rfl
theorem u_is_in {i a b : Int} {W : PyData → Prop} : S_is_in [.int i, .int a, .int b] W ↔ W (.bool (decide (a ≤ i ∧ i ≤ b))) := by
  constructor
  · rintro ⟨i', a', b', e, h⟩
    cases e; exact h
  · exact fun h => ⟨_, _, _, rfl, h⟩
theorem df_is_in (h_bool : mg "bool" = none) (h_int : mg "int" = none) (h_isinstance : mg "isinstance" = none) (Fn_is_in : Fn K mg "is_in" "is_in" 9) : Df P w K mg base "is_in" 1 S_is_in := by
  refine mkfn Fn_is_in sc_is_in (fun kV doc pm an cdv ct us h => by rcases us with _ | ⟨x0, _ | ⟨x1, _ | ⟨x2, _ | ⟨x3, r3⟩⟩⟩⟩ <;> first | rfl | (simp at h)) (by intro ds W h; exact ln_is_in h) fun f cdv A outer s H F E hr => ⟨_, (jbone (jret (jandV (jc (jisi .int h_isinstance h_int (ja 0))) (jandV (jc (jnotV (jc (jisi .bool h_isinstance h_bool (ja 0))))) (jone (jchain o_le o_le (ja 1) (ja 0) (ja 2))))))), ?_⟩
  intro ds W h
  obtain ⟨i, a, b, rfl, h⟩ := h
  walk_at "rd"
  by_cases h0 : a ≤ i
  · simp_all
  · have h1 : i < a := by omega
    simp_all

def S_behind : SpT := fun ds W => ∃ (p : Pr) (k : Pc) (up : Bool), ds = [enc p, enc k, .bool up] ∧ W (enc (behind p k up))
theorem ln_behind {ds : List PyData} {W : PyData → Prop} (h : S_behind ds W) : ds.length = 3 := by obtain ⟨_, _, _, e, _⟩ := h; rw [e]; rfl
theorem u_behind {a b : Int} {k : Pc} {u : Bool} {W : PyData → Prop} : S_behind [.tuple [.int a, .int b], .int k.v, .bool u] W ↔ W (enc (behind (a, b) k u)) := by
  constructor
  · rintro ⟨p, k', u', e, h⟩
    simp only [List.cons.injEq, and_true, PyData.bool.injEq] at e
    obtain ⟨e1, e2, rfl⟩ := e
    rw [enc_inj (a := (a, b)) (b := p) e1, enc_inj (a := k) (b := k') e2]; exact h
  · exact fun h => ⟨(a, b), _, _, rfl, h⟩
theorem df_behind (Fn_behind : Fn K mg "behind" "behind" 17) : Df P w K mg base "behind" 1 S_behind := by
  refine mkfn Fn_behind sc_behind (fun kV doc pm an cdv ct us h => by rcases us with _ | ⟨x0, _ | ⟨x1, _ | ⟨x2, _ | ⟨x3, r3⟩⟩⟩⟩ <;> first | rfl | (simp at h)) (by intro ds W h; exact ln_behind h) fun f cdv A outer s H F E hr => ⟨_, (jbcons (jset (i := 3) sc_behind.nd (jif (jt (ja 2)) ji (jneg (jc ji))))
    (jbone (jret (jif (jcmpT (o_eq hr.units) (ja 1) (jc ji)) (jtup (jcons (jadd (jc (jix (ja 0) (jc ji))) (ja 3)) (jcons (jix (ja 0) (jc ji)) jnil))) (jtup (jcons (jix (ja 0) (jc ji)) (jcons (jadd (jc (jix (ja 0) (jc ji))) (ja 3)) jnil))))))), ?_⟩
  intro ds W h
  obtain ⟨p, k, up, rfl, h⟩ := h
  walk_at "rd"
  cases up <;> cases k <;> simpa [behind, sg, Pc.v, enc_p, enc_i] using h

def S_off : SpT := fun ds W => ∃ (p q : Pr), ds = [enc p, enc q] ∧ W (.int (offP p q))
theorem ln_off {ds : List PyData} {W : PyData → Prop} (h : S_off ds W) : ds.length = 2 := by obtain ⟨_, _, e, _⟩ := h; rw [e]; rfl
theorem df_off (h_abs : mg "abs" = none) (Fn_off : Fn K mg "off" "off" 21) : Df P w K mg base "off" 1 S_off := by
  refine mkfn Fn_off sc_off (fun kV doc pm an cdv ct us h => by rcases us with _ | ⟨x0, _ | ⟨x1, _ | ⟨x2, r2⟩⟩⟩ <;> first | rfl | (simp at h)) (by intro ds W h; exact ln_off h) fun f cdv A outer s H F E hr => ⟨_, (jbone (jret (jadd (jc (jcallB b_abs h_abs (jccons (jc (jsub (jc (jix (ja 0) (jc ji))) (jc (jix (ja 1) (jc ji))))) jcnil))) (jc (jcallB b_abs h_abs (jccons (jc (jsub (jc (jix (ja 0) (jc ji))) (jc (jix (ja 1) (jc ji))))) jcnil)))))), ?_⟩
  intro ds W h
  obtain ⟨p, q, rfl, h⟩ := h
  walk_at "rd"
  exact h

def S_all_pairs : SpT := fun ds W => ∃ (r : Int), ds = [.int r] ∧ 0 ≤ r ∧ r ≤ 4 ∧ W (encL (allPairs r))
theorem ln_all_pairs {ds : List PyData} {W : PyData → Prop} (h : S_all_pairs ds W) : ds.length = 1 := by obtain ⟨_, e, _⟩ := h; rw [e]; rfl
theorem u_all_pairs {r : Int} {W : PyData → Prop} (h0 : 0 ≤ r ∧ r ≤ 4) : S_all_pairs [.int r] W ↔ W (encL (allPairs r)) := by
  constructor
  · rintro ⟨r', e, _, _, h⟩
    cases e; exact h
  · exact fun h => ⟨_, rfl, h0.1, h0.2, h⟩
theorem ap_len (r : Int) (h1 : r ≤ 4) : ∀ (l : List Int) (b : List Pr), (l.foldl (apStep r) b).length ≤ b.length + 5 * l.length
  | [], b => by simp
  | i :: l, b => by
    have h2 := ap_len r h1 l (apStep r b i)
    have h3 : (apStep r b i).length ≤ b.length + 5 := by
      unfold apStep; rw [List.length_append, List.length_map, len_rgI]; omega
    rw [List.foldl_cons, List.length_cons]; omega
theorem df_all_pairs (h_range : mg "range" = none) (Fn_all_pairs : Fn K mg "all_pairs" "all_pairs" 16) : Df P w K mg base "all_pairs" 1 S_all_pairs := by
  refine mkfn Fn_all_pairs sc_all_pairs (fun kV doc pm an cdv ct us h => by rcases us with _ | ⟨x0, _ | ⟨x1, r1⟩⟩ <;> first | rfl | (simp at h)) (by intro ds W h; exact ln_all_pairs h) fun f cdv A outer s H F E hr => ⟨_, (jbcons (jset (i := 1) sc_all_pairs.nd (je_f (jlst jnil)))
    (jbcons (jfor (pr := false) PassesOwn.never rfl (jiR1 h_range (jccons (jc (jadd (ja 0) (jc ji))) jcnil)) (jgn (i := 2) sc_all_pairs.nd) (jbone (jset (i := 1) sc_all_pairs.nd (je_f (jcatL (ja 1) (jc_f (jlc [("other", 3)] rfl sc_all_pairs.nd (jiR1 h_range (jccons (jc (jadd (ja 0) (jc ji))) jcnil)) (blkOk_by (N := N_all_pairs) (sc := defScope (top 16)) (own := [("other", 3)]) (by decide +kernel)) (fun _ _ _ _ _ => (jgn (i := 3) sc_all_pairs.nd)) (fun _ _ _ _ _ => jtnil) (fun _ _ _ _ _ => (jtup (jcons (jz 2) (jcons (jz 3) jnil)))))))))))
    (jbone (jret (jz 1))))), ?_⟩
  intro ds W h
  obtain ⟨r, rfl, h0, h1, h⟩ := h
  walk_at "rd"
  refine ⟨by omega, loop_fold (rgI 0 (r + 1)) (fun (b : List Pr) (e : Slo) => [.fz (.int r), .fz (encL b), e, .no]) (apStep r) [] .no rfl ?_ ?_⟩
  · intro pre a post hl e
    walk_at "rd"
    refine ⟨by omega, lc_allE (rgI 0 (r + 1)) (fun j => (a, j)) (by rw [len_rgI]; omega) (fun j hj K1 hK => ?_) ?_⟩
    · walk_at "rd"; exact hK
    · have h2 := ap_len r h1 pre []
      have h3 := congrArg List.length hl
      rw [len_rgI, List.length_append, List.length_cons] at h3
      walk_at "rd"
      refine ⟨by rw [len_rgI]; simp at h2; omega, ?_⟩
      rw [apStep, List.map_append, List.map_map]
  · intro e
    walk_at "rd"
    exact h

def S_is_row : SpT := fun ds W => ∃ (l : List Int) (r : Int), ds = [.tuple (l.map .int), .int r] ∧ l.Pairwise (· < ·) ∧ (∀ x ∈ l, -r ≤ x ∧ x ≤ r) ∧ l.length < 60 ∧ W (.bool true)
theorem ln_is_row {ds : List PyData} {W : PyData → Prop} (h : S_is_row ds W) : ds.length = 2 := by obtain ⟨_, _, e, _⟩ := h; rw [e]; rfl
theorem u_is_row {l : List Int} {r : Int} {W : PyData → Prop} (hs : l.Pairwise (· < ·)) (hr : ∀ x ∈ l, -r ≤ x ∧ x ≤ r) (hl : l.length < 60) : S_is_row [.tuple (l.map .int), .int r] W ↔ W (.bool true) :=
  ⟨fun ⟨_, _, _, _, _, _, h⟩ => h, fun h => ⟨_, _, rfl, hs, hr, hl, h⟩⟩
theorem df_is_row (G_is_in : Df P w K mg base "is_in" 1 S_is_in) (h_isinstance : mg "isinstance" = none) (h_list : mg "list" = none) (h_set : mg "set" = none) (h_sorted : mg "sorted" = none) (h_tuple : mg "tuple" = none) (Fn_is_row : Fn K mg "is_row" "is_row" 12) : Df P w K mg base "is_row" 2 S_is_row := by
  refine mkfn Fn_is_row sc_is_row (fun kV doc pm an cdv ct us h => by rcases us with _ | ⟨x0, _ | ⟨x1, _ | ⟨x2, r2⟩⟩⟩ <;> first | rfl | (simp at h)) (by intro ds W h; exact ln_is_row h) fun f cdv A outer s H F E hr => ⟨_, (jbcons (jifs (jw (jw_or (jnot (jt (jc (jisi .tuple h_isinstance h_tuple (ja 0))))) (jw_or1 (jcmpT (o_ne hr.units) (jc_f (jlc [("one", 2)] rfl sc_is_row.nd (jiT (jz 0)) (blkOk_by (N := N_is_row) (sc := defScope (top 12)) (own := [("one", 2)]) (by decide +kernel)) (fun _ _ _ _ _ => (jgn (i := 2) sc_is_row.nd)) (fun _ _ _ _ _ => (jtone (jnot (jt (jc (jcall G_is_in ⟨rfl, rfl⟩ hr (jcons (jz 2) (jcons (jneg (ja 1)) (jcons (jz 1) jnil))))))))) (fun _ _ _ _ _ => (jz 2)))) (jc_f (jlst jnil)))))) (jbone (jret jb)) jbnil)
    (jbone (jret (jcmp (o_eq hr.units) (jc_f (jlistOf h_list (ja 0))) (jc_f (jsortSet rfl h_sorted h_set (ja 0))))))), ?_⟩
  intro ds W h
  obtain ⟨l, r, rfl, hs, hr, hl, h⟩ := h
  walk_at "rd"
  refine lc_ofE l (fun _ => false) (fun x => x) (by omega) (fun x hx K1 K0 h1 h0 => ?_) ?_
  · have := hr x hx
    walk_at "rd"
    rw [u_is_in]
    have e : decide (-r ≤ x ∧ x ≤ r) = true := decide_eq_true this
    rw [e]
    simpa using h0 rfl
  · have e0 : l.filter (fun _ => false) = [] := by simp
    rw [e0, List.map_nil, show (encL ([] : List Int)) = .list [] from rfl]
    have e1 : dne (.list []) (.list []) = some (.bool false) := dne0 (α := Int) (by decide) []
    rw [e1]
    walk_at "rd"
    refine ⟨l, rfl, hl, fun l' h1 h2 => ?_⟩
    rw [sorted_ext hs h1 fun k => (h2 k).symm]
    simpa using h

end
end HB

set_option Elab.async false
set_option linter.all false
set_option maxRecDepth 100000
set_option maxHeartbeats 4000000
set_option autoImplicit false
namespace HB
open PySem PySem.Spec L2
open En (enc)
section
variable {P : Program} {w : World} {K : PySem.W.Frag} {mg : Str → Option Value} {base : Heap}
local macro_rules | `(tactic| walk_at "rd") => `(tactic| simp [-List.any_eq_true, -List.any_eq_false, sSeq, sIf, sRt, sNx, sAs, sOw, sFz, sDo, sNo, sApp, gNm, gTp_t, gC_c, gN_n, xB, xZ, xA, xK, getZ, getA, fzz, x2, xAnd, xOr, xNot, xAndV, xOrV, xNotV, xIf, xChain, xFn, xTup, xLst, xNil, xCons, xCatL, xCatT, xSlL, xSlT, xNoP, xSoP, xThenL, xTupOf, xRngL, xSort, xSortSet, xSortK, xSumV, xDget, xDictOf, xTIndex, xTupF, xCatF, xRevT, xRngL3, xRngT, xRow, gRow, xLen0, xCell, xCallR, xIsi, xIsi2, xCall, xDnew, xDone, xGetD, xInD, xYes, sFor, iL, iT, iR1, iR2, iR3, iEnT, iEnL, iKs, iLn, xLc, kOk_p, any_p, dlk_p, put_p, dne0_p, deq0_p, dne0_i, dne0_w, deq0_w, encM_len, sMix, xMo, xMf, xMn, setS, gSbD, gSb, cut_take, cut_drop, ex2_eq, kOk_kk, put_kk, kOk_k3, dlk_k3, put_k3, itw0, itw1, wb_nt, wb_tu, wb_len, kOk_h, dlk_h, put_h, getD_h, sAugM, rngD_0, wip, dseq_t, dseq_l, deq_il, rngD_rg, dnD_dn, disN_n, dnotN_n, isNo, start', startR, rwAt, rwSet, dint, itb0, itb1, itb2, bk_nt, bk_tu, bk_len, encL_list, list_encL, len_L, len_l, len_t, it2_0, it2_1, it3_0, it3_1, it3_2, il2_0, il2_1, il1_0, it2_v, it2_n, icmp_i, isub_i, iadd_i, din_i, din_iL, deq_i, dne_i, deq_b, dne_b, nd_i, nd_b, nd_s, nd_n, nd_l, nd_t, ik_ii, ik_ib, ik_tt, small, dabs, dmax2, sum_L, enc_i, enc_b, enc_k, enc_p, enc_3, enc_l])
def S_need_book : SpT := fun ds W => ∃ (B : Bk), ds = [bkD B] ∧ Valid B ∧ W .none
theorem ln_need_book {ds : List PyData} {W : PyData → Prop} (h : S_need_book ds W) : ds.length = 1 := by obtain ⟨_, e, _⟩ := h; rw [e]; rfl
theorem u_need_book {B : Bk} (V : Valid B) {W : PyData → Prop} : S_need_book [bkD B] W ↔ W .none := ⟨fun ⟨_, _, _, h⟩ => h, fun h => ⟨B, rfl, V, h⟩⟩
theorem df_need_book (G_is_in : Df P w K mg base "is_in" 1 S_is_in) (G_is_row : Df P w K mg base "is_row" 2 S_is_row) {tk_MOST_ROOF : Tok} (h_MOST_ROOF : mg "MOST_ROOF" = some (.int 4 tk_MOST_ROOF)) (h_isinstance : mg "isinstance" = none) (h_len : mg "len" = none) (h_tuple : mg "tuple" = none) (Fn_need_book : Fn K mg "need_book" "need_book" 13) : Df P w K mg base "need_book" 3 S_need_book := by
  refine mkfn Fn_need_book sc_need_book (fun kV doc pm an cdv ct us h => by rcases us with _ | ⟨x0, _ | ⟨x1, r1⟩⟩ <;> first | rfl | (simp at h)) (by intro ds W h; exact ln_need_book h) fun f cdv A outer s H F E hr => ⟨_, (jbcons (jifs (jw (jw_or (jnot (jt (jc (jisi .tuple h_isinstance h_tuple (ja 0))))) (jw_or (jcmpT (o_ne hr.units) (jc (jcallB b_len h_len (jccons (ja 0) jcnil))) (jc ji)) (jw_or1 (jnot (jt (jc (jcall G_is_in ⟨rfl, rfl⟩ (hr.mono (by decide)) (jcons (jix (ja 0) (jc ji)) (jcons ji (jcons (jglobi rfl h_MOST_ROOF) jnil))))))))))) (jbone jnever) jbnil)
    (jbone (jifs (jw (jw_or (jnot (jt (jc (jcall G_is_row ⟨rfl, rfl⟩ hr (jcons (jix (ja 0) (jc ji)) (jcons (jix (ja 0) (jc ji)) jnil)))))) (jw_or1 (jnot (jt (jc (jcall G_is_row ⟨rfl, rfl⟩ hr (jcons (jix (ja 0) (jc ji)) (jcons (jix (ja 0) (jc ji)) jnil))))))))) (jbone jnever) jbnil))), ?_⟩
  intro ds W h
  obtain ⟨B, rfl, V, h⟩ := h
  have z1 := V.r0
  have z2 := V.r1
  have l1 := V.ul
  have l2 := V.dl
  walk_at "rd"
  rw [u_is_in]
  walk_at "rd"
  refine ⟨by omega, ?_⟩
  rw [u_is_row V.us V.ur (by omega)]
  walk_at "rd"
  rw [u_is_row V.ds V.dr (by omega)]
  walk_at "rd"
  exact h

def S_deeds_in_twos : SpT := fun ds W => ∃ (B : Bk) (p : Pr), ds = [bkD B, enc p] ∧ W (encL (deedsT B p))
theorem ln_deeds_in_twos {ds : List PyData} {W : PyData → Prop} (h : S_deeds_in_twos ds W) : ds.length = 2 := by obtain ⟨_, _, e, _⟩ := h; rw [e]; rfl
theorem u_deeds_in_twos {B : Bk} {a b : Int} {W : PyData → Prop} : S_deeds_in_twos [bkD B, .tuple [.int a, .int b]] W ↔ W (encL (deedsT B (a, b))) := by
  constructor
  · rintro ⟨B', p, e, h⟩
    simp only [List.cons.injEq, and_true] at e
    rw [bkD_inj e.1, enc_inj (a := (a, b)) (b := p) e.2]; exact h
  · exact fun h => ⟨B, (a, b), rfl, h⟩
def d2Step (B : Bk) (p : Pr) (u : Bool) (b : List Dd) (k : Pc) : List Dd := if can B p (u, k) = true then b ++ [(u, k)] else b
def d1Step (B : Bk) (p : Pr) (b : List Dd) (u : Bool) : List Dd := [Pc.z, Pc.o].foldl (d2Step B p u) b
theorem deeds_fold (B : Bk) (p : Pr) : [false, true].foldl (d1Step B p) [] = deedsT B p := by
  unfold deedsT allD d1Step d2Step
  simp only [List.foldl, List.filter]
  cases can B p (false, .z) <;> cases can B p (false, .o) <;> cases can B p (true, .z) <;> cases can B p (true, .o) <;> rfl
theorem d2_len (B : Bk) (p : Pr) (u : Bool) : ∀ (l : List Pc) (b : List Dd), (l.foldl (d2Step B p u) b).length ≤ b.length + l.length
  | [], b => by simp
  | k :: l, b => by
    have h := d2_len B p u l (d2Step B p u b k)
    have h2 : (d2Step B p u b k).length ≤ b.length + 1 := by
      unfold d2Step; split
      · simp
      · omega
    rw [List.foldl_cons, List.length_cons]; omega
theorem d1_len (B : Bk) (p : Pr) : ∀ (l : List Bool) (b : List Dd), (l.foldl (d1Step B p) b).length ≤ b.length + 2 * l.length
  | [], b => by simp
  | k :: l, b => by
    have h := d1_len B p l (d1Step B p b k)
    have h2 : (d1Step B p b k).length ≤ b.length + 2 := d2_len B p k [.z, .o] b
    rw [List.foldl_cons, List.length_cons]; omega
theorem df_deeds_in_twos (G_lets : Df P w K mg base "lets" 1 S_lets) (Fn_deeds_in_twos : Fn K mg "deeds_in_twos" "deeds_in" 18) : Df P w K mg base "deeds_in_twos" 2 S_deeds_in_twos := by
  refine mkfn Fn_deeds_in_twos sc_deeds_in_twos (fun kV doc pm an cdv ct us h => by rcases us with _ | ⟨x0, _ | ⟨x1, _ | ⟨x2, r2⟩⟩⟩ <;> first | rfl | (simp at h)) (by intro ds W h; exact ln_deeds_in_twos h) fun f cdv A outer s H F E hr => ⟨_, (jbcons (jown (i := 2) sc_deeds_in_twos.nd (jlst jnil))
    (jbcons (jfor (pr := false) PassesOwn.never rfl (jiT (jtup (jcons jb (jcons jb jnil)))) (jgn (i := 3) sc_deeds_in_twos.nd) (jbone (jfor (pr := false) PassesOwn.never rfl (jiT (jtup (jcons ji (jcons ji jnil)))) (jgn (i := 4) sc_deeds_in_twos.nd) (jbone (jifs (jt (jc (jcall G_lets ⟨rfl, rfl⟩ hr (jcons (jz 0) (jcons (jix (ja 1) (ja 4)) (jcons (jix (ja 1) (jc (jsub (jc ji) (ja 4)))) (jcons (jz 3) jnil))))))) (jbone (japp 2 (pv 2) (jtup (jcons (jz 3) (jcons (jz 4) jnil))))) jbnil)))))
    (jbone (jfz 2 (jret (jz 2)))))), ?_⟩
  intro ds W h
  obtain ⟨B, p, rfl, h⟩ := h
  walk_at "rd"
  refine loop_fold (en := PyData.bool) [false, true] (fun (b : List Dd) (e : Slo × Slo) => [.fz (bkD B), .fz (.tuple [.int p.1, .int p.2]), .ow (encL b), e.1, e.2]) (d1Step B p) [] (.no, .no) rfl ?_ ?_
  · intro pre u post hl e
    have l1 := d1_len B p pre []
    have l0 := congrArg List.length hl
    walk_at "rd"
    refine loop_fold (en := fun k : Pc => PyData.int k.v) [.z, .o] (fun (b : List Dd) (e : Slo) => [.fz (bkD B), .fz (.tuple [.int p.1, .int p.2]), .ow (encL b), .fz (.bool u), e]) (d2Step B p u) _ e.2 rfl ?_ ?_
    · intro pre2 k post2 hl2 e2
      have l2 := d2_len B p u pre2 (pre.foldl (d1Step B p) [])
      have l3 := congrArg List.length hl2
      generalize hb : pre2.foldl (d2Step B p u) (pre.foldl (d1Step B p) []) = bb at *
      walk_at "rd"
      rw [u_lets]
      walk_at "rd"
      show _ ∨ _ ∧ _ ∧ _
      unfold d2Step can
      show (lets B (co p k) (co p k.n) u = false ∧ _) ∨ _
      cases hc : lets B (co p k) (co p k.n) u
      · exact .inl ⟨rfl, by simp [hc]⟩
      · refine .inr ⟨rfl, by simp at l1 l2 l0 l3 ⊢; omega, by simp [hc, enc_p, enc_b, enc_k]⟩
    · intro e2
      exact ⟨rfl, _, _, rfl⟩
  · intro e
    rw [deeds_fold]
    walk_at "rd"
    exact h

end
end HB

set_option Elab.async false
set_option linter.all false
set_option maxRecDepth 100000
set_option maxHeartbeats 4000000
set_option autoImplicit false
namespace HB
open PySem PySem.Spec L2
open En (enc)
section
variable {P : Program} {w : World} {K : PySem.W.Frag} {mg : Str → Option Value} {base : Heap}
local macro_rules | `(tactic| walk_at "rd") => `(tactic| simp [-List.any_eq_true, -List.any_eq_false, sSeq, sIf, sRt, sNx, sAs, sOw, sFz, sDo, sNo, sApp, gNm, gTp_t, gC_c, gN_n, xB, xZ, xA, xK, getZ, getA, fzz, x2, xAnd, xOr, xNot, xAndV, xOrV, xNotV, xIf, xChain, xFn, xTup, xLst, xNil, xCons, xCatL, xCatT, xSlL, xSlT, xNoP, xSoP, xThenL, xTupOf, xRngL, xSort, xSortSet, xSortK, xSumV, xDget, xDictOf, xTIndex, xTupF, xCatF, xRevT, xRngL3, xRngT, xRow, gRow, xLen0, xCell, xCallR, xIsi, xIsi2, xCall, xDnew, xDone, xGetD, xInD, xYes, sFor, iL, iT, iR1, iR2, iR3, iEnT, iEnL, iKs, iLn, xLc, kOk_p, any_p, dlk_p, put_p, dne0_p, deq0_p, dne0_i, dne0_w, deq0_w, encM_len, sMix, xMo, xMf, xMn, setS, gSbD, gSb, cut_take, cut_drop, ex2_eq, kOk_kk, put_kk, kOk_k3, dlk_k3, put_k3, itw0, itw1, wb_nt, wb_tu, wb_len, kOk_h, dlk_h, put_h, getD_h, sAugM, rngD_0, wip, dseq_t, dseq_l, deq_il, rngD_rg, dnD_dn, disN_n, dnotN_n, isNo, start', startR, rwAt, rwSet, dint, itb0, itb1, itb2, bk_nt, bk_tu, bk_len, encL_list, list_encL, len_L, len_l, len_t, it2_0, it2_1, it3_0, it3_1, it3_2, il2_0, il2_1, il1_0, it2_v, it2_n, icmp_i, isub_i, iadd_i, din_i, din_iL, deq_i, dne_i, deq_b, dne_b, nd_i, nd_b, nd_s, nd_n, nd_l, nd_t, ik_ii, ik_ib, ik_tt, small, dabs, dmax2, sum_L, enc_i, enc_b, enc_k, enc_p, enc_3, enc_l])
def S_from_in : SpT := fun ds W => ∃ (B : Bk) (p : Pr), ds = [bkD B, enc p] ∧ box B.r p ∧ B.r ≤ 4 ∧ ∀ m, FromOk B p m → W (dc (encM .int m))
theorem ln_from_in {ds : List PyData} {W : PyData → Prop} (h : S_from_in ds W) : ds.length = 2 := by obtain ⟨_, _, e, _⟩ := h; rw [e]; rfl
theorem u_from_in {B : Bk} {a b : Int} (hb : box B.r (a, b)) (hr : B.r ≤ 4) {W : PyData → Prop} (h : ∀ m, FromOk B (a, b) m → W (dc (encM .int m))) : S_from_in [bkD B, .tuple [.int a, .int b]] W := ⟨B, (a, b), rfl, hb, hr, h⟩
def FW (B : Bk) (p : Pr) (μ : Nat) (δ : Enm) (ρ : Rw) : Prop := ρ = (0, 0, 0) ∧ ∃ m rs t e4 e5 e6 e7 e8, δ = [.fz (bkD B), .fz (.tuple [.int p.1, .int p.2]), .ow (dc (encM .int m)), .fz (encL rs), e4, e5, e6, e7, e8] ∧ FInv B p m rs t ∧ μ = 2 * (26 - m.length) + (if rs = [] then 0 else 1)
theorem df_from_in (G_behind : Df P w K mg base "behind" 1 S_behind) (G_deeds_in_twos : Df P w K mg base "deeds_in_twos" 2 S_deeds_in_twos) (Fn_from_in : Fn K mg "from_in" "from_in" 20) : Df P w K mg base "from_in" 3 S_from_in := by
  refine mkfn Fn_from_in sc_from_in (fun kV doc pm an cdv ct us h => by rcases us with _ | ⟨x0, _ | ⟨x1, _ | ⟨x2, r2⟩⟩⟩ <;> first | rfl | (simp at h)) (by intro ds W h; exact ln_from_in h) fun f cdv A outer s H F E hr => ⟨_, (jbcons (jpar2 (is_ := [2, 3]) sc_from_in.nd (jmow (jdone ⟨rfl, rfl⟩ hr.u_d (jz 1) ji) (jmfz (je_f (jlst (jcons (jz 1) jnil))) jmnil)))
    (jbcons (jwhile PassesOwn.never (jcmpT (o_ne hr.units) (ja 3) (jc_f (jlst jnil))) (jbcons (jown (i := 4) sc_from_in.nd (jlst jnil))
    (jbcons (jfor (pr := false) PassesOwn.never rfl (jiL (jz 3)) (jgn (i := 5) sc_from_in.nd) (jbone (jfor (pr := false) PassesOwn.never rfl (jiL (jcall G_deeds_in_twos ⟨rfl, rfl⟩ hr (jcons (jz 0) (jcons (jz 5) jnil)))) (jgtp rfl (jgcons (jgn (i := 6) sc_from_in.nd) (jgcons (jgn (i := 7) sc_from_in.nd) jgnil))) (jbcons (jset (i := 8) sc_from_in.nd (jcall G_behind ⟨rfl, rfl⟩ (hr.mono (by decide)) (jcons (jz 5) (jcons (jz 7) (jcons (jz 6) jnil)))))
    (jbone (jifs (jninDT ⟨rfl, rfl⟩ hr.u_d (jz 8) (ja 2)) (jbcons (jas (pr := false) (jadd (jc (jdix ⟨rfl, rfl⟩ hr.u_d (ja 2) (jz 5))) (jc ji)) (jgsubD ⟨rfl, rfl⟩ hr.u_d 2 (pv 2) (jz 8)))
    (jbone (japp 4 (pv 4) (jz 8)))) jbnil))))))
    (jbone (jfz 4 (jset (i := 3) sc_from_in.nd (jz 4)))))))
    (jbone (jfz 2 (jret (jz 2)))))), ?_⟩
  intro ds W h
  obtain ⟨B, p, rfl, hb, hr, h⟩ := h
  walk_at "rd"
  refine ⟨FW B p, ⟨_, rfl, [(p, 0)], [p], 0, _, _, _, _, _, rfl, FInv.start B p, rfl⟩, ?_⟩
  rintro μ δ ρ ⟨rfl, m, rs, t, e4, e5, e6, e7, e8, rfl, I, hμ⟩
  walk_at "rd"
  by_cases hrs : rs = []
  · subst hrs
    exact .inl ⟨rfl, h m I.fin⟩
  refine .inr ⟨hrs, ?_⟩
  refine loop_fold rs (fun (s : Mp × List Pr) (e : Slo × Slo × Slo × Slo) => [.fz (bkD B), .fz (.tuple [.int p.1, .int p.2]), .ow (dc (encM .int s.1)), .fz (encL rs), .ow (encL s.2), e.1, e.2.1, e.2.2.1, e.2.2.2]) (rowR B) (m, []) (e5, e6, e7, e8) rfl ?_ ?_
  · intro pre here post hl e
    have L := Lay.rows I.path pre [] (m, []) (fun q hq => (I.rw q).mp (by rw [hl]; exact List.mem_append_left _ hq)) I.lay
    have hhere : (here, (t : Int)) ∈ m := (I.rw here).mp (by rw [hl]; exact List.mem_append_right _ (List.mem_cons_self ..))
    have hph := I.path _ hhere
    generalize pre.foldl (rowR B) (m, []) = s0 at L
    obtain ⟨m1, more1⟩ := s0
    walk_at "rd"
    rw [u_deeds_in_twos]
    walk_at "rd"
    refine loop_fold (deedsT B here) (fun (s : Mp × List Pr) (e : Slo × Slo × Slo) => [.fz (bkD B), .fz (.tuple [.int p.1, .int p.2]), .ow (dc (encM .int s.1)), .fz (encL rs), .ow (encL s.2), .fz (.tuple [.int here.1, .int here.2]), e.1, e.2.1, e.2.2]) (fun s d => addR s here (mv here d)) (m1, more1) (e.2.1, e.2.2.1, e.2.2.2) rfl ?_ ?_
    · intro pre2 d post2 hl2 e2
      have L2 := Lay.row hhere hph pre2 _ (m1, more1) (fun d hd => mem_deedsT.mp (by rw [hl2]; exact List.mem_append_left _ hd)) L
      have hd : can B here d = true := mem_deedsT.mp (by rw [hl2]; exact List.mem_append_right _ (List.mem_cons_self ..))
      have L3 := L2.add hhere (.snoc hph hd)
      generalize pre2.foldl (fun s d => addR s here (mv here d)) (m1, more1) = s1 at L2 L3
      obtain ⟨m2, more2⟩ := s1
      have hlen : ∀ {dn s}, Lay B p m t dn s → s.1.length ≤ 25 := fun {dn s} L => keys_len hb hr L.nd fun q n hq => by
        rcases (L.mem q n).mp hq with z | ⟨_, z⟩
        · obtain ⟨k, _, hp, _⟩ := I.pa q n z; exact ⟨k, hp⟩
        · exact ⟨_, L.new q z⟩
      have hl2' := hlen L2
      have hm2 := L2.len
      have hlk : alook m2 here = some (t : Int) := alook_mem L2.nd ((L2.mem here t).mpr (.inl hhere))
      walk_at "rd"
      rw [u_behind]
      have hlk2 : alook m2 (here.1, here.2) = some (t : Int) := hlk
      walk_at "rd"
      simp only [hlk2, Option.some.injEq, exists_eq_left', iadd_i, put_p]
      have eb : (behind (here.1, here.2) d.2 d.1) = mv here d := rfl
      rw [eb]
      have ek : ((mv here d).1, (mv here d).2) = mv here d := rfl
      rw [ek]
      unfold addR
      simp only at hl2' hm2
      by_cases hin : mv here d ∈ m2.map (·.1)
      · refine .inl ⟨by simpa using hin, ?_⟩
        rw [if_pos hin]; exact ⟨rfl, rfl⟩
      · refine .inr ⟨by simpa using hin, by omega, by omega, ?_⟩
        rw [if_neg hin, hlk]
        exact ⟨rfl, by rw [List.map_append]; rfl⟩
    · intro e2
      exact ⟨rfl, _, _, _, _, rfl⟩
  · intro e
    obtain ⟨I2, hlen⟩ := I.step
    generalize rs.foldl (rowR B) (m, []) = s2 at I2 hlen
    obtain ⟨m2, more2⟩ := s2
    have hk := keys_len hb hr I2.nd fun q n hq => let ⟨k, _, hp, _⟩ := I2.pa q n hq; ⟨k, hp⟩
    walk_at "rd"
    refine ⟨2 * (26 - m2.length) + (if more2 = [] then 0 else 1), ?_, rfl, m2, more2, t + 1, _, _, _, _, _, rfl, I2, rfl⟩
    simp only at hlen hk
    rw [hμ, if_neg hrs]
    by_cases z : more2 = []
    · subst z; simp at hlen ⊢; omega
    · have : 0 < more2.length := List.length_pos_iff.mpr z
      rw [if_neg z]; omega

end
end HB

set_option Elab.async false
set_option linter.all false
set_option maxRecDepth 100000
set_option maxHeartbeats 4000000
set_option autoImplicit false
namespace HB
open PySem PySem.Spec L2
open En (enc)
section
variable {P : Program} {w : World} {K : PySem.W.Frag} {mg : Str → Option Value} {base : Heap}
local macro_rules | `(tactic| walk_at "rd") => `(tactic| simp [-List.any_eq_true, -List.any_eq_false, sSeq, sIf, sRt, sNx, sAs, sOw, sFz, sDo, sNo, sApp, gNm, gTp_t, gC_c, gN_n, xB, xZ, xA, xK, getZ, getA, fzz, x2, xAnd, xOr, xNot, xAndV, xOrV, xNotV, xIf, xChain, xFn, xTup, xLst, xNil, xCons, xCatL, xCatT, xSlL, xSlT, xNoP, xSoP, xThenL, xTupOf, xRngL, xSort, xSortSet, xSortK, xSumV, xDget, xDictOf, xTIndex, xTupF, xCatF, xRevT, xRngL3, xRngT, xRow, gRow, xLen0, xCell, xCallR, xIsi, xIsi2, xCall, xDnew, xDone, xGetD, xInD, xYes, sFor, iL, iT, iR1, iR2, iR3, iEnT, iEnL, iKs, iLn, xLc, kOk_p, any_p, dlk_p, put_p, dne0_p, deq0_p, dne0_i, dne0_w, deq0_w, encM_len, sMix, xMo, xMf, xMn, setS, gSbD, gSb, cut_take, cut_drop, ex2_eq, kOk_kk, put_kk, kOk_k3, dlk_k3, put_k3, itw0, itw1, wb_nt, wb_tu, wb_len, kOk_h, dlk_h, put_h, getD_h, sAugM, rngD_0, wip, dseq_t, dseq_l, deq_il, rngD_rg, dnD_dn, disN_n, dnotN_n, isNo, start', startR, rwAt, rwSet, dint, itb0, itb1, itb2, bk_nt, bk_tu, bk_len, encL_list, list_encL, len_L, len_l, len_t, it2_0, it2_1, it3_0, it3_1, it3_2, il2_0, il2_1, il1_0, it2_v, it2_n, icmp_i, isub_i, iadd_i, din_i, din_iL, deq_i, dne_i, deq_b, dne_b, nd_i, nd_b, nd_s, nd_n, nd_l, nd_t, ik_ii, ik_ib, ik_tt, small, dabs, dmax2, sum_L, enc_i, enc_b, enc_k, enc_p, enc_3, enc_l])
def S_crooked_in : SpT := fun ds W => ∃ (B : Bk), ds = [bkD B] ∧ 0 ≤ B.r ∧ B.r ≤ 4 ∧ Straight B ∧ W .none
theorem ln_crooked_in {ds : List PyData} {W : PyData → Prop} (h : S_crooked_in ds W) : ds.length = 1 := by obtain ⟨_, e, _⟩ := h; rw [e]; rfl
theorem u_crooked_in {B : Bk} (h0 : 0 ≤ B.r) (h1 : B.r ≤ 4) (S : Straight B) {W : PyData → Prop} : S_crooked_in [bkD B] W ↔ W .none := ⟨fun ⟨_, _, _, _, _, h⟩ => h, fun h => ⟨B, rfl, h0, h1, S, h⟩⟩
theorem df_crooked_in (G_all_pairs : Df P w K mg base "all_pairs" 1 S_all_pairs) (G_from_in : Df P w K mg base "from_in" 3 S_from_in) (G_off : Df P w K mg base "off" 1 S_off) (h_sorted : mg "sorted" = none) (Fn_crooked_in : Fn K mg "crooked_in" "crooked_in" 22) : Df P w K mg base "crooked_in" 4 S_crooked_in := by
  refine mkfn Fn_crooked_in sc_crooked_in (fun kV doc pm an cdv ct us h => by rcases us with _ | ⟨x0, _ | ⟨x1, r1⟩⟩ <;> first | rfl | (simp at h)) (by intro ds W h; exact ln_crooked_in h) fun f cdv A outer s H F E hr => ⟨_, (jbcons (jfor (pr := false) PassesOwn.never rfl (jiL (jcall G_all_pairs ⟨rfl, rfl⟩ (hr.mono (by decide)) (jcons (jix (ja 0) (jc ji)) jnil))) (jgn (i := 1) sc_crooked_in.nd) (jbcons (jset (i := 2) sc_crooked_in.nd (jcall G_from_in ⟨rfl, rfl⟩ hr (jcons (jz 0) (jcons (jz 1) jnil))))
    (jbcons (jsetLc (i := 3) [("other", 4)] rfl sc_crooked_in.nd (jiL (je_f (jsortK rfl hr.u_s h_sorted (ja 2)))) (blkOk_by (N := N_crooked_in) (sc := defScope (top 22)) (own := [("other", 4)]) (by decide +kernel)) (fun _ _ _ _ _ => (jgn (i := 4) sc_crooked_in.nd)) (fun _ _ _ _ _ => (jtone (jcmpT (o_ne hr.units) (jc (jdix ⟨rfl, rfl⟩ hr.u_d (ja 2) (jz 4))) (jc (jcall G_off ⟨rfl, rfl⟩ (hr.mono (by decide)) (jcons (jz 1) (jcons (jz 4) jnil))))))) (fun _ _ _ _ _ => (jz 4)))
    (jbone (jifs (jcmpT (o_ne hr.units) (ja 3) (jc_f (jlst jnil))) (jbone (jret (jtup (jcons (jz 1) (jcons (jix (ja 3) (jc ji)) jnil))))) jbnil)))))
    (jbone (jret jn))), ?_⟩
  intro ds W h
  obtain ⟨B, rfl, h0, h1, S, h⟩ := h
  walk_at "rd"
  rw [u_all_pairs ⟨h0, h1⟩]
  walk_at "rd"
  refine loop_fold (allPairs B.r) (fun (_ : Unit) (e : Slo × Slo × Slo × Slo) => [.fz (bkD B), e.1, e.2.1, e.2.2.1, .no]) (fun u _ => u) () (.no, .no, .no, .no) rfl ?_ ?_
  · intro pre p post hl e
    have hb : box B.r p := mem_allPairs.mp (by rw [hl]; exact List.mem_append_right _ (List.mem_cons_self ..))
    walk_at "rd"
    refine u_from_in hb h1 fun m F => ?_
    have hlen := F.len hb h1
    have e1 : (encM PyData.int m).map (·.1) = (m.map (·.1)).map enc := encM_keys .int m
    walk_at "rd"
    rw [e1, sortD_E]
    refine ⟨sortOk_E _ (by rw [List.length_map]; omega), ?_⟩
    refine lc_ofE (sortE (m.map (·.1))) (fun _ => false) (fun q => q) (by rw [len_sortE, List.length_map]; omega) (fun q hq K1 K0 k1 k0 => ?_) ?_
    · rw [mem_sortE] at hq
      obtain ⟨⟨q2, n⟩, hqm, e2⟩ := List.mem_map.mp hq
      simp only at e2
      subst e2
      have hn := from_off S hb F _ _ hqm
      have hlk : alook m (q2.1, q2.2) = some n := alook_mem F.nd hqm
      walk_at "rd"
      simp only [hlk, Option.some.injEq, exists_eq_left']
      refine ⟨p, q2, rfl, ?_⟩
      rw [← hn]
      walk_at "rd"
      exact k0 rfl
    · have e0 : (sortE (m.map (·.1))).filter (fun _ => false) = [] := by simp
      rw [e0, List.map_nil]
      walk_at "rd"
      exact ⟨_, .no, rfl⟩
  · intro e
    walk_at "rd"
    exact h

end
end HB

set_option Elab.async false
set_option linter.all false
set_option maxRecDepth 100000
set_option maxHeartbeats 4000000
set_option autoImplicit false
namespace HB
open PySem PySem.Spec L2
open En (enc)
section
variable {P : Program} {w : World} {K : PySem.W.Frag} {mg : Str → Option Value} {base : Heap}
local macro_rules | `(tactic| walk_at "rd") => `(tactic| simp [-List.any_eq_true, -List.any_eq_false, sSeq, sIf, sRt, sNx, sAs, sOw, sFz, sDo, sNo, sApp, gNm, gTp_t, gC_c, gN_n, xB, xZ, xA, xK, getZ, getA, fzz, x2, xAnd, xOr, xNot, xAndV, xOrV, xNotV, xIf, xChain, xFn, xTup, xLst, xNil, xCons, xCatL, xCatT, xSlL, xSlT, xNoP, xSoP, xThenL, xTupOf, xRngL, xSort, xSortSet, xSortK, xSumV, xDget, xDictOf, xTIndex, xTupF, xCatF, xRevT, xRngL3, xRngT, xRow, gRow, xLen0, xCell, xCallR, xIsi, xIsi2, xCall, xDnew, xDone, xGetD, xInD, xYes, sFor, iL, iT, iR1, iR2, iR3, iEnT, iEnL, iKs, iLn, xLc, kOk_p, any_p, dlk_p, put_p, dne0_p, deq0_p, dne0_i, dne0_w, deq0_w, encM_len, sMix, xMo, xMf, xMn, setS, gSbD, gSb, cut_take, cut_drop, ex2_eq, kOk_kk, put_kk, kOk_k3, dlk_k3, put_k3, itw0, itw1, wb_nt, wb_tu, wb_len, kOk_h, dlk_h, put_h, getD_h, sAugM, rngD_0, wip, dseq_t, dseq_l, deq_il, rngD_rg, dnD_dn, disN_n, dnotN_n, isNo, start', startR, rwAt, rwSet, dint, itb0, itb1, itb2, bk_nt, bk_tu, bk_len, encL_list, list_encL, len_L, len_l, len_t, it2_0, it2_1, it3_0, it3_1, it3_2, il2_0, il2_1, il1_0, it2_v, it2_n, icmp_i, isub_i, iadd_i, din_i, din_iL, deq_i, dne_i, deq_b, dne_b, nd_i, nd_b, nd_s, nd_n, nd_l, nd_t, ik_ii, ik_ib, ik_tt, small, dabs, dmax2, sum_L, enc_i, enc_b, enc_k, enc_p, enc_3, enc_l])
def S_way : SpT := fun ds W => ∃ (a b : Int), ds = [.int a, .int b] ∧ (-100 ≤ a ∧ a ≤ 100 ∧ -100 ≤ b ∧ b ≤ 100) ∧ W (encL (wayI a b))
theorem ln_way {ds : List PyData} {W : PyData → Prop} (h : S_way ds W) : ds.length = 2 := by obtain ⟨_, _, e, _⟩ := h; rw [e]; rfl
theorem u_way {a b : Int} (h : -100 ≤ a ∧ a ≤ 100 ∧ -100 ≤ b ∧ b ≤ 100) {W : PyData → Prop} : S_way [.int a, .int b] W ↔ W (encL (wayI a b)) := by
  constructor
  · rintro ⟨a', b', e, _, h⟩
    cases e; exact h
  · exact fun z => ⟨a, b, rfl, h, z⟩
theorem df_way (h_list : mg "list" = none) (h_range : mg "range" = none) (Fn_way : Fn K mg "way" "way" 25) : Df P w K mg base "way" 1 S_way := by
  refine mkfn Fn_way sc_way (fun kV doc pm an cdv ct us h => by rcases us with _ | ⟨x0, _ | ⟨x1, _ | ⟨x2, r2⟩⟩⟩ <;> first | rfl | (simp at h)) (by intro ds W h; exact ln_way h) fun f cdv A outer s H F E hr => ⟨_, (jbone (jret (je_f (jifF (jcmpT o_lt (ja 0) (ja 1)) (jlistR2 h_list h_range (ja 0) (ja 1)) (jlistR3 h_list h_range (ja 0) (ja 1) (jc (jneg (jc ji)))))))), ?_⟩
  intro ds W h
  obtain ⟨a, b, rfl, hz, h⟩ := h
  walk_at "rd"
  unfold wayI encL at h
  by_cases hab : a < b
  · rw [if_pos hab] at h
    exact .inr ⟨hab, by omega, h⟩
  · rw [if_neg hab] at h
    exact .inl ⟨by omega, by omega, h⟩

def S_shuffles_in : SpT := fun ds W => ∃ (B : Bk) (p q : Pr), ds = [bkD B, enc p, enc q] ∧ box B.r p ∧ box B.r q ∧ B.r ≤ 4 ∧ W (encL (shuf B p q))
theorem ln_shuffles_in {ds : List PyData} {W : PyData → Prop} (h : S_shuffles_in ds W) : ds.length = 3 := by obtain ⟨_, _, _, e, _⟩ := h; rw [e]; rfl
theorem u_shuffles_in {B : Bk} {a b c d : Int} (h1 : box B.r (a, b)) (h2 : box B.r (c, d)) (h3 : B.r ≤ 4) {W : PyData → Prop} : S_shuffles_in [bkD B, .tuple [.int a, .int b], .tuple [.int c, .int d]] W ↔ W (encL (shuf B (a, b) (c, d))) := by
  constructor
  · rintro ⟨B', p, q, e, _, _, _, h⟩
    simp only [List.cons.injEq, and_true] at e
    obtain ⟨e1, e2, e3⟩ := e
    rw [bkD_inj e1, enc_inj (a := (a, b)) (b := p) e2, enc_inj (a := (c, d)) (b := q) e3]; exact h
  · exact fun h => ⟨B, (a, b), (c, d), rfl, h1, h2, h3, h⟩
theorem df_shuffles_in (G_lets : Df P w K mg base "lets" 1 S_lets) (G_behind : Df P w K mg base "behind" 1 S_behind) (h_abs : mg "abs" = none) (h_range : mg "range" = none) (Fn_shuffles_in : Fn K mg "shuffles_in" "shuffles_in" 24) : Df P w K mg base "shuffles_in" 2 S_shuffles_in := by
  refine mkfn Fn_shuffles_in sc_shuffles_in (fun kV doc pm an cdv ct us h => by rcases us with _ | ⟨x0, _ | ⟨x1, _ | ⟨x2, _ | ⟨x3, r3⟩⟩⟩⟩ <;> first | rfl | (simp at h)) (by intro ds W h; exact ln_shuffles_in h) fun f cdv A outer s H F E hr => ⟨_, (jbcons (jset (i := 3) sc_shuffles_in.nd (je_f (jlst (jcons (jtup (jcons (jtup jnil) (jcons (jz 1) jnil))) jnil))))
    (jbcons (jfor (pr := false) PassesOwn.never rfl (jiR1 h_range (jccons (jc (jadd (jc (jcallB b_abs h_abs (jccons (jc (jsub (jc (jix (ja 1) (jc ji))) (jc (jix (ja 2) (jc ji))))) jcnil))) (jc (jcallB b_abs h_abs (jccons (jc (jsub (jc (jix (ja 1) (jc ji))) (jc (jix (ja 2) (jc ji))))) jcnil))))) jcnil)) (jgn (i := 4) sc_shuffles_in.nd) (jbcons (jown (i := 5) sc_shuffles_in.nd (jlst jnil))
    (jbcons (jfor (pr := false) PassesOwn.never rfl (jiL (jz 3)) (jgtp rfl (jgcons (jgn (i := 6) sc_shuffles_in.nd) (jgcons (jgn (i := 7) sc_shuffles_in.nd) jgnil))) (jbone (jfor (pr := false) PassesOwn.never rfl (jiT (jtup (jcons ji (jcons ji jnil)))) (jgn (i := 8) sc_shuffles_in.nd) (jbcons (jset (i := 9) sc_shuffles_in.nd (jcmp o_lt (jc (jix (ja 7) (ja 8))) (jc (jix (ja 2) (ja 8)))))
    (jbone (jifs (jw (jw_and (jcmpT (o_ne hr.units) (jc (jix (ja 7) (ja 8))) (jc (jix (ja 2) (ja 8)))) (jw_and1 (jt (jc (jcall G_lets ⟨rfl, rfl⟩ hr (jcons (jz 0) (jcons (jix (ja 7) (ja 8)) (jcons (jix (ja 7) (jc (jsub (jc ji) (ja 8)))) (jcons (jz 9) jnil)))))))))) (jbone (japp 5 (pv 5) (jtup (jcons (jcatT (jz 6) (jtup (jcons (jz 8) jnil))) (jcons (jcall G_behind ⟨rfl, rfl⟩ hr (jcons (jz 7) (jcons (jz 8) (jcons (jz 9) jnil)))) jnil))))) jbnil))))))
    (jbone (jfz 5 (jset (i := 3) sc_shuffles_in.nd (jz 5)))))))
    (jbone (jret (je_f (jlc [("word", 6), ("here", 7)] rfl sc_shuffles_in.nd (jiL (jz 3)) (blkOk_by (N := N_shuffles_in) (sc := defScope (top 24)) (own := [("word", 6), ("here", 7)]) (by decide +kernel)) (fun _ _ _ _ _ => (jgtp rfl (jgcons (jgn (i := 6) sc_shuffles_in.nd) (jgcons (jgn (i := 7) sc_shuffles_in.nd) jgnil)))) (fun _ _ _ _ _ => jtnil) (fun _ _ _ _ _ => (jz 6)))))))), ?_⟩
  intro ds W h
  obtain ⟨B, p, q, rfl, hp, hq, hr, h⟩ := h
  obtain ⟨⟨hp1, hp2⟩, hp3, hp4⟩ := hp
  obtain ⟨⟨hq1, hq2⟩, hq3, hq4⟩ := hq
  walk_at "rd"
  refine ⟨by omega, loop_fold (rgI 0 (offP p q)) (fun (rs : List (List Pc × Pr)) (e : Slo × Slo × Slo × Slo × Slo × Slo) => [.fz (bkD B), .fz (.tuple [.int p.1, .int p.2]), .fz (.tuple [.int q.1, .int q.2]), .fz (encL rs), e.1, e.2.1, e.2.2.1, e.2.2.2.1, e.2.2.2.2.1, e.2.2.2.2.2]) (fun r _ => shTurn B q r) [([], p)] (.no, .no, .no, .no, .no, .no) rfl ?_ ?_⟩
  · intro pre tn post hl e
    have hlen := congrArg List.length hl
    rw [len_rgI, List.length_append, List.length_cons] at hlen
    have h8 : offP p q ≤ 8 := by unfold offP; omega
    have hrs := sh_len B q pre [([], p)]
    have hwl := sh_wlen B q pre [([], p)] 0 (fun x hx => by simp at hx; subst hx; rfl)
    rw [Nat.zero_add] at hwl
    generalize pre.foldl (fun r _ => shTurn B q r) [([], p)] = rs at hrs hwl
    have hrs2 : rs.length ≤ 256 := by
      have : 2 ^ pre.length ≤ 2 ^ 8 := Nat.pow_le_pow_right (by decide) (by omega)
      simp at hrs; omega
    walk_at "rd"
    refine loop_fold rs (fun (b : List (List Pc × Pr)) (e : Slo × Slo × Slo × Slo) => [.fz (bkD B), .fz (.tuple [.int p.1, .int p.2]), .fz (.tuple [.int q.1, .int q.2]), .fz (encL rs), .fz (.int tn), .ow (encL b), e.1, e.2.1, e.2.2.1, e.2.2.2]) (shRow B q) [] (e.2.2.1, e.2.2.2.1, e.2.2.2.2.1, e.2.2.2.2.2) rfl ?_ ?_
    · rintro pre2 ⟨w, here⟩ post2 hl2 e2
      have l2 := shRow_len B q pre2 []
      have l3 := congrArg List.length hl2
      rw [List.length_append, List.length_cons] at l3
      walk_at "rd"
      refine loop_fold (en := fun k : Pc => PyData.int k.v) [.z, .o] (fun (b : List (List Pc × Pr)) (e : Slo × Slo) => [.fz (bkD B), .fz (.tuple [.int p.1, .int p.2]), .fz (.tuple [.int q.1, .int q.2]), .fz (encL rs), .fz (.int tn), .ow (encL b), .fz (.tuple (w.map enc)), .fz (.tuple [.int here.1, .int here.2]), e.1, e.2]) (shStep B q w here) _ (e2.2.2.1, e2.2.2.2) rfl ?_ ?_
      · intro pre3 k post3 hl3 e3
        have l4 := shStep_len B q w here pre3 (pre2.foldl (shRow B q) [])
        have l5 := congrArg List.length hl3
        generalize pre3.foldl (shStep B q w here) (pre2.foldl (shRow B q) []) = bb at l4
        walk_at "rd"
        simp only [u_lets, u_behind]
        have hw : w.length = pre.length := hwl _ (by rw [hl2]; exact List.mem_append_right _ (List.mem_cons_self ..))
        have l6 : bb.length < 100000 := by
          rw [List.length_append, List.length_cons] at l5; simp at l2 l5; omega
        by_cases h1 : co here k = co q k
        · exact .inl ⟨h1, by rw [shStep, if_neg (fun z => z.1 h1)]⟩
        · refine .inr ⟨h1, ?_⟩
          show (PyData.bool (lets B (co here k) (co here k.n) (decide (co here k < co q k))) = _ ∧ _) ∨ _
          cases hc : lets B (co here k) (co here k.n) (decide (co here k < co q k))
          · exact .inl ⟨rfl, by rw [shStep, if_neg (fun z => by rw [hc] at z; exact absurd z.2 (by decide))]⟩
          · refine .inr ⟨rfl, by omega, l6, ?_⟩
            rw [shStep, if_pos ⟨h1, hc⟩, List.map_append]
            simp only [List.map_cons, List.map_nil, enc_p, enc_l, List.map_append, enc_k]
      · intro e3
        exact ⟨rfl, _, _, _, _, rfl⟩
    · intro e2
      walk_at "rd"
      rfl
  · intro e
    generalize hrs : (rgI 0 (offP p q)).foldl (fun r _ => shTurn B q r) [([], p)] = rs
    have h8 : offP p q ≤ 8 := by unfold offP; omega
    have hlen := sh_len B q (rgI 0 (offP p q)) [([], p)]
    rw [hrs, len_rgI] at hlen
    have h9 : 2 ^ (offP p q - 0).toNat ≤ 2 ^ 8 := Nat.pow_le_pow_right (by decide) (by omega)
    walk_at "rd"
    refine lc_allE rs (fun x => x.1) (by simp only [List.length_cons, List.length_nil, Nat.zero_add, Nat.one_mul] at hlen; omega) (fun x hx K1 k1 => ?_) ?_
    · walk_at "rd"
      exact k1
    · unfold shuf at h
      rw [hrs] at h
      exact h

end
end HB

set_option Elab.async false
set_option linter.all false
set_option maxRecDepth 100000
set_option maxHeartbeats 4000000
set_option autoImplicit false
namespace HB
open PySem PySem.Spec L2
open En (enc)
section
variable {P : Program} {w : World} {K : PySem.W.Frag} {mg : Str → Option Value} {base : Heap}
local macro_rules | `(tactic| walk_at "rd") => `(tactic| simp [-List.any_eq_true, -List.any_eq_false, sSeq, sIf, sRt, sNx, sAs, sOw, sFz, sDo, sNo, sApp, gNm, gTp_t, gC_c, gN_n, xB, xZ, xA, xK, getZ, getA, fzz, x2, xAnd, xOr, xNot, xAndV, xOrV, xNotV, xIf, xChain, xFn, xTup, xLst, xNil, xCons, xCatL, xCatT, xSlL, xSlT, xNoP, xSoP, xThenL, xTupOf, xRngL, xSort, xSortSet, xSortK, xSumV, xDget, xDictOf, xTIndex, xTupF, xCatF, xRevT, xRngL3, xRngT, xRow, gRow, xLen0, xCell, xCallR, xIsi, xIsi2, xCall, xDnew, xDone, xGetD, xInD, xYes, sFor, iL, iT, iR1, iR2, iR3, iEnT, iEnL, iKs, iLn, xLc, kOk_p, any_p, dlk_p, put_p, dne0_p, deq0_p, dne0_i, dne0_w, deq0_w, encM_len, sMix, xMo, xMf, xMn, setS, gSbD, gSb, cut_take, cut_drop, ex2_eq, kOk_kk, put_kk, kOk_k3, dlk_k3, put_k3, itw0, itw1, wb_nt, wb_tu, wb_len, kOk_h, dlk_h, put_h, getD_h, sAugM, rngD_0, wip, dseq_t, dseq_l, deq_il, rngD_rg, dnD_dn, disN_n, dnotN_n, isNo, start', startR, rwAt, rwSet, dint, itb0, itb1, itb2, bk_nt, bk_tu, bk_len, encL_list, list_encL, len_L, len_l, len_t, it2_0, it2_1, it3_0, it3_1, it3_2, il2_0, il2_1, il1_0, it2_v, it2_n, icmp_i, isub_i, iadd_i, din_i, din_iL, deq_i, dne_i, deq_b, dne_b, nd_i, nd_b, nd_s, nd_n, nd_l, nd_t, ik_ii, ik_ib, ik_tt, small, dabs, dmax2, sum_L, enc_i, enc_b, enc_k, enc_p, enc_3, enc_l])
def S_bounds : SpT := fun ds W => ∃ (words : List (List Pc)) (many : Int), ds = [encL words, .int many] ∧ (many ≤ 1000 ∧ 0 ≤ many) ∧ words.length ≤ 1000 ∧ (words = [] → many = 0) ∧ (∀ w ∈ words, w.length ≤ 1000 ∧ many ≤ ((w.filter fun k => decide (k = Pc.z)).length : Int)) ∧ W (.list ((bnds words many).map limD))
theorem ln_bounds {ds : List PyData} {W : PyData → Prop} (h : S_bounds ds W) : ds.length = 2 := by obtain ⟨_, _, e, _⟩ := h; rw [e]; rfl
theorem df_bounds (h_enumerate : mg "enumerate" = none) (h_len : mg "len" = none) (h_max : mg "max" = none) (h_min : mg "min" = none) (h_range : mg "range" = none) (Fn_bounds : Fn K mg "bounds" "bounds" 26) : Df P w K mg base "bounds" 1 S_bounds := by
  refine mkfn Fn_bounds sc_bounds (fun kV doc pm an cdv ct us h => by rcases us with _ | ⟨x0, _ | ⟨x1, _ | ⟨x2, r2⟩⟩⟩ <;> first | rfl | (simp at h)) (by intro ds W h; exact ln_bounds h) fun f cdv A outer s H F E hr => ⟨_, (jbcons (jown (i := 2) sc_bounds.nd (jlst jnil))
    (jbcons (jfor (pr := false) PassesOwn.never rfl (jiR1 h_range (jccons (ja 1) jcnil)) (jgn (i := 3) sc_bounds.nd) (jbcons (jown (i := 4) sc_bounds.nd (jlst jnil))
    (jbcons (jfor (pr := false) PassesOwn.never rfl (jiL (jz 0)) (jgn (i := 5) sc_bounds.nd) (jbcons (jset (i := 6) sc_bounds.nd (jix (jc_f (jlc [("at", 7), ("place", 8)] rfl sc_bounds.nd (jiEnT h_enumerate (jz 5)) (blkOk_by (N := N_bounds) (sc := defScope (top 26)) (own := [("at", 7), ("place", 8)]) (by decide +kernel)) (fun _ _ _ _ _ => (jgtp rfl (jgcons (jgn (i := 7) sc_bounds.nd) (jgcons (jgn (i := 8) sc_bounds.nd) jgnil)))) (fun _ _ _ _ _ => (jtone (jcmpT (o_eq hr.units) (ja 8) (jc ji)))) (fun _ _ _ _ _ => (jz 7)))) (ja 3)))
    (jbone (japp 4 (pv 4) (jcallB b_len h_len (jccons (jc_f (jlc [("place", 8)] rfl sc_bounds.nd (jiT (jslT (jz 5) jno (jso (ja 6)))) (blkOk_by (N := N_bounds) (sc := defScope (top 26)) (own := [("place", 8)]) (by decide +kernel)) (fun _ _ _ _ _ => (jgn (i := 8) sc_bounds.nd)) (fun _ _ _ _ _ => (jtone (jcmpT (o_eq hr.units) (ja 8) (jc ji)))) (fun _ _ _ _ _ => (jz 8)))) jcnil))))))
    (jbone (japp 2 (pv 2) (jtup (jcons (jcallB (b_minL rfl) h_min (jccons (ja 4) jcnil)) (jcons (jcallB (b_maxL rfl) h_max (jccons (ja 4) jcnil)) jnil))))))))
    (jbone (jfz 2 (jret (jz 2)))))), ?_⟩
  intro ds W h
  obtain ⟨words, many, rfl, hm, hw, h00, hww, h⟩ := h
  walk_at "rd"
  refine ⟨by omega, loop_fold (rgI 0 many) (fun (b : List (Int × Int)) (e : Slo × Slo × Slo × Slo) => [.fz (encL words), .fz (.int many), .ow (.list (b.map limD)), e.1, e.2.1, e.2.2.1, e.2.2.2, .no, .no]) (fun b i => b ++ [bnd1 words i]) [] (.no, .no, .no, .no) rfl ?_ ?_⟩
  · intro pre i post hl e
    have hi : 0 ≤ i ∧ i < many := mem_rgI.mp (by rw [hl]; exact List.mem_append_right _ (List.mem_cons_self ..))
    have hne : words ≠ [] := fun z => by have := h00 z; omega
    have hlen := congrArg List.length hl
    rw [len_rgI, List.length_append, List.length_cons] at hlen
    have hbl : (pre.foldl (fun b i => b ++ [bnd1 words i]) []).length = pre.length := by
      have : ∀ (l : List Int) (b : List (Int × Int)), (l.foldl (fun b i => b ++ [bnd1 words i]) b).length = b.length + l.length := by
        intro l
        induction l with
        | nil => intro b; simp
        | cons a l ih => intro b; rw [List.foldl_cons, ih]; simp; omega
      rw [this]; simp
    generalize pre.foldl (fun b i => b ++ [bnd1 words i]) [] = bb at hbl
    walk_at "rd"
    refine loop_fold words (fun (b : List Int) (e : Slo × Slo) => [.fz (encL words), .fz (.int many), .ow (.list (bb.map limD)), .fz (.int i), .ow (encL b), e.1, e.2, .no, .no]) (fun b w => b ++ [azi i w]) [] (e.2.2.1, e.2.2.2) rfl ?_ ?_
    · intro pre2 w post2 hl2 e2
      obtain ⟨hw1, hw2⟩ := hww w (by rw [hl2]; exact List.mem_append_right _ (List.mem_cons_self ..))
      have l2 := congrArg List.length hl2
      rw [List.length_append, List.length_cons] at l2
      have hb2 : (pre2.foldl (fun b w => b ++ [azi i w]) []).length = pre2.length := by
        have : ∀ (l : List (List Pc)) (b : List Int), (l.foldl (fun b w => b ++ [azi i w]) b).length = b.length + l.length := by
          intro l
          induction l with
          | nil => intro b; simp
          | cons a l ih => intro b; rw [List.foldl_cons, ih]; simp; omega
        rw [this]; simp
      generalize pre2.foldl (fun b w => b ++ [azi i w]) [] = b2 at hb2
      have hz : i.toNat < (azG w 0).length := by rw [azG_len]; omega
      obtain ⟨p1, p2⟩ := posG_az w 0 0 i.toNat
      rw [List.getElem?_eq_getElem hz, Option.isSome_some] at p1
      obtain ⟨s, hs⟩ := Option.isSome_iff_exists.mp p1
      obtain ⟨_, ha⟩ := p2 s hs
      rw [Nat.zero_add, Nat.sub_zero] at ha
      walk_at "rd"
      refine lc_of (en := fun (i : Nat) => .tuple [.int (i : Nat), (w.map enc).getD i .none]) (List.range (w.map enc).length) (fun i => decide (w[i]? = some Pc.z)) (fun (i : Nat) => PyData.int (i : Nat)) (by simp; omega) (fun j hj K1 K0 k1 k0 => ?_) ?_
      · have hj2 : j < w.length := by simpa using List.mem_range.mp hj
        have e1 : (w.map enc).getD j .none = PyData.int (w[j]).v := by simp [hj2, enc_k]
        have e2 : w[j]? = some w[j] := List.getElem?_eq_getElem hj2
        rw [e1]
        walk_at "rd"
        rw [e2] at k1 k0
        cases hk : w[j]
        · rw [hk] at k1
          exact .inr ⟨rfl, k1 (by simp)⟩
        · rw [hk] at k0
          exact .inl ⟨by decide, k0 (by simp)⟩
      · rw [List.length_map, posG_filter]
        have hit : ditem (.list ((posG w 0).map fun (i : Nat) => PyData.int (i : Nat))) (.int i) = some (.int (s : Nat)) := by
          rw [it_L _ hi.1, List.getElem?_map, hs]; rfl
        rw [hit]
        walk_at "rd"
        rw [← List.map_take]
        refine lc_ofE (w.take s) (fun k => decide (k = Pc.o)) (fun k => k) (by rw [List.length_take]; omega) (fun k hk K1 K0 k1 k0 => ?_) ?_
        · walk_at "rd"
          cases k
          · exact .inl ⟨by decide, k0 (by decide)⟩
          · exact .inr ⟨rfl, k1 (by decide)⟩
        · walk_at "rd"
          refine ⟨by omega, ?_⟩
          have ea : azi i w = ((((w.take s).filter fun k => decide (k = Pc.o)).length : Nat) : Int) := by
            unfold azi; rw [ha]; rfl
          rw [ea]
    · intro e2
      rw [fold_snoc, List.nil_append]
      have hne2 : words.map (azi i) ≠ [] := fun z => hne (List.map_eq_nil_iff.mp z)
      walk_at "rd"
      refine dminL_of hne2 (dmaxL_of hne2 ?_)
      refine ⟨by omega, ?_⟩
      rfl
  · intro e
    rw [fold_snoc, List.nil_append]
    walk_at "rd"
    unfold bnds at h
    rw [List.map_map] at h
    exact h

end
end HB

set_option Elab.async false
set_option linter.all false
set_option maxRecDepth 100000
set_option maxHeartbeats 4000000
set_option autoImplicit false
namespace HB
open PySem PySem.Spec L2
open En (enc)
section
variable {P : Program} {w : World} {K : PySem.W.Frag} {mg : Str → Option Value} {base : Heap}
local macro_rules | `(tactic| walk_at "rd") => `(tactic| simp [-List.any_eq_true, -List.any_eq_false, sSeq, sIf, sRt, sNx, sAs, sOw, sFz, sDo, sNo, sApp, gNm, gTp_t, gC_c, gN_n, xB, xZ, xA, xK, getZ, getA, fzz, x2, xAnd, xOr, xNot, xAndV, xOrV, xNotV, xIf, xChain, xFn, xTup, xLst, xNil, xCons, xCatL, xCatT, xSlL, xSlT, xNoP, xSoP, xThenL, xTupOf, xRngL, xSort, xSortSet, xSortK, xSumV, xDget, xDictOf, xTIndex, xTupF, xCatF, xRevT, xRngL3, xRngT, xRow, gRow, xLen0, xCell, xCallR, xIsi, xIsi2, xCall, xDnew, xDone, xGetD, xInD, xYes, sFor, iL, iT, iR1, iR2, iR3, iEnT, iEnL, iKs, iLn, xLc, kOk_p, any_p, dlk_p, put_p, dne0_p, deq0_p, dne0_i, dne0_w, deq0_w, encM_len, sMix, xMo, xMf, xMn, setS, gSbD, gSb, cut_take, cut_drop, ex2_eq, kOk_kk, put_kk, kOk_k3, dlk_k3, put_k3, itw0, itw1, wb_nt, wb_tu, wb_len, kOk_h, dlk_h, put_h, getD_h, sAugM, rngD_0, wip, dseq_t, dseq_l, deq_il, rngD_rg, dnD_dn, disN_n, dnotN_n, isNo, start', startR, rwAt, rwSet, dint, itb0, itb1, itb2, bk_nt, bk_tu, bk_len, encL_list, list_encL, len_L, len_l, len_t, it2_0, it2_1, it3_0, it3_1, it3_2, il2_0, il2_1, il1_0, it2_v, it2_n, icmp_i, isub_i, iadd_i, din_i, din_iL, deq_i, dne_i, deq_b, dne_b, nd_i, nd_b, nd_s, nd_n, nd_l, nd_t, ik_ii, ik_ib, ik_tt, small, dabs, dmax2, sum_L, enc_i, enc_b, enc_k, enc_p, enc_3, enc_l])
def S_told_in : SpT := fun ds W => ∃ (B : Bk) (p q : Pr), ds = [bkD B, enc p, enc q] ∧ box B.r p ∧ box B.r q ∧ B.r ≤ 4 ∧ shuf B p q ≠ [] ∧ W (encL (toldP B p q))
theorem ln_told_in {ds : List PyData} {W : PyData → Prop} (h : S_told_in ds W) : ds.length = 3 := by obtain ⟨_, _, _, e, _⟩ := h; rw [e]; rfl
theorem u_told_in {B : Bk} {a b c d : Int} (h1 : box B.r (a, b)) (h2 : box B.r (c, d)) (h3 : B.r ≤ 4) (h4 : shuf B (a, b) (c, d) ≠ []) {W : PyData → Prop} (h : W (encL (toldP B (a, b) (c, d)))) : S_told_in [bkD B, .tuple [.int a, .int b], .tuple [.int c, .int d]] W := ⟨B, (a, b), (c, d), rfl, h1, h2, h3, h4, h⟩
theorem df_told_in (G_shuffles_in : Df P w K mg base "shuffles_in" 2 S_shuffles_in) (G_way : Df P w K mg base "way" 1 S_way) (G_bounds : Df P w K mg base "bounds" 1 S_bounds) (h_enumerate : mg "enumerate" = none) (h_len : mg "len" = none) (h_range : mg "range" = none) (h_sorted : mg "sorted" = none) (Fn_told_in : Fn K mg "told_in" "told_in" 27) : Df P w K mg base "told_in" 3 S_told_in := by
  refine mkfn Fn_told_in sc_told_in (fun kV doc pm an cdv ct us h => by rcases us with _ | ⟨x0, _ | ⟨x1, _ | ⟨x2, _ | ⟨x3, r3⟩⟩⟩⟩ <;> first | rfl | (simp at h)) (by intro ds W h; exact ln_told_in h) fun f cdv A outer s H F E hr => ⟨_, (jbcons (jpar2 (is_ := [3, 4]) sc_told_in.nd (jmfz (jcall G_shuffles_in ⟨rfl, rfl⟩ hr (jcons (jz 0) (jcons (jz 1) (jcons (jz 2) jnil)))) (jmfz (je_f (jlst jnil)) jmnil)))
    (jbcons (jas (pr := false) (jtup (jcons (jcall G_way ⟨rfl, rfl⟩ (hr.mono (by decide)) (jcons (jix (ja 1) (jc ji)) (jcons (jix (ja 2) (jc ji)) jnil))) (jcons (jcall G_way ⟨rfl, rfl⟩ (hr.mono (by decide)) (jcons (jix (ja 1) (jc ji)) (jcons (jix (ja 2) (jc ji)) jnil))) jnil))) (jgtp rfl (jgcons (jgn (i := 5) sc_told_in.nd) (jgcons (jgn (i := 6) sc_told_in.nd) jgnil))))
    (jbcons (jfor (pr := false) PassesOwn.never rfl (jiEnL h_enumerate (jcall G_bounds ⟨rfl, rfl⟩ (hr.mono (by decide)) (jcons (jz 3) (jcons (jcallB b_len h_len (jccons (ja 5) jcnil)) jnil)))) (jgtp rfl (jgcons (jgn (i := 7) sc_told_in.nd) (jgcons (jgtp rfl (jgcons (jgn (i := 8) sc_told_in.nd) (jgcons (jgn (i := 9) sc_told_in.nd) jgnil))) jgnil))) (jbcons (jset (i := 4) sc_told_in.nd (je_f (jcatL (ja 4) (jc_f (jlc [("k", 10)] rfl sc_told_in.nd (jiR1 h_range (jccons (ja 8) jcnil)) (blkOk_by (N := N_told_in) (sc := defScope (top 27)) (own := [("k", 10)]) (by decide +kernel)) (fun _ _ _ _ _ => (jgn (i := 10) sc_told_in.nd)) (fun _ _ _ _ _ => jtnil) (fun _ _ _ _ _ => (jtup (jcons (jtup (jcons ji (jcons (jix (ja 6) (ja 10)) jnil))) (jcons (jtup (jcons ji (jcons (jix (ja 5) (ja 7)) jnil))) jnil)))))))))
    (jbone (jset (i := 4) sc_told_in.nd (je_f (jcatL (ja 4) (jc_f (jlc [("k", 10)] rfl sc_told_in.nd (jiR2 h_range (jccons (ja 9) (jccons (jc (jcallB b_len h_len (jccons (ja 6) jcnil))) jcnil))) (blkOk_by (N := N_told_in) (sc := defScope (top 27)) (own := [("k", 10)]) (by decide +kernel)) (fun _ _ _ _ _ => (jgn (i := 10) sc_told_in.nd)) (fun _ _ _ _ _ => jtnil) (fun _ _ _ _ _ => (jtup (jcons (jtup (jcons ji (jcons (jix (ja 5) (ja 7)) jnil))) (jcons (jtup (jcons ji (jcons (jix (ja 6) (ja 10)) jnil))) jnil))))))))))))
    (jbone (jret (je_f (jsort rfl hr.u_s h_sorted (ja 4)))))))), ?_⟩
  intro ds W h
  obtain ⟨B, p, q, rfl, hp, hq, hr, hne, h⟩ := h
  have hp' := hp
  have hq' := hq
  obtain ⟨⟨hp1, hp2⟩, hp3, hp4⟩ := hp'
  obtain ⟨⟨hq1, hq2⟩, hq3, hq4⟩ := hq'
  have hmany := shuf_many hp hq hr
  walk_at "rd"
  rw [u_shuffles_in hp hq hr, u_way (by omega), u_way (by omega)]
  walk_at "rd"
  refine ⟨shuf B p q, ((wayI p.1 q.1).length : Int), rfl, by rw [len_wayI]; omega, by omega, fun z => absurd z hne, fun w hw => ?_, ?_⟩
  · obtain ⟨h1, h2, h3⟩ := shuf_len hw
    rw [len_wayI]
    unfold zc at h1 h3
    have h4 : oc w ≤ 10 := by omega
    unfold oc at h4 h3
    omega
  have elim : bnds (shuf B p q) ((wayI p.1 q.1).length : Int) = tdLims B p q := rfl
  rw [elim]
  have hla := fun i l => @lim_at B p q i l hne
  have hll := tdLims_len B p q
  have hs10 : (wayI p.2 q.2).length ≤ 10 := by rw [len_wayI]; omega
  have hf10 : (wayI p.1 q.1).length ≤ 10 := by rw [len_wayI]; omega
  have hbl := fun (l : List Nat) => tdStep_len (f := wayI p.1 q.1) hs10 (lims := tdLims B p q) (fun i l h => by have := hla i l h; omega) l []
  generalize hL : tdLims B p q = lims at hla hll hbl
  refine ⟨lims.map limD, rfl, ?_⟩
  refine loop_fold (en := fun (i : Nat) => .tuple [.int (i : Nat), (lims.map limD).getD i .none]) (List.range (lims.map limD).length) (fun (b : List (Ev × Ev)) (e : Slo × Slo × Slo) => [.fz (bkD B), .fz (.tuple [.int p.1, .int p.2]), .fz (.tuple [.int q.1, .int q.2]), .fz (encL (shuf B p q)), .fz (encL b), .fz (encL (wayI p.1 q.1)), .fz (encL (wayI p.2 q.2)), e.1, e.2.1, e.2.2, .no]) (tdStep (wayI p.1 q.1) (wayI p.2 q.2) lims) [] (.no, .no, .no) rfl ?_ ?_
  · intro pre i post hl e
    have hi : i < lims.length := by
      have : i ∈ List.range (lims.map limD).length := by rw [hl]; exact List.mem_append_right _ (List.mem_cons_self ..)
      simpa using List.mem_range.mp this
    have ei : lims[i]? = some lims[i] := List.getElem?_eq_getElem hi
    obtain ⟨a1, a2, a3⟩ := hla i _ ei
    have hb := hbl pre
    have hpl := congrArg List.length hl
    rw [List.length_range, List.length_map, List.length_append, List.length_cons] at hpl
    generalize hbb : pre.foldl (tdStep (wayI p.1 q.1) (wayI p.2 q.2) lims) [] = bb at hb
    have eg : (lims.map limD).getD i .none = .tuple [.int (lims[i]).1, .int (lims[i]).2] := by simp [hi, limD]
    rw [eg]
    have es : tdStep (wayI p.1 q.1) (wayI p.2 q.2) lims bb i = (bb ++ (rgI 0 (lims[i]).1).map fun k => ((Pc.o, getI (wayI p.2 q.2) k), (Pc.z, getI (wayI p.1 q.1) i))) ++ (rgI (lims[i]).2 (wayI p.2 q.2).length).map fun k => ((Pc.z, getI (wayI p.1 q.1) i), (Pc.o, getI (wayI p.2 q.2) k)) := by
      unfold tdStep; rw [ei]; rfl
    rw [es]
    generalize lims[i] = li at a1 a2 a3
    obtain ⟨l, u⟩ := li
    simp only at a1 a2 a3
    simp at hb
    walk_at "rd"
    refine ⟨by omega, lc_allE (rgI 0 l) (fun k => ((Pc.o, getI (wayI p.2 q.2) k), (Pc.z, getI (wayI p.1 q.1) i))) (by rw [len_rgI]; omega) (fun k hk K1 k1 => ?_) ?_⟩
    · rw [mem_rgI] at hk
      have i1 := it_I (wayI p.2 q.2) hk.1 (by omega)
      have i2 := it_I (wayI p.1 q.1) (i := (i : Int)) (by omega) (by omega)
      walk_at "rd"
      rw [i1, i2]
      walk_at "rd"
      exact k1
    · walk_at "rd"
      refine ⟨by rw [len_rgI]; omega, by omega, lc_allE (rgI u (wayI p.2 q.2).length) (fun k => ((Pc.z, getI (wayI p.1 q.1) i), (Pc.o, getI (wayI p.2 q.2) k))) (by rw [len_rgI]; omega) (fun k hk K1 k1 => ?_) ?_⟩
      · rw [mem_rgI] at hk
        have i1 := it_I (wayI p.2 q.2) (i := k) (by omega) (by omega)
        have i2 := it_I (wayI p.1 q.1) (i := (i : Int)) (by omega) (by omega)
        walk_at "rd"
        rw [i1, i2]
        walk_at "rd"
        exact k1
      · walk_at "rd"
        rw [len_rgI, len_rgI]; omega
  · intro e
    have hb := hbl (List.range (lims.map limD).length)
    rw [List.length_range, List.length_map] at hb
    have hrw : tdRaw B p q = (List.range lims.length).foldl (tdStep (wayI p.1 q.1) (wayI p.2 q.2) lims) [] := by unfold tdRaw; rw [hL]
    rw [List.length_map, ← hrw]
    rw [← hrw, List.length_nil] at hb
    walk_at "rd"
    refine ⟨sortOk_E (tdRaw B p q) (by omega), ?_⟩
    rw [sortD_E]
    exact h

end
end HB

set_option Elab.async false
set_option linter.all false
set_option maxRecDepth 100000
set_option maxHeartbeats 4000000
set_option autoImplicit false
namespace HB
open PySem PySem.Spec L2
open En (enc)
section
variable {P : Program} {w : World} {K : PySem.W.Frag} {mg : Str → Option Value} {base : Heap}
local macro_rules | `(tactic| walk_at "rd") => `(tactic| simp [-List.any_eq_true, -List.any_eq_false, sSeq, sIf, sRt, sNx, sAs, sOw, sFz, sDo, sNo, sApp, gNm, gTp_t, gC_c, gN_n, xB, xZ, xA, xK, getZ, getA, fzz, x2, xAnd, xOr, xNot, xAndV, xOrV, xNotV, xIf, xChain, xFn, xTup, xLst, xNil, xCons, xCatL, xCatT, xSlL, xSlT, xNoP, xSoP, xThenL, xTupOf, xRngL, xSort, xSortSet, xSortK, xSumV, xDget, xDictOf, xTIndex, xTupF, xCatF, xRevT, xRngL3, xRngT, xRow, gRow, xLen0, xCell, xCallR, xIsi, xIsi2, xCall, xDnew, xDone, xGetD, xInD, xYes, sFor, iL, iT, iR1, iR2, iR3, iEnT, iEnL, iKs, iLn, xLc, kOk_p, any_p, dlk_p, put_p, dne0_p, deq0_p, dne0_i, dne0_w, deq0_w, encM_len, sMix, xMo, xMf, xMn, setS, gSbD, gSb, cut_take, cut_drop, ex2_eq, kOk_kk, put_kk, kOk_k3, dlk_k3, put_k3, itw0, itw1, wb_nt, wb_tu, wb_len, kOk_h, dlk_h, put_h, getD_h, sAugM, rngD_0, wip, dseq_t, dseq_l, deq_il, rngD_rg, dnD_dn, disN_n, dnotN_n, isNo, start', startR, rwAt, rwSet, dint, itb0, itb1, itb2, bk_nt, bk_tu, bk_len, encL_list, list_encL, len_L, len_l, len_t, it2_0, it2_1, it3_0, it3_1, it3_2, il2_0, il2_1, il1_0, it2_v, it2_n, icmp_i, isub_i, iadd_i, din_i, din_iL, deq_i, dne_i, deq_b, dne_b, nd_i, nd_b, nd_s, nd_n, nd_l, nd_t, ik_ii, ik_ib, ik_tt, small, dabs, dmax2, sum_L, enc_i, enc_b, enc_k, enc_p, enc_3, enc_l])
def S_is_told_in : SpT := fun ds W => ∃ (B : Bk) (p q : Pr), ds = [bkD B, enc p, enc q] ∧ box B.r p ∧ box B.r q ∧ B.r ≤ 4 ∧ shuf B p q ≠ [] ∧ W (.bool (isTold B p q))
theorem ln_is_told_in {ds : List PyData} {W : PyData → Prop} (h : S_is_told_in ds W) : ds.length = 3 := by obtain ⟨_, _, _, e, _⟩ := h; rw [e]; rfl
theorem u_is_told_in {B : Bk} {a b c d : Int} (h1 : box B.r (a, b)) (h2 : box B.r (c, d)) (h3 : B.r ≤ 4) (h4 : shuf B (a, b) (c, d) ≠ []) {W : PyData → Prop} (h : W (.bool (isTold B (a, b) (c, d)))) : S_is_told_in [bkD B, .tuple [.int a, .int b], .tuple [.int c, .int d]] W := ⟨B, (a, b), (c, d), rfl, h1, h2, h3, h4, h⟩
theorem df_is_told_in (G_shuffles_in : Df P w K mg base "shuffles_in" 2 S_shuffles_in) (G_bounds : Df P w K mg base "bounds" 1 S_bounds) (G_counted : Df P w K mg base "counted" 1 S_counted) (h_abs : mg "abs" = none) (h_len : mg "len" = none) (Fn_is_told_in : Fn K mg "is_told_in" "is_told_in" 29) : Df P w K mg base "is_told_in" 3 S_is_told_in := by
  refine mkfn Fn_is_told_in sc_is_told_in (fun kV doc pm an cdv ct us h => by rcases us with _ | ⟨x0, _ | ⟨x1, _ | ⟨x2, _ | ⟨x3, r3⟩⟩⟩⟩ <;> first | rfl | (simp at h)) (by intro ds W h; exact ln_is_told_in h) fun f cdv A outer s H F E hr => ⟨_, (jbcons (jset (i := 3) sc_is_told_in.nd (jcall G_shuffles_in ⟨rfl, rfl⟩ hr (jcons (jz 0) (jcons (jz 1) (jcons (jz 2) jnil)))))
    (jbone (jret (jcmp (o_eq hr.units) (jc (jcall G_counted ⟨rfl, rfl⟩ (hr.mono (by decide)) (jcons (jcall G_bounds ⟨rfl, rfl⟩ (hr.mono (by decide)) (jcons (jz 3) (jcons (jcallB b_abs h_abs (jccons (jc (jsub (jc (jix (ja 1) (jc ji))) (jc (jix (ja 2) (jc ji))))) jcnil)) jnil))) jnil))) (jc (jcallB b_len h_len (jccons (ja 3) jcnil))))))), ?_⟩
  intro ds W h
  obtain ⟨B, p, q, rfl, hp, hq, hr, hne, h⟩ := h
  have hp' := hp
  have hq' := hq
  obtain ⟨⟨hp1, hp2⟩, hp3, hp4⟩ := hp'
  obtain ⟨⟨hq1, hq2⟩, hq3, hq4⟩ := hq'
  have hmany := shuf_many hp hq hr
  walk_at "rd"
  rw [u_shuffles_in hp hq hr]
  refine ⟨shuf B p q, ((p.1 - q.1).natAbs : Int), rfl, by omega, by omega, fun z => absurd z hne, fun w hw => ?_, ?_⟩
  · obtain ⟨h1, h2, h3⟩ := shuf_len hw
    unfold zc at h1 h3
    have h4 : oc w ≤ 10 := by omega
    unfold oc at h4 h3
    omega
  have elim : bnds (shuf B p q) ((p.1 - q.1).natAbs : Int) = tdLims B p q := by unfold tdLims; rw [len_wayI]
  rw [elim]
  refine ⟨tdLims B p q, rfl, lims_ok hne hp hq hr, ?_⟩
  walk_at "rd"
  exact h

def S_courses_in : SpT := fun ds W => ∃ (B : Bk), ds = [bkD B] ∧ 0 ≤ B.r ∧ B.r ≤ 4 ∧ W (encL (courses B))
theorem ln_courses_in {ds : List PyData} {W : PyData → Prop} (h : S_courses_in ds W) : ds.length = 1 := by obtain ⟨_, e, _⟩ := h; rw [e]; rfl
theorem u_courses_in {B : Bk} (h0 : 0 ≤ B.r) (h1 : B.r ≤ 4) {W : PyData → Prop} : S_courses_in [bkD B] W ↔ W (encL (courses B)) := ⟨fun ⟨B', e, _, _, h⟩ => by
  simp only [List.cons.injEq, and_true] at e
  rw [bkD_inj e]; exact h, fun h => ⟨B, rfl, h0, h1, h⟩⟩
theorem df_courses_in (G_all_pairs : Df P w K mg base "all_pairs" 1 S_all_pairs) (G_shuffles_in : Df P w K mg base "shuffles_in" 2 S_shuffles_in) (Fn_courses_in : Fn K mg "courses_in" "courses_in" 30) : Df P w K mg base "courses_in" 3 S_courses_in := by
  refine mkfn Fn_courses_in sc_courses_in (fun kV doc pm an cdv ct us h => by rcases us with _ | ⟨x0, _ | ⟨x1, r1⟩⟩ <;> first | rfl | (simp at h)) (by intro ds W h; exact ln_courses_in h) fun f cdv A outer s H F E hr => ⟨_, (jbcons (jpar2 (is_ := [1, 2]) sc_courses_in.nd (jmfz (jcall G_all_pairs ⟨rfl, rfl⟩ (hr.mono (by decide)) (jcons (jix (ja 0) (jc ji)) jnil)) (jmfz (je_f (jlst jnil)) jmnil)))
    (jbcons (jfor (pr := false) PassesOwn.never rfl (jiL (jz 1)) (jgn (i := 3) sc_courses_in.nd) (jbone (jset (i := 2) sc_courses_in.nd (je_f (jcatL (ja 2) (jc_f (jlc [("other", 4)] rfl sc_courses_in.nd (jiL (jz 1)) (blkOk_by (N := N_courses_in) (sc := defScope (top 30)) (own := [("other", 4)]) (by decide +kernel)) (fun _ _ _ _ _ => (jgn (i := 4) sc_courses_in.nd)) (fun _ _ _ _ _ => (jtone (jcmpT (o_ne hr.units) (jc (jcall G_shuffles_in ⟨rfl, rfl⟩ hr (jcons (jz 0) (jcons (jz 3) (jcons (jz 4) jnil))))) (jc_f (jlst jnil))))) (fun _ _ _ _ _ => (jtup (jcons (jz 3) (jcons (jz 4) jnil)))))))))))
    (jbone (jret (jz 2))))), ?_⟩
  intro ds W h
  obtain ⟨B, rfl, h0, h1, h⟩ := h
  walk_at "rd"
  rw [u_all_pairs ⟨h0, h1⟩]
  walk_at "rd"
  refine loop_fold (allPairs B.r) (fun (b : List (Pr × Pr)) (e : Slo) => [.fz (bkD B), .fz (encL (allPairs B.r)), .fz (encL b), e, .no]) (coStep B) [] .no rfl ?_ ?_
  · intro pre p post hl e
    have hp : box B.r p := mem_allPairs.mp (by rw [hl]; exact List.mem_append_right _ (List.mem_cons_self ..))
    have hap := allPairs_len h1
    have hb := co_len h1 pre []
    have hpl := congrArg List.length hl
    rw [List.length_append, List.length_cons] at hpl
    generalize hbb : pre.foldl (coStep B) [] = bb at hb
    simp at hb
    rw [coStep]
    walk_at "rd"
    refine lc_ofE (allPairs B.r) (fun q => !(shuf B p q).isEmpty) (fun q => (p, q)) (by omega) (fun q hq K1 K0 k1 k0 => ?_) ?_
    · have hq' := mem_allPairs.mp hq
      walk_at "rd"
      rw [u_shuffles_in hp hq' h1]
      walk_at "rd"
      cases hc : (shuf B p q)
      · rw [hc] at k0; exact .inl ⟨rfl, k0 rfl⟩
      · rw [hc] at k1; exact .inr ⟨by simp, k1 rfl⟩
    · have := List.length_filter_le (fun q => !(shuf B p q).isEmpty) (allPairs B.r)
      walk_at "rd"
      omega
  · intro e
    walk_at "rd"
    exact h

def S_untold_in : SpT := fun ds W => ∃ (B : Bk), ds = [bkD B] ∧ 0 ≤ B.r ∧ B.r ≤ 4 ∧ (∀ p q, (p, q) ∈ courses B → isTold B p q = true) ∧ W .none
theorem ln_untold_in {ds : List PyData} {W : PyData → Prop} (h : S_untold_in ds W) : ds.length = 1 := by obtain ⟨_, e, _⟩ := h; rw [e]; rfl
theorem u_untold_in {B : Bk} (h0 : 0 ≤ B.r) (h1 : B.r ≤ 4) (T : ∀ p q, (p, q) ∈ courses B → isTold B p q = true) {W : PyData → Prop} : S_untold_in [bkD B] W ↔ W .none := ⟨fun ⟨_, _, _, _, _, h⟩ => h, fun h => ⟨B, rfl, h0, h1, T, h⟩⟩
theorem df_untold_in (G_is_told_in : Df P w K mg base "is_told_in" 3 S_is_told_in) (G_courses_in : Df P w K mg base "courses_in" 3 S_courses_in) (Fn_untold_in : Fn K mg "untold_in" "untold_in" 31) : Df P w K mg base "untold_in" 4 S_untold_in := by
  refine mkfn Fn_untold_in sc_untold_in (fun kV doc pm an cdv ct us h => by rcases us with _ | ⟨x0, _ | ⟨x1, r1⟩⟩ <;> first | rfl | (simp at h)) (by intro ds W h; exact ln_untold_in h) fun f cdv A outer s H F E hr => ⟨_, (jbcons (jfor (pr := false) PassesOwn.never rfl (jiL (jcall G_courses_in ⟨rfl, rfl⟩ hr (jcons (jz 0) jnil))) (jgtp rfl (jgcons (jgn (i := 1) sc_untold_in.nd) (jgcons (jgn (i := 2) sc_untold_in.nd) jgnil))) (jbone (jifs (jnot (jt (jc (jcall G_is_told_in ⟨rfl, rfl⟩ hr (jcons (jz 0) (jcons (jz 1) (jcons (jz 2) jnil))))))) (jbone (jret (jtup (jcons (jz 1) (jcons (jz 2) jnil))))) jbnil)))
    (jbone (jret jn))), ?_⟩
  intro ds W h
  obtain ⟨B, rfl, h0, h1, T, h⟩ := h
  walk_at "rd"
  rw [u_courses_in h0 h1]
  walk_at "rd"
  refine loop_fold (courses B) (fun (_ : Unit) (e : Slo × Slo) => [.fz (bkD B), e.1, e.2]) (fun u _ => u) () (.no, .no) rfl ?_ ?_
  · rintro pre ⟨p, q⟩ post hl e
    have hc : (p, q) ∈ courses B := by rw [hl]; exact List.mem_append_right _ (List.mem_cons_self ..)
    obtain ⟨hp, hq, hne⟩ := mem_courses.mp hc
    walk_at "rd"
    refine u_is_told_in hp hq h1 hne ?_
    have e1 : isTold B (p.1, p.2) (q.1, q.2) = true := T p q hc
    rw [e1]
    walk_at "rd"
  · intro e
    walk_at "rd"
    exact h

def S_all_kinds : SpT := fun ds W => ∃ (r : Int), ds = [.int r] ∧ 0 ≤ r ∧ r ≤ 4 ∧ W (encL (kinds r))
theorem ln_all_kinds {ds : List PyData} {W : PyData → Prop} (h : S_all_kinds ds W) : ds.length = 1 := by obtain ⟨_, e, _⟩ := h; rw [e]; rfl
theorem u_all_kinds {r : Int} (h : 0 ≤ r ∧ r ≤ 4) {W : PyData → Prop} : S_all_kinds [.int r] W ↔ W (encL (kinds r)) := by
  constructor
  · rintro ⟨r', e, _, _, h⟩
    cases e; exact h
  · exact fun z => ⟨r, rfl, h.1, h.2, z⟩
theorem df_all_kinds (G_way : Df P w K mg base "way" 1 S_way) (h_range : mg "range" = none) (h_sorted : mg "sorted" = none) (Fn_all_kinds : Fn K mg "all_kinds" "all_kinds" 33) : Df P w K mg base "all_kinds" 2 S_all_kinds := by
  refine mkfn Fn_all_kinds sc_all_kinds (fun kV doc pm an cdv ct us h => by rcases us with _ | ⟨x0, _ | ⟨x1, r1⟩⟩ <;> first | rfl | (simp at h)) (by intro ds W h; exact ln_all_kinds h) fun f cdv A outer s H F E hr => ⟨_, (jbcons (jset (i := 1) sc_all_kinds.nd (je_f (jlst jnil)))
    (jbcons (jfor (pr := false) PassesOwn.never rfl (jiR1 h_range (jccons (jc (jadd (ja 0) (jc ji))) jcnil)) (jgn (i := 2) sc_all_kinds.nd) (jbone (jfor (pr := false) PassesOwn.never rfl (jiR1 h_range (jccons (jc (jadd (ja 0) (jc ji))) jcnil)) (jgn (i := 3) sc_all_kinds.nd) (jbone (jset (i := 1) sc_all_kinds.nd (je_f (jcatL (ja 1) (jc_f (jlc [("at", 4)] rfl sc_all_kinds.nd (jiL (jcall G_way ⟨rfl, rfl⟩ hr (jcons (jz 2) (jcons (jz 3) jnil)))) (blkOk_by (N := N_all_kinds) (sc := defScope (top 33)) (own := [("at", 4)]) (by decide +kernel)) (fun _ _ _ _ _ => (jgn (i := 4) sc_all_kinds.nd)) (fun _ _ _ _ _ => jtnil) (fun _ _ _ _ _ => (jtup (jcons (jz 2) (jcons (jz 3) (jcons (jz 4) jnil))))))))))))))
    (jbone (jret (je_f (jsort rfl hr.u_s h_sorted (ja 1))))))), ?_⟩
  intro ds W h
  obtain ⟨r, rfl, h0, h1, h⟩ := h
  walk_at "rd"
  refine ⟨by omega, loop_fold (rgI 0 (r + 1)) (fun (b : List K3) (e : Slo × Slo) => [.fz (.int r), .fz (encL b), e.1, e.2, .no]) (kdRow r) [] (.no, .no) rfl ?_ ?_⟩
  · intro pre f post hl e
    have hb := kdRow_len h1 pre [] (fun x hx => rg_bound h1 x (by rw [hl]; exact List.mem_append_left _ hx))
    have hf := rg_bound h1 f (by rw [hl]; exact List.mem_append_right _ (List.mem_cons_self ..))
    have hpl := congrArg List.length hl
    rw [len_rgI, List.length_append, List.length_cons] at hpl
    generalize hbb : pre.foldl (kdRow r) [] = bb at hb
    simp at hb
    walk_at "rd"
    refine ⟨by omega, loop_fold (rgI 0 (r + 1)) (fun (b : List K3) (e : Slo) => [.fz (.int r), .fz (encL b), .fz (.int f), e, .no]) (kdStep f) bb e.2 rfl ?_ ?_⟩
    · intro pre2 l post2 hl2 e2
      have hb2 := kdStep_len hf pre2 bb (fun x hx => rg_bound h1 x (by rw [hl2]; exact List.mem_append_left _ hx))
      have hll := rg_bound h1 l (by rw [hl2]; exact List.mem_append_right _ (List.mem_cons_self ..))
      have hpl2 := congrArg List.length hl2
      rw [len_rgI, List.length_append, List.length_cons] at hpl2
      generalize hbb2 : pre2.foldl (kdStep f) bb = b2 at hb2
      rw [kdStep]
      walk_at "rd"
      rw [u_way (by omega)]
      walk_at "rd"
      refine lc_allE (en := PyData.int) (wayI f l) (fun a => (⟨f, l, a⟩ : K3)) (by rw [len_wayI]; omega) (fun a ha K1 k1 => ?_) ?_
      · walk_at "rd"
        exact k1
      · walk_at "rd"
        rw [len_wayI]; omega
    · intro e2
      exact ⟨rfl, _, _, rfl⟩
  · intro e
    have := kdRaw_len h1
    walk_at "rd"
    refine ⟨sortOk_E (kdRaw r) (by omega), ?_⟩
    have e1 := sortD_E (kdRaw r)
    show W (.list (sortD ((kdRaw r).map enc)))
    rw [e1]
    exact h

end
end HB

set_option Elab.async false
set_option linter.all false
set_option maxRecDepth 100000
set_option maxHeartbeats 4000000
set_option autoImplicit false
namespace HB
open PySem PySem.Spec L2
open En (enc)
section
variable {P : Program} {w : World} {K : PySem.W.Frag} {mg : Str → Option Value} {base : Heap}
local macro_rules | `(tactic| walk_at "rd") => `(tactic| simp [-List.any_eq_true, -List.any_eq_false, sSeq, sIf, sRt, sNx, sAs, sOw, sFz, sDo, sNo, sApp, gNm, gTp_t, gC_c, gN_n, xB, xZ, xA, xK, getZ, getA, fzz, x2, xAnd, xOr, xNot, xAndV, xOrV, xNotV, xIf, xChain, xFn, xTup, xLst, xNil, xCons, xCatL, xCatT, xSlL, xSlT, xNoP, xSoP, xThenL, xTupOf, xRngL, xSort, xSortSet, xSortK, xSumV, xDget, xDictOf, xTIndex, xTupF, xCatF, xRevT, xRngL3, xRngT, xRow, gRow, xLen0, xCell, xCallR, xIsi, xIsi2, xCall, xDnew, xDone, xGetD, xInD, xYes, sFor, iL, iT, iR1, iR2, iR3, iEnT, iEnL, iKs, iLn, xLc, kOk_p, any_p, dlk_p, put_p, dne0_p, deq0_p, dne0_i, dne0_w, deq0_w, encM_len, sMix, xMo, xMf, xMn, setS, gSbD, gSb, cut_take, cut_drop, ex2_eq, kOk_kk, put_kk, kOk_k3, dlk_k3, put_k3, itw0, itw1, wb_nt, wb_tu, wb_len, kOk_h, dlk_h, put_h, getD_h, sAugM, rngD_0, wip, dseq_t, dseq_l, deq_il, rngD_rg, dnD_dn, disN_n, dnotN_n, isNo, start', startR, rwAt, rwSet, dint, itb0, itb1, itb2, bk_nt, bk_tu, bk_len, encL_list, list_encL, len_L, len_l, len_t, it2_0, it2_1, it3_0, it3_1, it3_2, il2_0, il2_1, il1_0, it2_v, it2_n, icmp_i, isub_i, iadd_i, din_i, din_iL, deq_i, dne_i, deq_b, dne_b, nd_i, nd_b, nd_s, nd_n, nd_l, nd_t, ik_ii, ik_ib, ik_tt, small, dabs, dmax2, sum_L, enc_i, enc_b, enc_k, enc_p, enc_3, enc_l])
def S_leads_in : SpT := fun ds W => ∃ (B : Bk), ds = [bkD B] ∧ 0 ≤ B.r ∧ B.r ≤ 4 ∧ W (encL (leads B))
theorem ln_leads_in {ds : List PyData} {W : PyData → Prop} (h : S_leads_in ds W) : ds.length = 1 := by obtain ⟨_, e, _⟩ := h; rw [e]; rfl
theorem u_leads_in {B : Bk} (h0 : 0 ≤ B.r) (h1 : B.r ≤ 4) {W : PyData → Prop} : S_leads_in [bkD B] W ↔ W (encL (leads B)) := ⟨fun ⟨B', e, _, _, h⟩ => by
  simp only [List.cons.injEq, and_true] at e
  rw [bkD_inj e]; exact h, fun h => ⟨B, rfl, h0, h1, h⟩⟩
theorem df_leads_in (G_told_in : Df P w K mg base "told_in" 3 S_told_in) (G_courses_in : Df P w K mg base "courses_in" 3 S_courses_in) (G_all_kinds : Df P w K mg base "all_kinds" 2 S_all_kinds) (h_sorted : mg "sorted" = none) (Fn_leads_in : Fn K mg "leads_in" "leads_in" 34) : Df P w K mg base "leads_in" 4 S_leads_in := by
  refine mkfn Fn_leads_in sc_leads_in (fun kV doc pm an cdv ct us h => by rcases us with _ | ⟨x0, _ | ⟨x1, r1⟩⟩ <;> first | rfl | (simp at h)) (by intro ds W h; exact ln_leads_in h) fun f cdv A outer s H F E hr => ⟨_, (jbcons (jown (i := 1) sc_leads_in.nd (jdnew ⟨rfl, rfl⟩))
    (jbcons (jfor (pr := false) PassesOwn.never rfl (jiL (jcall G_all_kinds ⟨rfl, rfl⟩ (hr.mono (by decide)) (jcons (jix (ja 0) (jc ji)) jnil))) (jgtp rfl (jgcons (jgn (i := 2) sc_leads_in.nd) (jgcons (jgn (i := 3) sc_leads_in.nd) (jgcons (jgn (i := 4) sc_leads_in.nd) jgnil)))) (jbcons (jset (i := 5) sc_leads_in.nd (jif (jcmpT o_lt (ja 2) (ja 3)) (jadd (ja 4) (jc ji)) (jsub (ja 4) (jc ji))))
    (jbone (jifs (jcmpT (o_ne hr.units) (ja 5) (ja 3)) (jbone (jas (pr := false) jb (jgsubD ⟨rfl, rfl⟩ hr.u_d 1 (pv 1) (jtup (jcons (jtup (jcons (jz 2) (jcons (jz 3) (jcons (jz 4) jnil)))) (jcons (jtup (jcons (jz 2) (jcons (jz 3) (jcons (jz 5) jnil)))) jnil)))))) jbnil))))
    (jbcons (jfor (pr := false) PassesOwn.never rfl (jiL (jcall G_courses_in ⟨rfl, rfl⟩ hr (jcons (jz 0) jnil))) (jgtp rfl (jgcons (jgn (i := 6) sc_leads_in.nd) (jgcons (jgn (i := 7) sc_leads_in.nd) jgnil))) (jbone (jfor (pr := false) PassesOwn.never rfl (jiL (jcall G_told_in ⟨rfl, rfl⟩ hr (jcons (jz 0) (jcons (jz 6) (jcons (jz 7) jnil))))) (jgtp rfl (jgcons (jgtp rfl (jgcons (jgn (i := 8) sc_leads_in.nd) (jgcons (jgn (i := 4) sc_leads_in.nd) jgnil))) (jgcons (jgtp rfl (jgcons (jgn (i := 9) sc_leads_in.nd) (jgcons (jgn (i := 10) sc_leads_in.nd) jgnil))) jgnil))) (jbcons (jset (i := 11) sc_leads_in.nd (jtup (jcons (jix (ja 6) (ja 8)) (jcons (jix (ja 7) (ja 8)) (jcons (jz 4) jnil)))))
    (jbone (jas (pr := false) jb (jgsubD ⟨rfl, rfl⟩ hr.u_d 1 (pv 1) (jtup (jcons (jz 11) (jcons (jtup (jcons (jix (ja 6) (ja 9)) (jcons (jix (ja 7) (ja 9)) (jcons (jz 10) jnil)))) jnil))))))))))
    (jbone (jret (je_f (jsortK rfl hr.u_s h_sorted (ja 1)))))))), ?_⟩
  intro ds W h
  obtain ⟨B, rfl, h0, h1, h⟩ := h
  walk_at "rd"
  rw [u_all_kinds ⟨h0, h1⟩]
  walk_at "rd"
  refine loop_fold (kinds B.r) (fun (m : List (KK × Bool)) (e : Slo × Slo × Slo × Slo) => [.fz (bkD B), .ow (dc (encM .bool m)), e.1, e.2.1, e.2.2.1, e.2.2.2, .no, .no, .no, .no, .no, .no]) ld1 [] (.no, .no, .no, .no) rfl ?_ ?_
  · intro pre k post hl e
    have hb := ld1_len pre []
    have hk := kinds_len h1
    have hpl := congrArg List.length hl
    rw [List.length_append, List.length_cons] at hpl
    generalize hbb : pre.foldl ld1 [] = bb at hb
    simp at hb
    rw [ld1, nx3]
    walk_at "rd"
    by_cases hab : k.a < k.b
    · refine .inr ⟨hab, ?_⟩
      simp only [hab, if_true]
      by_cases h2 : k.c + 1 = k.b
      · exact .inl ⟨h2, by rw [if_pos h2]⟩
      · exact .inr ⟨h2, by omega, by rw [if_neg h2]⟩
    · refine .inl ⟨by omega, ?_⟩
      simp only [hab, if_false]
      by_cases h2 : k.c - 1 = k.b
      · exact .inl ⟨h2, by rw [if_pos h2]⟩
      · exact .inr ⟨h2, by omega, by rw [if_neg h2]⟩
  · intro e
    walk_at "rd"
    rw [u_courses_in h0 h1]
    have hk1 := ld1_len (kinds B.r) []
    have hk := kinds_len h1
    have hcl := courses_len h1
    generalize hm0 : (kinds B.r).foldl ld1 [] = m0 at hk1
    simp at hk1
    walk_at "rd"
    refine loop_fold (courses B) (fun (m : List (KK × Bool)) (e : Slo × Slo × Slo × Slo × Slo × Slo × Slo × Slo × Slo × Slo) => [.fz (bkD B), .ow (dc (encM .bool m)), e.1, e.2.1, e.2.2.1, e.2.2.2.1, e.2.2.2.2.1, e.2.2.2.2.2.1, e.2.2.2.2.2.2.1, e.2.2.2.2.2.2.2.1, e.2.2.2.2.2.2.2.2.1, e.2.2.2.2.2.2.2.2.2]) (ldRow B) m0 (e.1, e.2.1, e.2.2.1, e.2.2.2, .no, .no, .no, .no, .no, .no) rfl ?_ ?_
    · rintro pre ⟨p, q⟩ post hl e2
      obtain ⟨hp, hq, hne⟩ := mem_courses.mp (show (p, q) ∈ courses B by rw [hl]; exact List.mem_append_right _ (List.mem_cons_self ..))
      have hb := ldRow_len h1 pre m0 (fun c hc => by rw [hl]; exact List.mem_append_left _ hc)
      have hpl := congrArg List.length hl
      rw [List.length_append, List.length_cons] at hpl
      have htl := told_len hne hp hq h1
      generalize hbb : pre.foldl (ldRow B) m0 = bb at hb
      walk_at "rd"
      refine u_told_in hp hq h1 hne ?_
      show ∃ ds, _
      refine ⟨(toldP B p q).map enc, rfl, ?_⟩
      refine loop_fold (toldP B p q) (fun (m : List (KK × Bool)) (e : Slo × Slo × Slo × Slo × Slo × Slo × Slo × Slo) => [.fz (bkD B), .ow (dc (encM .bool m)), e.1, e.2.1, e.2.2.1, e.2.2.2.1, .fz (.tuple [.int p.1, .int p.2]), .fz (.tuple [.int q.1, .int q.2]), e.2.2.2.2.1, e.2.2.2.2.2.1, e.2.2.2.2.2.2.1, e.2.2.2.2.2.2.2]) (ld2 p q) bb (e2.1, e2.2.1, e2.2.2.1, e2.2.2.2.1, e2.2.2.2.2.2.2.1, e2.2.2.2.2.2.2.2.1, e2.2.2.2.2.2.2.2.2.1, e2.2.2.2.2.2.2.2.2.2) rfl ?_ ?_
      · rintro pre2 ⟨⟨k1, a1⟩, ⟨k2, a2⟩⟩ post2 hl2 e3
        have hb2 := ld2_len p q pre2 bb
        have hpl2 := congrArg List.length hl2
        rw [List.length_append, List.length_cons] at hpl2
        generalize hbb2 : pre2.foldl (ld2 p q) bb = b2 at hb2
        rw [ld2]
        walk_at "rd"
        refine ⟨by omega, ?_⟩
        rfl
      · intro e3
        exact ⟨rfl, _, _, _, _, _, _, _, _, _, _, rfl⟩
    · intro e2
      have hml := ldM_len h1
      have hmm : (courses B).foldl (ldRow B) m0 = ldM B := by unfold ldM; rw [hm0]
      rw [hmm]
      walk_at "rd"
      rw [encM_keys]
      have e1 := sortD_E ((ldM B).map (·.1))
      rw [e1]
      exact ⟨sortOk_E _ (by rw [List.length_map]; omega), h⟩

end
end HB

set_option Elab.async false
set_option linter.all false
set_option maxRecDepth 100000
set_option maxHeartbeats 4000000
set_option autoImplicit false
namespace HB
open PySem PySem.Spec L2
open En (enc)
section
variable {P : Program} {w : World} {K : PySem.W.Frag} {mg : Str → Option Value} {base : Heap}
local macro_rules | `(tactic| walk_at "rd") => `(tactic| simp [-List.any_eq_true, -List.any_eq_false, sSeq, sIf, sRt, sNx, sAs, sOw, sFz, sDo, sNo, sApp, gNm, gTp_t, gC_c, gN_n, xB, xZ, xA, xK, getZ, getA, fzz, x2, xAnd, xOr, xNot, xAndV, xOrV, xNotV, xIf, xChain, xFn, xTup, xLst, xNil, xCons, xCatL, xCatT, xSlL, xSlT, xNoP, xSoP, xThenL, xTupOf, xRngL, xSort, xSortSet, xSortK, xSumV, xDget, xDictOf, xTIndex, xTupF, xCatF, xRevT, xRngL3, xRngT, xRow, gRow, xLen0, xCell, xCallR, xIsi, xIsi2, xCall, xDnew, xDone, xGetD, xInD, xYes, sFor, iL, iT, iR1, iR2, iR3, iEnT, iEnL, iKs, iLn, xLc, kOk_p, any_p, dlk_p, put_p, dne0_p, deq0_p, dne0_i, dne0_w, deq0_w, encM_len, sMix, xMo, xMf, xMn, setS, gSbD, gSb, cut_take, cut_drop, ex2_eq, kOk_kk, put_kk, kOk_k3, dlk_k3, put_k3, itw0, itw1, wb_nt, wb_tu, wb_len, kOk_h, dlk_h, put_h, getD_h, sAugM, rngD_0, wip, dseq_t, dseq_l, deq_il, rngD_rg, dnD_dn, disN_n, dnotN_n, isNo, start', startR, rwAt, rwSet, dint, itb0, itb1, itb2, bk_nt, bk_tu, bk_len, encL_list, list_encL, len_L, len_l, len_t, it2_0, it2_1, it3_0, it3_1, it3_2, il2_0, il2_1, il1_0, it2_v, it2_n, icmp_i, isub_i, iadd_i, din_i, din_iL, deq_i, dne_i, deq_b, dne_b, nd_i, nd_b, nd_s, nd_n, nd_l, nd_t, ik_ii, ik_ib, ik_tt, small, dabs, dmax2, sum_L, enc_i, enc_b, enc_k, enc_p, enc_3, enc_l])
def S_ranks_in : SpT := fun ds W => ∃ (B : Bk), ds = [bkD B] ∧ 1 ≤ B.r ∧ B.r ≤ 4 ∧ Ranked B ∧ ∀ m : Rk, W (dc (encM .int m))
theorem ln_ranks_in {ds : List PyData} {W : PyData → Prop} (h : S_ranks_in ds W) : ds.length = 1 := by obtain ⟨_, e, _⟩ := h; rw [e]; rfl
theorem u_ranks_in {B : Bk} (h0 : 1 ≤ B.r) (h1 : B.r ≤ 4) (R : Ranked B) {W : PyData → Prop} (h : ∀ m : Rk, W (dc (encM .int m))) : S_ranks_in [bkD B] W := ⟨B, rfl, h0, h1, R, h⟩
def RW35 (B : Bk) (lam : K3 → Nat) (pre : List PyData) (δ : Enm) (ρ : Rw) : Prop := ρ = (0, 0, 0) ∧ ∃ m e4 e5 e6 e7, δ = [.fz (bkD B), .ow (dc (encM .int m)), .no, .fz (encL (leads B)), e4, e5, e6, e7] ∧ RInv B lam pre.length m ∧ pre.length + 1 ≤ (kinds B.r).length
theorem kinds_pos {B : Bk} (h : 1 ≤ B.r) : 1 ≤ (kinds B.r).length := by
  have hm : (⟨0, 1, 0⟩ : K3) ∈ kinds B.r := by
    unfold kinds; rw [mem_sortE, kdRaw_flat, List.mem_flatMap]
    refine ⟨0, mem_rgI.mpr ⟨by omega, by omega⟩, List.mem_flatMap.mpr ⟨1, mem_rgI.mpr ⟨by omega, by omega⟩, List.mem_map.mpr ⟨0, by decide, rfl⟩⟩⟩
  exact List.length_pos_of_mem hm
theorem df_ranks_in (G_all_kinds : Df P w K mg base "all_kinds" 2 S_all_kinds) (G_leads_in : Df P w K mg base "leads_in" 4 S_leads_in) (h_dict : mg "dict" = none) (h_len : mg "len" = none) (h_range : mg "range" = none) (Fn_ranks_in : Fn K mg "ranks_in" "ranks_in" 35) : Df P w K mg base "ranks_in" 5 S_ranks_in := by
  refine mkfn Fn_ranks_in sc_ranks_in (fun kV doc pm an cdv ct us h => by rcases us with _ | ⟨x0, _ | ⟨x1, r1⟩⟩ <;> first | rfl | (simp at h)) (by intro ds W h; exact ln_ranks_in h) fun f cdv A outer s H F E hr => ⟨_, (jbcons (jown (i := 1) sc_ranks_in.nd (jdictOf ⟨rfl, rfl⟩ rfl hr.u_s h_dict (jc_f (jlc [("kind", 2)] rfl sc_ranks_in.nd (jiL (jcall G_all_kinds ⟨rfl, rfl⟩ (hr.mono (by decide)) (jcons (jix (ja 0) (jc ji)) jnil))) (blkOk_by (N := N_ranks_in) (sc := defScope (top 35)) (own := [("kind", 2)]) (by decide +kernel)) (fun _ _ _ _ _ => (jgn (i := 2) sc_ranks_in.nd)) (fun _ _ _ _ _ => jtnil) (fun _ _ _ _ _ => (jtup (jcons (jz 2) (jcons ji jnil))))))))
    (jbcons (jset (i := 3) sc_ranks_in.nd (jcall G_leads_in ⟨rfl, rfl⟩ hr (jcons (jz 0) jnil)))
    (jbcons (jfor (pr := false) PassesOwn.never rfl (jiR1 h_range (jccons (jc (jcallB (b_lenD ⟨rfl, rfl⟩) h_len (jccons (ja 1) jcnil))) jcnil)) (jgn (i := 4) sc_ranks_in.nd) (jbcons (jset (i := 5) sc_ranks_in.nd jb)
    (jbcons (jfor (pr := false) PassesOwn.never rfl (jiL (jz 3)) (jgtp rfl (jgcons (jgn (i := 6) sc_ranks_in.nd) (jgcons (jgn (i := 7) sc_ranks_in.nd) jgnil))) (jbone (jifs (jcmpT o_le (jc (jdix ⟨rfl, rfl⟩ hr.u_d (ja 1) (jz 7))) (jc (jdix ⟨rfl, rfl⟩ hr.u_d (ja 1) (jz 6)))) (jbone (jas (pr := false) (jtup (jcons (jadd (jc (jdix ⟨rfl, rfl⟩ hr.u_d (ja 1) (jz 6))) (jc ji)) (jcons jb jnil))) (jgtp rfl (jgcons (jgsubD ⟨rfl, rfl⟩ hr.u_d 1 (pv 1) (jz 7)) (jgcons (jgn (i := 5) sc_ranks_in.nd) jgnil)) (hl := (gl_c gr_sbd (gl_c gr_nm gl_n)))))) jbnil)))
    (jbone (jifs (jnot (jt (ja 5))) (jbone (jfz 1 (jret (jz 1)))) jbnil)))))
    (jbone (jret jn))))), ?_⟩
  intro ds W h
  obtain ⟨B, rfl, h0, h1, R, h⟩ := h
  walk_at "rd"
  rw [u_all_kinds ⟨by omega, h1⟩]
  walk_at "rd"
  have hkl := kinds_len h1
  have hll := leads_len h1
  have hkp := kinds_pos h0
  obtain ⟨⟨lam, hlam, hlt⟩, hen⟩ := R
  refine lc_allE (kinds B.r) (fun k => (k, (0 : Int))) (by omega) (fun k hk K1 k1 => ?_) ?_
  · walk_at "rd"
    exact k1
  refine ⟨((kinds B.r).map fun k => (k, (0 : Int))).map enc, rfl, fun d hd => ?_, by simp; omega, ?_⟩
  · obtain ⟨a, ha, rfl⟩ := List.mem_map.mp hd
    obtain ⟨k, _, rfl⟩ := List.mem_map.mp ha
    exact ⟨enc k, .int 0, rfl, kOk_k3 k.a k.b k.c⟩
  rw [dict_rk0, u_leads_in (by omega) h1]
  refine ⟨encM .int (rk0 B), rfl, ?_⟩
  have hlen0 : (encM PyData.int (rk0 B)).length = (kinds B.r).length := by rw [encM_len]; unfold rk0; rw [List.length_map]
  rw [hlen0]
  walk_at "rd"
  refine ⟨by omega, RW35 B lam, ⟨rfl, rk0 B, _, _, _, _, rfl, RInv.start lam, hkp⟩, ?_, ?_⟩
  · rintro pre x post hl δ ρ ⟨rfl, m, e4, e5, e6, e7, rfl, I, hN⟩
    walk_at "rd"
    refine loop_fold (leads B) (fun (s : Rk × Bool) (e : Slo × Slo) => [.fz (bkD B), .ow (dc (encM .int s.1)), .no, .fz (encL (leads B)), .fz x, .fz (.bool s.2), e.1, e.2]) rkStep (m, false) (e6, e7) rfl ?_ ?_
    · rintro pre2 ⟨a, b⟩ post2 hl2 e2
      have M := RMid.fold I hlam hen pre2 [] (m, false) (fun e he => by rw [hl2]; exact List.mem_append_left _ he) I.mid
      have hab : (a, b) ∈ leads B := by rw [hl2]; exact List.mem_append_right _ (List.mem_cons_self ..)
      obtain ⟨ha, hb⟩ := hen _ hab
      simp only at ha hb
      generalize pre2.foldl rkStep (m, false) = s1 at M
      obtain ⟨m1, mv1⟩ := s1
      have la : alook m1 ⟨a.a, a.b, a.c⟩ = some (rk m1 a) := alook_rk M.keys ha
      have lb : alook m1 ⟨b.a, b.b, b.c⟩ = some (rk m1 b) := alook_rk M.keys hb
      have hml : m1.length = (kinds B.r).length := by
        have := congrArg List.length M.keys
        rwa [List.length_map] at this
      rw [rkStep]
      walk_at "rd"
      simp only [la, lb, Option.some.injEq, exists_eq_left', icmp_i, iadd_i]
      walk_at "rd"
      by_cases hc : rk m1 b ≤ rk m1 a
      · rw [if_pos hc]
        exact .inr ⟨hc, by omega, rfl, rfl⟩
      · rw [if_neg hc]
        exact .inl ⟨by omega, rfl, rfl⟩
    · intro e2
      have M := RMid.fold I hlam hen (leads B) [] (m, false) (fun e he => he) I.mid
      rw [List.nil_append] at M
      generalize (leads B).foldl rkStep (m, false) = s1 at M
      obtain ⟨m1, mv1⟩ := s1
      walk_at "rd"
      cases mv1 with
      | false => exact .inl ⟨rfl, h m1⟩
      | true =>
        refine .inr ⟨rfl, rfl, m1, _, _, _, _, rfl, ?_, ?_⟩
        · have := M.next I
          rw [List.length_append]; exact this
        · obtain ⟨k, hk, h2⟩ := M.mv rfl
          have h3 := M.hi k hk
          have h4 := hlt k hk
          rw [List.length_append]; simp only [List.length_cons, List.length_nil]; omega
  · rintro δ ρ ⟨rfl, m, e4, e5, e6, e7, rfl, I, hN⟩
    rw [List.length_map, len_rgI] at hN
    omega

end
end HB

set_option Elab.async false
set_option linter.all false
set_option maxRecDepth 100000
set_option maxHeartbeats 4000000
set_option autoImplicit false
namespace HB
open PySem PySem.Spec L2
open En (enc)
section
variable {P : Program} {w : World} {K : PySem.W.Frag} {mg : Str → Option Value} {base : Heap}
local macro_rules | `(tactic| walk_at "rd") => `(tactic| simp [-List.any_eq_true, -List.any_eq_false, sSeq, sIf, sRt, sNx, sAs, sOw, sFz, sDo, sNo, sApp, gNm, gTp_t, gC_c, gN_n, xB, xZ, xA, xK, getZ, getA, fzz, x2, xAnd, xOr, xNot, xAndV, xOrV, xNotV, xIf, xChain, xFn, xTup, xLst, xNil, xCons, xCatL, xCatT, xSlL, xSlT, xNoP, xSoP, xThenL, xTupOf, xRngL, xSort, xSortSet, xSortK, xSumV, xDget, xDictOf, xTIndex, xTupF, xCatF, xRevT, xRngL3, xRngT, xRow, gRow, xLen0, xCell, xCallR, xIsi, xIsi2, xCall, xDnew, xDone, xGetD, xInD, xYes, sFor, iL, iT, iR1, iR2, iR3, iEnT, iEnL, iKs, iLn, xLc, kOk_p, any_p, dlk_p, put_p, dne0_p, deq0_p, dne0_i, dne0_w, deq0_w, encM_len, sMix, xMo, xMf, xMn, setS, gSbD, gSb, cut_take, cut_drop, ex2_eq, kOk_kk, put_kk, kOk_k3, dlk_k3, put_k3, itw0, itw1, wb_nt, wb_tu, wb_len, kOk_h, dlk_h, put_h, getD_h, sAugM, rngD_0, wip, dseq_t, dseq_l, deq_il, rngD_rg, dnD_dn, disN_n, dnotN_n, isNo, start', startR, rwAt, rwSet, dint, itb0, itb1, itb2, bk_nt, bk_tu, bk_len, encL_list, list_encL, len_L, len_l, len_t, it2_0, it2_1, it3_0, it3_1, it3_2, il2_0, il2_1, il1_0, it2_v, it2_n, icmp_i, isub_i, iadd_i, din_i, din_iL, deq_i, dne_i, deq_b, dne_b, nd_i, nd_b, nd_s, nd_n, nd_l, nd_t, ik_ii, ik_ib, ik_tt, small, dabs, dmax2, sum_L, enc_i, enc_b, enc_k, enc_p, enc_3, enc_l])
structure Kept (B : Bk) : Prop where
  va : Valid B
  st : Straight B
  td : ∀ p q, (p, q) ∈ courses B → isTold B p q = true
  rk : Ranked B
def S_verdict_in : SpT := fun ds W => ∃ (B : Bk), ds = [bkD B] ∧ Kept B ∧ W (.str "kept")
theorem ln_verdict_in {ds : List PyData} {W : PyData → Prop} (h : S_verdict_in ds W) : ds.length = 1 := by obtain ⟨_, e, _⟩ := h; rw [e]; rfl
theorem u_verdict_in {B : Bk} (K : Kept B) {W : PyData → Prop} : S_verdict_in [bkD B] W ↔ W (.str "kept") := ⟨fun ⟨_, _, _, h⟩ => h, fun h => ⟨B, rfl, K, h⟩⟩
theorem df_verdict_in (G_crooked_in : Df P w K mg base "crooked_in" 4 S_crooked_in) (G_untold_in : Df P w K mg base "untold_in" 4 S_untold_in) (G_ranks_in : Df P w K mg base "ranks_in" 5 S_ranks_in) (Fn_verdict_in : Fn K mg "verdict_in" "verdict_in" 37) : Df P w K mg base "verdict_in" 6 S_verdict_in := by
  refine mkfn Fn_verdict_in sc_verdict_in (fun kV doc pm an cdv ct us h => by rcases us with _ | ⟨x0, _ | ⟨x1, r1⟩⟩ <;> first | rfl | (simp at h)) (by intro ds W h; exact ln_verdict_in h) fun f cdv A outer s H F E hr => ⟨_, (jbcons (jifs (jcmpT o_notN (jc (jcall G_crooked_in ⟨rfl, rfl⟩ (hr.mono (by decide)) (jcons (jz 0) jnil))) (jc jn)) (jbone (jret jstr)) jbnil)
    (jbcons (jifs (jcmpT o_notN (jc (jcall G_untold_in ⟨rfl, rfl⟩ (hr.mono (by decide)) (jcons (jz 0) jnil))) (jc jn)) (jbone (jret jstr)) jbnil)
    (jbone (jret (jif (jcmpT o_notN (jc (jcall G_ranks_in ⟨rfl, rfl⟩ hr (jcons (jz 0) jnil))) (jc jn)) jstr jstr))))), ?_⟩
  intro ds W h
  obtain ⟨B, rfl, KB, h⟩ := h
  have h1 := KB.va.r0
  have h2 := KB.va.r1
  walk_at "rd"
  rw [u_crooked_in (by omega) h2 KB.st]
  walk_at "rd"
  rw [u_untold_in (by omega) h2 KB.td]
  walk_at "rd"
  refine u_ranks_in h1 h2 KB.rk fun m => ?_
  walk_at "rd"
  exact h

def S_need_kept : SpT := fun ds W => ∃ (B : Bk), ds = [bkD B] ∧ Kept B ∧ W .none
theorem ln_need_kept {ds : List PyData} {W : PyData → Prop} (h : S_need_kept ds W) : ds.length = 1 := by obtain ⟨_, e, _⟩ := h; rw [e]; rfl
theorem u_need_kept {B : Bk} (K : Kept B) {W : PyData → Prop} : S_need_kept [bkD B] W ↔ W .none := ⟨fun ⟨_, _, _, h⟩ => h, fun h => ⟨B, rfl, K, h⟩⟩
theorem dne_kept : dne (.str "kept") (.str "kept") = some (.bool false) := by
  have e1 : okD (.str "kept") = true := by decide +kernel
  have e2 : PyData.eqv (.str "kept") (.str "kept") = true := by decide +kernel
  unfold dne; rw [e1, e2]; rfl
theorem df_need_kept (G_need_book : Df P w K mg base "need_book" 3 S_need_book) (G_verdict_in : Df P w K mg base "verdict_in" 6 S_verdict_in) (Fn_need_kept : Fn K mg "need_kept" "need_kept" 38) : Df P w K mg base "need_kept" 7 S_need_kept := by
  refine mkfn Fn_need_kept sc_need_kept (fun kV doc pm an cdv ct us h => by rcases us with _ | ⟨x0, _ | ⟨x1, r1⟩⟩ <;> first | rfl | (simp at h)) (by intro ds W h; exact ln_need_kept h) fun f cdv A outer s H F E hr => ⟨_, (jbcons (jdo (jcall G_need_book ⟨rfl, rfl⟩ (hr.mono (by decide)) (jcons (jz 0) jnil)))
    (jbone (jifs (jcmpT (o_ne hr.units) (jc (jcall G_verdict_in ⟨rfl, rfl⟩ hr (jcons (jz 0) jnil))) (jc jstr)) (jbone jnever) jbnil))), ?_⟩
  intro ds W h
  obtain ⟨B, rfl, KB, h⟩ := h
  walk_at "rd"
  rw [u_need_book KB.va, u_verdict_in KB, dne_kept]
  walk_at "rd"
  exact h

end
end HB

set_option Elab.async false
set_option linter.all false
set_option maxRecDepth 100000
set_option maxHeartbeats 4000000
set_option autoImplicit false
namespace HB
open PySem PySem.Spec L2
open En (enc)
section
variable {P : Program} {w : World} {K : PySem.W.Frag} {mg : Str → Option Value} {base : Heap}
local macro_rules | `(tactic| walk_at "rd") => `(tactic| simp [-List.any_eq_true, -List.any_eq_false, sSeq, sIf, sRt, sNx, sAs, sOw, sFz, sDo, sNo, sApp, gNm, gTp_t, gC_c, gN_n, xB, xZ, xA, xK, getZ, getA, fzz, x2, xAnd, xOr, xNot, xAndV, xOrV, xNotV, xIf, xChain, xFn, xTup, xLst, xNil, xCons, xCatL, xCatT, xSlL, xSlT, xNoP, xSoP, xThenL, xTupOf, xRngL, xSort, xSortSet, xSortK, xSumV, xDget, xDictOf, xTIndex, xTupF, xCatF, xRevT, xRngL3, xRngT, xRow, gRow, xLen0, xCell, xCallR, xIsi, xIsi2, xCall, xDnew, xDone, xGetD, xInD, xYes, sFor, iL, iT, iR1, iR2, iR3, iEnT, iEnL, iKs, iLn, xLc, kOk_p, any_p, dlk_p, put_p, dne0_p, deq0_p, dne0_i, dne0_w, deq0_w, encM_len, sMix, xMo, xMf, xMn, setS, gSbD, gSb, cut_take, cut_drop, ex2_eq, kOk_kk, put_kk, kOk_k3, dlk_k3, put_k3, itw0, itw1, wb_nt, wb_tu, wb_len, kOk_h, dlk_h, put_h, getD_h, sAugM, rngD_0, wip, dseq_t, dseq_l, deq_il, rngD_rg, dnD_dn, disN_n, dnotN_n, isNo, start', startR, rwAt, rwSet, dint, itb0, itb1, itb2, bk_nt, bk_tu, bk_len, encL_list, list_encL, len_L, len_l, len_t, it2_0, it2_1, it3_0, it3_1, it3_2, il2_0, il2_1, il1_0, it2_v, it2_n, icmp_i, isub_i, iadd_i, din_i, din_iL, deq_i, dne_i, deq_b, dne_b, nd_i, nd_b, nd_s, nd_n, nd_l, nd_t, ik_ii, ik_ib, ik_tt, small, dabs, dmax2, sum_L, enc_i, enc_b, enc_k, enc_p, enc_3, enc_l])
def S_is_edge : SpT := fun ds W => ∃ (e : Int × Int) (n : Int), ds = [enc e, .int n] ∧ (0 ≤ e.1 ∧ e.1 < e.2 ∧ e.2 < n) ∧ W (.bool true)
theorem ln_is_edge {ds : List PyData} {W : PyData → Prop} (h : S_is_edge ds W) : ds.length = 2 := by obtain ⟨_, _, e, _⟩ := h; rw [e]; rfl
theorem u_is_edge {a b n : Int} (h : 0 ≤ a ∧ a < b ∧ b < n) {W : PyData → Prop} : S_is_edge [.tuple [.int a, .int b], .int n] W ↔ W (.bool true) := ⟨fun ⟨_, _, _, _, h⟩ => h, fun z => ⟨(a, b), n, rfl, h, z⟩⟩
theorem df_is_edge (G_is_in : Df P w K mg base "is_in" 1 S_is_in) (h_isinstance : mg "isinstance" = none) (h_len : mg "len" = none) (h_tuple : mg "tuple" = none) (Fn_is_edge : Fn K mg "is_edge" "is_edge" 41) : Df P w K mg base "is_edge" 2 S_is_edge := by
  refine mkfn Fn_is_edge sc_is_edge (fun kV doc pm an cdv ct us h => by rcases us with _ | ⟨x0, _ | ⟨x1, _ | ⟨x2, r2⟩⟩⟩ <;> first | rfl | (simp at h)) (by intro ds W h; exact ln_is_edge h) fun f cdv A outer s H F E hr => ⟨_, (jbcons (jifs (jw (jw_or (jnot (jt (jc (jisi .tuple h_isinstance h_tuple (ja 0))))) (jw_or1 (jcmpT (o_ne hr.units) (jc (jcallB b_len h_len (jccons (ja 0) jcnil))) (jc ji))))) (jbone (jret jb)) jbnil)
    (jbone (jret (jandV (jc (jcmp (o_eq hr.units) (jc_f (jlc [("one", 2)] rfl sc_is_edge.nd (jiT (jz 0)) (blkOk_by (N := N_is_edge) (sc := defScope (top 41)) (own := [("one", 2)]) (by decide +kernel)) (fun _ _ _ _ _ => (jgn (i := 2) sc_is_edge.nd)) (fun _ _ _ _ _ => (jtone (jnot (jt (jc (jcall G_is_in ⟨rfl, rfl⟩ hr (jcons (jz 2) (jcons ji (jcons (jsub (ja 1) (jc ji)) jnil))))))))) (fun _ _ _ _ _ => (jz 2)))) (jc_f (jlst jnil)))) (jone (jcmp o_lt (jc (jix (ja 0) (jc ji))) (jc (jix (ja 0) (jc ji))))))))), ?_⟩
  intro ds W h
  obtain ⟨⟨a, b⟩, n, rfl, ⟨h0, h1, h2⟩, h⟩ := h
  simp only at h0 h1 h2
  walk_at "rd"
  refine lc_ofE (en := PyData.int) [a, b] (fun _ => false) (fun x => x) (by simp) (fun x hx K1 K0 k1 k0 => ?_) ?_
  · have hx2 : 0 ≤ x ∧ x ≤ n - 1 := by
      simp at hx; omega
    walk_at "rd"
    rw [u_is_in, decide_eq_true hx2]
    walk_at "rd"
    exact k0 rfl
  · have e0 : [a, b].filter (fun _ => false) = [] := by simp
    rw [e0, List.map_nil, show (encL ([] : List Int)) = .list [] from rfl]
    have e1 : deq (.list []) (.list []) = some (.bool true) := deq0 (α := Int) (by decide) []
    rw [e1]
    walk_at "rd"
    rw [decide_eq_true h1]; exact h

def S_need_web : SpT := fun ds W => ∃ (w : Wb), ds = [wbD w] ∧ VWeb w ∧ W .none
theorem ln_need_web {ds : List PyData} {W : PyData → Prop} (h : S_need_web ds W) : ds.length = 1 := by obtain ⟨_, e, _⟩ := h; rw [e]; rfl
theorem u_need_web {w : Wb} (V : VWeb w) {W : PyData → Prop} : S_need_web [wbD w] W ↔ W .none := ⟨fun ⟨_, _, _, h⟩ => h, fun z => ⟨w, rfl, V, z⟩⟩
theorem df_need_web (G_is_in : Df P w K mg base "is_in" 1 S_is_in) (G_is_edge : Df P w K mg base "is_edge" 2 S_is_edge) {tk_MOST_PLACES : Tok} (h_MOST_PLACES : mg "MOST_PLACES" = some (.int 8 tk_MOST_PLACES)) (h_enumerate : mg "enumerate" = none) (h_isinstance : mg "isinstance" = none) (h_len : mg "len" = none) (h_tuple : mg "tuple" = none) (Fn_need_web : Fn K mg "need_web" "need_web" 42) : Df P w K mg base "need_web" 3 S_need_web := by
  refine mkfn Fn_need_web sc_need_web (fun kV doc pm an cdv ct us h => by rcases us with _ | ⟨x0, _ | ⟨x1, r1⟩⟩ <;> first | rfl | (simp at h)) (by intro ds W h; exact ln_need_web h) fun f cdv A outer s H F E hr => ⟨_, (jbcons (jifs (jw (jw_or (jnot (jt (jc (jisi .tuple h_isinstance h_tuple (ja 0))))) (jw_or (jcmpT (o_ne hr.units) (jc (jcallB b_len h_len (jccons (ja 0) jcnil))) (jc ji)) (jw_or1 (jnot (jt (jc (jisi .tuple h_isinstance h_tuple (jc (jix (ja 0) (jc ji))))))))))) (jbone jnever) jbnil)
    (jbcons (jifs (jnot (jt (jc (jcall G_is_in ⟨rfl, rfl⟩ (hr.mono (by decide)) (jcons (jix (ja 0) (jc ji)) (jcons ji (jcons (jglobi rfl h_MOST_PLACES) jnil))))))) (jbone jnever) jbnil)
    (jbone (jfor (pr := false) PassesOwn.never rfl (jiEnT h_enumerate (jix (ja 0) (jc ji))) (jgtp rfl (jgcons (jgn (i := 1) sc_need_web.nd) (jgcons (jgn (i := 2) sc_need_web.nd) jgnil))) (jbone (jifs (jw (jw_or (jnot (jt (jc (jcall G_is_edge ⟨rfl, rfl⟩ hr (jcons (jz 2) (jcons (jix (ja 0) (jc ji)) jnil)))))) (jw_or1 (jw (jw_and (jcmpT o_gt (ja 1) (jc ji)) (jw_and1 (jcmpT (o_leT hr.u_0) (ja 2) (jc (jix (jc (jix (ja 0) (jc ji))) (jc (jsub (ja 1) (jc ji)))))))))))) (jbone jnever) jbnil)))))), ?_⟩
  intro ds W h
  obtain ⟨w, rfl, V, h⟩ := h
  have hl := V.len
  have n0 := V.n0
  have n1 := V.n1
  walk_at "rd"
  rw [u_is_in, decide_eq_true ⟨n0, n1⟩]
  walk_at "rd"
  refine loop_fold (en := fun (i : Nat) => .tuple [.int (i : Nat), (w.es.map enc).getD i .none]) (List.range (w.es.map enc).length) (fun (_ : Unit) (e : Slo × Slo) => [.fz (wbD w), e.1, e.2]) (fun u _ => u) () (.no, .no) rfl ?_ ?_
  · intro pre i post hl e
    have hi : i < w.es.length := by
      have : i ∈ List.range (w.es.map enc).length := by rw [hl]; exact List.mem_append_right _ (List.mem_cons_self ..)
      simpa using List.mem_range.mp this
    have eg : (w.es.map enc).getD i .none = .tuple [.int (w.es[i]).1, .int (w.es[i]).2] := by simp [hi, enc_p, enc_i]
    have hv := V.ed _ (List.getElem_mem hi)
    rw [eg]
    walk_at "rd"
    rw [u_is_edge hv]
    walk_at "rd"
    by_cases h0 : i = 0
    · exact .inl h0
    · refine .inr ⟨by omega, .tuple [.int (w.es[i - 1]).1, .int (w.es[i - 1]).2], ?_, ?_⟩
      · rw [it_T _ (by omega), show ((i : Int) - 1).toNat = i - 1 by omega, List.getElem?_map, List.getElem?_eq_getElem (by omega)]; rfl
      · have hp := List.pairwise_iff_getElem.mp V.so (i - 1) i (by omega) hi (by omega)
        unfold ltP at hp
        show some (PyData.bool (decide _)) = _
        rw [decide_eq_false (by omega)]
  · intro e
    walk_at "rd"
    exact h

def S_need_heights : SpT := fun ds W => ∃ (B : Bk) (w : Wb) (h : List Int), ds = [bkD B, .int w.n, .tuple (h.map .int)] ∧ VHts B w h ∧ h.length ≤ 100 ∧ W .none
theorem ln_need_heights {ds : List PyData} {W : PyData → Prop} (h : S_need_heights ds W) : ds.length = 3 := by obtain ⟨_, _, _, e, _⟩ := h; rw [e]; rfl
theorem u_need_heights {B : Bk} {w : Wb} {h : List Int} (V : VHts B w h) (hl : h.length ≤ 100) {W : PyData → Prop} : S_need_heights [bkD B, .int w.n, .tuple (h.map .int)] W ↔ W .none := ⟨fun ⟨_, _, _, _, _, _, h⟩ => h, fun z => ⟨B, w, h, rfl, V, hl, z⟩⟩
theorem df_need_heights (G_is_in : Df P w K mg base "is_in" 1 S_is_in) (h_enumerate : mg "enumerate" = none) (h_isinstance : mg "isinstance" = none) (h_len : mg "len" = none) (h_tuple : mg "tuple" = none) (Fn_need_heights : Fn K mg "need_heights" "need_heights" 43) : Df P w K mg base "need_heights" 2 S_need_heights := by
  refine mkfn Fn_need_heights sc_need_heights (fun kV doc pm an cdv ct us h => by rcases us with _ | ⟨x0, _ | ⟨x1, _ | ⟨x2, _ | ⟨x3, r3⟩⟩⟩⟩ <;> first | rfl | (simp at h)) (by intro ds W h; exact ln_need_heights h) fun f cdv A outer s H F E hr => ⟨_, (jbcons (jifs (jw (jw_or (jnot (jt (jc (jisi .tuple h_isinstance h_tuple (ja 2))))) (jw_or1 (jcmpT (o_ne hr.units) (jc (jcallB b_len h_len (jccons (ja 2) jcnil))) (ja 1))))) (jbone jnever) jbnil)
    (jbone (jfor (pr := false) PassesOwn.never rfl (jiEnT h_enumerate (jz 2)) (jgtp rfl (jgcons (jgn (i := 3) sc_need_heights.nd) (jgcons (jgn (i := 4) sc_need_heights.nd) jgnil))) (jbone (jifs (jnot (jt (jc (jcall G_is_in ⟨rfl, rfl⟩ hr (jcons (jz 4) (jcons ji (jcons (jix (ja 0) (jc ji)) jnil))))))) (jbone jnever) jbnil))))), ?_⟩
  intro ds W h
  obtain ⟨B, w, l, rfl, V, hl, h⟩ := h
  have hn := V.len
  walk_at "rd"
  refine ⟨hn, ?_⟩
  refine loop_fold (en := fun (i : Nat) => .tuple [.int (i : Nat), (l.map .int).getD i .none]) (List.range (l.map PyData.int).length) (fun (_ : Unit) (e : Slo × Slo) => [.fz (bkD B), .fz (.int w.n), .fz (.tuple (l.map .int)), e.1, e.2]) (fun u _ => u) () (.no, .no) rfl ?_ ?_
  · intro pre i post hll e
    have hi : i < l.length := by
      have : i ∈ List.range (l.map PyData.int).length := by rw [hll]; exact List.mem_append_right _ (List.mem_cons_self ..)
      simpa using List.mem_range.mp this
    have eg : (l.map PyData.int).getD i .none = .int (l[i]) := by simp [hi]
    have hv := V.bd _ (List.getElem_mem hi)
    rw [eg]
    walk_at "rd"
    rw [u_is_in, decide_eq_true hv]
  · intro e
    walk_at "rd"
    exact h

end
end HB

set_option Elab.async false
set_option linter.all false
set_option maxRecDepth 100000
set_option maxHeartbeats 4000000
set_option autoImplicit false
namespace HB
open PySem PySem.Spec L2
open En (enc)
section
variable {P : Program} {w : World} {K : PySem.W.Frag} {mg : Str → Option Value} {base : Heap}
local macro_rules | `(tactic| walk_at "rd") => `(tactic| simp [-List.any_eq_true, -List.any_eq_false, sSeq, sIf, sRt, sNx, sAs, sOw, sFz, sDo, sNo, sApp, gNm, gTp_t, gC_c, gN_n, xB, xZ, xA, xK, getZ, getA, fzz, x2, xAnd, xOr, xNot, xAndV, xOrV, xNotV, xIf, xChain, xFn, xTup, xLst, xNil, xCons, xCatL, xCatT, xSlL, xSlT, xNoP, xSoP, xThenL, xTupOf, xRngL, xSort, xSortSet, xSortK, xSumV, xDget, xDictOf, xTIndex, xTupF, xCatF, xRevT, xRngL3, xRngT, xRow, gRow, xLen0, xCell, xCallR, xIsi, xIsi2, xCall, xDnew, xDone, xGetD, xInD, xYes, sFor, iL, iT, iR1, iR2, iR3, iEnT, iEnL, iKs, iLn, xLc, kOk_p, any_p, dlk_p, put_p, dne0_p, deq0_p, dne0_i, dne0_w, deq0_w, encM_len, sMix, xMo, xMf, xMn, setS, gSbD, gSb, cut_take, cut_drop, ex2_eq, kOk_kk, put_kk, kOk_k3, dlk_k3, put_k3, itw0, itw1, wb_nt, wb_tu, wb_len, kOk_h, dlk_h, put_h, getD_h, sAugM, rngD_0, wip, dseq_t, dseq_l, deq_il, rngD_rg, dnD_dn, disN_n, dnotN_n, isNo, start', startR, rwAt, rwSet, dint, itb0, itb1, itb2, bk_nt, bk_tu, bk_len, encL_list, list_encL, len_L, len_l, len_t, it2_0, it2_1, it3_0, it3_1, it3_2, il2_0, il2_1, il1_0, it2_v, it2_n, icmp_i, isub_i, iadd_i, din_i, din_iL, deq_i, dne_i, deq_b, dne_b, nd_i, nd_b, nd_s, nd_n, nd_l, nd_t, ik_ii, ik_ib, ik_tt, small, dabs, dmax2, sum_L, enc_i, enc_b, enc_k, enc_p, enc_3, enc_l])
def S_beside : SpT := fun ds W => ∃ (w : Wb) (k : Int), ds = [wbD w, .int k] ∧ w.es.length ≤ 81 ∧ W (encL (besd w k))
theorem ln_beside {ds : List PyData} {W : PyData → Prop} (h : S_beside ds W) : ds.length = 2 := by obtain ⟨_, _, e, _⟩ := h; rw [e]; rfl
theorem u_beside {w : Wb} {k : Int} (hl : w.es.length ≤ 81) {W : PyData → Prop} : S_beside [wbD w, .int k] W ↔ W (encL (besd w k)) := ⟨fun ⟨w', k', e, _, h⟩ => by
  simp only [List.cons.injEq, and_true, PyData.int.injEq] at e
  rw [wbD_inj e.1, e.2]; exact h, fun h => ⟨w, k, rfl, hl, h⟩⟩
theorem df_beside (Fn_beside : Fn K mg "beside" "beside" 44) : Df P w K mg base "beside" 1 S_beside := by
  refine mkfn Fn_beside sc_beside (fun kV doc pm an cdv ct us h => by rcases us with _ | ⟨x0, _ | ⟨x1, _ | ⟨x2, r2⟩⟩⟩ <;> first | rfl | (simp at h)) (by intro ds W h; exact ln_beside h) fun f cdv A outer s H F E hr => ⟨_, (jbone (jret (je_f (jcatL (jc_f (jlc [("one", 2), ("other", 3)] rfl sc_beside.nd (jiT (jix (ja 0) (jc ji))) (blkOk_by (N := N_beside) (sc := defScope (top 44)) (own := [("one", 2), ("other", 3)]) (by decide +kernel)) (fun _ _ _ _ _ => (jgtp rfl (jgcons (jgn (i := 2) sc_beside.nd) (jgcons (jgn (i := 3) sc_beside.nd) jgnil)))) (fun _ _ _ _ _ => (jtone (jcmpT (o_eq hr.units) (ja 3) (ja 1)))) (fun _ _ _ _ _ => (jz 2)))) (jc_f (jlc [("one", 2), ("other", 3)] rfl sc_beside.nd (jiT (jix (ja 0) (jc ji))) (blkOk_by (N := N_beside) (sc := defScope (top 44)) (own := [("one", 2), ("other", 3)]) (by decide +kernel)) (fun _ _ _ _ _ => (jgtp rfl (jgcons (jgn (i := 2) sc_beside.nd) (jgcons (jgn (i := 3) sc_beside.nd) jgnil)))) (fun _ _ _ _ _ => (jtone (jcmpT (o_eq hr.units) (ja 2) (ja 1)))) (fun _ _ _ _ _ => (jz 3)))))))), ?_⟩
  intro ds W h
  obtain ⟨w, k, rfl, hl, h⟩ := h
  walk_at "rd"
  refine lc_ofE w.es (fun e => decide (e.2 = k)) (fun e => e.1) (by omega) (fun e he K1 K0 k1 k0 => ?_) ?_
  · walk_at "rd"
    by_cases hc : e.2 = k
    · exact .inr ⟨hc, k1 (by simp [hc])⟩
    · exact .inl ⟨hc, k0 (by simp [hc])⟩
  walk_at "rd"
  refine lc_ofE w.es (fun e => decide (e.1 = k)) (fun e => e.2) (by omega) (fun e he K1 K0 k1 k0 => ?_) ?_
  · walk_at "rd"
    by_cases hc : e.1 = k
    · exact .inr ⟨hc, k1 (by simp [hc])⟩
    · exact .inl ⟨hc, k0 (by simp [hc])⟩
  have l1 := List.length_filter_le (fun e : Int × Int => decide (e.2 = k)) w.es
  have l2 := List.length_filter_le (fun e : Int × Int => decide (e.1 = k)) w.es
  unfold besd encL at h
  rw [List.map_append] at h
  walk_at "rd"
  refine ⟨by omega, ?_⟩
  simpa using h

def S_is_let : SpT := fun ds W => ∃ (B : Bk) (w : Wb) (h : List Int) (u : Bool) (k : Int), ds = [bkD B, wbD w, .tuple (h.map .int), .bool u, .int k] ∧ VWeb w ∧ VHts B w h ∧ 0 ≤ k ∧ k < w.n ∧ W (.bool (canW B w h u k))
theorem ln_is_let {ds : List PyData} {W : PyData → Prop} (h : S_is_let ds W) : ds.length = 5 := by obtain ⟨_, _, _, _, _, e, _⟩ := h; rw [e]; rfl
theorem u_is_let {B : Bk} {w : Wb} {h : List Int} {u : Bool} {k : Int} (V : VWeb w) (VH : VHts B w h) (h0 : 0 ≤ k) (h1 : k < w.n) {W : PyData → Prop} (hw : W (.bool (canW B w h u k))) : S_is_let [bkD B, wbD w, .tuple (h.map .int), .bool u, .int k] W := ⟨B, w, h, u, k, rfl, V, VH, h0, h1, hw⟩
theorem df_is_let (G_lets : Df P w K mg base "lets" 1 S_lets) (G_beside : Df P w K mg base "beside" 1 S_beside) (Fn_is_let : Fn K mg "is_let" "is_let" 45) : Df P w K mg base "is_let" 2 S_is_let := by
  refine mkfn Fn_is_let sc_is_let (fun kV doc pm an cdv ct us h => by rcases us with _ | ⟨x0, _ | ⟨x1, _ | ⟨x2, _ | ⟨x3, _ | ⟨x4, _ | ⟨x5, r5⟩⟩⟩⟩⟩⟩ <;> first | rfl | (simp at h)) (by intro ds W h; exact ln_is_let h) fun f cdv A outer s H F E hr => ⟨_, (jbcons (jset (i := 5) sc_is_let.nd (jix (ja 2) (ja 4)))
    (jbcons (jifs (jw (jw_or (jw (jw_and (jt (ja 3)) (jw_and1 (jcmpT (o_eq hr.units) (ja 5) (jc (jix (ja 0) (jc ji))))))) (jw_or1 (jw (jw_and (jnot (jt (ja 3))) (jw_and1 (jcmpT (o_eq hr.units) (ja 5) (jc ji)))))))) (jbone (jret jb)) jbnil)
    (jbone (jret (jcmp (o_eq hr.units) (jc_f (jlc [("one", 6)] rfl sc_is_let.nd (jiL (jcall G_beside ⟨rfl, rfl⟩ hr (jcons (jz 1) (jcons (jz 4) jnil)))) (blkOk_by (N := N_is_let) (sc := defScope (top 45)) (own := [("one", 6)]) (by decide +kernel)) (fun _ _ _ _ _ => (jgn (i := 6) sc_is_let.nd)) (fun _ _ _ _ _ => (jtone (jnot (jt (jc (jcall G_lets ⟨rfl, rfl⟩ hr (jcons (jz 0) (jcons (jz 5) (jcons (jix (ja 2) (ja 6)) (jcons (jz 3) jnil)))))))))) (fun _ _ _ _ _ => (jz 6)))) (jc_f (jlst jnil))))))), ?_⟩
  intro ds W h
  obtain ⟨B, w, l, u, k, rfl, V, VH, h0, h1, h⟩ := h
  have hl := V.len
  have hn := VH.len
  have i1 := it_t l h0 (by omega)
  walk_at "rd"
  rw [i1]
  walk_at "rd"
  cases u with
  | false =>
    simp only [true_and, Bool.false_eq_true, false_and, or_false]
    by_cases hz : getI l k = 0
    · refine .inr ⟨hz, ?_⟩
      unfold canW at h
      simpa [hz] using h
    · refine .inl ⟨hz, ?_⟩
      rw [u_beside hl]
      walk_at "rd"
      refine lc_ofE (besd w k) (fun j => !lets B (getI l k) (getI l j) false) (fun j => j) (by
        have l1 := List.length_filter_le (fun e : Int × Int => decide (e.2 = k)) w.es
        have l2 := List.length_filter_le (fun e : Int × Int => decide (e.1 = k)) w.es
        unfold besd; rw [List.length_append, List.length_map, List.length_map]; omega) (fun j hj K1 K0 k1 k0 => ?_) ?_
      · have hjb := besd_mem V hj
        have i2 := it_t l hjb.1 (by omega)
        walk_at "rd"
        rw [i2]
        simp only [Option.some.injEq, exists_eq_left', u_lets]
        walk_at "rd"
        cases hc : lets B (getI l k) (getI l j) false
        · rw [hc] at k1; simp only [hc]; simpa [enc_i] using k1
        · rw [hc] at k0; simp only [hc]; simpa using k0
      · have e1 := deq0 (α := Int) (by decide) (((besd w k).filter fun j => !lets B (getI l k) (getI l j) false).map fun j => j)
        rw [e1]
        walk_at "rd"
        unfold canW at h
        have e2 : (((besd w k).filter fun j => !lets B (getI l k) (getI l j) false).map fun j => j).isEmpty = (besd w k).all fun j => lets B (getI l k) (getI l j) false := by
          rw [List.map_id']
          induction besd w k with
          | nil => rfl
          | cons a r ih =>
            rw [List.filter_cons, List.all_cons]
            cases hc : lets B (getI l k) (getI l a) false
            · simp
            · simpa using ih
        have e3 : (((besd w k).filter fun j => !lets B (getI l k) (getI l j) false)).isEmpty = (besd w k).all fun j => lets B (getI l k) (getI l j) false := by rw [List.map_id'] at e2; exact e2
        rw [e3]
        simpa [hz] using h
  | true =>
    simp only [true_and, Bool.true_eq_false, false_and, false_or]
    by_cases hz : getI l k = B.r
    · refine .inr ⟨hz, ?_⟩
      unfold canW at h
      simpa [hz] using h
    · refine .inl ⟨hz, ?_⟩
      rw [u_beside hl]
      walk_at "rd"
      refine lc_ofE (besd w k) (fun j => !lets B (getI l k) (getI l j) true) (fun j => j) (by
        have l1 := List.length_filter_le (fun e : Int × Int => decide (e.2 = k)) w.es
        have l2 := List.length_filter_le (fun e : Int × Int => decide (e.1 = k)) w.es
        unfold besd; rw [List.length_append, List.length_map, List.length_map]; omega) (fun j hj K1 K0 k1 k0 => ?_) ?_
      · have hjb := besd_mem V hj
        have i2 := it_t l hjb.1 (by omega)
        walk_at "rd"
        rw [i2]
        simp only [Option.some.injEq, exists_eq_left', u_lets]
        walk_at "rd"
        cases hc : lets B (getI l k) (getI l j) true
        · rw [hc] at k1; simp only [hc]; simpa [enc_i] using k1
        · rw [hc] at k0; simp only [hc]; simpa using k0
      · have e1 := deq0 (α := Int) (by decide) (((besd w k).filter fun j => !lets B (getI l k) (getI l j) true).map fun j => j)
        rw [e1]
        walk_at "rd"
        unfold canW at h
        have e2 : (((besd w k).filter fun j => !lets B (getI l k) (getI l j) true).map fun j => j).isEmpty = (besd w k).all fun j => lets B (getI l k) (getI l j) true := by
          rw [List.map_id']
          induction besd w k with
          | nil => rfl
          | cons a r ih =>
            rw [List.filter_cons, List.all_cons]
            cases hc : lets B (getI l k) (getI l a) true
            · simp
            · simpa using ih
        have e3 : (((besd w k).filter fun j => !lets B (getI l k) (getI l j) true)).isEmpty = (besd w k).all fun j => lets B (getI l k) (getI l j) true := by rw [List.map_id'] at e2; exact e2
        rw [e3]
        simpa [hz] using h

end
end HB

set_option Elab.async false
set_option linter.all false
set_option maxRecDepth 100000
set_option maxHeartbeats 4000000
set_option autoImplicit false
namespace HB
open PySem PySem.Spec L2
open En (enc)
section
variable {P : Program} {w : World} {K : PySem.W.Frag} {mg : Str → Option Value} {base : Heap}
local macro_rules | `(tactic| walk_at "rd") => `(tactic| simp [-List.any_eq_true, -List.any_eq_false, sSeq, sIf, sRt, sNx, sAs, sOw, sFz, sDo, sNo, sApp, gNm, gTp_t, gC_c, gN_n, xB, xZ, xA, xK, getZ, getA, fzz, x2, xAnd, xOr, xNot, xAndV, xOrV, xNotV, xIf, xChain, xFn, xTup, xLst, xNil, xCons, xCatL, xCatT, xSlL, xSlT, xNoP, xSoP, xThenL, xTupOf, xRngL, xSort, xSortSet, xSortK, xSumV, xDget, xDictOf, xTIndex, xTupF, xCatF, xRevT, xRngL3, xRngT, xRow, gRow, xLen0, xCell, xCallR, xIsi, xIsi2, xCall, xDnew, xDone, xGetD, xInD, xYes, sFor, iL, iT, iR1, iR2, iR3, iEnT, iEnL, iKs, iLn, xLc, kOk_p, any_p, dlk_p, put_p, dne0_p, deq0_p, dne0_i, dne0_w, deq0_w, encM_len, sMix, xMo, xMf, xMn, setS, gSbD, gSb, cut_take, cut_drop, ex2_eq, kOk_kk, put_kk, kOk_k3, dlk_k3, put_k3, itw0, itw1, wb_nt, wb_tu, wb_len, kOk_h, dlk_h, put_h, getD_h, sAugM, rngD_0, wip, dseq_t, dseq_l, deq_il, rngD_rg, dnD_dn, disN_n, dnotN_n, isNo, start', startR, rwAt, rwSet, dint, itb0, itb1, itb2, bk_nt, bk_tu, bk_len, encL_list, list_encL, len_L, len_l, len_t, it2_0, it2_1, it3_0, it3_1, it3_2, il2_0, il2_1, il1_0, it2_v, it2_n, icmp_i, isub_i, iadd_i, din_i, din_iL, deq_i, dne_i, deq_b, dne_b, nd_i, nd_b, nd_s, nd_n, nd_l, nd_t, ik_ii, ik_ib, ik_tt, small, dabs, dmax2, sum_L, enc_i, enc_b, enc_k, enc_p, enc_3, enc_l])
def S_deeds_in_webs : SpT := fun ds W => ∃ (B : Bk) (w : Wb) (h : List Int), ds = [bkD B, wbD w, .tuple (h.map .int)] ∧ VWeb w ∧ VHts B w h ∧ W (encL (deedsW B w h))
theorem ln_deeds_in_webs {ds : List PyData} {W : PyData → Prop} (h : S_deeds_in_webs ds W) : ds.length = 3 := by obtain ⟨_, _, _, e, _⟩ := h; rw [e]; rfl
theorem u_deeds_in_webs {B : Bk} {w : Wb} {h : List Int} (V : VWeb w) (VH : VHts B w h) {W : PyData → Prop} (hw : W (encL (deedsW B w h))) : S_deeds_in_webs [bkD B, wbD w, .tuple (h.map .int)] W := ⟨B, w, h, rfl, V, VH, hw⟩
theorem df_deeds_in_webs (G_is_let : Df P w K mg base "is_let" 2 S_is_let) (h_range : mg "range" = none) (Fn_deeds_in_webs : Fn K mg "deeds_in_webs" "deeds_in" 46) : Df P w K mg base "deeds_in_webs" 3 S_deeds_in_webs := by
  refine mkfn Fn_deeds_in_webs sc_deeds_in_webs (fun kV doc pm an cdv ct us h => by rcases us with _ | ⟨x0, _ | ⟨x1, _ | ⟨x2, _ | ⟨x3, r3⟩⟩⟩⟩ <;> first | rfl | (simp at h)) (by intro ds W h; exact ln_deeds_in_webs h) fun f cdv A outer s H F E hr => ⟨_, (jbcons (jsetLc (i := 3) [("place", 4)] rfl sc_deeds_in_webs.nd (jiR1 h_range (jccons (jc (jix (ja 1) (jc ji))) jcnil)) (blkOk_by (N := N_deeds_in_webs) (sc := defScope (top 46)) (own := [("place", 4)]) (by decide +kernel)) (fun _ _ _ _ _ => (jgn (i := 4) sc_deeds_in_webs.nd)) (fun _ _ _ _ _ => (jtone (jt (jc (jcall G_is_let ⟨rfl, rfl⟩ hr (jcons (jz 0) (jcons (jz 1) (jcons (jz 2) (jcons jb (jcons (jz 4) jnil)))))))))) (fun _ _ _ _ _ => (jtup (jcons jb (jcons (jz 4) jnil)))))
    (jbone (jret (je_f (jcatL (ja 3) (jc_f (jlc [("place", 4)] rfl sc_deeds_in_webs.nd (jiR1 h_range (jccons (jc (jix (ja 1) (jc ji))) jcnil)) (blkOk_by (N := N_deeds_in_webs) (sc := defScope (top 46)) (own := [("place", 4)]) (by decide +kernel)) (fun _ _ _ _ _ => (jgn (i := 4) sc_deeds_in_webs.nd)) (fun _ _ _ _ _ => (jtone (jt (jc (jcall G_is_let ⟨rfl, rfl⟩ hr (jcons (jz 0) (jcons (jz 1) (jcons (jz 2) (jcons jb (jcons (jz 4) jnil)))))))))) (fun _ _ _ _ _ => (jtup (jcons jb (jcons (jz 4) jnil))))))))))), ?_⟩
  intro ds W h
  obtain ⟨B, w, l, rfl, V, VH, h⟩ := h
  have n1 := V.n1
  have n0 := V.n0
  walk_at "rd"
  refine ⟨by omega, lc_ofE (rgI 0 w.n) (canW B w l false) (fun k => (false, k)) (by rw [len_rgI]; omega) (fun k hk K1 K0 k1 k0 => ?_) ?_⟩
  · have hkb := mem_rgI.mp hk
    walk_at "rd"
    refine u_is_let V VH hkb.1 hkb.2 ?_
    cases hc : canW B w l false k
    · exact .inl ⟨rfl, k0 hc⟩
    · exact .inr ⟨rfl, k1 hc⟩
  walk_at "rd"
  refine ⟨by omega, lc_ofE (rgI 0 w.n) (canW B w l true) (fun k => (true, k)) (by rw [len_rgI]; omega) (fun k hk K1 K0 k1 k0 => ?_) ?_⟩
  · have hkb := mem_rgI.mp hk
    walk_at "rd"
    refine u_is_let V VH hkb.1 hkb.2 ?_
    cases hc : canW B w l true k
    · exact .inl ⟨rfl, k0 hc⟩
    · exact .inr ⟨rfl, k1 hc⟩
  have l1 := List.length_filter_le (canW B w l false) (rgI 0 w.n)
  have l2 := List.length_filter_le (canW B w l true) (rgI 0 w.n)
  rw [len_rgI] at l1 l2
  unfold deedsW encL at h
  rw [List.map_append] at h
  walk_at "rd"
  refine ⟨by omega, ?_⟩
  simpa using h

def S_changed : SpT := fun ds W => ∃ (h : List Int) (u : Bool) (k : Int), ds = [.tuple (h.map .int), .tuple [.bool u, .int k]] ∧ 0 ≤ k ∧ k < h.length ∧ h.length ≤ 100 ∧ W (.tuple ((chg h (u, k)).map .int))
theorem ln_changed {ds : List PyData} {W : PyData → Prop} (h : S_changed ds W) : ds.length = 2 := by obtain ⟨_, _, _, e, _⟩ := h; rw [e]; rfl
theorem u_changed {h : List Int} {u : Bool} {k : Int} (h0 : 0 ≤ k) (h1 : k < h.length) (h2 : h.length ≤ 100) {W : PyData → Prop} (hw : W (.tuple ((chg h (u, k)).map .int))) : S_changed [.tuple (h.map .int), .tuple [.bool u, .int k]] W := ⟨h, u, k, rfl, h0, h1, h2, hw⟩
theorem df_changed (Fn_changed : Fn K mg "changed" "changed" 48) : Df P w K mg base "changed" 1 S_changed := by
  refine mkfn Fn_changed sc_changed (fun kV doc pm an cdv ct us h => by rcases us with _ | ⟨x0, _ | ⟨x1, _ | ⟨x2, r2⟩⟩⟩ <;> first | rfl | (simp at h)) (by intro ds W h; exact ln_changed h) fun f cdv A outer s H F E hr => ⟨_, (jbcons (jas (pr := false) (jz 1) (jgtp rfl (jgcons (jgn (i := 2) sc_changed.nd) (jgcons (jgn (i := 3) sc_changed.nd) jgnil))))
    (jbone (jret (jcatT (jcatT (jslT (jz 0) jno (jso (ja 3))) (jtup (jcons (jadd (jc (jix (ja 0) (ja 3))) (jc (jif (jt (ja 2)) ji (jneg (jc ji))))) jnil))) (jslT (jz 0) (jso (jc (jadd (ja 3) (jc ji)))) jno))))), ?_⟩
  intro ds W h
  obtain ⟨l, u, k, rfl, h0, h1, h2, h⟩ := h
  have i1 := it_t l h0 h1
  have hk : (k.toNat : Int) = k := by omega
  have c1 : cutD (l.map PyData.int) none (some k) = (l.take k.toNat).map .int := by
    have := cut_take (l.map PyData.int) k.toNat
    rw [hk, ← List.map_take] at this; exact this
  have c2 : cutD (l.map PyData.int) (some (k + 1)) none = (l.drop (k.toNat + 1)).map .int := by
    have e : (k + 1) = ((k.toNat + 1 : Nat) : Int) := by omega
    rw [e, cut_drop, ← List.map_drop]
  have e1 : chg l (u, k) = l.take k.toNat ++ (getI l k + sg u) :: l.drop (k.toNat + 1) := by
    unfold chg
    exact List.set_eq_take_append_cons_drop ▸ (by rw [if_pos (by simp only; omega)])
  rw [e1] at h
  walk_at "rd"
  simp only [i1, c1, c2, Option.some.injEq, exists_eq_left', iadd_i]
  walk_at "rd"
  rw [List.map_append, List.map_cons, List.map_take, List.map_drop] at h
  cases u
  · exact .inl ⟨rfl, by omega, by omega, h⟩
  · exact .inr ⟨rfl, by omega, by omega, h⟩

def nearW (B : Bk) (w : Wb) (h o : List Int) : List Dw := (deedsW B w h).filter fun d => if d.1 then decide (getI h d.2 < getI o d.2) else decide (getI o d.2 < getI h d.2)
def S_nearer : SpT := fun ds W => ∃ (B : Bk) (w : Wb) (h o : List Int), ds = [bkD B, wbD w, .tuple (h.map .int), .tuple (o.map .int)] ∧ VWeb w ∧ VHts B w h ∧ o.length = h.length ∧ W (encL (nearW B w h o))
theorem ln_nearer {ds : List PyData} {W : PyData → Prop} (h : S_nearer ds W) : ds.length = 4 := by obtain ⟨_, _, _, _, e, _⟩ := h; rw [e]; rfl
theorem u_nearer {B : Bk} {w : Wb} {h o : List Int} (V : VWeb w) (VH : VHts B w h) (hl : o.length = h.length) {W : PyData → Prop} (hw : W (encL (nearW B w h o))) : S_nearer [bkD B, wbD w, .tuple (h.map .int), .tuple (o.map .int)] W := ⟨B, w, h, o, rfl, V, VH, hl, hw⟩
def nearStep (h o : List Int) (b : List Dw) (d : Dw) : List Dw := if (if d.1 then decide (getI h d.2 < getI o d.2) else decide (getI o d.2 < getI h d.2)) = true then b ++ [d] else b
theorem near_fold (h o : List Int) : ∀ (l : List Dw) (b : List Dw), l.foldl (nearStep h o) b = b ++ l.filter fun d => if d.1 then decide (getI h d.2 < getI o d.2) else decide (getI o d.2 < getI h d.2)
  | [], b => by simp
  | d :: l, b => by
    rw [List.foldl_cons, near_fold h o l, List.filter_cons, nearStep]
    generalize (if d.1 then decide (getI h d.2 < getI o d.2) else decide (getI o d.2 < getI h d.2)) = c
    cases c <;> simp
theorem deedsW_mem {B : Bk} {w : Wb} {h : List Int} {d : Dw} : d ∈ deedsW B w h ↔ (0 ≤ d.2 ∧ d.2 < w.n) ∧ canW B w h d.1 d.2 = true := by
  obtain ⟨u, k⟩ := d
  unfold deedsW
  simp only [List.mem_append, List.mem_map, List.mem_filter, Prod.mk.injEq, mem_rgI]
  constructor
  · rintro (⟨a, ⟨h1, h2⟩, rfl, rfl⟩ | ⟨a, ⟨h1, h2⟩, rfl, rfl⟩) <;> exact ⟨h1, h2⟩
  · rintro ⟨h1, h2⟩
    cases u
    · exact .inl ⟨k, ⟨h1, h2⟩, rfl, rfl⟩
    · exact .inr ⟨k, ⟨h1, h2⟩, rfl, rfl⟩
theorem deedsW_len {B : Bk} {w : Wb} {h : List Int} (n1 : w.n ≤ 8) : (deedsW B w h).length ≤ 16 := by
  have l1 := List.length_filter_le (canW B w h false) (rgI 0 w.n)
  have l2 := List.length_filter_le (canW B w h true) (rgI 0 w.n)
  rw [len_rgI] at l1 l2
  unfold deedsW; rw [List.length_append, List.length_map, List.length_map]; omega
theorem df_nearer (G_deeds_in_webs : Df P w K mg base "deeds_in_webs" 3 S_deeds_in_webs) (Fn_nearer : Fn K mg "nearer" "nearer" 57) : Df P w K mg base "nearer" 4 S_nearer := by
  refine mkfn Fn_nearer sc_nearer (fun kV doc pm an cdv ct us h => by rcases us with _ | ⟨x0, _ | ⟨x1, _ | ⟨x2, _ | ⟨x3, _ | ⟨x4, r4⟩⟩⟩⟩⟩ <;> first | rfl | (simp at h)) (by intro ds W h; exact ln_nearer h) fun f cdv A outer s H F E hr => ⟨_, (jbcons (jown (i := 4) sc_nearer.nd (jlst jnil))
    (jbcons (jfor (pr := false) PassesOwn.never rfl (jiL (jcall G_deeds_in_webs ⟨rfl, rfl⟩ hr (jcons (jz 0) (jcons (jz 1) (jcons (jz 2) jnil))))) (jgtp rfl (jgcons (jgn (i := 5) sc_nearer.nd) (jgcons (jgn (i := 6) sc_nearer.nd) jgnil))) (jbone (jifs (jw (jw_or (jw (jw_and (jt (ja 5)) (jw_and1 (jcmpT o_lt (jc (jix (ja 2) (ja 6))) (jc (jix (ja 3) (ja 6))))))) (jw_or1 (jw (jw_and (jnot (jt (ja 5))) (jw_and1 (jcmpT o_gt (jc (jix (ja 2) (ja 6))) (jc (jix (ja 3) (ja 6)))))))))) (jbone (japp 4 (pv 4) (jtup (jcons (jz 5) (jcons (jz 6) jnil))))) jbnil)))
    (jbone (jfz 4 (jret (jz 4)))))), ?_⟩
  intro ds W h
  obtain ⟨B, w, l, o, rfl, V, VH, hlo, h⟩ := h
  have n1 := V.n1
  have hn := VH.len
  walk_at "rd"
  refine u_deeds_in_webs V VH ?_
  refine ⟨(deedsW B w l).map enc, rfl, ?_⟩
  refine loop_fold (deedsW B w l) (fun (b : List Dw) (e : Slo × Slo) => [.fz (bkD B), .fz (wbD w), .fz (.tuple (l.map .int)), .fz (.tuple (o.map .int)), .ow (encL b), e.1, e.2]) (nearStep l o) [] (.no, .no) rfl ?_ ?_
  · rintro pre ⟨u, k⟩ post hl e
    obtain ⟨⟨k0, k1⟩, _⟩ := deedsW_mem.mp (show (u, k) ∈ deedsW B w l by rw [hl]; exact List.mem_append_right _ (List.mem_cons_self ..))
    simp only at k0 k1
    have i1 := it_t l k0 (by omega)
    have i2 := it_t o k0 (by omega)
    have hd := deedsW_len (B := B) (h := l) n1
    have hpl := congrArg List.length hl
    rw [List.length_append, List.length_cons] at hpl
    have hb : (pre.foldl (nearStep l o) []).length ≤ pre.length := by
      rw [near_fold, List.nil_append]; exact List.length_filter_le _ _
    generalize pre.foldl (nearStep l o) [] = bb at hb
    rw [nearStep]
    walk_at "rd"
    simp only [i1, i2, Option.some.injEq, exists_eq_left', icmp_i]
    walk_at "rd"
    cases u with
    | false =>
      by_cases hc : getI o k < getI l k
      · refine .inl ⟨rfl, .inl ⟨rfl, .inr ⟨hc, by omega, ?_⟩⟩⟩
        simp [hc, enc_p, enc_b, enc_i]
      · refine .inl ⟨rfl, .inl ⟨rfl, .inl ⟨by omega, ?_⟩⟩⟩
        simp [hc]
    | true =>
      by_cases hc : getI l k < getI o k
      · refine .inr ⟨rfl, .inr ⟨hc, by omega, ?_⟩⟩
        simp [hc, enc_p, enc_b, enc_i]
      · refine .inr ⟨rfl, .inl ⟨by omega, .inr ⟨rfl, ?_⟩⟩⟩
        simp [hc]
  · intro e
    rw [near_fold, List.nil_append]
    walk_at "rd"
    exact h

end
end HB

set_option Elab.async false
set_option linter.all false
set_option maxRecDepth 100000
set_option maxHeartbeats 4000000
set_option autoImplicit false
namespace HB
open PySem PySem.Spec L2
open En (enc)
section
variable {P : Program} {w : World} {K : PySem.W.Frag} {mg : Str → Option Value} {base : Heap}
local macro_rules | `(tactic| walk_at "rd") => `(tactic| simp [-List.any_eq_true, -List.any_eq_false, sSeq, sIf, sRt, sNx, sAs, sOw, sFz, sDo, sNo, sApp, gNm, gTp_t, gC_c, gN_n, xB, xZ, xA, xK, getZ, getA, fzz, x2, xAnd, xOr, xNot, xAndV, xOrV, xNotV, xIf, xChain, xFn, xTup, xLst, xNil, xCons, xCatL, xCatT, xSlL, xSlT, xNoP, xSoP, xThenL, xTupOf, xRngL, xSort, xSortSet, xSortK, xSumV, xDget, xDictOf, xTIndex, xTupF, xCatF, xRevT, xRngL3, xRngT, xRow, gRow, xLen0, xCell, xCallR, xIsi, xIsi2, xCall, xDnew, xDone, xGetD, xInD, xYes, sFor, iL, iT, iR1, iR2, iR3, iEnT, iEnL, iKs, iLn, xLc, kOk_p, any_p, dlk_p, put_p, dne0_p, deq0_p, dne0_i, dne0_w, deq0_w, encM_len, sMix, xMo, xMf, xMn, setS, gSbD, gSb, cut_take, cut_drop, ex2_eq, kOk_kk, put_kk, kOk_k3, dlk_k3, put_k3, itw0, itw1, wb_nt, wb_tu, wb_len, kOk_h, dlk_h, put_h, getD_h, sAugM, rngD_0, wip, dseq_t, dseq_l, deq_il, rngD_rg, dnD_dn, disN_n, dnotN_n, isNo, start', startR, rwAt, rwSet, dint, itb0, itb1, itb2, bk_nt, bk_tu, bk_len, encL_list, list_encL, len_L, len_l, len_t, it2_0, it2_1, it3_0, it3_1, it3_2, il2_0, il2_1, il1_0, it2_v, it2_n, icmp_i, isub_i, iadd_i, din_i, din_iL, deq_i, dne_i, deq_b, dne_b, nd_i, nd_b, nd_s, nd_n, nd_l, nd_t, ik_ii, ik_ib, ik_tt, small, dabs, dmax2, sum_L, enc_i, enc_b, enc_k, enc_p, enc_3, enc_l])
def S_bars_in : SpT := fun ds W => ∃ (B : Bk) (w : Wb) (a b : List Int), ds = [bkD B, wbD w, .tuple (a.map .int), .tuple (b.map .int)] ∧ B.r ≤ 4 ∧ VWeb w ∧ VHts B w a ∧ VHts B w b ∧ Reach B w a b ∧ W (.list [])
theorem ln_bars_in {ds : List PyData} {W : PyData → Prop} (h : S_bars_in ds W) : ds.length = 4 := by obtain ⟨_, _, _, _, e, _⟩ := h; rw [e]; rfl
theorem u_bars_in {B : Bk} {w : Wb} {a b : List Int} (hr : B.r ≤ 4) (V : VWeb w) (VA : VHts B w a) (VB : VHts B w b) (R : Reach B w a b) {W : PyData → Prop} (hw : W (.list [])) : S_bars_in [bkD B, wbD w, .tuple (a.map .int), .tuple (b.map .int)] W := ⟨B, w, a, b, rfl, hr, V, VA, VB, R, hw⟩
theorem df_bars_in (G_from_in : Df P w K mg base "from_in" 3 S_from_in) (Fn_bars_in : Fn K mg "bars_in" "bars_in" 51) : Df P w K mg base "bars_in" 4 S_bars_in := by
  refine mkfn Fn_bars_in sc_bars_in (fun kV doc pm an cdv ct us h => by rcases us with _ | ⟨x0, _ | ⟨x1, _ | ⟨x2, _ | ⟨x3, _ | ⟨x4, r4⟩⟩⟩⟩⟩ <;> first | rfl | (simp at h)) (by intro ds W h; exact ln_bars_in h) fun f cdv A outer s H F E hr => ⟨_, (jbcons (jown (i := 4) sc_bars_in.nd (jlst jnil))
    (jbcons (jfor (pr := false) PassesOwn.never rfl (jiT (jix (ja 1) (jc ji))) (jgtp rfl (jgcons (jgn (i := 5) sc_bars_in.nd) (jgcons (jgn (i := 6) sc_bars_in.nd) jgnil))) (jbone (jifs (jninDT ⟨rfl, rfl⟩ hr.u_d (jtup (jcons (jix (ja 3) (ja 5)) (jcons (jix (ja 3) (ja 6)) jnil))) (jc (jcall G_from_in ⟨rfl, rfl⟩ hr (jcons (jz 0) (jcons (jtup (jcons (jix (ja 2) (ja 5)) (jcons (jix (ja 2) (ja 6)) jnil))) jnil))))) (jbone (japp 4 (pv 4) (jtup (jcons (jz 5) (jcons (jz 6) jnil))))) jbnil)))
    (jbone (jfz 4 (jret (jz 4)))))), ?_⟩
  intro ds W h
  obtain ⟨B, w, l, o, rfl, hr, V, VA, VB, R, h⟩ := h
  have hl := V.len
  have ha := VA.len
  have hb := VB.len
  walk_at "rd"
  refine loop_fold w.es (fun (_ : Unit) (e : Slo × Slo) => [.fz (bkD B), .fz (wbD w), .fz (.tuple (l.map .int)), .fz (.tuple (o.map .int)), .ow (.list []), e.1, e.2]) (fun u _ => u) () (.no, .no) rfl ?_ ?_
  · intro pre ed post hll e
    have hm : ed ∈ w.es := by rw [hll]; exact List.mem_append_right _ (List.mem_cons_self ..)
    have hv := V.ed _ hm
    have bx := VA.box V hm
    obtain ⟨k, hp⟩ := R ed hm
    have i1 := it_t o (i := ed.1) (by omega) (by omega)
    have i2 := it_t o (i := ed.2) (by omega) (by omega)
    have i3 := it_t l (i := ed.1) (by omega) (by omega)
    have i4 := it_t l (i := ed.2) (by omega) (by omega)
    walk_at "rd"
    simp only [i1, i2, i3, i4, Option.some.injEq, exists_eq_left']
    refine u_from_in bx hr fun m F => ?_
    walk_at "rd"
    obtain ⟨n, hn, _⟩ := F.all _ k hp
    exact ⟨n, hn⟩
  · intro e
    walk_at "rd"
    exact h

def S_need_kept_both : SpT := fun ds W => ∃ (B : Bk) (w : Wb) (a b : List Int), ds = [bkD B, wbD w, .tuple (a.map .int), .tuple (b.map .int)] ∧ Kept B ∧ VWeb w ∧ VHts B w a ∧ VHts B w b ∧ W .none
theorem ln_need_kept_both {ds : List PyData} {W : PyData → Prop} (h : S_need_kept_both ds W) : ds.length = 4 := by obtain ⟨_, _, _, _, e, _⟩ := h; rw [e]; rfl
theorem u_need_kept_both {B : Bk} {w : Wb} {a b : List Int} (K : Kept B) (V : VWeb w) (VA : VHts B w a) (VB : VHts B w b) {W : PyData → Prop} (hw : W .none) : S_need_kept_both [bkD B, wbD w, .tuple (a.map .int), .tuple (b.map .int)] W := ⟨B, w, a, b, rfl, K, V, VA, VB, hw⟩
theorem df_need_kept_both (G_need_kept : Df P w K mg base "need_kept" 7 S_need_kept) (G_need_web : Df P w K mg base "need_web" 3 S_need_web) (G_need_heights : Df P w K mg base "need_heights" 2 S_need_heights) (Fn_need_kept_both : Fn K mg "need_kept_both" "need_kept_both" 52) : Df P w K mg base "need_kept_both" 8 S_need_kept_both := by
  refine mkfn Fn_need_kept_both sc_need_kept_both (fun kV doc pm an cdv ct us h => by rcases us with _ | ⟨x0, _ | ⟨x1, _ | ⟨x2, _ | ⟨x3, _ | ⟨x4, r4⟩⟩⟩⟩⟩ <;> first | rfl | (simp at h)) (by intro ds W h; exact ln_need_kept_both h) fun f cdv A outer s H F E hr => ⟨_, (jbcons (jdo (jcall G_need_kept ⟨rfl, rfl⟩ hr (jcons (jz 0) jnil)))
    (jbcons (jdo (jcall G_need_web ⟨rfl, rfl⟩ (hr.mono (by decide)) (jcons (jz 1) jnil)))
    (jbcons (jdo (jcall G_need_heights ⟨rfl, rfl⟩ (hr.mono (by decide)) (jcons (jz 0) (jcons (jix (ja 1) (jc ji)) (jcons (jz 2) jnil)))))
    (jbone (jdo (jcall G_need_heights ⟨rfl, rfl⟩ (hr.mono (by decide)) (jcons (jz 0) (jcons (jix (ja 1) (jc ji)) (jcons (jz 3) jnil))))))))), ?_⟩
  intro ds W h
  obtain ⟨B, w, l, o, rfl, KB, V, VA, VB, h⟩ := h
  have ha := VA.len
  have hb := VB.len
  have n1 := V.n1
  walk_at "rd"
  rw [u_need_kept KB, u_need_web V, u_need_heights VA (by omega), u_need_heights VB (by omega)]
  exact h

def S_sum_of : SpT := fun ds W => ∃ (a b : List Int), ds = [.tuple (a.map .int), .tuple (b.map .int)] ∧ a.length = b.length ∧ a.length ≤ 100 ∧ W (.int (sumH a b))
theorem ln_sum_of {ds : List PyData} {W : PyData → Prop} (h : S_sum_of ds W) : ds.length = 2 := by obtain ⟨_, _, e, _⟩ := h; rw [e]; rfl
theorem u_sum_of {a b : List Int} (h1 : a.length = b.length) (h2 : a.length ≤ 100) {W : PyData → Prop} (hw : W (.int (sumH a b))) : S_sum_of [.tuple (a.map .int), .tuple (b.map .int)] W := ⟨a, b, rfl, h1, h2, hw⟩
theorem df_sum_of (h_abs : mg "abs" = none) (h_enumerate : mg "enumerate" = none) (h_sum : mg "sum" = none) (Fn_sum_of : Fn K mg "sum_of" "sum_of" 53) : Df P w K mg base "sum_of" 1 S_sum_of := by
  refine mkfn Fn_sum_of sc_sum_of (fun kV doc pm an cdv ct us h => by rcases us with _ | ⟨x0, _ | ⟨x1, _ | ⟨x2, r2⟩⟩⟩ <;> first | rfl | (simp at h)) (by intro ds W h; exact ln_sum_of h) fun f cdv A outer s H F E hr => ⟨_, (jbone (jret (jcallB (b_sum rfl) h_sum (jccons (jc_f (jlc [("place", 2), ("height", 3)] rfl sc_sum_of.nd (jiEnT h_enumerate (jz 0)) (blkOk_by (N := N_sum_of) (sc := defScope (top 53)) (own := [("place", 2), ("height", 3)]) (by decide +kernel)) (fun _ _ _ _ _ => (jgtp rfl (jgcons (jgn (i := 2) sc_sum_of.nd) (jgcons (jgn (i := 3) sc_sum_of.nd) jgnil)))) (fun _ _ _ _ _ => jtnil) (fun _ _ _ _ _ => (jcallB b_abs h_abs (jccons (jc (jsub (ja 3) (jc (jix (ja 1) (ja 2))))) jcnil))))) jcnil)))), ?_⟩
  intro ds W h
  obtain ⟨l, o, rfl, hlo, hl, h⟩ := h
  walk_at "rd"
  refine lc_allE (en := fun (i : Nat) => .tuple [.int (i : Nat), (l.map .int).getD i .none]) (List.range (l.map PyData.int).length) (fun (i : Nat) => ((getI l i - getI o i).natAbs : Int)) (by simp; omega) (fun i hi K1 k1 => ?_) ?_
  · have hi2 : i < l.length := by simpa using List.mem_range.mp hi
    have i1 := it_t o (i := (i : Int)) (by omega) (by omega)
    rw [en_at l hi2]
    walk_at "rd"
    rw [i1]
    walk_at "rd"
    exact k1
  · walk_at "rd"
    exact h

def S_need_way : SpT := fun ds W => ∃ (B : Bk) (w : Wb) (a b : List Int), ds = [bkD B, wbD w, .tuple (a.map .int), .tuple (b.map .int)] ∧ Kept B ∧ VWeb w ∧ VHts B w a ∧ VHts B w b ∧ Reach B w a b ∧ W .none
theorem ln_need_way {ds : List PyData} {W : PyData → Prop} (h : S_need_way ds W) : ds.length = 4 := by obtain ⟨_, _, _, _, e, _⟩ := h; rw [e]; rfl
theorem u_need_way {B : Bk} {w : Wb} {a b : List Int} (K : Kept B) (V : VWeb w) (VA : VHts B w a) (VB : VHts B w b) (R : Reach B w a b) {W : PyData → Prop} (hw : W .none) : S_need_way [bkD B, wbD w, .tuple (a.map .int), .tuple (b.map .int)] W := ⟨B, w, a, b, rfl, K, V, VA, VB, R, hw⟩
theorem df_need_way (G_bars_in : Df P w K mg base "bars_in" 4 S_bars_in) (G_need_kept_both : Df P w K mg base "need_kept_both" 8 S_need_kept_both) (Fn_need_way : Fn K mg "need_way" "need_way" 54) : Df P w K mg base "need_way" 9 S_need_way := by
  refine mkfn Fn_need_way sc_need_way (fun kV doc pm an cdv ct us h => by rcases us with _ | ⟨x0, _ | ⟨x1, _ | ⟨x2, _ | ⟨x3, _ | ⟨x4, r4⟩⟩⟩⟩⟩ <;> first | rfl | (simp at h)) (by intro ds W h; exact ln_need_way h) fun f cdv A outer s H F E hr => ⟨_, (jbcons (jdo (jcall G_need_kept_both ⟨rfl, rfl⟩ hr (jcons (jz 0) (jcons (jz 1) (jcons (jz 2) (jcons (jz 3) jnil))))))
    (jbone (jifs (jcmpT (o_ne hr.units) (jc (jcall G_bars_in ⟨rfl, rfl⟩ (hr.mono (by decide)) (jcons (jz 0) (jcons (jz 1) (jcons (jz 2) (jcons (jz 3) jnil)))))) (jc_f (jlst jnil))) (jbone jnever) jbnil))), ?_⟩
  intro ds W h
  obtain ⟨B, w, l, o, rfl, KB, V, VA, VB, R, h⟩ := h
  walk_at "rd"
  refine u_need_kept_both KB V VA VB ?_
  refine u_bars_in KB.va.r1 V VA VB R ?_
  have e1 : dne (.list []) (.list []) = some (.bool false) := dne0 (α := Int) (by decide) []
  simp only [e1, Option.some.injEq, exists_eq_left']
  walk_at "rd"
  exact h

end
end HB

set_option Elab.async false
set_option linter.all false
set_option maxRecDepth 100000
set_option maxHeartbeats 4000000
set_option autoImplicit false
namespace HB
open PySem PySem.Spec L2
open En (enc)
section
variable {P : Program} {w : World} {K : PySem.W.Frag} {mg : Str → Option Value} {base : Heap}
local macro_rules | `(tactic| walk_at "rd") => `(tactic| simp [-List.any_eq_true, -List.any_eq_false, sSeq, sIf, sRt, sNx, sAs, sOw, sFz, sDo, sNo, sApp, gNm, gTp_t, gC_c, gN_n, xB, xZ, xA, xK, getZ, getA, fzz, x2, xAnd, xOr, xNot, xAndV, xOrV, xNotV, xIf, xChain, xFn, xTup, xLst, xNil, xCons, xCatL, xCatT, xSlL, xSlT, xNoP, xSoP, xThenL, xTupOf, xRngL, xSort, xSortSet, xSortK, xSumV, xDget, xDictOf, xTIndex, xTupF, xCatF, xRevT, xRngL3, xRngT, xRow, gRow, xLen0, xCell, xCallR, xIsi, xIsi2, xCall, xDnew, xDone, xGetD, xInD, xYes, sFor, iL, iT, iR1, iR2, iR3, iEnT, iEnL, iKs, iLn, xLc, kOk_p, any_p, dlk_p, put_p, dne0_p, deq0_p, dne0_i, dne0_w, deq0_w, encM_len, sMix, xMo, xMf, xMn, setS, gSbD, gSb, cut_take, cut_drop, ex2_eq, kOk_kk, put_kk, kOk_k3, dlk_k3, put_k3, itw0, itw1, wb_nt, wb_tu, wb_len, kOk_h, dlk_h, put_h, getD_h, sAugM, rngD_0, wip, dseq_t, dseq_l, deq_il, rngD_rg, dnD_dn, disN_n, dnotN_n, isNo, start', startR, rwAt, rwSet, dint, itb0, itb1, itb2, bk_nt, bk_tu, bk_len, encL_list, list_encL, len_L, len_l, len_t, it2_0, it2_1, it3_0, it3_1, it3_2, il2_0, il2_1, il1_0, it2_v, it2_n, icmp_i, isub_i, iadd_i, din_i, din_iL, deq_i, dne_i, deq_b, dne_b, nd_i, nd_b, nd_s, nd_n, nd_l, nd_t, ik_ii, ik_ib, ik_tt, small, dabs, dmax2, sum_L, enc_i, enc_b, enc_k, enc_p, enc_3, enc_l])
def S_pairs_in : SpT := fun ds W => ∃ (B : Bk) (w : Wb) (a b : List Int), ds = [bkD B, wbD w, .tuple (a.map .int), .tuple (b.map .int)] ∧ B.r ≤ 4 ∧ Straight B ∧ VWeb w ∧ VHts B w a ∧ VHts B w b ∧ Reach B w a b ∧ W (encL (pairsW B w a b))
theorem ln_pairs_in {ds : List PyData} {W : PyData → Prop} (h : S_pairs_in ds W) : ds.length = 4 := by obtain ⟨_, _, _, _, e, _⟩ := h; rw [e]; rfl
theorem u_pairs_in {B : Bk} {w : Wb} {a b : List Int} (hr : B.r ≤ 4) (S : Straight B) (V : VWeb w) (VA : VHts B w a) (VB : VHts B w b) (R : Reach B w a b) {W : PyData → Prop} (hw : W (encL (pairsW B w a b))) : S_pairs_in [bkD B, wbD w, .tuple (a.map .int), .tuple (b.map .int)] W := ⟨B, w, a, b, rfl, hr, S, V, VA, VB, R, hw⟩
theorem df_pairs_in (G_way : Df P w K mg base "way" 1 S_way) (G_told_in : Df P w K mg base "told_in" 3 S_told_in) (h_enumerate : mg "enumerate" = none) (h_len : mg "len" = none) (h_range : mg "range" = none) (h_sorted : mg "sorted" = none) (Fn_pairs_in : Fn K mg "pairs_in" "pairs_in" 55) : Df P w K mg base "pairs_in" 4 S_pairs_in := by
  refine mkfn Fn_pairs_in sc_pairs_in (fun kV doc pm an cdv ct us h => by rcases us with _ | ⟨x0, _ | ⟨x1, _ | ⟨x2, _ | ⟨x3, _ | ⟨x4, r4⟩⟩⟩⟩⟩ <;> first | rfl | (simp at h)) (by intro ds W h; exact ln_pairs_in h) fun f cdv A outer s H F E hr => ⟨_, (jbcons (jown (i := 4) sc_pairs_in.nd (jlst jnil))
    (jbcons (jfor (pr := false) PassesOwn.never rfl (jiEnT h_enumerate (jz 2)) (jgtp rfl (jgcons (jgn (i := 5) sc_pairs_in.nd) (jgcons (jgn (i := 6) sc_pairs_in.nd) jgnil))) (jbcons (jset (i := 7) sc_pairs_in.nd (jcall G_way ⟨rfl, rfl⟩ (hr.mono (by decide)) (jcons (jz 6) (jcons (jix (ja 3) (ja 5)) jnil))))
    (jbone (jown (i := 4) sc_pairs_in.nd (jcatL (ja 4) (jc_f (jlc [("k", 8)] rfl sc_pairs_in.nd (jiR1 h_range (jccons (jc (jsub (jc (jcallB b_len h_len (jccons (ja 7) jcnil))) (jc ji))) jcnil)) (blkOk_by (N := N_pairs_in) (sc := defScope (top 55)) (own := [("k", 8)]) (by decide +kernel)) (fun _ _ _ _ _ => (jgn (i := 8) sc_pairs_in.nd)) (fun _ _ _ _ _ => jtnil) (fun _ _ _ _ _ => (jtup (jcons (jtup (jcons (jz 5) (jcons (jix (ja 7) (ja 8)) jnil))) (jcons (jtup (jcons (jz 5) (jcons (jix (ja 7) (jc (jadd (ja 8) (jc ji)))) jnil))) jnil)))))))))))
    (jbcons (jfor (pr := false) PassesOwn.never rfl (jiT (jix (ja 1) (jc ji))) (jgn (i := 9) sc_pairs_in.nd) (jbcons (jas (pr := false) (jz 9) (jgtp rfl (jgcons (jgn (i := 10) sc_pairs_in.nd) (jgcons (jgn (i := 11) sc_pairs_in.nd) jgnil))))
    (jbone (jfor (pr := false) PassesOwn.never rfl (jiL (jcall G_told_in ⟨rfl, rfl⟩ hr (jcons (jz 0) (jcons (jtup (jcons (jix (ja 2) (ja 10)) (jcons (jix (ja 2) (ja 11)) jnil))) (jcons (jtup (jcons (jix (ja 3) (ja 10)) (jcons (jix (ja 3) (ja 11)) jnil))) jnil))))) (jgtp rfl (jgcons (jgtp rfl (jgcons (jgn (i := 12) sc_pairs_in.nd) (jgcons (jgn (i := 13) sc_pairs_in.nd) jgnil))) (jgcons (jgtp rfl (jgcons (jgn (i := 14) sc_pairs_in.nd) (jgcons (jgn (i := 15) sc_pairs_in.nd) jgnil))) jgnil))) (jbone (japp 4 (pv 4) (jtup (jcons (jtup (jcons (jix (ja 9) (ja 12)) (jcons (jz 13) jnil))) (jcons (jtup (jcons (jix (ja 9) (ja 14)) (jcons (jz 15) jnil))) jnil)))))))))
    (jbone (jret (je_f (jsort rfl hr.u_s h_sorted (ja 4)))))))), ?_⟩
  intro ds W h
  obtain ⟨B, w, l, o, rfl, hr, ST, V, VA, VB, R, h⟩ := h
  have hel := V.len
  have ha := VA.len
  have hb := VB.len
  have n1 := V.n1
  have hlen8 : l.length ≤ 8 := by omega
  have hway : ∀ i : Nat, i < l.length → (wayI (getI l i) (getI o i)).length ≤ 10 ∧ 0 ≤ getI l i ∧ getI l i ≤ 4 ∧ 0 ≤ getI o i ∧ getI o i ≤ 4 := fun i hi => by
    have h1 := VA.at (i := (i : Int)) (by omega) (by omega)
    have h2 := VB.at (i := (i : Int)) (by omega) (by omega)
    rw [len_wayI]; omega
  have hne : ∀ e ∈ w.es, shuf B (pr2 l e) (pr2 o e) ≠ [] := fun e he => let ⟨k, hp⟩ := R e he; straight_shuf ST (VA.box V he) hp
  have htl : ∀ e ∈ w.es, (toldP B (pr2 l e) (pr2 o e)).length ≤ 80 := fun e he => told_len (hne e he) (VA.box V he) (VB.box V he) hr
  have hfl := fun (is_ : List Nat) (hi : ∀ i ∈ is_, i < l.length) => pwFirst_len (a := l) (b := o) is_ [] fun i hm => pwA_len (hway i (hi i hm)).1
  walk_at "rd"
  refine loop_fold (en := fun (i : Nat) => .tuple [.int (i : Nat), (l.map .int).getD i .none]) (List.range (l.map PyData.int).length) (fun (b : List (Ew × Ew)) (e : Slo × Slo × Slo) => [.fz (bkD B), .fz (wbD w), .fz (.tuple (l.map .int)), .fz (.tuple (o.map .int)), .ow (encL b), e.1, e.2.1, e.2.2, .no, .no, .no, .no, .no, .no, .no, .no]) (fun f i => f ++ pwA l o i) [] (.no, .no, .no) rfl ?_ ?_
  · intro pre i post hl e
    have hi : i < l.length := by
      have : i ∈ List.range (l.map PyData.int).length := by rw [hl]; exact List.mem_append_right _ (List.mem_cons_self ..)
      simpa using List.mem_range.mp this
    have hpre := hfl pre (fun j hj => by
      have : j ∈ List.range (l.map PyData.int).length := by rw [hl]; exact List.mem_append_left _ hj
      simpa using List.mem_range.mp this)
    have hpl := congrArg List.length hl
    rw [List.length_range, List.length_map, List.length_append, List.length_cons] at hpl
    generalize pre.foldl (fun f i => f ++ pwA l o i) [] = bb at hpre
    rw [List.length_nil] at hpre
    obtain ⟨w1, w2, w3, w4, w5⟩ := hway i hi
    have i1 := it_t o (i := (i : Int)) (by omega) (by omega)
    rw [en_at l hi]
    walk_at "rd"
    rw [i1]
    walk_at "rd"
    rw [u_way (by omega)]
    walk_at "rd"
    rw [pwA]
    generalize hline : wayI (getI l i) (getI o i) = line at w1
    refine ⟨by omega, lc_allE (rgI 0 (line.length - 1)) (fun k => (((i : Int), getI line k), ((i : Int), getI line (k + 1)))) (by rw [len_rgI]; omega) (fun k hk K1 k1 => ?_) ?_⟩
    · have hkb := mem_rgI.mp hk
      have j1 := it_I line hkb.1 (by omega)
      have j2 := it_I line (i := k + 1) (by omega) (by omega)
      walk_at "rd"
      simp only [j1, j2, Option.some.injEq, exists_eq_left', iadd_i]
      exact k1
    · walk_at "rd"
      rw [len_rgI]; omega
  · intro e
    have hf0 := hfl (List.range (l.map PyData.int).length) (fun i hi => by simpa using List.mem_range.mp hi)
    rw [List.length_range, List.length_map, List.length_nil] at hf0
    rw [List.length_map]
    generalize hfs : (List.range l.length).foldl (fun f i => f ++ pwA l o i) [] = f0 at hf0
    have hrw : pwRaw B w l o = w.es.foldl (pwRow B l o) f0 := by unfold pwRaw; rw [hfs]
    have hrl := pwRow_len w.es f0 htl
    walk_at "rd"
    refine loop_fold w.es (fun (b : List (Ew × Ew)) (e : Slo × Slo × Slo × Slo × Slo × Slo × Slo × Slo × Slo × Slo) => [.fz (bkD B), .fz (wbD w), .fz (.tuple (l.map .int)), .fz (.tuple (o.map .int)), .ow (encL b), e.1, e.2.1, e.2.2.1, .no, e.2.2.2.1, e.2.2.2.2.1, e.2.2.2.2.2.1, e.2.2.2.2.2.2.1, e.2.2.2.2.2.2.2.1, e.2.2.2.2.2.2.2.2.1, e.2.2.2.2.2.2.2.2.2]) (pwRow B l o) f0 (e.1, e.2.1, e.2.2, .no, .no, .no, .no, .no, .no, .no) rfl ?_ ?_
    · intro pre ed post hl e2
      have hm : ed ∈ w.es := by rw [hl]; exact List.mem_append_right _ (List.mem_cons_self ..)
      have hv := V.ed _ hm
      have hpre := pwRow_len pre f0 (fun e he => htl e (by rw [hl]; exact List.mem_append_left _ he))
      have hpl := congrArg List.length hl
      rw [List.length_append, List.length_cons] at hpl
      generalize pre.foldl (pwRow B l o) f0 = bb at hpre
      have i1 := it_t o (i := ed.1) (by omega) (by omega)
      have i2 := it_t o (i := ed.2) (by omega) (by omega)
      have i3 := it_t l (i := ed.1) (by omega) (by omega)
      have i4 := it_t l (i := ed.2) (by omega) (by omega)
      have ht := htl ed hm
      walk_at "rd"
      simp only [i1, i2, i3, i4, Option.some.injEq, exists_eq_left']
      refine u_told_in (VA.box V hm) (VB.box V hm) hr (hne ed hm) ?_
      refine ⟨(toldP B (pr2 l ed) (pr2 o ed)).map enc, rfl, ?_⟩
      refine loop_fold (toldP B (pr2 l ed) (pr2 o ed)) (fun (b : List (Ew × Ew)) (e : Slo × Slo × Slo × Slo) => [.fz (bkD B), .fz (wbD w), .fz (.tuple (l.map .int)), .fz (.tuple (o.map .int)), .ow (encL b), e2.1, e2.2.1, e2.2.2.1, .no, .fz (.tuple [.int ed.1, .int ed.2]), .fz (.int ed.1), .fz (.int ed.2), e.1, e.2.1, e.2.2.1, e.2.2.2]) (fun f t => f ++ [pwE ed t]) bb (e2.2.2.2.2.2.2.1, e2.2.2.2.2.2.2.2.1, e2.2.2.2.2.2.2.2.2.1, e2.2.2.2.2.2.2.2.2.2) rfl ?_ ?_
      · rintro pre2 ⟨⟨k1, a1⟩, ⟨k2, a2⟩⟩ post2 hl2 e3
        have hpl2 := congrArg List.length hl2
        rw [List.length_append, List.length_cons] at hpl2
        have hb2 : (pre2.foldl (fun f t => f ++ [pwE ed t]) bb).length = bb.length + pre2.length := by rw [fold_snoc]; simp
        generalize pre2.foldl (fun f t => f ++ [pwE ed t]) bb = b2 at hb2
        walk_at "rd"
        exact ⟨by omega, ⟨rfl, rfl⟩, rfl, rfl⟩
      · intro e3
        exact ⟨rfl, _, _, _, _, _, _, _, _, _, _, rfl⟩
    · intro e2
      rw [← hrw] at hrl ⊢
      have e1 := sortD_E (pwRaw B w l o)
      walk_at "rd"
      refine ⟨sortOk_E _ (by omega), ?_⟩
      rw [e1]; exact h

def S_order_pairs : SpT := fun ds W => ∃ (B : Bk) (w : Wb) (a b : List Int), ds = [bkD B, wbD w, .tuple (a.map .int), .tuple (b.map .int)] ∧ Kept B ∧ VWeb w ∧ VHts B w a ∧ VHts B w b ∧ Reach B w a b ∧ W (enc (pairsW B w a b))
theorem ln_order_pairs {ds : List PyData} {W : PyData → Prop} (h : S_order_pairs ds W) : ds.length = 4 := by obtain ⟨_, _, _, _, e, _⟩ := h; rw [e]; rfl
theorem u_order_pairs {B : Bk} {w : Wb} {a b : List Int} (K : Kept B) (V : VWeb w) (VA : VHts B w a) (VB : VHts B w b) (R : Reach B w a b) {W : PyData → Prop} (hw : W (enc (pairsW B w a b))) : S_order_pairs [bkD B, wbD w, .tuple (a.map .int), .tuple (b.map .int)] W := ⟨B, w, a, b, rfl, K, V, VA, VB, R, hw⟩
theorem df_order_pairs (G_need_way : Df P w K mg base "need_way" 9 S_need_way) (G_pairs_in : Df P w K mg base "pairs_in" 4 S_pairs_in) (h_tuple : mg "tuple" = none) (Fn_order_pairs : Fn K mg "order_pairs" "order_pairs" 56) : Df P w K mg base "order_pairs" 10 S_order_pairs := by
  refine mkfn Fn_order_pairs sc_order_pairs (fun kV doc pm an cdv ct us h => by rcases us with _ | ⟨x0, _ | ⟨x1, _ | ⟨x2, _ | ⟨x3, _ | ⟨x4, r4⟩⟩⟩⟩⟩ <;> first | rfl | (simp at h)) (by intro ds W h; exact ln_order_pairs h) fun f cdv A outer s H F E hr => ⟨_, (jbcons (jdo (jcall G_need_way ⟨rfl, rfl⟩ hr (jcons (jz 0) (jcons (jz 1) (jcons (jz 2) (jcons (jz 3) jnil))))))
    (jbone (jret (jtupOf h_tuple (jc (jcall G_pairs_in ⟨rfl, rfl⟩ (hr.mono (by decide)) (jcons (jz 0) (jcons (jz 1) (jcons (jz 2) (jcons (jz 3) jnil)))))))))), ?_⟩
  intro ds W h
  obtain ⟨B, w, l, o, rfl, KB, V, VA, VB, R, h⟩ := h
  walk_at "rd"
  refine u_need_way KB V VA VB R ?_
  refine u_pairs_in KB.va.r1 KB.st V VA VB R ?_
  walk_at "rd"
  exact h

end
end HB

set_option Elab.async false
set_option linter.all false
set_option maxRecDepth 100000
set_option maxHeartbeats 4000000
set_option autoImplicit false
namespace HB
open PySem PySem.Spec L2
open En (enc)
section
variable {P : Program} {w : World} {K : PySem.W.Frag} {mg : Str → Option Value} {base : Heap}
local macro_rules | `(tactic| walk_at "rd") => `(tactic| simp [-List.any_eq_true, -List.any_eq_false, sSeq, sIf, sRt, sNx, sAs, sOw, sFz, sDo, sNo, sApp, gNm, gTp_t, gC_c, gN_n, xB, xZ, xA, xK, getZ, getA, fzz, x2, xAnd, xOr, xNot, xAndV, xOrV, xNotV, xIf, xChain, xFn, xTup, xLst, xNil, xCons, xCatL, xCatT, xSlL, xSlT, xNoP, xSoP, xThenL, xTupOf, xRngL, xSort, xSortSet, xSortK, xSumV, xDget, xDictOf, xTIndex, xTupF, xCatF, xRevT, xRngL3, xRngT, xRow, gRow, xLen0, xCell, xCallR, xIsi, xIsi2, xCall, xDnew, xDone, xGetD, xInD, xYes, sFor, iL, iT, iR1, iR2, iR3, iEnT, iEnL, iKs, iLn, xLc, kOk_p, any_p, dlk_p, put_p, dne0_p, deq0_p, dne0_i, dne0_w, deq0_w, encM_len, sMix, xMo, xMf, xMn, setS, gSbD, gSb, cut_take, cut_drop, ex2_eq, kOk_kk, put_kk, kOk_k3, dlk_k3, put_k3, itw0, itw1, wb_nt, wb_tu, wb_len, kOk_h, dlk_h, put_h, getD_h, sAugM, rngD_0, wip, dseq_t, dseq_l, deq_il, rngD_rg, dnD_dn, disN_n, dnotN_n, isNo, start', startR, rwAt, rwSet, dint, itb0, itb1, itb2, bk_nt, bk_tu, bk_len, encL_list, list_encL, len_L, len_l, len_t, it2_0, it2_1, it3_0, it3_1, it3_2, il2_0, il2_1, il1_0, it2_v, it2_n, icmp_i, isub_i, iadd_i, din_i, din_iL, deq_i, dne_i, deq_b, dne_b, nd_i, nd_b, nd_s, nd_n, nd_l, nd_t, ik_ii, ik_ib, ik_tt, small, dabs, dmax2, sum_L, enc_i, enc_b, enc_k, enc_p, enc_3, enc_l])
def S_ways_count : SpT := fun ds W => ∃ (B : Bk) (w : Wb) (a b : List Int), ds = [bkD B, wbD w, .tuple (a.map .int), .tuple (b.map .int)] ∧ B.r ≤ 3 ∧ w.n ≤ 5 ∧ Kept B ∧ VWeb w ∧ VHts B w a ∧ VHts B w b ∧ Reach B w a b ∧ ∃ v, alook (wcAll B w a b) b = some v ∧ W (.int v)
theorem ln_ways_count {ds : List PyData} {W : PyData → Prop} (h : S_ways_count ds W) : ds.length = 4 := by obtain ⟨_, _, _, _, e, _⟩ := h; rw [e]; rfl
theorem df_ways_count (G_changed : Df P w K mg base "changed" 1 S_changed) (G_sum_of : Df P w K mg base "sum_of" 1 S_sum_of) (G_need_way : Df P w K mg base "need_way" 9 S_need_way) (G_nearer : Df P w K mg base "nearer" 4 S_nearer) {tk_MOST_BOX : Tok} (h_MOST_BOX : mg "MOST_BOX" = some (.int 3000 tk_MOST_BOX)) (h_abs : mg "abs" = none) (h_enumerate : mg "enumerate" = none) (h_range : mg "range" = none) (Fn_ways_count : Fn K mg "ways_count" "ways_count" 58) : Df P w K mg base "ways_count" 10 S_ways_count := by
  refine mkfn Fn_ways_count sc_ways_count (fun kV doc pm an cdv ct us h => by rcases us with _ | ⟨x0, _ | ⟨x1, _ | ⟨x2, _ | ⟨x3, _ | ⟨x4, r4⟩⟩⟩⟩⟩ <;> first | rfl | (simp at h)) (by intro ds W h; exact ln_ways_count h) fun f cdv A outer s H F E hr => ⟨_, (jbcons (jdo (jcall G_need_way ⟨rfl, rfl⟩ hr (jcons (jz 0) (jcons (jz 1) (jcons (jz 2) (jcons (jz 3) jnil))))))
    (jbcons (jset (i := 4) sc_ways_count.nd ji)
    (jbcons (jfor (pr := false) PassesOwn.never rfl (jiEnT h_enumerate (jz 2)) (jgtp rfl (jgcons (jgn (i := 5) sc_ways_count.nd) (jgcons (jgn (i := 6) sc_ways_count.nd) jgnil))) (jbone (jaugM (i := 4) sc_ways_count.nd (jc (jadd (jc (jcallB b_abs h_abs (jccons (jc (jsub (ja 6) (jc (jix (ja 3) (ja 5))))) jcnil))) (jc ji))))))
    (jbcons (jifs (jcmpT o_gt (ja 4) (jc (jglobi rfl h_MOST_BOX))) (jbone jnever) jbnil)
    (jbcons (jset (i := 7) sc_ways_count.nd (je_f (jdone ⟨rfl, rfl⟩ hr.u_d (jz 2) ji)))
    (jbcons (jfor (pr := false) PassesOwn.never rfl (jiR1 h_range (jccons (jc (jcall G_sum_of ⟨rfl, rfl⟩ (hr.mono (by decide)) (jcons (jz 2) (jcons (jz 3) jnil)))) jcnil)) (jgn (i := 8) sc_ways_count.nd) (jbcons (jown (i := 9) sc_ways_count.nd (jdnew ⟨rfl, rfl⟩))
    (jbcons (jfor (pr := false) PassesOwn.never rfl (jiKeys rfl (jz 7)) (jgn (i := 10) sc_ways_count.nd) (jbone (jfor (pr := false) PassesOwn.never rfl (jiL (jcall G_nearer ⟨rfl, rfl⟩ (hr.mono (by decide)) (jcons (jz 0) (jcons (jz 1) (jcons (jz 10) (jcons (jz 3) jnil)))))) (jgn (i := 11) sc_ways_count.nd) (jbcons (jset (i := 12) sc_ways_count.nd (jcall G_changed ⟨rfl, rfl⟩ (hr.mono (by decide)) (jcons (jz 10) (jcons (jz 11) jnil))))
    (jbone (jas (pr := false) (jadd (jc (jdget ⟨rfl, rfl⟩ hr.u_d (ja 9) (jz 12) ji)) (jc (jdix ⟨rfl, rfl⟩ hr.u_d (ja 7) (jz 10)))) (jgsubD ⟨rfl, rfl⟩ hr.u_d 9 (pv 9) (jz 12))))))))
    (jbone (jfz 9 (jset (i := 7) sc_ways_count.nd (jz 9)))))))
    (jbone (jret (jdix ⟨rfl, rfl⟩ hr.u_d (ja 7) (jz 3)))))))))), ?_⟩
  intro ds W h
  obtain ⟨B, w, l, o, rfl, hr, hn5, KB, V, VA, VB, R, v, hv1, h⟩ := h
  have ha := VA.len
  have hb := VB.len
  have hdif : ∀ i : Nat, i < l.length → (getI l i - getI o i).natAbs ≤ 3 := fun i hi => by
    have h1 := VA.at (i := (i : Int)) (by omega) (by omega)
    have h2 := VB.at (i := (i : Int)) (by omega) (by omega)
    omega
  walk_at "rd"
  refine u_need_way KB V VA VB R ?_
  refine loop_fold (en := fun (i : Nat) => .tuple [.int (i : Nat), (l.map .int).getD i .none]) (List.range (l.map PyData.int).length) (fun (s : Int) (e : Slo × Slo) => [.fz (bkD B), .fz (wbD w), .fz (.tuple (l.map .int)), .fz (.tuple (o.map .int)), .fz (.int s), e.1, e.2, .no, .no, .no, .no, .no, .no]) (szStep l o) 1 (.no, .no) rfl ?_ ?_
  · intro pre i post hl e
    have hi : i < l.length := by
      have : i ∈ List.range (l.map PyData.int).length := by rw [hl]; exact List.mem_append_right _ (List.mem_cons_self ..)
      simpa using List.mem_range.mp this
    have hpl := congrArg List.length hl
    rw [List.length_range, List.length_map, List.length_append, List.length_cons] at hpl
    have hs := sz_bound (a := l) (o := o) pre 1 0 (fun j hj => by
      have : j ∈ List.range (l.map PyData.int).length := by rw [hl]; exact List.mem_append_left _ hj
      exact hdif j (by simpa using List.mem_range.mp this)) (by omega) (by omega)
    have hpw : (4 : Int) ^ (0 + pre.length) ≤ 4 ^ 5 := by
      have := Nat.pow_le_pow_right (n := 4) (by decide) (show 0 + pre.length ≤ 5 by omega)
      exact_mod_cast this
    generalize pre.foldl (szStep l o) 1 = sz at hs
    have i1 := it_t o (i := (i : Int)) (by omega) (by omega)
    rw [en_at l hi, szStep]
    walk_at "rd"
    rw [i1]
    walk_at "rd"
    refine ⟨by omega, by omega⟩
  · intro e
    have hs := sz_bound (a := l) (o := o) (List.range (l.map PyData.int).length) 1 0 (fun j hj => hdif j (by simpa using List.mem_range.mp hj)) (by omega) (by omega)
    have hpw : (4 : Int) ^ (0 + (List.range (l.map PyData.int).length).length) ≤ 4 ^ 5 := by
      have := Nat.pow_le_pow_right (n := 4) (by decide) (show 0 + (List.range (l.map PyData.int).length).length ≤ 5 by rw [List.length_range, List.length_map]; omega)
      exact_mod_cast this
    generalize (List.range (l.map PyData.int).length).foldl (szStep l o) 1 = sz at hs
    have hsz : sz ≤ 1024 := by omega
    walk_at "rd"
    have hsum : 0 ≤ sumH l o ∧ sumH l o ≤ 3 * (l.length : Int) := by
      have := sum_bd (fun (i : Nat) => ((getI l i - getI o i).natAbs : Int)) 3 (List.range l.length) (fun i hi => by
        have := hdif i (by simpa using List.mem_range.mp hi); omega)
      rw [List.length_range] at this; exact this
    refine ⟨by omega, u_sum_of (by omega) (by omega) ?_⟩
    walk_at "rd"
    refine ⟨by omega, loop_fold (rgI 0 (sumH l o)) (fun (rows : Hm) (e : Slo × Slo × Slo × Slo × Slo × Slo × Slo) => [.fz (bkD B), .fz (wbD w), .fz (.tuple (l.map .int)), .fz (.tuple (o.map .int)), .fz (.int sz), e.1, e.2.1, .fz (dc (encM .int rows)), e.2.2.1, e.2.2.2.1, e.2.2.2.2.1, e.2.2.2.2.2.1, e.2.2.2.2.2.2]) (fun r _ => wcTurn B w o r) [(l, 1)] (e.1, e.2, .no, .no, .no, .no, .no) rfl ?_ ?_⟩
    · intro pre t post hl e2
      have G := HGood.turns (o := o) pre [(l, 1)] ⟨by simp, fun h hh => by simp at hh; subst hh; exact VA⟩
      generalize pre.foldl (fun r _ => wcTurn B w o r) [(l, 1)] = rows at G
      walk_at "rd"
      rw [encM_keys]
      refine loop_fold (en := fun h : List Int => PyData.tuple (h.map .int)) (rows.map (·.1)) (fun (more : Hm) (e : Slo × Slo × Slo) => [.fz (bkD B), .fz (wbD w), .fz (.tuple (l.map .int)), .fz (.tuple (o.map .int)), .fz (.int sz), e2.1, e2.2.1, .fz (dc (encM .int rows)), .fz (.int t), .ow (dc (encM .int more)), e.1, e.2.1, e.2.2]) (wcRow B w o rows) [] (e2.2.2.2.2.1, e2.2.2.2.2.2.1, e2.2.2.2.2.2.2) rfl ?_ ?_
      · intro pre2 here post2 hl2 e3
        have hmem : here ∈ rows.map (·.1) := by rw [hl2]; exact List.mem_append_right _ (List.mem_cons_self ..)
        have VH := G.vh here hmem
        have hhl := VH.len
        have G2 := HGood.rows (o := o) (rows := rows) pre2 [] (fun h hh => G.vh h (by rw [hl2]; exact List.mem_append_left _ hh)) ⟨by simp, fun h hh => by simp at hh⟩
        obtain ⟨vr, hvr⟩ := alook_some hmem
        have hvr2 : hv rows here = vr := by unfold hv; rw [hvr]; rfl
        generalize pre2.foldl (wcRow B w o rows) [] = more1 at G2
        walk_at "rd"
        refine u_nearer V VH (by omega) ?_
        refine ⟨(nearL B w here o).map enc, rfl, ?_⟩
        refine loop_fold (nearL B w here o) (fun (more : Hm) (e : Slo × Slo) => [.fz (bkD B), .fz (wbD w), .fz (.tuple (l.map .int)), .fz (.tuple (o.map .int)), .fz (.int sz), e2.1, e2.2.1, .fz (dc (encM .int rows)), .fz (.int t), .ow (dc (encM .int more)), .fz (.tuple (here.map .int)), e.1, e.2]) (wcStep rows here) more1 (e3.2.1, e3.2.2) rfl ?_ ?_
        · rintro pre3 ⟨u, k⟩ post3 hl3 e4
          obtain ⟨⟨k0, k1⟩, hc⟩ := nearL_mem (show (u, k) ∈ nearL B w here o by rw [hl3]; exact List.mem_append_right _ (List.mem_cons_self ..))
          have G3 := HGood.row (rows := rows) VH pre3 more1 (fun d hd => nearL_mem (show d ∈ nearL B w here o by rw [hl3]; exact List.mem_append_left _ hd)) G2
          generalize pre3.foldl (wcStep rows here) more1 = more2 at G3
          have hm2 := G3.len hr hn5
          simp only at k0 k1
          walk_at "rd"
          refine u_changed k0 (by omega) (by omega) ?_
          walk_at "rd"
          refine ⟨.int vr, ⟨vr, hvr, rfl⟩, _, rfl, by omega, ?_⟩
          rw [put_h, wcStep, hvr2]; rfl
        · intro e4
          exact ⟨rfl, _, _, _, rfl⟩
      · intro e3
        walk_at "rd"
        rfl
    · intro e2
      walk_at "rd"
      exact ⟨.int v, ⟨v, hv1, rfl⟩, h⟩

end
end HB

set_option Elab.async false
set_option linter.all false
set_option maxRecDepth 100000
set_option maxHeartbeats 4000000
set_option autoImplicit false
namespace HB
open PySem PySem.Spec L2
open En (enc)
section
variable {P : Program} {w : World} {K : PySem.W.Frag} {mg : Str → Option Value} {base : Heap}
local macro_rules | `(tactic| walk_at "rd") => `(tactic| simp [-List.any_eq_true, -List.any_eq_false, sSeq, sIf, sRt, sNx, sAs, sOw, sFz, sDo, sNo, sApp, gNm, gTp_t, gC_c, gN_n, xB, xZ, xA, xK, getZ, getA, fzz, x2, xAnd, xOr, xNot, xAndV, xOrV, xNotV, xIf, xChain, xFn, xTup, xLst, xNil, xCons, xCatL, xCatT, xSlL, xSlT, xNoP, xSoP, xThenL, xTupOf, xRngL, xSort, xSortSet, xSortK, xSumV, xDget, xDictOf, xTIndex, xTupF, xCatF, xRevT, xRngL3, xRngT, xRow, gRow, xLen0, xCell, xCallR, xIsi, xIsi2, xCall, xDnew, xDone, xGetD, xInD, xYes, sFor, iL, iT, iR1, iR2, iR3, iEnT, iEnL, iKs, iLn, xLc, kOk_p, any_p, dlk_p, put_p, dne0_p, deq0_p, dne0_i, dne0_w, deq0_w, encM_len, sMix, xMo, xMf, xMn, setS, gSbD, gSb, cut_take, cut_drop, ex2_eq, kOk_kk, put_kk, kOk_k3, dlk_k3, put_k3, itw0, itw1, wb_nt, wb_tu, wb_len, kOk_h, dlk_h, put_h, getD_h, sAugM, rngD_0, wip, dseq_t, dseq_l, deq_il, rngD_rg, dnD_dn, disN_n, dnotN_n, isNo, start', startR, rwAt, rwSet, dint, itb0, itb1, itb2, bk_nt, bk_tu, bk_len, encL_list, list_encL, len_L, len_l, len_t, it2_0, it2_1, it3_0, it3_1, it3_2, il2_0, il2_1, il1_0, it2_v, it2_n, icmp_i, isub_i, iadd_i, din_i, din_iL, deq_i, dne_i, deq_b, dne_b, nd_i, nd_b, nd_s, nd_n, nd_l, nd_t, ik_ii, ik_ib, ik_tt, small, dabs, dmax2, sum_L, enc_i, enc_b, enc_k, enc_p, enc_3, enc_l])
def S_law_lets : SpT := fun ds W => ∃ (B : Bk) (own near : Int) (up : Bool), ds = [bkD B, .int own, .int near, .bool up] ∧ W (.bool (lets B own near up))
theorem ln_law_lets {ds : List PyData} {W : PyData → Prop} (h : S_law_lets ds W) : ds.length = 4 := by obtain ⟨_, _, _, _, e, _⟩ := h; rw [e]; rfl
theorem u_law_lets {B : Bk} {o n : Int} {u : Bool} {W : PyData → Prop} : S_law_lets [bkD B, .int o, .int n, .bool u] W ↔ W (.bool (lets B o n u)) := ⟨fun ⟨B', o', n', u', e, h⟩ => by
  simp only [List.cons.injEq, PyData.int.injEq, PyData.bool.injEq, and_true] at e
  obtain ⟨e1, rfl, rfl, rfl⟩ := e; rw [bkD_inj e1]; exact h, fun h => ⟨_, _, _, _, rfl, h⟩⟩
theorem df_law_lets (Fn_law_lets : Fn K mg "_law_lets" "_law_lets" 63) : Df P w K mg base "_law_lets" 1 S_law_lets := by
  refine mkfn Fn_law_lets sc_law_lets (fun kV doc pm an cdv ct us h => by rcases us with _ | ⟨x0, _ | ⟨x1, _ | ⟨x2, _ | ⟨x3, _ | ⟨x4, r4⟩⟩⟩⟩⟩ <;> first | rfl | (simp at h)) (by intro ds W h; exact ln_law_lets h) fun f cdv A outer s H F E hr => ⟨_, (jbcons (jifs (jt (ja 3)) (jbone (jret (jandV (jc (jcmp o_lt (ja 1) (jc (jix (ja 0) (jc ji))))) (jone (jcmp (o_in hr.u65) (jc (jsub (ja 2) (ja 1))) (jc (jix (ja 0) (jc ji)))))))) jbnil)
    (jbone (jret (jandV (jc (jcmp o_gt (ja 1) (jc ji))) (jone (jcmp (o_in hr.u65) (jc (jsub (ja 2) (ja 1))) (jc (jix (ja 0) (jc ji))))))))), ?_⟩
  intro ds W h
  obtain ⟨B, own, near, up, rfl, h⟩ := h
  walk_at "rd"
  cases up
  · by_cases h0 : 0 < own
    · simp_all [lets]
    · simp_all [lets]
  · by_cases h0 : own < B.r
    · simp_all [lets]
    · simp_all [lets]

def S_law_pairs : SpT := fun ds W => ∃ (r : Int), ds = [.int r] ∧ 0 ≤ r ∧ r ≤ 4 ∧ W (encL (allPairs r))
theorem ln_law_pairs {ds : List PyData} {W : PyData → Prop} (h : S_law_pairs ds W) : ds.length = 1 := by obtain ⟨_, e, _⟩ := h; rw [e]; rfl
theorem u_law_pairs {r : Int} {W : PyData → Prop} (h0 : 0 ≤ r ∧ r ≤ 4) : S_law_pairs [.int r] W ↔ W (encL (allPairs r)) := by
  constructor
  · rintro ⟨r', e, _, _, h⟩
    cases e; exact h
  · exact fun h => ⟨_, rfl, h0.1, h0.2, h⟩
theorem df_law_pairs (h_range : mg "range" = none) (Fn_law_pairs : Fn K mg "_law_pairs" "_law_pairs" 62) : Df P w K mg base "_law_pairs" 1 S_law_pairs := by
  refine mkfn Fn_law_pairs sc_law_pairs (fun kV doc pm an cdv ct us h => by rcases us with _ | ⟨x0, _ | ⟨x1, r1⟩⟩ <;> first | rfl | (simp at h)) (by intro ds W h; exact ln_law_pairs h) fun f cdv A outer s H F E hr => ⟨_, (jbcons (jset (i := 1) sc_law_pairs.nd (je_f (jlst jnil)))
    (jbcons (jfor (pr := false) PassesOwn.never rfl (jiR1 h_range (jccons (jc (jadd (ja 0) (jc ji))) jcnil)) (jgn (i := 2) sc_law_pairs.nd) (jbone (jset (i := 1) sc_law_pairs.nd (je_f (jcatL (ja 1) (jc_f (jlc [("_law_other", 3)] rfl sc_law_pairs.nd (jiR1 h_range (jccons (jc (jadd (ja 0) (jc ji))) jcnil)) (blkOk_by (N := N_law_pairs) (sc := defScope (top 62)) (own := [("_law_other", 3)]) (by decide +kernel)) (fun _ _ _ _ _ => (jgn (i := 3) sc_law_pairs.nd)) (fun _ _ _ _ _ => jtnil) (fun _ _ _ _ _ => (jtup (jcons (jz 2) (jcons (jz 3) jnil)))))))))))
    (jbone (jret (jz 1))))), ?_⟩
  intro ds W h
  obtain ⟨r, rfl, h0, h1, h⟩ := h
  walk_at "rd"
  refine ⟨by omega, loop_fold (rgI 0 (r + 1)) (fun (b : List Pr) (e : Slo) => [.fz (.int r), .fz (encL b), e, .no]) (apStep r) [] .no rfl ?_ ?_⟩
  · intro pre a post hl e
    walk_at "rd"
    refine ⟨by omega, lc_allE (rgI 0 (r + 1)) (fun j => (a, j)) (by rw [len_rgI]; omega) (fun j hj K1 hK => ?_) ?_⟩
    · walk_at "rd"; exact hK
    · have h2 := ap_len r h1 pre []
      have h3 := congrArg List.length hl
      rw [len_rgI, List.length_append, List.length_cons] at h3
      walk_at "rd"
      refine ⟨by rw [len_rgI]; simp at h2; omega, ?_⟩
      rw [apStep, List.map_append, List.map_map]
  · intro e
    walk_at "rd"
    exact h

def S_law_way : SpT := fun ds W => ∃ (a b : Int), ds = [.int a, .int b] ∧ (-100 ≤ a ∧ a ≤ 100 ∧ -100 ≤ b ∧ b ≤ 100) ∧ W (encL (wayI a b))
theorem ln_law_way {ds : List PyData} {W : PyData → Prop} (h : S_law_way ds W) : ds.length = 2 := by obtain ⟨_, _, e, _⟩ := h; rw [e]; rfl
theorem u_law_way {a b : Int} (h : -100 ≤ a ∧ a ≤ 100 ∧ -100 ≤ b ∧ b ≤ 100) {W : PyData → Prop} : S_law_way [.int a, .int b] W ↔ W (encL (wayI a b)) := by
  constructor
  · rintro ⟨a', b', e, _, h⟩
    cases e; exact h
  · exact fun z => ⟨a, b, rfl, h, z⟩
theorem len_dnI (a b : Int) : (dnI a b).length = (a - b).toNat := by unfold dnI; rw [List.length_map, List.length_range]
theorem df_law_way (h_range : mg "range" = none) (Fn_law_way : Fn K mg "_law_way" "_law_way" 70) : Df P w K mg base "_law_way" 1 S_law_way := by
  refine mkfn Fn_law_way sc_law_way (fun kV doc pm an cdv ct us h => by rcases us with _ | ⟨x0, _ | ⟨x1, _ | ⟨x2, r2⟩⟩⟩ <;> first | rfl | (simp at h)) (by intro ds W h; exact ln_law_way h) fun f cdv A outer s H F E hr => ⟨_, (jbone (jret (je_f (jifF (jcmpT o_le (ja 0) (ja 1)) (jlc [("_law_at", 2)] rfl sc_law_way.nd (jiR2 h_range (jccons (ja 0) (jccons (ja 1) jcnil))) (blkOk_by (N := N_law_way) (sc := defScope (top 70)) (own := [("_law_at", 2)]) (by decide +kernel)) (fun _ _ _ _ _ => (jgn (i := 2) sc_law_way.nd)) (fun _ _ _ _ _ => jtnil) (fun _ _ _ _ _ => (jz 2))) (jlc [("_law_at", 2)] rfl sc_law_way.nd (jiR3 h_range (jccons (ja 0) (jccons (ja 1) (jccons (jc (jneg (jc ji))) jcnil)))) (blkOk_by (N := N_law_way) (sc := defScope (top 70)) (own := [("_law_at", 2)]) (by decide +kernel)) (fun _ _ _ _ _ => (jgn (i := 2) sc_law_way.nd)) (fun _ _ _ _ _ => jtnil) (fun _ _ _ _ _ => (jz 2))))))), ?_⟩
  intro ds W h
  obtain ⟨a, b, rfl, hz, h⟩ := h
  walk_at "rd"
  by_cases hab : a ≤ b
  · refine .inr ⟨hab, by omega, lc_allE (rgI a b) (fun x => x) (by rw [len_rgI]; omega) (fun x hx K1 k1 => ?_) ?_⟩
    · walk_at "rd"
      exact k1
    · rw [List.map_id']
      unfold wayI at h
      by_cases h2 : a < b
      · rw [if_pos h2] at h; exact h
      · rw [if_neg h2] at h
        have e : a = b := by omega
        subst e
        have e1 : rgI a a = [] := List.length_eq_zero_iff.mp (by rw [len_rgI]; omega)
        have e2 : dnI a a = [] := List.length_eq_zero_iff.mp (by rw [len_dnI]; omega)
        rw [e1]; rw [e2] at h; exact h
  · refine .inl ⟨by omega, by omega, lc_allE (dnI a b) (fun x => x) (by rw [len_dnI]; omega) (fun x hx K1 k1 => ?_) ?_⟩
    · walk_at "rd"
      exact k1
    · rw [List.map_id']
      unfold wayI at h
      rw [if_neg (by omega)] at h; exact h

def S_law_off : SpT := fun ds W => ∃ (a b : List Int), ds = [.tuple (a.map .int), .tuple (b.map .int)] ∧ a.length = b.length ∧ a.length ≤ 100 ∧ W (.int (sumH a b))
theorem ln_law_off {ds : List PyData} {W : PyData → Prop} (h : S_law_off ds W) : ds.length = 2 := by obtain ⟨_, _, e, _⟩ := h; rw [e]; rfl
theorem u_law_off {a b : List Int} (h1 : a.length = b.length) (h2 : a.length ≤ 100) {W : PyData → Prop} (hw : W (.int (sumH a b))) : S_law_off [.tuple (a.map .int), .tuple (b.map .int)] W := ⟨a, b, rfl, h1, h2, hw⟩
theorem rgI_range (n : Nat) : rgI 0 (n : Int) = (List.range n).map fun (i : Nat) => (i : Int) := by
  unfold rgI
  rw [show ((n : Int) - 0).toNat = n by omega]
  apply List.map_congr_left
  intro i _; omega
theorem df_law_off (h_len : mg "len" = none) (h_max : mg "max" = none) (h_range : mg "range" = none) (h_sum : mg "sum" = none) (Fn_law_off : Fn K mg "_law_off" "_law_off" 66) : Df P w K mg base "_law_off" 1 S_law_off := by
  refine mkfn Fn_law_off sc_law_off (fun kV doc pm an cdv ct us h => by rcases us with _ | ⟨x0, _ | ⟨x1, _ | ⟨x2, r2⟩⟩⟩ <;> first | rfl | (simp at h)) (by intro ds W h; exact ln_law_off h) fun f cdv A outer s H F E hr => ⟨_, (jbone (jret (jcallB (b_sum rfl) h_sum (jccons (jc_f (jlc [("_law_k", 2)] rfl sc_law_off.nd (jiR1 h_range (jccons (jc (jcallB b_len h_len (jccons (ja 0) jcnil))) jcnil)) (blkOk_by (N := N_law_off) (sc := defScope (top 66)) (own := [("_law_k", 2)]) (by decide +kernel)) (fun _ _ _ _ _ => (jgn (i := 2) sc_law_off.nd)) (fun _ _ _ _ _ => jtnil) (fun _ _ _ _ _ => (jcallB (b_max2 rfl) h_max (jccons (jc (jsub (jc (jix (ja 0) (ja 2))) (jc (jix (ja 1) (ja 2))))) (jccons (jc (jsub (jc (jix (ja 1) (ja 2))) (jc (jix (ja 0) (ja 2))))) jcnil)))))) jcnil)))), ?_⟩
  intro ds W h
  obtain ⟨l, o, rfl, hlo, hl, h⟩ := h
  walk_at "rd"
  refine ⟨by omega, lc_allE (rgI 0 (l.length : Int)) (fun k => ((getI l k - getI o k).natAbs : Int)) (by rw [len_rgI]; omega) (fun k hk K1 k1 => ?_) ?_⟩
  · have hkb := mem_rgI.mp hk
    have i1 := it_t l hkb.1 hkb.2
    have i2 := it_t o (i := k) (by omega) (by omega)
    walk_at "rd"
    simp only [i1, i2, Option.some.injEq, exists_eq_left', isub_i]
    walk_at "rd"
    have e : max (getI l k - getI o k) (getI o k - getI l k) = ((getI l k - getI o k).natAbs : Int) := by omega
    rw [e]; exact k1
  · rw [rgI_range, List.map_map]
    walk_at "rd"
    exact h

end
end HB

set_option Elab.async false
set_option linter.all false
set_option maxRecDepth 100000
set_option maxHeartbeats 4000000
set_option autoImplicit false
namespace HB
open PySem PySem.Spec L2
open En (enc)
section
variable {P : Program} {w : World} {K : PySem.W.Frag} {mg : Str → Option Value} {base : Heap}
local macro_rules | `(tactic| walk_at "rd") => `(tactic| simp [-List.any_eq_true, -List.any_eq_false, sSeq, sIf, sRt, sNx, sAs, sOw, sFz, sDo, sNo, sApp, gNm, gTp_t, gC_c, gN_n, xB, xZ, xA, xK, getZ, getA, fzz, x2, xAnd, xOr, xNot, xAndV, xOrV, xNotV, xIf, xChain, xFn, xTup, xLst, xNil, xCons, xCatL, xCatT, xSlL, xSlT, xNoP, xSoP, xThenL, xTupOf, xRngL, xSort, xSortSet, xSortK, xSumV, xDget, xDictOf, xTIndex, xTupF, xCatF, xRevT, xRngL3, xRngT, xRow, gRow, xLen0, xCell, xCallR, xIsi, xIsi2, xCall, xDnew, xDone, xGetD, xInD, xYes, sFor, iL, iT, iR1, iR2, iR3, iEnT, iEnL, iKs, iLn, xLc, kOk_p, any_p, dlk_p, put_p, dne0_p, deq0_p, dne0_i, dne0_w, deq0_w, encM_len, sMix, xMo, xMf, xMn, setS, gSbD, gSb, cut_take, cut_drop, ex2_eq, kOk_kk, put_kk, kOk_k3, dlk_k3, put_k3, itw0, itw1, wb_nt, wb_tu, wb_len, kOk_h, dlk_h, put_h, getD_h, sAugM, rngD_0, wip, dseq_t, dseq_l, deq_il, rngD_rg, dnD_dn, disN_n, dnotN_n, isNo, start', startR, rwAt, rwSet, dint, itb0, itb1, itb2, bk_nt, bk_tu, bk_len, encL_list, list_encL, len_L, len_l, len_t, it2_0, it2_1, it3_0, it3_1, it3_2, il2_0, il2_1, il1_0, it2_v, it2_n, icmp_i, isub_i, iadd_i, din_i, din_iL, deq_i, dne_i, deq_b, dne_b, nd_i, nd_b, nd_s, nd_n, nd_l, nd_t, ik_ii, ik_ib, ik_tt, small, dabs, dmax2, sum_L, enc_i, enc_b, enc_k, enc_p, enc_3, enc_l])
def two (B : Bk) (p : Pr) : List (Dd × Pr) := (deedsT B p).map fun d => (d, mv p d)
def S_law_two : SpT := fun ds W => ∃ (B : Bk) (p : Pr), ds = [bkD B, enc p] ∧ W (encL (two B p))
theorem ln_law_two {ds : List PyData} {W : PyData → Prop} (h : S_law_two ds W) : ds.length = 2 := by obtain ⟨_, _, e, _⟩ := h; rw [e]; rfl
theorem u_law_two {B : Bk} {a b : Int} {W : PyData → Prop} : S_law_two [bkD B, .tuple [.int a, .int b]] W ↔ W (encL (two B (a, b))) := by
  constructor
  · rintro ⟨B', p, e, h⟩
    simp only [List.cons.injEq, and_true] at e
    rw [bkD_inj e.1, enc_inj (a := (a, b)) (b := p) e.2]; exact h
  · exact fun h => ⟨B, (a, b), rfl, h⟩
def t2Step (B : Bk) (p : Pr) (u : Bool) (b : List (Dd × Pr)) (k : Pc) : List (Dd × Pr) := if can B p (u, k) = true then b ++ [((u, k), mv p (u, k))] else b
def t1Step (B : Bk) (p : Pr) (b : List (Dd × Pr)) (u : Bool) : List (Dd × Pr) := [Pc.z, Pc.o].foldl (t2Step B p u) b
theorem two_fold (B : Bk) (p : Pr) : [false, true].foldl (t1Step B p) [] = two B p := by
  unfold two deedsT allD t1Step t2Step
  simp only [List.foldl, List.filter]
  cases can B p (false, .z) <;> cases can B p (false, .o) <;> cases can B p (true, .z) <;> cases can B p (true, .o) <;> rfl
theorem t2_len (B : Bk) (p : Pr) (u : Bool) : ∀ (l : List Pc) (b : List (Dd × Pr)), (l.foldl (t2Step B p u) b).length ≤ b.length + l.length
  | [], b => by simp
  | k :: l, b => by
    have h := t2_len B p u l (t2Step B p u b k)
    have h2 : (t2Step B p u b k).length ≤ b.length + 1 := by
      unfold t2Step; split
      · simp
      · omega
    rw [List.foldl_cons, List.length_cons]; omega
theorem t1_len (B : Bk) (p : Pr) : ∀ (l : List Bool) (b : List (Dd × Pr)), (l.foldl (t1Step B p) b).length ≤ b.length + 2 * l.length
  | [], b => by simp
  | k :: l, b => by
    have h := t1_len B p l (t1Step B p b k)
    have h2 : (t1Step B p b k).length ≤ b.length + 2 := t2_len B p k [.z, .o] b
    rw [List.foldl_cons, List.length_cons]; omega
theorem df_law_two (G_law_lets : Df P w K mg base "_law_lets" 1 S_law_lets) (h_tuple : mg "tuple" = none) (Fn_law_two : Fn K mg "_law_two" "_law_two" 64) : Df P w K mg base "_law_two" 2 S_law_two := by
  refine mkfn Fn_law_two sc_law_two (fun kV doc pm an cdv ct us h => by rcases us with _ | ⟨x0, _ | ⟨x1, _ | ⟨x2, r2⟩⟩⟩ <;> first | rfl | (simp at h)) (by intro ds W h; exact ln_law_two h) fun f cdv A outer s H F E hr => ⟨_, (jbcons (jown (i := 2) sc_law_two.nd (jlst jnil))
    (jbcons (jfor (pr := false) PassesOwn.never rfl (jiL (je_f (jlst (jcons jb (jcons jb jnil))))) (jgn (i := 3) sc_law_two.nd) (jbone (jfor (pr := false) PassesOwn.never rfl (jiL (je_f (jlst (jcons ji (jcons ji jnil))))) (jgn (i := 4) sc_law_two.nd) (jbone (jifs (jt (jc (jcall G_law_lets ⟨rfl, rfl⟩ hr (jcons (jz 0) (jcons (jix (ja 1) (ja 4)) (jcons (jix (ja 1) (jc (jsub (jc ji) (ja 4)))) (jcons (jz 3) jnil))))))) (jbcons (jown (i := 5) sc_law_two.nd (jlst (jcons (jix (ja 1) (jc ji)) (jcons (jix (ja 1) (jc ji)) jnil))))
    (jbcons (jas (pr := false) (jadd (jc (jix (ja 5) (ja 4))) (jc (jif (jt (ja 3)) ji (jsub (jc ji) (jc ji))))) (jgsub 5 (pv 5) (ja 4)))
    (jbone (japp 2 (pv 2) (jtup (jcons (jtup (jcons (jz 3) (jcons (jz 4) jnil))) (jcons (jtupOf h_tuple (ja 5)) jnil))))))) jbnil)))))
    (jbone (jfz 2 (jret (jz 2)))))), ?_⟩
  intro ds W h
  obtain ⟨B, p, rfl, h⟩ := h
  walk_at "rd"
  refine loop_fold (en := PyData.bool) [false, true] (fun (b : List (Dd × Pr)) (e : Slo × Slo × Slo) => [.fz (bkD B), .fz (.tuple [.int p.1, .int p.2]), .ow (encL b), e.1, e.2.1, e.2.2]) (t1Step B p) [] (.no, .no, .no) rfl ?_ ?_
  · intro pre u post hl e
    have l1 := t1_len B p pre []
    have l0 := congrArg List.length hl
    walk_at "rd"
    refine loop_fold (en := fun k : Pc => PyData.int k.v) [.z, .o] (fun (b : List (Dd × Pr)) (e : Slo × Slo) => [.fz (bkD B), .fz (.tuple [.int p.1, .int p.2]), .ow (encL b), .fz (.bool u), e.1, e.2]) (t2Step B p u) _ (e.2.1, e.2.2) rfl ?_ ?_
    · intro pre2 k post2 hl2 e2
      have l2 := t2_len B p u pre2 (pre.foldl (t1Step B p) [])
      have l3 := congrArg List.length hl2
      generalize hb : pre2.foldl (t2Step B p u) (pre.foldl (t1Step B p) []) = bb at *
      walk_at "rd"
      rw [u_law_lets]
      walk_at "rd"
      have hlen : bb.length < 100000 := by simp at l1 l2 l0 l3 ⊢; omega
      have ecan : can B p (u, k) = lets B (co (p.1, p.2) k) (co (p.1, p.2) k.n) u := rfl
      cases hc : lets B (co (p.1, p.2) k) (co (p.1, p.2) k.n) u
      · exact .inl ⟨rfl, by rw [t2Step, ecan, hc]; rfl⟩
      · rw [t2Step, ecan, hc, if_pos rfl, List.map_append]
        refine .inr ⟨rfl, ?_⟩
        cases u with
        | false =>
          cases k with
          | z => exact ⟨.int p.1, rfl, .inl ⟨rfl, _, rfl, 0, rfl, hlen, rfl⟩⟩
          | o => exact ⟨.int p.2, rfl, .inl ⟨rfl, _, rfl, 1, rfl, hlen, rfl⟩⟩
        | true =>
          cases k with
          | z => exact ⟨.int p.1, rfl, .inr ⟨rfl, _, rfl, 0, rfl, hlen, rfl⟩⟩
          | o => exact ⟨.int p.2, rfl, .inr ⟨rfl, _, rfl, 1, rfl, hlen, rfl⟩⟩
    · intro e2
      exact ⟨rfl, _, _, _, rfl⟩
  · intro e
    rw [two_fold]
    walk_at "rd"
    exact h

def S_law_kinds : SpT := fun ds W => ∃ (r : Int), ds = [.int r] ∧ 0 ≤ r ∧ r ≤ 4 ∧ W (encL (kinds r))
theorem ln_law_kinds {ds : List PyData} {W : PyData → Prop} (h : S_law_kinds ds W) : ds.length = 1 := by obtain ⟨_, e, _⟩ := h; rw [e]; rfl
theorem u_law_kinds {r : Int} (h : 0 ≤ r ∧ r ≤ 4) {W : PyData → Prop} : S_law_kinds [.int r] W ↔ W (encL (kinds r)) := by
  constructor
  · rintro ⟨r', e, _, _, h⟩
    cases e; exact h
  · exact fun z => ⟨r, rfl, h.1, h.2, z⟩
theorem df_law_kinds (G_law_way : Df P w K mg base "_law_way" 1 S_law_way) (h_range : mg "range" = none) (h_sorted : mg "sorted" = none) (Fn_law_kinds : Fn K mg "_law_kinds" "_law_kinds" 75) : Df P w K mg base "_law_kinds" 2 S_law_kinds := by
  refine mkfn Fn_law_kinds sc_law_kinds (fun kV doc pm an cdv ct us h => by rcases us with _ | ⟨x0, _ | ⟨x1, r1⟩⟩ <;> first | rfl | (simp at h)) (by intro ds W h; exact ln_law_kinds h) fun f cdv A outer s H F E hr => ⟨_, (jbcons (jset (i := 1) sc_law_kinds.nd (je_f (jlst jnil)))
    (jbcons (jfor (pr := false) PassesOwn.never rfl (jiR1 h_range (jccons (jc (jadd (ja 0) (jc ji))) jcnil)) (jgn (i := 2) sc_law_kinds.nd) (jbone (jfor (pr := false) PassesOwn.never rfl (jiR1 h_range (jccons (jc (jadd (ja 0) (jc ji))) jcnil)) (jgn (i := 3) sc_law_kinds.nd) (jbone (jset (i := 1) sc_law_kinds.nd (je_f (jcatL (ja 1) (jc_f (jlc [("_law_at", 4)] rfl sc_law_kinds.nd (jiL (jcall G_law_way ⟨rfl, rfl⟩ hr (jcons (jz 2) (jcons (jz 3) jnil)))) (blkOk_by (N := N_law_kinds) (sc := defScope (top 75)) (own := [("_law_at", 4)]) (by decide +kernel)) (fun _ _ _ _ _ => (jgn (i := 4) sc_law_kinds.nd)) (fun _ _ _ _ _ => jtnil) (fun _ _ _ _ _ => (jtup (jcons (jz 2) (jcons (jz 3) (jcons (jz 4) jnil))))))))))))))
    (jbone (jret (je_f (jsort rfl hr.u_s h_sorted (ja 1))))))), ?_⟩
  intro ds W h
  obtain ⟨r, rfl, h0, h1, h⟩ := h
  walk_at "rd"
  refine ⟨by omega, loop_fold (rgI 0 (r + 1)) (fun (b : List K3) (e : Slo × Slo) => [.fz (.int r), .fz (encL b), e.1, e.2, .no]) (kdRow r) [] (.no, .no) rfl ?_ ?_⟩
  · intro pre f post hl e
    have hb := kdRow_len h1 pre [] (fun x hx => rg_bound h1 x (by rw [hl]; exact List.mem_append_left _ hx))
    have hf := rg_bound h1 f (by rw [hl]; exact List.mem_append_right _ (List.mem_cons_self ..))
    have hpl := congrArg List.length hl
    rw [len_rgI, List.length_append, List.length_cons] at hpl
    generalize hbb : pre.foldl (kdRow r) [] = bb at hb
    simp at hb
    walk_at "rd"
    refine ⟨by omega, loop_fold (rgI 0 (r + 1)) (fun (b : List K3) (e : Slo) => [.fz (.int r), .fz (encL b), .fz (.int f), e, .no]) (kdStep f) bb e.2 rfl ?_ ?_⟩
    · intro pre2 l post2 hl2 e2
      have hb2 := kdStep_len hf pre2 bb (fun x hx => rg_bound h1 x (by rw [hl2]; exact List.mem_append_left _ hx))
      have hll := rg_bound h1 l (by rw [hl2]; exact List.mem_append_right _ (List.mem_cons_self ..))
      have hpl2 := congrArg List.length hl2
      rw [len_rgI, List.length_append, List.length_cons] at hpl2
      generalize hbb2 : pre2.foldl (kdStep f) bb = b2 at hb2
      rw [kdStep]
      walk_at "rd"
      rw [u_law_way (by omega)]
      walk_at "rd"
      refine lc_allE (en := PyData.int) (wayI f l) (fun a => (⟨f, l, a⟩ : K3)) (by rw [len_wayI]; omega) (fun a ha K1 k1 => ?_) ?_
      · walk_at "rd"
        exact k1
      · walk_at "rd"
        rw [len_wayI]; omega
    · intro e2
      exact ⟨rfl, _, _, rfl⟩
  · intro e
    have := kdRaw_len h1
    walk_at "rd"
    refine ⟨sortOk_E (kdRaw r) (by omega), ?_⟩
    have e1 := sortD_E (kdRaw r)
    show W (.list (sortD ((kdRaw r).map enc)))
    rw [e1]
    exact h

def sgRow (a b : List Int) (f : List (Int × Int)) (k : Int) : List (Int × Int) := f ++ (wayI (getI a k) (getI b k)).map fun x => (k, x)
def singles (a b : List Int) : List (Int × Int) := (rgI 0 (a.length : Int)).foldl (sgRow a b) []
def S_law_singles : SpT := fun ds W => ∃ (a b : List Int), ds = [.tuple (a.map .int), .tuple (b.map .int)] ∧ a.length = b.length ∧ a.length ≤ 10 ∧ (∀ x ∈ a, 0 ≤ x ∧ x ≤ 10) ∧ (∀ x ∈ b, 0 ≤ x ∧ x ≤ 10) ∧ W (encL (singles a b))
theorem ln_law_singles {ds : List PyData} {W : PyData → Prop} (h : S_law_singles ds W) : ds.length = 2 := by obtain ⟨_, _, e, _⟩ := h; rw [e]; rfl
theorem sg_len {a b : List Int} : ∀ (l : List Int) (f : List (Int × Int)), (∀ k ∈ l, (wayI (getI a k) (getI b k)).length ≤ 10) → (l.foldl (sgRow a b) f).length ≤ f.length + 10 * l.length
  | [], f, _ => by simp
  | k :: l, f, h => by
    have h1 := sg_len l (sgRow a b f k) fun x hx => h x (List.mem_cons_of_mem _ hx)
    have h2 := h k (List.mem_cons_self ..)
    have h3 : (sgRow a b f k).length ≤ f.length + 10 := by unfold sgRow; rw [List.length_append, List.length_map]; omega
    rw [List.foldl_cons, List.length_cons]; omega
theorem df_law_singles (G_law_way : Df P w K mg base "_law_way" 1 S_law_way) (h_len : mg "len" = none) (h_range : mg "range" = none) (Fn_law_singles : Fn K mg "_law_singles" "_law_singles" 89) : Df P w K mg base "_law_singles" 2 S_law_singles := by
  refine mkfn Fn_law_singles sc_law_singles (fun kV doc pm an cdv ct us h => by rcases us with _ | ⟨x0, _ | ⟨x1, _ | ⟨x2, r2⟩⟩⟩ <;> first | rfl | (simp at h)) (by intro ds W h; exact ln_law_singles h) fun f cdv A outer s H F E hr => ⟨_, (jbcons (jset (i := 2) sc_law_singles.nd (je_f (jlst jnil)))
    (jbcons (jfor (pr := false) PassesOwn.never rfl (jiR1 h_range (jccons (jc (jcallB b_len h_len (jccons (ja 0) jcnil))) jcnil)) (jgn (i := 3) sc_law_singles.nd) (jbone (jset (i := 2) sc_law_singles.nd (je_f (jcatL (ja 2) (jc_f (jlc [("_law_at", 4)] rfl sc_law_singles.nd (jiL (jcall G_law_way ⟨rfl, rfl⟩ hr (jcons (jix (ja 0) (ja 3)) (jcons (jix (ja 1) (ja 3)) jnil)))) (blkOk_by (N := N_law_singles) (sc := defScope (top 89)) (own := [("_law_at", 4)]) (by decide +kernel)) (fun _ _ _ _ _ => (jgn (i := 4) sc_law_singles.nd)) (fun _ _ _ _ _ => jtnil) (fun _ _ _ _ _ => (jtup (jcons (jz 3) (jcons (jz 4) jnil)))))))))))
    (jbone (jret (jz 2))))), ?_⟩
  intro ds W h
  obtain ⟨l, o, rfl, hlo, hl, hal, hbl, h⟩ := h
  have hat : ∀ k : Int, 0 ≤ k → k < l.length → (0 ≤ getI l k ∧ getI l k ≤ 10) ∧ 0 ≤ getI o k ∧ getI o k ≤ 10 := fun k h0 h1 => ⟨hal _ (getI_mem h0 h1), hbl _ (getI_mem h0 (by omega))⟩
  walk_at "rd"
  refine ⟨by omega, loop_fold (rgI 0 (l.length : Int)) (fun (b : List (Int × Int)) (e : Slo) => [.fz (.tuple (l.map .int)), .fz (.tuple (o.map .int)), .fz (encL b), e, .no]) (sgRow l o) [] .no rfl ?_ ?_⟩
  · intro pre k post hll e
    have hk : 0 ≤ k ∧ k < l.length := mem_rgI.mp (by rw [hll]; exact List.mem_append_right _ (List.mem_cons_self ..))
    have hb := sg_len (a := l) (b := o) pre [] (fun j hj => by
      have := mem_rgI.mp (show j ∈ rgI 0 (l.length : Int) by rw [hll]; exact List.mem_append_left _ hj)
      have := hat j this.1 this.2
      rw [len_wayI]; omega)
    have hpl := congrArg List.length hll
    rw [len_rgI, List.length_append, List.length_cons] at hpl
    generalize pre.foldl (sgRow l o) [] = bb at hb
    rw [List.length_nil] at hb
    have i1 := it_t l hk.1 hk.2
    have i2 := it_t o (i := k) (by omega) (by omega)
    have hb2 := hat k hk.1 hk.2
    rw [sgRow]
    walk_at "rd"
    simp only [i1, i2, Option.some.injEq, exists_eq_left']
    rw [u_law_way (by omega)]
    walk_at "rd"
    refine lc_allE (en := PyData.int) (wayI (getI l k) (getI o k)) (fun x => (k, x)) (by rw [len_wayI]; omega) (fun x hx K1 k1 => ?_) ?_
    · walk_at "rd"
      exact k1
    · walk_at "rd"
      rw [len_wayI]; omega
  · intro e
    walk_at "rd"
    exact h

end
end HB

set_option Elab.async false
set_option linter.all false
set_option maxRecDepth 100000
set_option maxHeartbeats 4000000
set_option autoImplicit false
namespace HB
open PySem PySem.Spec L2
open En (enc)
section
variable {P : Program} {w : World} {K : PySem.W.Frag} {mg : Str → Option Value} {base : Heap}
local macro_rules | `(tactic| walk_at "rd") => `(tactic| simp [-List.any_eq_true, -List.any_eq_false, sSeq, sIf, sRt, sNx, sAs, sOw, sFz, sDo, sNo, sApp, gNm, gTp_t, gC_c, gN_n, xB, xZ, xA, xK, getZ, getA, fzz, x2, xAnd, xOr, xNot, xAndV, xOrV, xNotV, xIf, xChain, xFn, xTup, xLst, xNil, xCons, xCatL, xCatT, xSlL, xSlT, xNoP, xSoP, xThenL, xTupOf, xRngL, xSort, xSortSet, xSortK, xSumV, xDget, xDictOf, xTIndex, xTupF, xCatF, xRevT, xRngL3, xRngT, xRow, gRow, xLen0, xCell, xCallR, xIsi, xIsi2, xCall, xDnew, xDone, xGetD, xInD, xYes, sFor, iL, iT, iR1, iR2, iR3, iEnT, iEnL, iKs, iLn, xLc, kOk_p, any_p, dlk_p, put_p, dne0_p, deq0_p, dne0_i, dne0_w, deq0_w, encM_len, sMix, xMo, xMf, xMn, setS, gSbD, gSb, cut_take, cut_drop, ex2_eq, kOk_kk, put_kk, kOk_k3, dlk_k3, put_k3, itw0, itw1, wb_nt, wb_tu, wb_len, kOk_h, dlk_h, put_h, getD_h, sAugM, rngD_0, wip, dseq_t, dseq_l, deq_il, rngD_rg, dnD_dn, disN_n, dnotN_n, isNo, start', startR, rwAt, rwSet, dint, itb0, itb1, itb2, bk_nt, bk_tu, bk_len, encL_list, list_encL, len_L, len_l, len_t, it2_0, it2_1, it3_0, it3_1, it3_2, il2_0, il2_1, il1_0, it2_v, it2_n, icmp_i, isub_i, iadd_i, din_i, din_iL, deq_i, dne_i, deq_b, dne_b, nd_i, nd_b, nd_s, nd_n, nd_l, nd_t, ik_ii, ik_ib, ik_tt, small, dabs, dmax2, sum_L, enc_i, enc_b, enc_k, enc_p, enc_3, enc_l])
def S_law_taken : SpR := fun ns ρ ds W => 0 ≤ ρ.1 ∧ ∃ many : Int, ds = [.int many] ∧ 0 < many ∧ many < 1000 ∧ ∀ (x : Int) (ρ' : Rw), 0 ≤ x → x < many → 0 ≤ ρ'.1 → W (.int x) ρ'
theorem ln_law_taken {ns : List Int} {ρ : Rw} {ds : List PyData} {W : PyData → Rw → Prop} (h : S_law_taken ns ρ ds W) : ds.length + 1 = 2 := by obtain ⟨_, _, e, _⟩ := h; rw [e]; rfl
theorem df_law_taken (h_int : mg "int" = none) (h_len : mg "len" = none) (Fn_law_taken : Fn K mg "_law_taken" "_law_taken" 60) : DfR P w K mg base "_law_taken" 1 S_law_taken := by
  refine mkfnR Fn_law_taken sc_law_taken (fun kV doc pm an cdv ct us h => by rcases us with _ | ⟨x0, _ | ⟨x1, _ | ⟨x2, r2⟩⟩⟩ <;> first | rfl | (simp at h)) (by intro ns ρ ds W h; exact ln_law_taken h) fun f cdv A outer s H F E r sa ns hr => ⟨_, (jbcons (jifs (jcmpT o_gt (jc (jrow 0 3 (pv 0))) (jc ji)) (jbcons (jset (i := 2) sc_law_taken.nd (jmod (jc (jcallTy t_int h_int (jccons (jc (jrow 0 3 (pv 0))) jcnil))) (ja 1)))
    (jbcons (jas (pr := false) (jfdv (jc (jrow 0 3 (pv 0))) (ja 1)) (jgrow 0 3 (pv 0)))
    (jbone (jret (jz 2))))) jbnil)
    (jbcons (jas (pr := false) (jadd (jc (jrow 0 1 (pv 0))) (jc ji)) (jgrow 0 1 (pv 0)))
    (jbcons (jifs (jcmpT o_gt (jc (jrow 0 1 (pv 0))) (jc (jlen0 0 rfl h_len (pv 0)))) (jbcons (jas (pr := false) (jmod (jc (jcallTy t_int h_int (jccons (jc (jadd (jc (jmul (jc (jrow 0 2 (pv 0))) (jc ji))) (jc ji))) jcnil))) (jc ji)) (jgrow 0 2 (pv 0)))
    (jbone (jret (jmod (jc (jcallTy t_int h_int (jccons (jc (jfdv (jc (jrow 0 2 (pv 0))) (jc ji))) jcnil))) (ja 1))))) jbnil)
    (jbcons (jset (i := 3) sc_law_taken.nd (jcell 0 rfl (pv 0) (jc (jsub (jc (jrow 0 1 (pv 0))) (jc ji)))))
    (jbcons (jas (pr := false) (jmod (jc (jcallTy t_int h_int (jccons (jc (jadd (jc (jadd (jc (jmul (jc (jrow 0 2 (pv 0))) (jc ji))) (ja 3))) (jc ji))) jcnil))) (jc ji)) (jgrow 0 2 (pv 0)))
    (jbcons (jifs (jcmpT o_ge (ja 3) (jc (jpow (jc ji) (jc ji)))) (jbone (jas (pr := false) (jfdv (ja 3) (ja 1)) (jgrow 0 3 (pv 0)))) jbnil)
    (jbone (jret (jmod (jc (jcallTy t_int h_int (jccons (ja 3) jcnil))) (ja 1)))))))))), ?_⟩
  intro ρ ds W h
  obtain ⟨hρ, many, rfl, m0, m1, h⟩ := h
  obtain ⟨i, s, c⟩ := ρ
  simp only at hρ
  walk_at "rd"
  have e1 : ∀ s : Int, imul (.int s) (.int 48271) = some (.int (s * 48271)) := fun s => if_pos (.inr ⟨by decide, by decide⟩)
  have e2 : ∀ x j : Int, 0 < j → imod (.int x) (.int j) = some (.int (x % j)) := fun x j h => if_pos h
  have e3 : ∀ x j : Int, 0 < j ∧ j < 1073741824 → ifdv (.int x) (.int j) = some (.int (x / j)) := fun x j h => if_pos h
  have e5 : ipow (.int 10) (.int 18) = some (.int (10 ^ 18)) := by
    show (if (0 : Int) ≤ 18 ∧ (18 : Int) ≤ 1000000 ∧ (10 : Int).natAbs < 2 ^ 64 then some (PyData.int (10 ^ (18 : Int).toNat)) else none) = _
    rw [if_pos ⟨by decide, by decide, by decide⟩]; rfl
  have fin : ∀ (x : Int) (ρ' : Rw), 0 ≤ ρ'.1 → W (.int (x % many)) ρ' := fun x ρ' hr => h _ ρ' (Int.emod_nonneg _ (by omega)) (Int.emod_lt_of_pos _ m0) hr
  by_cases hc : 0 < c
  · exact .inr ⟨hc, _, e2 c many m0, _, e3 c many ⟨m0, by omega⟩, _, rfl, fin c _ hρ⟩
  refine .inl ⟨by omega, ?_⟩
  by_cases hi : i + 1 ≤ ns.length
  · refine .inl ⟨hi, ns[i.toNat]'(by omega), ?_, _, e1 s, _, rfl, _, rfl, _, rfl, _, e2 _ _ (by decide), _, rfl, _, e5, _, rfl, ?_⟩
    · unfold atI ixN
      rw [if_pos hρ, if_pos (by omega)]
      show ns[i.toNat]? = _
      rw [List.getElem?_eq_getElem (by omega)]
    · generalize ns[i.toNat]'(by omega) = x
      by_cases hx : (10 : Int) ^ 18 ≤ x
      · exact .inr ⟨congrArg PyData.bool (decide_eq_true hx), _, e3 x many ⟨m0, by omega⟩, _, rfl, _, e2 x many m0, fin x _ (by simp only; omega)⟩
      · exact .inl ⟨congrArg PyData.bool (decide_eq_false hx), _, e2 x many m0, fin x _ (by simp only; omega)⟩
  · exact .inr ⟨by omega, _, e1 s, _, rfl, _, rfl, _, e2 _ _ (by decide), _, rfl, _, e3 _ 7 ⟨by decide, by decide⟩, _, rfl, _, e2 _ many m0, fin _ _ (by simp only; omega)⟩

end
end HB

set_option Elab.async false
set_option linter.all false
set_option maxRecDepth 100000
set_option maxHeartbeats 4000000
set_option autoImplicit false
namespace HB
open PySem PySem.Spec L2
open En (enc)
section
variable {P : Program} {w : World} {K : PySem.W.Frag} {mg : Str → Option Value} {base : Heap}
local macro_rules | `(tactic| walk_at "rd") => `(tactic| simp [-List.any_eq_true, -List.any_eq_false, sSeq, sIf, sRt, sNx, sAs, sOw, sFz, sDo, sNo, sApp, gNm, gTp_t, gC_c, gN_n, xB, xZ, xA, xK, getZ, getA, fzz, x2, xAnd, xOr, xNot, xAndV, xOrV, xNotV, xIf, xChain, xFn, xTup, xLst, xNil, xCons, xCatL, xCatT, xSlL, xSlT, xNoP, xSoP, xThenL, xTupOf, xRngL, xSort, xSortSet, xSortK, xSumV, xDget, xDictOf, xTIndex, xTupF, xCatF, xRevT, xRngL3, xRngT, xRow, gRow, xLen0, xCell, xCallR, xIsi, xIsi2, xCall, xDnew, xDone, xGetD, xInD, xYes, sFor, iL, iT, iR1, iR2, iR3, iEnT, iEnL, iKs, iLn, xLc, kOk_p, any_p, dlk_p, put_p, dne0_p, deq0_p, dne0_i, dne0_w, deq0_w, encM_len, sMix, xMo, xMf, xMn, setS, gSbD, gSb, cut_take, cut_drop, ex2_eq, kOk_kk, put_kk, kOk_k3, dlk_k3, put_k3, itw0, itw1, wb_nt, wb_tu, wb_len, kOk_h, dlk_h, put_h, getD_h, sAugM, rngD_0, wip, dseq_t, dseq_l, deq_il, rngD_rg, dnD_dn, disN_n, dnotN_n, isNo, start', startR, rwAt, rwSet, dint, itb0, itb1, itb2, bk_nt, bk_tu, bk_len, encL_list, list_encL, len_L, len_l, len_t, it2_0, it2_1, it3_0, it3_1, it3_2, il2_0, il2_1, il1_0, it2_v, it2_n, icmp_i, isub_i, iadd_i, din_i, din_iL, deq_i, dne_i, deq_b, dne_b, nd_i, nd_b, nd_s, nd_n, nd_l, nd_t, ik_ii, ik_ib, ik_tt, small, dabs, dmax2, sum_L, enc_i, enc_b, enc_k, enc_p, enc_3, enc_l])
def S_law_pick : SpR := fun ns ρ ds W => 0 ≤ ρ.1 ∧ ∃ l : List PyData, ds = [.list l] ∧ l ≠ [] ∧ l.length < 1000 ∧ ∀ d ∈ l, ∀ ρ' : Rw, 0 ≤ ρ'.1 → W d ρ'
theorem ln_law_pick {ns : List Int} {ρ : Rw} {ds : List PyData} {W : PyData → Rw → Prop} (h : S_law_pick ns ρ ds W) : ds.length + 1 = 2 := by obtain ⟨_, _, e, _⟩ := h; rw [e]; rfl
theorem u_law_taken {ns : List Int} {ρ : Rw} {many : Int} {W : PyData → Rw → Prop} (hr : 0 ≤ ρ.1) (m0 : 0 < many) (m1 : many < 1000) (h : ∀ (x : Int) (ρ' : Rw), 0 ≤ x → x < many → 0 ≤ ρ'.1 → W (.int x) ρ') : S_law_taken ns ρ [.int many] W := ⟨hr, many, rfl, m0, m1, h⟩
theorem df_law_pick (G_law_taken : DfR P w K mg base "_law_taken" 1 S_law_taken) (h_len : mg "len" = none) (Fn_law_pick : Fn K mg "_law_pick" "_law_pick" 83) : DfR P w K mg base "_law_pick" 2 S_law_pick := by
  refine mkfnR Fn_law_pick sc_law_pick (fun kV doc pm an cdv ct us h => by rcases us with _ | ⟨x0, _ | ⟨x1, _ | ⟨x2, r2⟩⟩⟩ <;> first | rfl | (simp at h)) (by intro ns ρ ds W h; exact ln_law_pick h) fun f cdv A outer s H F E r sa ns hr => ⟨_, (jbone (jret (jix (ja 1) (jc (jcallR G_law_taken ⟨rfl, rfl, rfl⟩ hr 0 (pv 0) (jcons (jcallB b_len h_len (jccons (ja 1) jcnil)) jnil)))))), ?_⟩
  intro ρ ds W h
  obtain ⟨hρ, l, rfl, hne, hlen, h⟩ := h
  have hpos : 0 < l.length := List.length_pos_iff.mpr hne
  walk_at "rd"
  refine u_law_taken hρ (by omega) (by omega) fun x ρ' h0 h1 h2 => ?_
  rw [it_L l h0, List.getElem?_eq_getElem (by omega)]
  exact ⟨_, rfl, h _ (List.getElem_mem _) ρ' h2⟩

def S_law_heights : SpR := fun ns ρ ds W => 0 ≤ ρ.1 ∧ ∃ many roof : Int, ds = [.int many, .int roof] ∧ 0 ≤ many ∧ many < 100 ∧ 0 ≤ roof ∧ roof < 900 ∧ ∀ (h : List Int) (ρ' : Rw), (h.length : Int) = many → (∀ x ∈ h, 0 ≤ x ∧ x ≤ roof) → 0 ≤ ρ'.1 → W (.tuple (h.map .int)) ρ'
theorem ln_law_heights {ns : List Int} {ρ : Rw} {ds : List PyData} {W : PyData → Rw → Prop} (h : S_law_heights ns ρ ds W) : ds.length + 1 = 3 := by obtain ⟨_, _, _, e, _⟩ := h; rw [e]; rfl
theorem df_law_heights (G_law_taken : DfR P w K mg base "_law_taken" 1 S_law_taken) (h_range : mg "range" = none) (h_tuple : mg "tuple" = none) (Fn_law_heights : Fn K mg "_law_heights" "_law_heights" 81) : DfR P w K mg base "_law_heights" 2 S_law_heights := by
  refine mkfnR Fn_law_heights sc_law_heights (fun kV doc pm an cdv ct us h => by rcases us with _ | ⟨x0, _ | ⟨x1, _ | ⟨x2, _ | ⟨x3, r3⟩⟩⟩⟩ <;> first | rfl | (simp at h)) (by intro ns ρ ds W h; exact ln_law_heights h) fun f cdv A outer s H F E r sa ns hr => ⟨_, (jbone (jret (jtupOf h_tuple (jc_f (jlc [("_law_k", 3)] rfl sc_law_heights.nd (jiR1 h_range (jccons (ja 1) jcnil)) (blkOk_by (N := N_law_heights) (sc := defScope (top 81)) (own := [("_law_k", 3)]) (by decide +kernel)) (fun _ _ _ _ _ => (jgn (i := 3) sc_law_heights.nd)) (fun _ _ _ _ _ => jtnil) (fun _ _ _ _ _ => (jcallR G_law_taken ⟨rfl, rfl, rfl⟩ hr 0 (pv 0) (jcons (jadd (ja 2) (jc ji)) jnil)))))))), ?_⟩
  intro ρ ds W h
  obtain ⟨hρ, many, roof, rfl, m0, m1, r0, r1, h⟩ := h
  walk_at "rd"
  refine ⟨by omega, fun pre acc ρ' => 0 ≤ ρ'.1 ∧ ∃ hs : List Int, acc = hs.map .int ∧ hs.length = pre.length ∧ ∀ x ∈ hs, 0 ≤ x ∧ x ≤ roof, ⟨hρ, [], rfl, rfl, fun x hx => by simp at hx⟩, ?_, ?_⟩
  · rintro pre x post acc ρ' hl ⟨h1, hs, rfl, h2, h3⟩
    have hpl := congrArg List.length hl
    rw [List.length_map, len_rgI, List.length_append, List.length_cons] at hpl
    walk_at "rd"
    refine u_law_taken h1 (by omega) (by omega) fun y ρ2 y0 y1 y2 => ?_
    refine ⟨by omega, y2, hs ++ [y], by simp, by simp [h2], fun z hz => ?_⟩
    rcases List.mem_append.mp hz with q | q
    · exact h3 z q
    · simp at q; subst q; exact ⟨y0, by omega⟩
  · rintro acc ρ' ⟨h1, hs, rfl, h2, h3⟩
    rw [List.length_map, len_rgI] at h2
    walk_at "rd"
    exact h hs ρ' (by omega) h3 h1

def S_law_web : SpR := fun ns ρ ds W => 0 ≤ ρ.1 ∧ ds = [.int 5] ∧ ∀ (w : Wb) (ρ' : Rw), VWeb w → w.n ≤ 5 → 0 ≤ ρ'.1 → W (wbD w) ρ'
theorem ln_law_web {ns : List Int} {ρ : Rw} {ds : List PyData} {W : PyData → Rw → Prop} (h : S_law_web ns ρ ds W) : ds.length + 1 = 2 := by obtain ⟨_, e, _⟩ := h; rw [e]; rfl
structure WInv (n k : Int) (es : List (Int × Int)) : Prop where
  ed : ∀ e ∈ es, 0 ≤ e.1 ∧ e.1 < e.2 ∧ e.2 < n
  fi : ∀ e ∈ es, e.1 < k
  nd : es.Nodup
structure WRow (n k j : Int) (es : List (Int × Int)) : Prop where
  ed : ∀ e ∈ es, e.1 = k ∧ k < e.2 ∧ e.2 < n ∧ e.2 < j
  nd : es.Nodup
theorem WInv.row {n k j : Int} {es fs : List (Int × Int)} (hk : 0 ≤ k) (I : WInv n k es) (J : WRow n k j fs) : WInv n (k + 1) (es ++ fs) := by
  refine ⟨fun e he => ?_, fun e he => ?_, ?_⟩
  · rcases List.mem_append.mp he with z | z
    · exact I.ed e z
    · have := J.ed e z; omega
  · rcases List.mem_append.mp he with z | z
    · have := I.fi e z; omega
    · have := J.ed e z; omega
  · rw [List.nodup_append]
    refine ⟨I.nd, J.nd, fun a ha b hb e => ?_⟩
    subst e
    have := I.fi a ha; have := J.ed a hb; omega
theorem WInv.len {n k : Int} {es : List (Int × Int)} (hn : n ≤ 5) (I : WInv n k es) : es.length ≤ 25 := by
  have h1 := nodup_sub_len (l' := allPairs 4) I.nd fun e he => by
    have := I.ed e he
    exact mem_allPairs.mpr ⟨⟨by omega, by omega⟩, by omega, by omega⟩
  have := allPairs_len (r := 4) (by omega)
  omega
theorem WRow.len {n k j : Int} {es : List (Int × Int)} (hk : 0 ≤ k) (hn : n ≤ 5) (I : WRow n k j es) : es.length ≤ 25 := WInv.len (n := n) (k := k + 1) hn ⟨fun e he => by have := I.ed e he; omega, fun e he => by have := I.ed e he; omega, I.nd⟩
theorem WInv.web {n k : Int} {es : List (Int × Int)} (n0 : 1 ≤ n) (n1 : n ≤ 5) (I : WInv n k es) : VWeb ⟨n, sortE es⟩ := ⟨n0, by show n ≤ 8; omega, fun e he => I.ed e ((mem_sortE _ _).mp he), sorted_ltP I.nd⟩
theorem df_law_web (G_law_taken : DfR P w K mg base "_law_taken" 1 S_law_taken) (h_range : mg "range" = none) (h_sorted : mg "sorted" = none) (h_tuple : mg "tuple" = none) (Fn_law_web : Fn K mg "_law_web" "_law_web" 80) : DfR P w K mg base "_law_web" 2 S_law_web := by
  refine mkfnR Fn_law_web sc_law_web (fun kV doc pm an cdv ct us h => by rcases us with _ | ⟨x0, _ | ⟨x1, _ | ⟨x2, r2⟩⟩⟩ <;> first | rfl | (simp at h)) (by intro ns ρ ds W h; exact ln_law_web h) fun f cdv A outer s H F E r sa ns hr => ⟨_, (jbcons (jas (pr := false) (jtup (jcons (jadd (jc ji) (jc (jcallR G_law_taken ⟨rfl, rfl, rfl⟩ hr 0 (pv 0) (jcons (jz 1) jnil)))) (jcons (jcallR G_law_taken ⟨rfl, rfl, rfl⟩ hr 0 (pv 0) (jcons ji jnil)) (jcons (je_f (jlst jnil)) jnil)))) (jgtp rfl (jgcons (jgn (i := 2) sc_law_web.nd) (jgcons (jgn (i := 3) sc_law_web.nd) (jgcons (jgn (i := 4) sc_law_web.nd) jgnil)))))
    (jbcons (jfor (pr := false) PassesOwn.never rfl (jiR1 h_range (jccons (ja 2) jcnil)) (jgn (i := 5) sc_law_web.nd) (jbone (jset (i := 4) sc_law_web.nd (je_f (jcatL (ja 4) (jc_f (jlc [("_law_j", 6)] rfl sc_law_web.nd (jiR2 h_range (jccons (jc (jadd (ja 5) (jc ji))) (jccons (ja 2) jcnil))) (blkOk_by (N := N_law_web) (sc := defScope (top 80)) (own := [("_law_j", 6)]) (by decide +kernel)) (fun _ _ _ _ _ => (jgn (i := 6) sc_law_web.nd)) (fun _ _ _ _ _ => (jtone (jw (jw_and (jcmpT o_lt (ja 3) (jc ji)) (jw_and1 (jcmpT (o_eq hr.units) (jc (jcallR G_law_taken ⟨rfl, rfl, rfl⟩ hr 0 (pv 0) (jcons ji jnil))) (jc ji))))))) (fun _ _ _ _ _ => (jtup (jcons (jz 5) (jcons (jz 6) jnil)))))))))))
    (jbcons (jifs (jcmpT o_gt (ja 3) (jc ji)) (jbone (jset (i := 4) sc_law_web.nd (je_f (jcatL (jc_f (jlc [("_law_k", 5)] rfl sc_law_web.nd (jiR1 h_range (jccons (jc (jsub (ja 2) (jc ji))) jcnil)) (blkOk_by (N := N_law_web) (sc := defScope (top 80)) (own := [("_law_k", 5)]) (by decide +kernel)) (fun _ _ _ _ _ => (jgn (i := 5) sc_law_web.nd)) (fun _ _ _ _ _ => jtnil) (fun _ _ _ _ _ => (jtup (jcons (jz 5) (jcons (jadd (ja 5) (jc ji)) jnil)))))) (jc_f (jifF (jw (jw_and (jcmpT o_gt (ja 2) (jc ji)) (jw_and1 (jcmpT (o_eq hr.units) (ja 3) (jc ji))))) (jlst (jcons (jtup (jcons ji (jcons (jsub (ja 2) (jc ji)) jnil))) jnil)) (jlst jnil))))))) jbnil)
    (jbone (jret (jtup (jcons (jz 2) (jcons (jtupOf h_tuple (jc_f (jsort rfl hr.u_s h_sorted (ja 4)))) jnil)))))))), ?_⟩
  intro ρ ds W h
  obtain ⟨hρ, rfl, h⟩ := h
  walk_at "rd"
  refine u_law_taken hρ (by omega) (by omega) fun x ρ1 x0 x1 r1 => ?_
  walk_at "rd"
  refine u_law_taken r1 (by omega) (by omega) fun y ρ2 y0 y1 r2 => ?_
  refine ⟨by omega, fun pre δ ρ' => 0 ≤ ρ'.1 ∧ ∃ es e5, δ = [.row, .fz (.int 5), .fz (.int (1 + x)), .fz (.int y), .fz (encL es), e5, .no] ∧ WInv (1 + x) pre.length es, ⟨r2, [], .no, rfl, ⟨fun e he => by simp at he, fun e he => by simp at he, by simp⟩⟩, ?_, ?_⟩
  · rintro pre k post hl δ ρ' ⟨hr, es, e5, rfl, I⟩
    have hpl := congrArg List.length hl
    rw [List.length_map, len_rgI, List.length_append, List.length_cons] at hpl
    have hk : k = .int pre.length := by
      have h1 : ((rgI 0 (1 + x)).map PyData.int)[pre.length]? = some k := by rw [hl]; simp
      rw [List.getElem?_map] at h1
      obtain ⟨j, h2, h3⟩ := Option.map_eq_some_iff.mp h1
      have := (rgI_at h2).1
      rw [← h3, this]; simp
    subst hk
    have hel := I.len (by omega)
    walk_at "rd"
    refine ⟨by omega, fun pre2 acc ρ3 => 0 ≤ ρ3.1 ∧ ∃ fs, acc = fs.map enc ∧ WRow (1 + x) pre.length ((pre.length : Int) + 1 + pre2.length) fs, ⟨hr, [], rfl, ⟨fun e he => by simp at he, by simp⟩⟩, ?_, ?_⟩
    · rintro pre2 j post2 acc ρ3 hl2 ⟨hr3, fs, rfl, J⟩
      have hpl2 := congrArg List.length hl2
      rw [List.length_map, len_rgI, List.length_append, List.length_cons] at hpl2
      have hj : j = .int ((pre.length : Int) + 1 + pre2.length) := by
        have h1 : ((rgI ((pre.length : Int) + 1) (1 + x)).map PyData.int)[pre2.length]? = some j := by rw [hl2]; simp
        rw [List.getElem?_map] at h1
        obtain ⟨j', h2, h3⟩ := Option.map_eq_some_iff.mp h1
        have := (rgI_at h2).1
        rw [← h3, this]
      subst hj
      have hfl := J.len (by omega) (by omega)
      have J0 : WRow (1 + x) pre.length ((pre.length : Int) + 1 + ((pre2.length : Int) + 1)) fs := ⟨fun e he => by have := J.ed e he; omega, J.nd⟩
      have J1 : WRow (1 + x) pre.length ((pre.length : Int) + 1 + ((pre2.length : Int) + 1)) (fs ++ [((pre.length : Int), (pre.length : Int) + 1 + pre2.length)]) := by
        refine ⟨fun e he => ?_, ?_⟩
        · rcases List.mem_append.mp he with z | z
          · exact J0.ed e z
          · have z := List.mem_singleton.mp z
            rw [z]
            exact ⟨rfl, by show (pre.length : Int) < (pre.length : Int) + 1 + pre2.length; omega, by show (pre.length : Int) + 1 + pre2.length < 1 + x; omega, by show (pre.length : Int) + 1 + pre2.length < (pre.length : Int) + 1 + ((pre2.length : Int) + 1); omega⟩
        · rw [List.nodup_append]
          refine ⟨J.nd, by simp, fun a ha b hb e => ?_⟩
          simp at hb; subst hb; subst e
          exact Int.lt_irrefl _ (J.ed _ ha).2.2.2
      walk_at "rd"
      by_cases hy : y < 3
      · refine .inr ⟨hy, u_law_taken hr3 (by omega) (by omega) fun z ρ4 z0 z1 r4 => ?_⟩
        rw [deq_i]
        by_cases hz : z = 0
        · exact ⟨_, rfl, .inr ⟨by rw [decide_eq_true hz], by omega, r4, _, by rw [List.map_append]; rfl, J1⟩⟩
        · exact ⟨_, rfl, .inl ⟨by rw [decide_eq_false hz], r4, fs, rfl, J0⟩⟩
      · exact .inl ⟨by omega, hr3, fs, rfl, J0⟩
    · rintro acc ρ3 ⟨hr3, fs, rfl, J⟩
      have I2 := I.row (by omega) J
      have hfl := J.len (by omega) (by omega)
      walk_at "rd"
      exact ⟨by omega, hr3, es ++ fs, by rw [List.map_append], I2⟩
  · rintro δ ρ' ⟨hr, es, e5, rfl, I⟩
    rw [List.length_map, len_rgI] at I
    have hel := I.len (by omega)
    have hso : SortOk (es.map enc) := sortOk_E es (by omega)
    have e1 := sortD_E es
    walk_at "rd"
    by_cases hy : y ≤ 2
    · refine .inl ⟨hy, hso, ?_⟩
      rw [e1]
      exact h ⟨1 + x, sortE es⟩ ρ' (I.web (by omega) (by omega)) (by show 1 + x ≤ 5; omega) hr
    · refine .inr ⟨by omega, by omega, lc_allE (rgI 0 (1 + x - 1)) (fun k => (k, k + 1)) (by rw [len_rgI]; omega) (fun k hk K1 k1 => ?_) ?_⟩
      · walk_at "rd"
        exact k1
      have P0 : WInv (1 + x) (1 + x) ((rgI 0 (1 + x - 1)).map fun k => (k, k + 1)) := by
        refine ⟨fun e he => ?_, fun e he => ?_, nodup_map (fun a b h => (Prod.mk.inj h).1) (nodup_rgI _ _)⟩
        · obtain ⟨k, hk, rfl⟩ := List.mem_map.mp he
          have := mem_rgI.mp hk; simp only; omega
        · obtain ⟨k, hk, rfl⟩ := List.mem_map.mp he
          have := mem_rgI.mp hk; simp only; omega
      have finish : ∀ fs : List (Int × Int), WInv (1 + x) (1 + x) fs → SortOk (fs.map enc) ∧ W (PyData.tuple [PyData.int (1 + x), PyData.tuple (sortD (fs.map enc))]) ρ' := fun fs I2 => by
        have := I2.len (by omega)
        refine ⟨sortOk_E fs (by omega), ?_⟩
        rw [sortD_E fs]
        exact h ⟨1 + x, sortE fs⟩ ρ' (I2.web (by omega) (by omega)) (by show 1 + x ≤ 5; omega) hr
      have hl0 := P0.len (by omega)
      generalize hps : ((rgI 0 (1 + x - 1)).map fun k => (k, k + 1)) = ps at P0 hl0
      by_cases hn : 2 < 1 + x ∧ y = 4
      · have P1 : WInv (1 + x) (1 + x) (ps ++ [((0 : Int), 1 + x - 1)]) := by
          refine ⟨fun e he => ?_, fun e he => ?_, ?_⟩
          · rcases List.mem_append.mp he with z | z
            · exact P0.ed e z
            · rw [List.mem_singleton.mp z]; exact ⟨Int.le_refl _, by show (0 : Int) < 1 + x - 1; omega, by show 1 + x - 1 < 1 + x; omega⟩
          · rcases List.mem_append.mp he with z | z
            · exact P0.fi e z
            · rw [List.mem_singleton.mp z]; show (0 : Int) < 1 + x; omega
          · rw [List.nodup_append]
            refine ⟨P0.nd, by simp, fun a ha b hb e => ?_⟩
            rw [List.mem_singleton.mp hb] at e
            rw [e, ← hps] at ha
            obtain ⟨k, _, hk⟩ := List.mem_map.mp ha
            have := Prod.mk.inj hk
            omega
        have := finish _ P1
        rw [List.map_append] at this
        exact .inr ⟨hn.1, .inr ⟨hn.2, ps.map enc, rfl, by rw [List.length_map]; omega, this⟩⟩
      · have := finish _ P0
        by_cases hx : 1 + x ≤ 2
        · exact .inl ⟨hx, ps.map enc, rfl, by rw [List.length_map]; omega, this⟩
        · exact .inr ⟨by omega, .inl ⟨fun z => hn ⟨by omega, z⟩, ps.map enc, rfl, by rw [List.length_map]; omega, this⟩⟩

end
end HB

set_option Elab.async false
set_option linter.all false
set_option maxRecDepth 100000
set_option maxHeartbeats 4000000
set_option autoImplicit false
namespace HB
open PySem PySem.Spec L2
open En (enc)
section
variable {P : Program} {w : World} {K : PySem.W.Frag} {mg : Str → Option Value} {base : Heap}
local macro_rules | `(tactic| walk_at "rd") => `(tactic| simp [-List.any_eq_true, -List.any_eq_false, sSeq, sIf, sRt, sNx, sAs, sOw, sFz, sDo, sNo, sApp, gNm, gTp_t, gC_c, gN_n, xB, xZ, xA, xK, getZ, getA, fzz, x2, xAnd, xOr, xNot, xAndV, xOrV, xNotV, xIf, xChain, xFn, xTup, xLst, xNil, xCons, xCatL, xCatT, xSlL, xSlT, xNoP, xSoP, xThenL, xTupOf, xRngL, xSort, xSortSet, xSortK, xSumV, xDget, xDictOf, xTIndex, xTupF, xCatF, xRevT, xRngL3, xRngT, xRow, gRow, xLen0, xCell, xCallR, xIsi, xIsi2, xCall, xDnew, xDone, xGetD, xInD, xYes, sFor, iL, iT, iR1, iR2, iR3, iEnT, iEnL, iKs, iLn, xLc, kOk_p, any_p, dlk_p, put_p, dne0_p, deq0_p, dne0_i, dne0_w, deq0_w, encM_len, sMix, xMo, xMf, xMn, setS, gSbD, gSb, cut_take, cut_drop, ex2_eq, kOk_kk, put_kk, kOk_k3, dlk_k3, put_k3, itw0, itw1, wb_nt, wb_tu, wb_len, kOk_h, dlk_h, put_h, getD_h, sAugM, rngD_0, wip, dseq_t, dseq_l, deq_il, rngD_rg, dnD_dn, disN_n, dnotN_n, isNo, start', startR, rwAt, rwSet, dint, itb0, itb1, itb2, bk_nt, bk_tu, bk_len, encL_list, list_encL, len_L, len_l, len_t, it2_0, it2_1, it3_0, it3_1, it3_2, il2_0, il2_1, il1_0, it2_v, it2_n, icmp_i, isub_i, iadd_i, din_i, din_iL, deq_i, dne_i, deq_b, dne_b, nd_i, nd_b, nd_s, nd_n, nd_l, nd_t, ik_ii, ik_ib, ik_tt, small, dabs, dmax2, sum_L, enc_i, enc_b, enc_k, enc_p, enc_3, enc_l])
def afW (B : Bk) (w : Wb) (h : List Int) : List (Dw × List Int) := (deedsW B w h).map fun d => (d, chg h d)
def nearH (w : Wb) (h : List Int) (k : Int) : List Int := ((w.es.filter fun e => decide (e.1 = k)).map fun e => getI h e.2) ++ (w.es.filter fun e => decide (e.2 = k)).map fun e => getI h e.1
theorem nearH_all {w : Wb} {h : List Int} {k : Int} (p : Int → Bool) : (nearH w h k).all p = (besd w k).all fun j => p (getI h j) := by
  unfold nearH besd
  rw [List.all_append, List.all_append, List.all_map, List.all_map, List.all_map, List.all_map, Bool.and_comm]; rfl
def af2 (B : Bk) (w : Wb) (h : List Int) (u : Bool) (b : List (Dw × List Int)) (k : Int) : List (Dw × List Int) := if canW B w h u k = true then b ++ [((u, k), chg h (u, k))] else b
def af1 (B : Bk) (w : Wb) (h : List Int) (b : List (Dw × List Int)) (u : Bool) : List (Dw × List Int) := (rgI 0 w.n).foldl (af2 B w h u) b
theorem af2_fold (B : Bk) (w : Wb) (h : List Int) (u : Bool) : ∀ (l : List Int) (b : List (Dw × List Int)), l.foldl (af2 B w h u) b = b ++ (l.filter (canW B w h u)).map fun k => ((u, k), chg h (u, k))
  | [], b => by simp
  | k :: l, b => by
    rw [List.foldl_cons, af2_fold B w h u l, af2, List.filter_cons]
    split <;> simp
theorem af_fold (B : Bk) (w : Wb) (h : List Int) : [false, true].foldl (af1 B w h) [] = afW B w h := by
  unfold afW deedsW
  simp only [List.foldl_cons, List.foldl_nil, af1, af2_fold, List.nil_append, List.map_append, List.map_map]
  rfl
def S_law_after : SpT := fun ds W => ∃ (B : Bk) (w : Wb) (h : List Int), ds = [bkD B, wbD w, .tuple (h.map .int)] ∧ VWeb w ∧ VHts B w h ∧ W (encL (afW B w h))
theorem ln_law_after {ds : List PyData} {W : PyData → Prop} (h : S_law_after ds W) : ds.length = 3 := by obtain ⟨_, _, _, e, _⟩ := h; rw [e]; rfl
theorem df_law_after (G_law_lets : Df P w K mg base "_law_lets" 1 S_law_lets) (h_range : mg "range" = none) (Fn_law_after : Fn K mg "_law_after" "_law_after" 82) : Df P w K mg base "_law_after" 2 S_law_after := by
  refine mkfn Fn_law_after sc_law_after (fun kV doc pm an cdv ct us h => by rcases us with _ | ⟨x0, _ | ⟨x1, _ | ⟨x2, _ | ⟨x3, r3⟩⟩⟩⟩ <;> first | rfl | (simp at h)) (by intro ds W h; exact ln_law_after h) fun f cdv A outer s H F E hr => ⟨_, (jbcons (jown (i := 3) sc_law_after.nd (jlst jnil))
    (jbcons (jfor (pr := false) PassesOwn.never rfl (jiL (je_f (jlst (jcons jb (jcons jb jnil))))) (jgn (i := 4) sc_law_after.nd) (jbone (jfor (pr := false) PassesOwn.never rfl (jiR1 h_range (jccons (jc (jix (ja 1) (jc ji))) jcnil)) (jgn (i := 5) sc_law_after.nd) (jbcons (jset (i := 6) sc_law_after.nd (je_f (jcatL (jc_f (jlc [("_law_a", 7), ("_law_b", 8)] rfl sc_law_after.nd (jiT (jix (ja 1) (jc ji))) (blkOk_by (N := N_law_after) (sc := defScope (top 82)) (own := [("_law_a", 7), ("_law_b", 8)]) (by decide +kernel)) (fun _ _ _ _ _ => (jgtp rfl (jgcons (jgn (i := 7) sc_law_after.nd) (jgcons (jgn (i := 8) sc_law_after.nd) jgnil)))) (fun _ _ _ _ _ => (jtone (jcmpT (o_eq hr.units) (ja 7) (ja 5)))) (fun _ _ _ _ _ => (jix (ja 2) (ja 8))))) (jc_f (jlc [("_law_a", 7), ("_law_b", 8)] rfl sc_law_after.nd (jiT (jix (ja 1) (jc ji))) (blkOk_by (N := N_law_after) (sc := defScope (top 82)) (own := [("_law_a", 7), ("_law_b", 8)]) (by decide +kernel)) (fun _ _ _ _ _ => (jgtp rfl (jgcons (jgn (i := 7) sc_law_after.nd) (jgcons (jgn (i := 8) sc_law_after.nd) jgnil)))) (fun _ _ _ _ _ => (jtone (jcmpT (o_eq hr.units) (ja 8) (ja 5)))) (fun _ _ _ _ _ => (jix (ja 2) (ja 7))))))))
    (jbcons (jset (i := 9) sc_law_after.nd (jif (jt (ja 4)) (jcmp o_lt (jc (jix (ja 2) (ja 5))) (jc (jix (ja 0) (jc ji)))) (jcmp o_gt (jc (jix (ja 2) (ja 5))) (jc ji))))
    (jbone (jifs (jw (jw_and (jt (ja 9)) (jw_and1 (jcmpT (o_eq hr.units) (jc_f (jlc [("_law_one", 10)] rfl sc_law_after.nd (jiL (jz 6)) (blkOk_by (N := N_law_after) (sc := defScope (top 82)) (own := [("_law_one", 10)]) (by decide +kernel)) (fun _ _ _ _ _ => (jgn (i := 10) sc_law_after.nd)) (fun _ _ _ _ _ => (jtone (jnot (jt (jc (jcall G_law_lets ⟨rfl, rfl⟩ hr (jcons (jz 0) (jcons (jix (ja 2) (ja 5)) (jcons (jz 10) (jcons (jz 4) jnil)))))))))) (fun _ _ _ _ _ => (jz 10)))) (jc_f (jlst jnil)))))) (jbone (japp 3 (pv 3) (jtup (jcons (jtup (jcons (jz 4) (jcons (jz 5) jnil))) (jcons (jcatT (jcatT (jslT (jz 2) jno (jso (ja 5))) (jtup (jcons (jadd (jc (jix (ja 2) (ja 5))) (jc (jif (jt (ja 4)) ji (jsub (jc ji) (jc ji))))) jnil))) (jslT (jz 2) (jso (jc (jadd (ja 5) (jc ji)))) jno)) jnil))))) jbnil)))))))
    (jbone (jfz 3 (jret (jz 3)))))), ?_⟩
  intro ds W h
  obtain ⟨B, w, l, rfl, V, VH, h⟩ := h
  have hel := V.len
  have n1 := V.n1
  have hn := VH.len
  walk_at "rd"
  refine loop_fold (en := PyData.bool) [false, true] (fun (b : List (Dw × List Int)) (e : Slo × Slo × Slo × Slo) => [.fz (bkD B), .fz (wbD w), .fz (.tuple (l.map .int)), .ow (encL b), e.1, e.2.1, e.2.2.1, .no, .no, e.2.2.2, .no]) (af1 B w l) [] (.no, .no, .no, .no) rfl ?_ ?_
  · intro pre u post hl e
    have hpb : (pre.foldl (af1 B w l) []).length ≤ 16 * pre.length := by
      have key : ∀ (x : List Bool) (b : List (Dw × List Int)), (x.foldl (af1 B w l) b).length ≤ b.length + 16 * x.length := by
        intro x
        induction x with
        | nil => intro b; simp
        | cons a x ih =>
          intro b
          have h1 := ih (af1 B w l b a)
          have h2 : (af1 B w l b a).length ≤ b.length + 16 := by
            unfold af1; rw [af2_fold, List.length_append, List.length_map]
            have := List.length_filter_le (canW B w l a) (rgI 0 w.n)
            rw [len_rgI] at this; omega
          rw [List.foldl_cons, List.length_cons]; omega
      simpa using key pre []
    have hpl := congrArg List.length hl
    rw [List.length_append] at hpl
    generalize pre.foldl (af1 B w l) [] = bb at hpb
    walk_at "rd"
    refine ⟨by have := V.n0; omega, loop_fold (rgI 0 w.n) (fun (b : List (Dw × List Int)) (e : Slo × Slo × Slo) => [.fz (bkD B), .fz (wbD w), .fz (.tuple (l.map .int)), .ow (encL b), .fz (.bool u), e.1, e.2.1, .no, .no, e.2.2, .no]) (af2 B w l u) bb (e.2.1, e.2.2.1, e.2.2.2) rfl ?_ ?_⟩
    · intro pre2 k post2 hl2 e2
      have hk : 0 ≤ k ∧ k < w.n := mem_rgI.mp (by rw [hl2]; exact List.mem_append_right _ (List.mem_cons_self ..))
      have i1 := it_t l hk.1 (by omega)
      have hb2 : (pre2.foldl (af2 B w l u) bb).length ≤ 1000 := by
        rw [af2_fold, List.length_append, List.length_map]
        have h1 := List.length_filter_le (canW B w l u) pre2
        have h2 := congrArg List.length hl2
        rw [len_rgI, List.length_append, List.length_cons] at h2
        simp only [List.length_cons, List.length_nil] at hpl
        omega
      generalize pre2.foldl (af2 B w l u) bb = b2 at hb2
      have hck : (k.toNat : Int) = k := by omega
      have c1 : cutD (l.map PyData.int) none (some k) = (l.take k.toNat).map .int := by
        have := cut_take (l.map PyData.int) k.toNat
        rw [hck, ← List.map_take] at this; exact this
      have c2 : cutD (l.map PyData.int) (some (k + 1)) none = (l.drop (k.toNat + 1)).map .int := by
        have e : (k + 1) = ((k.toNat + 1 : Nat) : Int) := by omega
        rw [e, cut_drop, ← List.map_drop]
      have ec : chg l (u, k) = l.take k.toNat ++ (getI l k + sg u) :: l.drop (k.toNat + 1) := by
        unfold chg
        exact List.set_eq_take_append_cons_drop ▸ (by rw [if_pos (by simp only; omega)])
      walk_at "rd"
      refine lc_ofE w.es (fun e => decide (e.1 = k)) (fun e => getI l e.2) (by omega) (fun e he K1 K0 k1 k0 => ?_) ?_
      · have := V.ed e he
        have j1 := it_t l (i := e.2) (by omega) (by omega)
        walk_at "rd"
        by_cases hc : e.1 = k
        · exact .inr ⟨hc, _, j1, k1 (by simp [hc])⟩
        · exact .inl ⟨hc, k0 (by simp [hc])⟩
      refine lc_ofE w.es (fun e => decide (e.2 = k)) (fun e => getI l e.1) (by omega) (fun e he K1 K0 k1 k0 => ?_) ?_
      · have := V.ed e he
        have j1 := it_t l (i := e.1) (by omega) (by omega)
        walk_at "rd"
        by_cases hc : e.2 = k
        · exact .inr ⟨hc, _, j1, k1 (by simp [hc])⟩
        · exact .inl ⟨hc, k0 (by simp [hc])⟩
      have l1 := List.length_filter_le (fun e : Int × Int => decide (e.1 = k)) w.es
      have l2 := List.length_filter_le (fun e : Int × Int => decide (e.2 = k)) w.es
      have hnl : (nearH w l k).length ≤ 200 := by unfold nearH; simp only [List.length_append, List.length_map]; omega
      refine ⟨_, rfl, _, rfl, by simp only [List.length_map]; omega, ?_⟩
      rw [← List.map_append]
      rw [show ((w.es.filter fun e => decide (e.1 = k)).map fun e => getI l e.2) ++ ((w.es.filter fun e => decide (e.2 = k)).map fun e => getI l e.1) = nearH w l k from rfl]
      simp only [i1, Option.some.injEq, exists_eq_left', icmp_i]
      have hv := VH.at hk.1 hk.2
      have goL : ∀ (r : Prop) (x : Bool), True := fun _ _ => trivial
      have hfe : ∀ v : Bool, ((nearH w l k).filter fun x => !(lets B (getI l k) x v)) = [] ↔ ((besd w k).all fun j => lets B (getI l k) (getI l j) v) = true := by
        intro v
        rw [← nearH_all (fun x => lets B (getI l k) x v), List.filter_eq_nil_iff, List.all_eq_true]
        simp
      rcases u with _ | _
      · by_cases hz : 0 < getI l k
        · refine .inl ⟨rfl, .inr ⟨by simp [hz], ?_⟩⟩
          refine lc_ofE (nearH w l k) (fun x => !(lets B (getI l k) x false)) id (by omega) (fun e he K1 K0 k1 k0 => ?_) ?_
          · walk_at "rd"
            simp only [u_law_lets, i1, Option.some.injEq, exists_eq_left']
            cases hl : lets B (getI l k) e false
            · exact .inl ⟨rfl, k1 (by rw [hl]; rfl)⟩
            · exact .inr ⟨rfl, k0 (by rw [hl]; rfl)⟩
          · refine ⟨_, deq0 (α := Int) (by decide) _, ?_⟩
            rw [List.map_id]
            by_cases hg : ((besd w k).all fun j => lets B (getI l k) (getI l j) false) = true
            · refine .inr ⟨by rw [(hfe false).mpr hg]; rfl, .inl ⟨rfl, _, iadd_i _ _, ?_, ?_, by omega, rfl, ?_⟩⟩
              · rw [c1, List.length_map, List.length_take]; omega
              · rw [c1, c2, List.length_map, List.length_take, List.length_map, List.length_drop]; omega
              · unfold af2; rw [if_pos (by unfold canW; rw [hg, Bool.and_true]; simp; omega), c1, c2, ec, List.map_append]
                simp [enc_l, sg, En.enc]
                done
            · refine .inl ⟨by rw [show List.isEmpty _ = false from by rw [Bool.eq_false_iff]; intro h; exact hg ((hfe false).mp (List.isEmpty_iff.mp h))], rfl, ?_⟩
              unfold af2; rw [if_neg (by unfold canW; rw [Bool.and_eq_true]; exact fun h => hg h.2)]
        · refine .inl ⟨rfl, .inl ⟨by simp [hz], trivial, ?_⟩⟩
          unfold af2; rw [if_neg]; unfold canW; simp; intro h; exfalso; omega
      · by_cases hz : getI l k < B.r
        · refine .inr ⟨rfl, .inr ⟨by simp [hz], ?_⟩⟩
          refine lc_ofE (nearH w l k) (fun x => !(lets B (getI l k) x true)) id (by omega) (fun e he K1 K0 k1 k0 => ?_) ?_
          · walk_at "rd"
            simp only [u_law_lets, i1, Option.some.injEq, exists_eq_left']
            cases hl : lets B (getI l k) e true
            · exact .inl ⟨rfl, k1 (by rw [hl]; rfl)⟩
            · exact .inr ⟨rfl, k0 (by rw [hl]; rfl)⟩
          · refine ⟨_, deq0 (α := Int) (by decide) _, ?_⟩
            rw [List.map_id]
            by_cases hg : ((besd w k).all fun j => lets B (getI l k) (getI l j) true) = true
            · refine .inr ⟨by rw [(hfe true).mpr hg]; rfl, .inr ⟨rfl, _, iadd_i _ _, ?_, ?_, by omega, rfl, ?_⟩⟩
              · rw [c1, List.length_map, List.length_take]; omega
              · rw [c1, c2, List.length_map, List.length_take, List.length_map, List.length_drop]; omega
              · unfold af2; rw [if_pos (by unfold canW; rw [hg, Bool.and_true]; simp; omega), c1, c2, ec, List.map_append]
                simp [enc_l, sg, En.enc]
                done
            · refine .inl ⟨by rw [show List.isEmpty _ = false from by rw [Bool.eq_false_iff]; intro h; exact hg ((hfe true).mp (List.isEmpty_iff.mp h))], rfl, ?_⟩
              unfold af2; rw [if_neg (by unfold canW; rw [Bool.and_eq_true]; exact fun h => hg h.2)]
        · refine .inr ⟨rfl, .inl ⟨by simp [hz], trivial, ?_⟩⟩
          unfold af2; rw [if_neg]; unfold canW; simp; intro h; exfalso; omega
    · intro e2
      exact ⟨rfl, _, _, _, _, rfl⟩
  · intro e
    rw [af_fold]
    walk_at "rd"
    exact h

end
end HB

set_option Elab.async false
set_option linter.all false
set_option maxRecDepth 100000
set_option maxHeartbeats 4000000
set_option autoImplicit false
namespace HB
open PySem PySem.Spec L2
open En (enc)
section
variable {P : Program} {w : World} {K : PySem.W.Frag} {mg : Str → Option Value} {base : Heap}
local macro_rules | `(tactic| walk_at "rd") => `(tactic| simp [-List.any_eq_true, -List.any_eq_false, sSeq, sIf, sRt, sNx, sAs, sOw, sFz, sDo, sNo, sApp, gNm, gTp_t, gC_c, gN_n, xB, xZ, xA, xK, getZ, getA, fzz, x2, xAnd, xOr, xNot, xAndV, xOrV, xNotV, xIf, xChain, xFn, xTup, xLst, xNil, xCons, xCatL, xCatT, xSlL, xSlT, xNoP, xSoP, xThenL, xTupOf, xRngL, xSort, xSortSet, xSortK, xSumV, xDget, xDictOf, xTIndex, xTupF, xCatF, xRevT, xRngL3, xRngT, xRow, gRow, xLen0, xCell, xCallR, xIsi, xIsi2, xCall, xDnew, xDone, xGetD, xInD, xYes, sFor, iL, iT, iR1, iR2, iR3, iEnT, iEnL, iKs, iLn, xLc, kOk_p, any_p, dlk_p, put_p, dne0_p, deq0_p, dne0_i, dne0_w, deq0_w, encM_len, sMix, xMo, xMf, xMn, setS, gSbD, gSb, cut_take, cut_drop, ex2_eq, kOk_kk, put_kk, kOk_k3, dlk_k3, put_k3, itw0, itw1, wb_nt, wb_tu, wb_len, kOk_h, dlk_h, put_h, getD_h, sAugM, rngD_0, wip, dseq_t, dseq_l, deq_il, rngD_rg, dnD_dn, disN_n, dnotN_n, isNo, start', startR, rwAt, rwSet, dint, itb0, itb1, itb2, bk_nt, bk_tu, bk_len, encL_list, list_encL, len_L, len_l, len_t, it2_0, it2_1, it3_0, it3_1, it3_2, il2_0, il2_1, il1_0, it2_v, it2_n, icmp_i, isub_i, iadd_i, din_i, din_iL, deq_i, dne_i, deq_b, dne_b, nd_i, nd_b, nd_s, nd_n, nd_l, nd_t, ik_ii, ik_ib, ik_tt, small, dabs, dmax2, sum_L, enc_i, enc_b, enc_k, enc_p, enc_3, enc_l])
structure FromW (B : Bk) (p : Pr) (m : Mp) : Prop where
  nd : (m.map (·.1)).Nodup
  pa : ∀ q n, (q, n) ∈ m → ∃ k : Nat, n = k ∧ Path B p q k
  all : ∀ q k, Path B p q k → q ∈ m.map (·.1)
structure QInv (B : Bk) (p : Pr) (m : Mp) (rs : List Pr) : Prop where
  nd : (m.map (·.1)).Nodup
  pa : ∀ q n, (q, n) ∈ m → ∃ k : Nat, n = k ∧ Path B p q k
  st : p ∈ m.map (·.1)
  rk : ∀ q ∈ rs, q ∈ m.map (·.1)
  cl : ∀ q ∈ m.map (·.1), q ∉ rs → ∀ d, can B q d = true → mv q d ∈ m.map (·.1)
  ln : rs.length ≤ m.length
structure QMid (B : Bk) (p here : Pr) (dn : List Dd) (l0 B0 : Nat) (m : Mp) (rs : List Pr) : Prop where
  nd : (m.map (·.1)).Nodup
  pa : ∀ q n, (q, n) ∈ m → ∃ k : Nat, n = k ∧ Path B p q k
  st : p ∈ m.map (·.1)
  hr : here ∈ m.map (·.1)
  rk : ∀ q ∈ rs, q ∈ m.map (·.1)
  cl : ∀ q ∈ m.map (·.1), q ∉ rs → q = here ∨ ∀ d, can B q d = true → mv q d ∈ m.map (·.1)
  dn : ∀ d ∈ dn, mv here d ∈ m.map (·.1)
  ln : m.length + l0 = rs.length + B0
  lg : l0 ≤ rs.length ∧ l0 ≤ B0
theorem QMid.add {B : Bk} {p here : Pr} {dn : List Dd} {l0 B0 : Nat} {s : Mp × List Pr} (M : QMid B p here dn l0 B0 s.1 s.2) {d : Dd} (hd : can B here d = true) : QMid B p here (dn ++ [d]) l0 B0 (addR s here (mv here d)).1 (addR s here (mv here d)).2 := by
  obtain ⟨m, rs⟩ := s
  unfold addR
  simp only at M ⊢
  by_cases hin : mv here d ∈ m.map (·.1)
  · rw [if_pos hin]
    exact ⟨M.nd, M.pa, M.st, M.hr, M.rk, M.cl, fun e he => (List.mem_append.mp he).elim (M.dn e) fun z => by rw [List.mem_singleton.mp z]; exact hin, M.ln, M.lg⟩
  · rw [if_neg hin, aput_new hin]
    have em : (m ++ [(mv here d, (alook m here).getD 0 + 1)]).map (·.1) = m.map (·.1) ++ [mv here d] := by simp
    obtain ⟨v, hv⟩ := alook_some M.hr
    refine ⟨?_, ?_, by rw [em]; exact List.mem_append_left _ M.st, by rw [em]; exact List.mem_append_left _ M.hr, ?_, ?_, ?_, ?_, by have := M.lg; simp only [List.length_append]; omega⟩
    · rw [em, List.nodup_append]
      refine ⟨M.nd, by simp, ?_⟩
      intro a ha b hb e
      rw [List.mem_singleton.mp hb] at e
      exact hin (e ▸ ha)
    · intro q n hq
      rcases List.mem_append.mp hq with z | z
      · exact M.pa q n z
      · obtain ⟨rfl, rfl⟩ := Prod.mk.inj (List.mem_singleton.mp z)
        obtain ⟨k, e1, e2⟩ := M.pa _ _ (mem_alook hv)
        rw [hv]
        exact ⟨k + 1, by subst e1; rfl, .snoc e2 hd⟩
    · intro q hq
      rw [em]
      rcases List.mem_append.mp hq with z | z
      · exact List.mem_append_left _ (M.rk q z)
      · exact List.mem_append_right _ z
    · intro q hq hn
      rw [em] at hq ⊢
      rcases List.mem_append.mp hq with z | z
      · rcases M.cl q z (fun h => hn (List.mem_append_left _ h)) with h | h
        · exact .inl h
        · exact .inr fun e he => List.mem_append_left _ (h e he)
      · exact absurd (List.mem_append_right _ z) hn
    · intro e he
      rw [em]
      rcases List.mem_append.mp he with z | z
      · exact List.mem_append_left _ (M.dn e z)
      · rw [List.mem_singleton.mp z]; exact List.mem_append_right _ (List.mem_singleton.mpr rfl)
    · have := M.ln; simp only [List.length_append, List.length_cons, List.length_nil]; omega
theorem QMid.fold {B : Bk} {p here : Pr} {l0 B0 : Nat} : ∀ (l : List Dd) (dn : List Dd) (s : Mp × List Pr), (∀ d ∈ l, can B here d = true) → QMid B p here dn l0 B0 s.1 s.2 → QMid B p here (dn ++ l) l0 B0 (l.foldl (fun s d => addR s here (mv here d)) s).1 (l.foldl (fun s d => addR s here (mv here d)) s).2
  | [], dn, s, _, M => by rw [List.append_nil]; exact M
  | d :: l, dn, s, hc, M => by
    have := QMid.fold l (dn ++ [d]) _ (fun e he => hc e (List.mem_cons_of_mem _ he)) (M.add (hc d (List.mem_cons_self ..)))
    rw [List.append_assoc] at this; exact this
theorem QInv.mid {B : Bk} {p here : Pr} {m : Mp} {rs : List Pr} (I : QInv B p m (here :: rs)) : QMid B p here [] rs.length m.length m rs := ⟨I.nd, I.pa, I.st, I.rk _ (List.mem_cons_self ..), fun q h => I.rk q (List.mem_cons_of_mem _ h), fun q hq hn => by
  by_cases e : q = here
  · exact .inl e
  · exact .inr (I.cl q hq fun h => (List.mem_cons.mp h).elim e hn), fun _ h => (by cases h), by omega, by have := I.ln; simp only [List.length_cons] at this; omega⟩
theorem QMid.next {B : Bk} {p here : Pr} {l0 B0 : Nat} {m : Mp} {rs : List Pr} (M : QMid B p here (deedsT B here) l0 B0 m rs) : QInv B p m rs := ⟨M.nd, M.pa, M.st, M.rk, fun q hq hn d hd => by
  rcases M.cl q hq hn with rfl | h
  · exact M.dn d (mem_deedsT.mpr hd)
  · exact h d hd, by have := M.ln; have := M.lg; omega⟩
theorem QInv.fin {B : Bk} {p : Pr} {m : Mp} (I : QInv B p m []) : FromW B p m := ⟨I.nd, I.pa, fun q k h => by
  induction h with
  | nil => exact I.st
  | snoc _ hd ih => exact I.cl _ ih (by simp) _ hd⟩
theorem QInv.start {B : Bk} {p : Pr} : QInv B p [(p, 0)] [p] := ⟨by simp, fun q n h => by
  obtain ⟨rfl, rfl⟩ := Prod.mk.inj (List.mem_singleton.mp h)
  exact ⟨0, rfl, .nil⟩, by simp, fun q h => by simpa using h, fun q hq hn => absurd (by simpa using hq) hn, by simp⟩
def QW (B : Bk) (p : Pr) (μ : Nat) (δ : Enm) (ρ : Rw) : Prop := ρ = (0, 0, 0) ∧ ∃ m rs e4 e5 e6, δ = [.fz (bkD B), .fz (.tuple [.int p.1, .int p.2]), .ow (dc (encM .int m)), .ow (encL rs), e4, e5, e6] ∧ QInv B p m rs ∧ μ = 2 * (26 - m.length) + rs.length
def S_law_from : SpT := fun ds W => ∃ (B : Bk) (p : Pr), ds = [bkD B, enc p] ∧ box B.r p ∧ B.r ≤ 4 ∧ ∀ m, FromW B p m → W (dc (encM .int m))
theorem ln_law_from {ds : List PyData} {W : PyData → Prop} (h : S_law_from ds W) : ds.length = 2 := by obtain ⟨_, _, e, _⟩ := h; rw [e]; rfl
theorem u_law_from {B : Bk} {a b : Int} (hb : box B.r (a, b)) (hr : B.r ≤ 4) {W : PyData → Prop} (h : ∀ m, FromW B (a, b) m → W (dc (encM .int m))) : S_law_from [bkD B, .tuple [.int a, .int b]] W := ⟨B, (a, b), rfl, hb, hr, h⟩
theorem df_law_from (G_law_two : Df P w K mg base "_law_two" 2 S_law_two) (Fn_law_from : Fn K mg "_law_from" "_law_from" 65) : Df P w K mg base "_law_from" 3 S_law_from := by
  refine mkfn Fn_law_from sc_law_from (fun kV doc pm an cdv ct us h => by rcases us with _ | ⟨x0, _ | ⟨x1, _ | ⟨x2, r2⟩⟩⟩ <;> first | rfl | (simp at h)) (by intro ds W h; exact ln_law_from h) fun f cdv A outer s H F E hr => ⟨_, (jbcons (jpar2 (is_ := [2, 3]) sc_law_from.nd (jmow (jdone ⟨rfl, rfl⟩ hr.u_d (jz 1) ji) (jmow (jlst (jcons (jz 1) jnil)) jmnil)))
    (jbcons (jwhile PassesOwn.never (jcmpT (o_ne hr.units) (ja 3) (jc_f (jlst jnil))) (jbcons (jset (i := 4) sc_law_from.nd (jix (ja 3) (jc ji)))
    (jbcons (jown (i := 3) sc_law_from.nd (jslL (ja 3) (jso (jc ji)) jno))
    (jbone (jfor (pr := false) PassesOwn.never rfl (jiL (jcall G_law_two ⟨rfl, rfl⟩ hr (jcons (jz 0) (jcons (jz 4) jnil)))) (jgtp rfl (jgcons (jgn (i := 5) sc_law_from.nd) (jgcons (jgn (i := 6) sc_law_from.nd) jgnil))) (jbone (jifs (jninDT ⟨rfl, rfl⟩ hr.u_d (jz 6) (ja 2)) (jbcons (jas (pr := false) (jadd (jc (jdix ⟨rfl, rfl⟩ hr.u_d (ja 2) (jz 4))) (jc ji)) (jgsubD ⟨rfl, rfl⟩ hr.u_d 2 (pv 2) (jz 6)))
    (jbone (japp 3 (pv 3) (jz 6)))) jbnil)))))))
    (jbone (jfz 2 (jret (jz 2)))))), ?_⟩
  intro ds W h
  obtain ⟨B, p, rfl, hb, hr, h⟩ := h
  walk_at "rd"
  refine ⟨QW B p, ⟨_, rfl, [(p, 0)], [p], _, _, _, rfl, QInv.start, rfl⟩, ?_⟩
  rintro μ δ ρ ⟨rfl, m, rs, e4, e5, e6, rfl, I, hμ⟩
  rcases rs with _ | ⟨here, rs⟩
  · walk_at "rd"
    exact h m I.fin
  walk_at "rd"
  have c0 : cutD (PyData.tuple [PyData.int here.fst, PyData.int here.snd] :: List.map enc rs) (some 1) none = rs.map enc := cut_drop _ 1
  have c1 : ditem (encL (here :: rs)) (PyData.int 0) = some (enc here) := il1_0 _ _
  simp only [c0, c1, Option.some.injEq, exists_eq_left', enc_p, enc_i, u_law_two]
  walk_at "rd"
  have ct : (two B here).map enc = (deedsT B here).map (fun d => (enc (d, mv here d) : PyData)) := List.map_map
  rw [ct]
  have hlen : ∀ {dn l0 B0 m rs}, QMid B p here dn l0 B0 m rs → m.length ≤ 25 := fun {dn l0 B0 m rs} L => keys_len hb hr L.nd fun q n hq => let ⟨k, _, hp⟩ := L.pa q n hq; ⟨k, hp⟩
  refine loop_fold (en := fun d => (enc (d, mv here d) : PyData)) (deedsT B here) (fun (s : Mp × List Pr) (e : Slo × Slo) => [.fz (bkD B), .fz (.tuple [.int p.1, .int p.2]), .ow (dc (encM .int s.1)), .ow (encL s.2), .fz (.tuple [.int here.1, .int here.2]), e.1, e.2]) (fun s d => addR s here (mv here d)) (m, rs) (e5, e6) rfl ?_ ?_
  · intro pre d post hl e
    have L2 := QMid.fold pre [] (m, rs) (fun d hd => mem_deedsT.mp (by rw [hl]; exact List.mem_append_left _ hd)) I.mid
    have hd : can B here d = true := mem_deedsT.mp (by rw [hl]; exact List.mem_append_right _ (List.mem_cons_self ..))
    have L3 := L2.add hd
    generalize pre.foldl (fun s d => addR s here (mv here d)) (m, rs) = s1 at L2 L3
    obtain ⟨m2, more2⟩ := s1
    have hl2 := hlen L2
    have hm2 := L2.ln
    have hg2 := L2.lg
    have h0 := hlen I.mid
    have hrl : rs.length ≤ 25 ∨ True := .inr trivial
    obtain ⟨v, hv⟩ := alook_some L2.hr
    obtain ⟨n, rfl, _⟩ := L2.pa _ _ (mem_alook hv)
    have hlk2 : alook m2 (here.1, here.2) = some (n : Int) := hv
    walk_at "rd"
    simp only [hlk2, Option.some.injEq, exists_eq_left', iadd_i, put_p]
    have ek : ((mv here d).1, (mv here d).2) = mv here d := rfl
    rw [ek]
    unfold addR
    by_cases hin : mv here d ∈ m2.map (·.1)
    · rw [if_pos hin]
      obtain ⟨⟨_, x⟩, hx, rfl⟩ := List.mem_map.mp hin
      exact .inl ⟨⟨x, hx⟩, rfl, rfl⟩
    · rw [if_neg hin]
      simp only at hl2 hm2 hg2 hv
      refine .inr ⟨fun x hx => hin (List.mem_map.mpr ⟨_, hx, rfl⟩), by omega, by omega, ?_⟩
      rw [hv]
      exact ⟨rfl, by rw [List.map_append]; rfl⟩
  · intro e
    have L2 := QMid.fold (deedsT B here) [] (m, rs) (fun d hd => mem_deedsT.mp hd) I.mid
    generalize (deedsT B here).foldl (fun s d => addR s here (mv here d)) (m, rs) = s1 at L2
    obtain ⟨m2, more2⟩ := s1
    have hl2 := hlen L2
    have hm2 := L2.ln
    have hg2 := L2.lg
    refine ⟨2 * (26 - m2.length) + more2.length, ?_, rfl, m2, more2, _, _, _, rfl, L2.next, rfl⟩
    simp only [List.length_cons] at hμ hm2 hl2 hg2
    omega

end
end HB

set_option Elab.async false
set_option linter.all false
set_option autoImplicit false
namespace HB
open PySem PySem.Spec L2
open En (enc)
/-! ### the order of typed data is total -/
section
variable {α : Type} [En α]
abbrev tk (a : α) : List (Int ⊕ List Nat) := PySem.W.keyToks (enc a)
theorem leE_tk (a b : α) : leE a b = !PyProof.Rows.lexLt PyProof.Rows.itemOrd (tk b) (tk a) := rfl
theorem leE_total (a b : α) : leE a b = true ∨ leE b a = true := by
  rw [leE_tk, leE_tk]
  cases h1 : PyProof.Rows.lexLt PyProof.Rows.itemOrd (tk b) (tk a) with
  | false => exact .inl rfl
  | true =>
    cases h2 : PyProof.Rows.lexLt PyProof.Rows.itemOrd (tk a) (tk b) with
    | false => exact .inr rfl
    | true =>
      have := PyProof.Rows.lex_trans _ _ _ h1 h2
      rw [PyProof.Rows.lex_irrefl] at this
      cases this
theorem leE_trans {a b c : α} (h1 : leE a b = true) (h2 : leE b c = true) : leE a c = true := by
  rw [leE_tk, Bool.not_eq_true'] at *
  cases h : PyProof.Rows.lexLt PyProof.Rows.itemOrd (tk c) (tk a) with
  | false => rfl
  | true =>
    rcases PyProof.Rows.lex_negTrans _ (tk b) _ h with z | z
    · rw [h2] at z; cases z
    · rw [h1] at z; cases z
theorem tk_inj {a b : α} (h : tk a = tk b) : a = b := by
  cases e : PyData.eqv (enc a) (enc b) with
  | true => exact (En.ev a b).mp e
  | false =>
    have h2 := (PySem.W.toks_eqv (enc a) (enc b) (En.al a b)).2 e [] [.inl 0]
    have h : PySem.W.keyToks (enc a) = PySem.W.keyToks (enc b) := h
    rw [h, PySem.W.lex_pre, PyProof.Rows.lex_irrefl] at h2
    cases h2
theorem leE_anti {a b : α} (h1 : leE a b = true) (h2 : leE b a = true) : a = b := by
  rw [leE_tk, Bool.not_eq_true'] at *
  exact tk_inj (PyProof.Rows.lex_total (O := PyProof.Rows.itemOrd) _ _ h2 h1)
theorem sorted_same {l l' : List α} (h : l.Pairwise fun a b => leE a b = true) (h' : l'.Pairwise fun a b => leE a b = true) (n : l.Nodup) (n' : l'.Nodup) (m : ∀ k, k ∈ l ↔ k ∈ l') : l = l' := by
  induction l generalizing l' with
  | nil =>
    cases l' with
    | nil => rfl
    | cons a l' => exact absurd ((m a).mpr (List.mem_cons_self ..)) (by simp)
  | cons a l ih =>
    cases l' with
    | nil => exact absurd ((m a).mp (List.mem_cons_self ..)) (by simp)
    | cons b l' =>
      rw [List.pairwise_cons] at h h'
      rw [List.nodup_cons] at n n'
      have e : a = b := by
        have h1 := (m a).mp (List.mem_cons_self ..)
        have h2 := (m b).mpr (List.mem_cons_self ..)
        rcases List.mem_cons.mp h1 with e | h1
        · exact e
        · rcases List.mem_cons.mp h2 with e | h2
          · exact e.symm
          · exact leE_anti (h.1 b h2) (h'.1 a h1)
      subst e
      rw [ih h.2 h'.2 n.2 n'.2 fun k => ?_]
      constructor
      · intro hk
        rcases List.mem_cons.mp ((m k).mp (List.mem_cons_of_mem _ hk)) with e | z
        · subst e; exact absurd hk n.1
        · exact z
      · intro hk
        rcases List.mem_cons.mp ((m k).mpr (List.mem_cons_of_mem _ hk)) with e | z
        · subst e; exact absurd hk n'.1
        · exact z
theorem sortE_sorted (l : List α) : (sortE l).Pairwise fun a b => leE a b = true := by
  unfold sortE
  exact List.pairwise_mergeSort (le := leE) (fun (a b c : α) h1 h2 => leE_trans h1 h2) (fun (a b : α) => by
    rw [Bool.or_eq_true]; exact leE_total a b) l
theorem sortE_nodup {l : List α} (n : l.Nodup) : (sortE l).Nodup := by unfold sortE; exact (List.mergeSort_perm _ _).nodup_iff.mpr n
theorem sortE_congr {l l' : List α} (n : l.Nodup) (n' : l'.Nodup) (m : ∀ k, k ∈ l ↔ k ∈ l') : sortE l = sortE l' :=
  sorted_same (sortE_sorted l) (sortE_sorted l') (sortE_nodup n) (sortE_nodup n') fun k => by rw [mem_sortE, mem_sortE]; exact m k
end
/-! ### sums over dicts -/
def wsum {κ : Type} (m : List (κ × Int)) (f : κ → Int) : Int := (m.map fun p => p.2 * f p.1).sum
theorem wsum_app {κ : Type} (m m' : List (κ × Int)) (f : κ → Int) : wsum (m ++ m') f = wsum m f + wsum m' f := by
  unfold wsum; rw [List.map_append, List.sum_append]
theorem wsum_cons {κ : Type} (p : κ × Int) (m : List (κ × Int)) (f : κ → Int) : wsum (p :: m) f = p.2 * f p.1 + wsum m f := by
  unfold wsum; rw [List.map_cons, List.sum_cons]
theorem wsum_ext {κ : Type} {f g : κ → Int} : ∀ {m : List (κ × Int)}, (∀ p ∈ m, f p.1 = g p.1) → wsum m f = wsum m g
  | [], _ => rfl
  | p :: m, h => by rw [wsum_cons, wsum_cons, h p (List.mem_cons_self ..), wsum_ext fun q hq => h q (List.mem_cons_of_mem _ hq)]
theorem wsum_one {κ : Type} (m : List (κ × Int)) : wsum m (fun _ => 1) = (m.map (·.2)).sum := by
  unfold wsum; congr 1; apply List.map_congr_left; intro p _; exact Int.mul_one _
theorem aput_nodup {κ β : Type} [DecidableEq κ] {m : List (κ × β)} (n : (m.map (·.1)).Nodup) (k : κ) (v : β) : ((aput m k v).map (·.1)).Nodup := by
  by_cases h : k ∈ m.map (·.1)
  · rw [aput_keys_same h]; exact n
  · rw [aput_new h, List.map_append, List.nodup_append]
    refine ⟨n, by simp, ?_⟩
    intro a ha b hb e
    rw [List.mem_singleton.mp hb] at e
    rw [e] at ha
    exact h ha
theorem wsum_set {κ : Type} [DecidableEq κ] (k : κ) (v : Int) (f : κ → Int) : ∀ (m : List (κ × Int)), (m.map (·.1)).Nodup → k ∈ m.map (·.1) → wsum (m.map fun p => if p.1 = k then (p.1, v) else p) f = wsum m f + (v - (alook m k).getD 0) * f k
  | [], _, h => by simp at h
  | p :: m, n, h => by
    rw [List.map_cons, wsum_cons, wsum_cons, alook_cons]
    rw [List.map_cons, List.nodup_cons] at n
    by_cases e : p.1 = k
    · subst e
      have hno : (m.map fun q => if q.1 = p.1 then (q.1, v) else q) = m := by
        conv => rhs; rw [← List.map_id m]
        apply List.map_congr_left
        intro q hq
        rw [if_neg]; · rfl
        intro z; exact n.1 (z ▸ List.mem_map_of_mem hq)
      rw [hno, if_pos rfl, if_pos rfl]
      simp only [Option.getD_some, Int.sub_mul]; omega
    · rw [if_neg e, if_neg e]
      rw [List.map_cons, List.mem_cons] at h
      rw [wsum_set k v f m n.2 (h.resolve_left fun z => e z.symm)]; omega
theorem wsum_aput {κ : Type} [DecidableEq κ] {m : List (κ × Int)} (n : (m.map (·.1)).Nodup) (k : κ) (d : Int) (f : κ → Int) : wsum (aput m k ((alook m k).getD 0 + d)) f = wsum m f + d * f k := by
  by_cases h : k ∈ m.map (·.1)
  · unfold aput
    rw [any_keys, decide_eq_true h, if_pos rfl, wsum_set k _ f m n h]
    congr 2; omega
  · rw [aput_new h, alook_none h, wsum_app, wsum_cons]
    show _ + ((0 + d) * f k + wsum [] f) = _
    rw [Int.zero_add]; simp [wsum]
/-! ### the program's count -/
theorem cput_aput (m : List (Int × Int)) (k v : Int) : cput m k v = aput m k v := rfl
theorem cget_alook (m : List (Int × Int)) (k : Int) : cget m k = alook m k := rfl
theorem cadd_wsum {m : List (Int × Int)} (n : (m.map (·.1)).Nodup) (k d : Int) (f : Int → Int) : wsum (cadd m k d) f = wsum m f + d * f k := wsum_aput n k d f
theorem cadd_nd {m : List (Int × Int)} (n : (m.map (·.1)).Nodup) (k d : Int) : ((cadd m k d).map (·.1)).Nodup := aput_nodup n k _
def CC : List (Int × Int) → Int → Int
  | [], _ => 1
  | b :: bs, j => ((rgI (max j b.1) (b.2 + 1)).map (CC bs)).sum
theorem cfold_wsum (f : Int → Int) (d : Int) (g : Nat → Int) : ∀ (l : List Nat) (m : List (Int × Int)), (m.map (·.1)).Nodup → ((l.foldl (fun m i => cadd m (g i) d) m).map (·.1)).Nodup ∧ wsum (l.foldl (fun m i => cadd m (g i) d) m) f = wsum m f + d * ((l.map g).map f).sum
  | [], m, n => by simp [n]
  | i :: l, m, n => by
    obtain ⟨h1, h2⟩ := cfold_wsum f d g l (cadd m (g i) d) (cadd_nd n _ _)
    refine ⟨h1, ?_⟩
    rw [List.foldl_cons, h2, cadd_wsum n, List.map_cons, List.map_cons, List.sum_cons, Int.mul_add]; omega
theorem crow_wsum {m : List (Int × Int)} (n : (m.map (·.1)).Nodup) (l u : Int) (p : Int × Int) (f : Int → Int) : ((crow l u m p).map (·.1)).Nodup ∧ wsum (crow l u m p) f = wsum m f + p.2 * ((rgI (max p.1 l) (u + 1)).map f).sum := cfold_wsum f p.2 (fun i => max p.1 l + (i : Nat)) _ m n
theorem cstep_wsum (l u : Int) (f : Int → Int) : ∀ (x m : List (Int × Int)), (m.map (·.1)).Nodup → ((x.foldl (crow l u) m).map (·.1)).Nodup ∧ wsum (x.foldl (crow l u) m) f = wsum m f + wsum x fun j => ((rgI (max j l) (u + 1)).map f).sum
  | [], m, n => by simp [n, wsum]
  | p :: x, m, n => by
    obtain ⟨h1, h2⟩ := crow_wsum n l u p f
    obtain ⟨h3, h4⟩ := cstep_wsum l u f x _ h1
    refine ⟨h3, ?_⟩
    rw [List.foldl_cons, h4, h2, wsum_cons]; omega
theorem cnt_wsum : ∀ (lims m : List (Int × Int)), (m.map (·.1)).Nodup → wsum (lims.foldl cstep m) (fun _ => 1) = wsum m (CC lims)
  | [], m, _ => rfl
  | b :: bs, m, n => by
    obtain ⟨h1, h2⟩ := cstep_wsum b.1 b.2 (CC bs) m [] (by simp)
    show wsum (bs.foldl cstep (m.foldl (crow b.1 b.2) [])) _ = _
    rw [cnt_wsum bs _ h1, h2]
    show 0 + _ = _
    rw [Int.zero_add]; rfl
theorem cnt_CC (lims : List (Int × Int)) : cnt lims = CC lims 0 := by
  have := cnt_wsum lims [(0, 1)] (by simp)
  unfold cnt
  rw [← wsum_one, this]
  simp [wsum]
/-! ### the law's count -/
section
variable (okz oko : Pr → Bool)
def loPut (rows more : List (Pr × Int)) (p q : Pr) : List (Pr × Int) := aput more q ((alook more q).getD 0 + (alook rows p).getD 0)
def loStep (rows more : List (Pr × Int)) (p : Pr) : List (Pr × Int) :=
  let m1 := if okz p = true then loPut rows more p (p.1 + 1, p.2) else more
  if oko p = true then loPut rows m1 p (p.1, p.2 + 1) else m1
def loTurn (rows : List (Pr × Int)) : List (Pr × Int) := (rows.map (·.1)).foldl (loStep okz oko rows) []
def NN : Nat → Pr → Int
  | 0, _ => 1
  | t + 1, p => (if okz p = true then NN t (p.1 + 1, p.2) else 0) + (if oko p = true then NN t (p.1, p.2 + 1) else 0)
def kw : Nat → Pr → List (List Pc)
  | 0, _ => [[]]
  | t + 1, p => (if okz p = true then (kw t (p.1 + 1, p.2)).map (Pc.z :: ·) else []) ++ (if oko p = true then (kw t (p.1, p.2 + 1)).map (Pc.o :: ·) else [])
theorem kw_len : ∀ t p, ((kw okz oko t p).length : Int) = NN okz oko t p
  | 0, _ => rfl
  | t + 1, p => by
    unfold kw NN
    rw [List.length_append]
    have h1 := kw_len t (p.1 + 1, p.2)
    have h2 := kw_len t (p.1, p.2 + 1)
    split <;> split <;> simp_all
theorem loStep_wsum (f : Pr → Int) {rows more : List (Pr × Int)} (n : (more.map (·.1)).Nodup) (p : Pr) : ((loStep okz oko rows more p).map (·.1)).Nodup ∧ wsum (loStep okz oko rows more p) f = wsum more f + (alook rows p).getD 0 * ((if okz p = true then f (p.1 + 1, p.2) else 0) + (if oko p = true then f (p.1, p.2 + 1) else 0)) := by
  unfold loStep
  by_cases h1 : okz p = true
  · by_cases h2 : oko p = true
    · simp only [if_pos h1, if_pos h2]
      unfold loPut
      have n1 := aput_nodup n (p.1 + 1, p.2) ((alook more (p.1 + 1, p.2)).getD 0 + (alook rows p).getD 0)
      exact ⟨aput_nodup n1 _ _, by rw [wsum_aput n1, wsum_aput n, Int.mul_add]; omega⟩
    · simp only [if_pos h1, if_neg h2]
      unfold loPut
      exact ⟨aput_nodup n _ _, by rw [wsum_aput n, Int.add_zero]⟩
  · by_cases h2 : oko p = true
    · simp only [if_neg h1, if_pos h2]
      unfold loPut
      exact ⟨aput_nodup n _ _, by rw [wsum_aput n, Int.zero_add]⟩
    · simp only [if_neg h1, if_neg h2]
      exact ⟨n, by rw [Int.add_zero, Int.mul_zero, Int.add_zero]⟩
theorem loFold_wsum (f : Pr → Int) {rows : List (Pr × Int)} (nr : (rows.map (·.1)).Nodup) : ∀ (x : List (Pr × Int)), (∀ p ∈ x, p ∈ rows) → ∀ (more : List (Pr × Int)), (more.map (·.1)).Nodup → (((x.map (·.1)).foldl (loStep okz oko rows) more).map (·.1)).Nodup ∧ wsum ((x.map (·.1)).foldl (loStep okz oko rows) more) f = wsum more f + wsum x fun p => (if okz p = true then f (p.1 + 1, p.2) else 0) + (if oko p = true then f (p.1, p.2 + 1) else 0)
  | [], _, more, n => by simp [n, wsum]
  | p :: x, hx, more, n => by
    obtain ⟨h1, h2⟩ := loStep_wsum okz oko f (rows := rows) n p.1
    obtain ⟨h3, h4⟩ := loFold_wsum f nr x (fun q hq => hx q (List.mem_cons_of_mem _ hq)) _ h1
    refine ⟨h3, ?_⟩
    rw [List.map_cons, List.foldl_cons, h4, h2, wsum_cons, alook_mem nr (show (p.1, p.2) ∈ rows from hx p (List.mem_cons_self ..))]
    simp only [Option.getD_some]; omega
theorem loTurn_wsum (f : Pr → Int) {rows : List (Pr × Int)} (nr : (rows.map (·.1)).Nodup) : ((loTurn okz oko rows).map (·.1)).Nodup ∧ wsum (loTurn okz oko rows) f = wsum rows fun p => (if okz p = true then f (p.1 + 1, p.2) else 0) + (if oko p = true then f (p.1, p.2 + 1) else 0) := by
  obtain ⟨h1, h2⟩ := loFold_wsum okz oko f nr rows (fun p hp => hp) [] (by simp)
  refine ⟨h1, ?_⟩
  unfold loTurn
  rw [h2]; simp [wsum]
def loAll (l : List Int) : List (Pr × Int) := l.foldl (fun r _ => loTurn okz oko r) [((0, 0), 1)]
theorem loAll_wsum : ∀ (l : List Int) (rows : List (Pr × Int)), (rows.map (·.1)).Nodup → ((l.foldl (fun r _ => loTurn okz oko r) rows).map (·.1)).Nodup ∧ wsum (l.foldl (fun r _ => loTurn okz oko r) rows) (fun _ => 1) = wsum rows (NN okz oko l.length)
  | [], rows, n => ⟨n, rfl⟩
  | a :: l, rows, n => by
    obtain ⟨h1, h2⟩ := loTurn_wsum okz oko (NN okz oko l.length) n
    obtain ⟨h3, h4⟩ := loAll_wsum l _ h1
    refine ⟨h3, ?_⟩
    rw [List.foldl_cons, h4, h2]; rfl
theorem loAll_sum (l : List Int) : ((loAll okz oko l).map (·.2)).sum = NN okz oko l.length (0, 0) := by
  rw [← wsum_one]
  unfold loAll
  rw [(loAll_wsum okz oko l [((0, 0), 1)] (by simp)).2]
  simp [wsum]
end
/-! ### the two counts agree -/
theorem sum_zero : ∀ {l : List Int}, (∀ x ∈ l, x = 0) → l.sum = 0
  | [], _ => rfl
  | a :: l, h => by rw [List.sum_cons, h a (List.mem_cons_self ..), sum_zero fun x hx => h x (List.mem_cons_of_mem _ hx)]; rfl
theorem CC_none : ∀ (L : List (Int × Int)) (j : Int), (∃ b ∈ L, b.2 < j) → CC L j = 0
  | [], _, h => by obtain ⟨b, h, _⟩ := h; cases h
  | b :: bs, j, h => by
    unfold CC
    obtain ⟨c, hc, hlt⟩ := h
    rcases List.mem_cons.mp hc with e | hc
    · subst e
      have : rgI (max j c.1) (c.2 + 1) = [] := by
        apply List.eq_nil_of_length_eq_zero
        rw [len_rgI]; omega
      rw [this]; rfl
    · have : ∀ x ∈ (rgI (max j b.1) (b.2 + 1)).map (CC bs), x = 0 := fun x hx => by
        obtain ⟨y, hy, rfl⟩ := List.mem_map.mp hx
        have := (mem_rgI.mp hy).1
        exact CC_none bs y ⟨c, hc, by omega⟩
      exact sum_zero this
theorem rgI_cons {a b : Int} (h : a < b) : rgI a b = a :: rgI (a + 1) b := by
  unfold rgI
  have e : (b - a).toNat = (b - (a + 1)).toNat + 1 := by omega
  rw [e, List.range_succ_eq_map, List.map_cons, List.map_map]
  congr 1
  · simp
  · apply List.map_congr_left
    intro i _
    show a + ((i + 1 : Nat) : Int) = a + 1 + (i : Int)
    omega
theorem rgI_nil {a b : Int} (h : b ≤ a) : rgI a b = [] := by
  apply List.eq_nil_of_length_eq_zero
  rw [len_rgI]; omega
theorem CC_cons (b : Int × Int) (bs : List (Int × Int)) (j : Int) : CC (b :: bs) j = ((rgI (max j b.1) (b.2 + 1)).map (CC bs)).sum := rfl
theorem CC_step (b : Int × Int) (bs : List (Int × Int)) (j : Int) : CC (b :: bs) j = (if b.1 ≤ j ∧ j ≤ b.2 then CC bs j else 0) + CC (b :: bs) (j + 1) := by
  rw [CC_cons, CC_cons]
  by_cases h1 : b.1 ≤ j
  · by_cases h2 : j ≤ b.2
    · rw [if_pos ⟨h1, h2⟩, show max j b.1 = j by omega, show max (j + 1) b.1 = j + 1 by omega, rgI_cons (show j < b.2 + 1 by omega), List.map_cons, List.sum_cons]
    · rw [if_neg fun z => h2 z.2, rgI_nil (show b.2 + 1 ≤ max j b.1 by omega), rgI_nil (show b.2 + 1 ≤ max (j + 1) b.1 by omega)]; simp
  · rw [if_neg fun z => h1 z.1, show max j b.1 = max (j + 1) b.1 by omega, Int.zero_add]
end HB

set_option Elab.async false
set_option linter.all false
set_option autoImplicit false
namespace HB
open PySem PySem.Spec L2
open En (enc)
theorem NN_CC {okz oko : Pr → Bool} {L : List (Int × Int)} {m : Nat} (hz : ∀ i j : Nat, okz ((i : Int), (j : Int)) = true ↔ ∃ b, L[i]? = some b ∧ b.1 ≤ j) (ho : ∀ i j : Nat, oko ((i : Int), (j : Int)) = true ↔ j < m ∧ ∀ b ∈ L.drop i, (j : Int) < b.2) (hb : ∀ b ∈ L, b.2 ≤ m) : ∀ (t i j : Nat), i ≤ L.length → j ≤ m → t = (L.length - i) + (m - j) → (∀ b ∈ L.drop i, (j : Int) ≤ b.2) → NN okz oko t ((i : Int), (j : Int)) = CC (L.drop i) j := by
  intro t
  induction t with
  | zero =>
    intro i j hi hj ht hv
    have : i = L.length := by omega
    subst this
    rw [List.drop_length]; rfl
  | succ t ih =>
    intro i j hi hj ht hv
    unfold NN
    have ei : ((i : Int) + 1) = ((i + 1 : Nat) : Int) := by omega
    have ej : ((j : Int) + 1) = ((j + 1 : Nat) : Int) := by omega
    simp only [ei, ej]
    by_cases hin : i = L.length
    · subst hin
      have h1 : ¬ okz ((L.length : Int), (j : Int)) = true := fun z => by
        obtain ⟨b, hb, _⟩ := (hz _ _).mp z
        rw [List.getElem?_eq_none (Nat.le_refl _)] at hb; cases hb
      have h2 : oko ((L.length : Int), (j : Int)) = true := (ho _ _).mpr ⟨by omega, by rw [List.drop_length]; simp⟩
      rw [if_neg h1, if_pos h2, Int.zero_add, ih L.length (j + 1) (Nat.le_refl _) (by omega) (by omega) (by rw [List.drop_length]; simp), List.drop_length]; rfl
    · have hlt : i < L.length := by omega
      have hd : L.drop i = L[i] :: L.drop (i + 1) := List.drop_eq_getElem_cons hlt
      rw [hd, CC_step, ← hd]
      have hvi := hv L[i] (by rw [hd]; exact List.mem_cons_self ..)
      congr 1
      · by_cases hc : L[i].1 ≤ (j : Int)
        · rw [if_pos ((hz i j).mpr ⟨_, List.getElem?_eq_getElem hlt, hc⟩), if_pos ⟨hc, hvi⟩]
          exact ih (i + 1) j (by omega) hj (by omega) fun b hb => hv b (by rw [hd]; exact List.mem_cons_of_mem _ hb)
        · rw [if_neg fun z => by
            obtain ⟨b, h1, h2⟩ := (hz i j).mp z
            rw [List.getElem?_eq_getElem hlt] at h1; cases h1; exact hc h2, if_neg fun z => hc z.1]
      · rw [ej]
        by_cases hc : oko ((i : Int), (j : Int)) = true
        · rw [if_pos hc]
          obtain ⟨c1, c2⟩ := (ho i j).mp hc
          exact ih i (j + 1) hi (by omega) (by omega) fun b hb => by have := c2 b hb; omega
        · rw [if_neg hc]
          symm
          apply CC_none
          by_cases hjm : j < m
          · have : ¬ ∀ b ∈ L.drop i, (j : Int) < b.2 := fun z => hc ((ho i j).mpr ⟨hjm, z⟩)
            simp only [Classical.not_forall] at this
            obtain ⟨b, hb, h3⟩ := this
            exact ⟨b, hb, by omega⟩
          · refine ⟨L[i], by rw [hd]; exact List.mem_cons_self .., ?_⟩
            have := hb L[i] (List.getElem_mem _)
            omega
/-! ### told pairs -/
def lo1 (B : Bk) (p q : Pr) (i : Int) : Int := lmin ((shuf B p q).map (azi i))
def hi1 (B : Bk) (p q : Pr) (i : Int) : Int := lmax ((shuf B p q).map (azi i))
theorem tdLims_at (B : Bk) (p q : Pr) (i : Nat) : (tdLims B p q)[i]? = if i < (wayI p.1 q.1).length then some (lo1 B p q i, hi1 B p q i) else none := by
  unfold tdLims bnds
  rw [List.getElem?_map]
  by_cases h : i < (wayI p.1 q.1).length
  · rw [if_pos h]
    have h2 : i < (rgI 0 ((wayI p.1 q.1).length : Int)).length := by rw [len_rgI]; omega
    have h3 := List.getElem?_eq_getElem h2
    have h4 := (rgI_at h3).1
    rw [h3, h4, Int.zero_add]; rfl
  · rw [if_neg h, List.getElem?_eq_none (by rw [len_rgI]; omega)]; rfl
theorem lo_hi {B : Bk} {p q : Pr} (hne : shuf B p q ≠ []) (i : Int) : (0 ≤ lo1 B p q i ∧ lo1 B p q i ≤ hi1 B p q i) ∧ hi1 B p q i ≤ (wayI p.2 q.2).length ∧ ∀ w ∈ shuf B p q, lo1 B p q i ≤ azi i w ∧ azi i w ≤ hi1 B p q i := by
  have hne2 : (shuf B p q).map (azi i) ≠ [] := fun z => hne (List.map_eq_nil_iff.mp z)
  obtain ⟨m1, m2⟩ := lmin_mem _ hne2
  obtain ⟨m3, m4⟩ := lmax_mem _ hne2
  have key : ∀ x ∈ (shuf B p q).map (azi i), 0 ≤ x ∧ x ≤ (wayI p.2 q.2).length := fun x hx => by
    obtain ⟨w, hw, rfl⟩ := List.mem_map.mp hx
    have h1 := azi_le w i
    have h2 := (shuf_len hw).2.1
    rw [len_wayI]; omega
  refine ⟨⟨(key _ m1).1, m4 _ m1⟩, (key _ m3).2, fun w hw => ⟨m2 _ (List.mem_map_of_mem hw), m4 _ (List.mem_map_of_mem hw)⟩⟩
theorem mem_tdFold {f s : List Int} {lims : List (Int × Int)} {x : Ev × Ev} : ∀ (l : List Nat) (b : List (Ev × Ev)), x ∈ l.foldl (tdStep f s lims) b ↔ x ∈ b ∨ ∃ i ∈ l, (∃ k : Int, (0 ≤ k ∧ k < ((lims[i]?).getD (0, 0)).1) ∧ x = ((Pc.o, getI s k), (Pc.z, getI f i))) ∨ ∃ k : Int, (((lims[i]?).getD (0, 0)).2 ≤ k ∧ k < s.length) ∧ x = ((Pc.z, getI f i), (Pc.o, getI s k))
  | [], b => by simp
  | i :: l, b => by
    rw [List.foldl_cons, mem_tdFold l, tdStep, List.mem_append, List.mem_append, List.mem_map, List.mem_map]
    constructor
    · rintro (((h | ⟨k, h1, h2⟩) | ⟨k, h1, h2⟩) | ⟨j, hj, h⟩)
      · exact .inl h
      · exact .inr ⟨i, List.mem_cons_self .., .inl ⟨k, mem_rgI.mp h1, h2.symm⟩⟩
      · exact .inr ⟨i, List.mem_cons_self .., .inr ⟨k, mem_rgI.mp h1, h2.symm⟩⟩
      · exact .inr ⟨j, List.mem_cons_of_mem _ hj, h⟩
    · rintro (h | ⟨j, hj, h⟩)
      · exact .inl (.inl (.inl h))
      · rcases List.mem_cons.mp hj with e | hj
        · subst e
          rcases h with ⟨k, h1, h2⟩ | ⟨k, h1, h2⟩
          · exact .inl (.inl (.inr ⟨k, mem_rgI.mpr h1, h2.symm⟩))
          · exact .inl (.inr ⟨k, mem_rgI.mpr h1, h2.symm⟩)
        · exact .inr ⟨j, hj, h⟩
/-- the pairs, by indices -/
theorem mem_told {B : Bk} {p q : Pr} {x : Ev × Ev} : x ∈ toldP B p q ↔ ∃ i : Nat, i < (wayI p.1 q.1).length ∧ ((∃ k : Int, (0 ≤ k ∧ k < lo1 B p q i) ∧ x = ((Pc.o, getI (wayI p.2 q.2) k), (Pc.z, getI (wayI p.1 q.1) i))) ∨ ∃ k : Int, (hi1 B p q i ≤ k ∧ k < (wayI p.2 q.2).length) ∧ x = ((Pc.z, getI (wayI p.1 q.1) i), (Pc.o, getI (wayI p.2 q.2) k))) := by
  unfold toldP
  rw [mem_sortE, tdRaw, mem_tdFold]
  have hl : (tdLims B p q).length = (wayI p.1 q.1).length := by rw [tdLims_len, len_wayI]
  simp only [List.not_mem_nil, false_or, List.mem_range]
  constructor
  · rintro ⟨i, hi, h⟩
    have hi2 : i < (wayI p.1 q.1).length := by omega
    refine ⟨i, hi2, ?_⟩
    rw [tdLims_at, if_pos hi2] at h
    exact h
  · rintro ⟨i, hi, h⟩
    refine ⟨i, by omega, ?_⟩
    rw [tdLims_at, if_pos hi]
    exact h
theorem getI_inj {l : List Int} (n : l.Nodup) {i j : Int} (hi : 0 ≤ i ∧ i < l.length) (hj : 0 ≤ j ∧ j < l.length) (h : getI l i = getI l j) : i = j := by
  unfold getI at h
  rw [List.getElem?_eq_getElem (by omega), List.getElem?_eq_getElem (by omega)] at h
  simp only [Option.getD_some] at h
  have n2 := List.pairwise_iff_getElem.mp n
  rcases Nat.lt_trichotomy i.toNat j.toNat with z | z | z
  · exact absurd h (n2 _ _ (by omega) (by omega) z)
  · omega
  · exact absurd h.symm (n2 _ _ (by omega) (by omega) z)
theorem told_oz {B : Bk} {p q : Pr} (hne : shuf B p q ≠ []) {i j : Nat} (hi : i < (wayI p.1 q.1).length) (hj : j < (wayI p.2 q.2).length) : ((Pc.o, getI (wayI p.2 q.2) j), (Pc.z, getI (wayI p.1 q.1) i)) ∈ toldP B p q ↔ (j : Int) < lo1 B p q i := by
  rw [mem_told]
  constructor
  · rintro ⟨i', hi', ⟨k, ⟨k0, k1⟩, e⟩ | ⟨k, _, e⟩⟩
    · simp only [Prod.mk.injEq, true_and] at e
      have := lo_hi hne i'
      have e1 := getI_inj (nodup_wayI _ _) ⟨by omega, by omega⟩ ⟨k0, by omega⟩ e.1
      have e2 := getI_inj (nodup_wayI _ _) (i := (i : Int)) (j := (i' : Int)) ⟨by omega, by omega⟩ ⟨by omega, by omega⟩ e.2
      have e3 : i = i' := by omega
      subst e3; omega
    · simp at e
  · intro h
    exact ⟨i, hi, .inl ⟨j, ⟨by omega, h⟩, rfl⟩⟩
theorem told_zo {B : Bk} {p q : Pr} (hne : shuf B p q ≠ []) {i j : Nat} (hi : i < (wayI p.1 q.1).length) (hj : j < (wayI p.2 q.2).length) : ((Pc.z, getI (wayI p.1 q.1) i), (Pc.o, getI (wayI p.2 q.2) j)) ∈ toldP B p q ↔ hi1 B p q i ≤ (j : Int) := by
  rw [mem_told]
  constructor
  · rintro ⟨i', hi', ⟨k, _, e⟩ | ⟨k, ⟨k0, k1⟩, e⟩⟩
    · simp at e
    · simp only [Prod.mk.injEq, true_and] at e
      have := lo_hi hne i'
      have e1 := getI_inj (nodup_wayI _ _) (i := (j : Int)) ⟨by omega, by omega⟩ ⟨by omega, k1⟩ e.2
      have e2 := getI_inj (nodup_wayI _ _) (i := (i : Int)) (j := (i' : Int)) ⟨by omega, by omega⟩ ⟨by omega, by omega⟩ e.1
      have e3 : i = i' := by omega
      subst e3; omega
  · intro h
    exact ⟨i, hi, .inr ⟨j, ⟨h, by omega⟩, rfl⟩⟩
/-! ### the law's way to count -/
def getV (l : List Ev) (i : Int) : Ev := (l[i.toNat]?).getD (Pc.z, 0)
def okzL (f s : List Ev) (P : List (Ev × Ev)) (p : Pr) : Bool := decide (p.1 < f.length) && (rgI p.2 s.length).all fun k => !decide ((getV s k, getV f p.1) ∈ P)
def okoL (f s : List Ev) (P : List (Ev × Ev)) (p : Pr) : Bool := decide (p.2 < s.length) && (rgI p.1 f.length).all fun k => !decide ((getV f k, getV s p.2) ∈ P)
def evs (k : Pc) (l : List Int) : List Ev := l.map fun x => (k, x)
theorem getV_evs {k : Pc} {l : List Int} {i : Int} (h0 : 0 ≤ i) (h1 : i < l.length) : getV (evs k l) i = (k, getI l i) := by
  unfold getV evs getI
  rw [List.getElem?_map, List.getElem?_eq_getElem (by omega)]; rfl
abbrev okzT (B : Bk) (p q : Pr) : Pr → Bool := okzL (evs .z (wayI p.1 q.1)) (evs .o (wayI p.2 q.2)) (toldP B p q)
abbrev okoT (B : Bk) (p q : Pr) : Pr → Bool := okoL (evs .z (wayI p.1 q.1)) (evs .o (wayI p.2 q.2)) (toldP B p q)
theorem okz_iff {B : Bk} {p q : Pr} (hne : shuf B p q ≠ []) (i j : Nat) : okzT B p q ((i : Int), (j : Int)) = true ↔ i < (wayI p.1 q.1).length ∧ lo1 B p q i ≤ j := by
  have hlen1 : (evs .z (wayI p.1 q.1)).length = (wayI p.1 q.1).length := List.length_map ..
  have hlen2 : (evs .o (wayI p.2 q.2)).length = (wayI p.2 q.2).length := List.length_map ..
  unfold okzT okzL
  rw [Bool.and_eq_true, decide_eq_true_eq, List.all_eq_true, hlen1, hlen2]
  constructor
  · rintro ⟨h1, h2⟩
    refine ⟨by omega, ?_⟩
    by_cases h3 : lo1 B p q i ≤ j
    · exact h3
    · have := lo_hi hne i
      have hj : j < (wayI p.2 q.2).length := by omega
      have h4 := h2 (j : Int) (mem_rgI.mpr ⟨Int.le_refl _, by omega⟩)
      rw [getV_evs (by omega) (by omega), getV_evs (by omega) h1, Bool.not_eq_true', decide_eq_false_iff_not] at h4
      exact absurd ((told_oz hne (by omega) hj).mpr (by omega)) h4
  · rintro ⟨h1, h2⟩
    refine ⟨by omega, fun k hk => ?_⟩
    obtain ⟨k0, k1⟩ := mem_rgI.mp hk
    have ek : k = (k.toNat : Int) := by omega
    rw [getV_evs (by omega) (by omega), getV_evs (by omega) (by omega), Bool.not_eq_true', decide_eq_false_iff_not, ek]
    intro z
    have := (told_oz hne h1 (by omega)).mp z
    omega
theorem oko_iff {B : Bk} {p q : Pr} (hne : shuf B p q ≠ []) (i j : Nat) : okoT B p q ((i : Int), (j : Int)) = true ↔ j < (wayI p.2 q.2).length ∧ ∀ k : Nat, i ≤ k → k < (wayI p.1 q.1).length → (j : Int) < hi1 B p q k := by
  have hlen1 : (evs .z (wayI p.1 q.1)).length = (wayI p.1 q.1).length := List.length_map ..
  have hlen2 : (evs .o (wayI p.2 q.2)).length = (wayI p.2 q.2).length := List.length_map ..
  unfold okoT okoL
  rw [Bool.and_eq_true, decide_eq_true_eq, List.all_eq_true, hlen1, hlen2]
  constructor
  · rintro ⟨h1, h2⟩
    refine ⟨by omega, fun k k0 k1 => ?_⟩
    by_cases h3 : (j : Int) < hi1 B p q k
    · exact h3
    · have h4 := h2 (k : Int) (mem_rgI.mpr ⟨by simp only; omega, by omega⟩)
      rw [getV_evs (by omega) (by omega), getV_evs (by simp only; omega) (by simpa using h1), Bool.not_eq_true', decide_eq_false_iff_not] at h4
      exact absurd ((told_zo hne k1 (by simp only at h1; omega)).mpr (by omega)) h4
  · rintro ⟨h1, h2⟩
    refine ⟨by simp only; omega, fun k hk => ?_⟩
    obtain ⟨k0, k1⟩ := mem_rgI.mp hk
    simp only at k0
    have ek : k = (k.toNat : Int) := by omega
    rw [getV_evs (by omega) (by omega), getV_evs (by simp only; omega) (by simp only; omega), Bool.not_eq_true', decide_eq_false_iff_not, ek]
    intro z
    have := (told_zo hne (by omega) h1).mp z
    have := h2 k.toNat (by omega) (by omega)
    omega
theorem told_count {B : Bk} {p q : Pr} (hne : shuf B p q ≠ []) : NN (okzT B p q) (okoT B p q) ((wayI p.1 q.1).length + (wayI p.2 q.2).length) (0, 0) = cnt (tdLims B p q) := by
  have hl : (tdLims B p q).length = (wayI p.1 q.1).length := by rw [tdLims_len, len_wayI]
  rw [cnt_CC]
  have key := NN_CC (okz := okzT B p q) (oko := okoT B p q) (L := tdLims B p q) (m := (wayI p.2 q.2).length) (fun i j => ?_) (fun i j => ?_) (fun b hb => ?_) ((wayI p.1 q.1).length + (wayI p.2 q.2).length) 0 0 (Nat.zero_le _) (Nat.zero_le _) (by omega) (fun b hb => ?_)
  · simpa using key
  · rw [okz_iff hne, tdLims_at]
    by_cases h : i < (wayI p.1 q.1).length
    · rw [if_pos h]; simp [h]
    · rw [if_neg h]; simp [h]
  · rw [oko_iff hne]
    constructor
    · rintro ⟨h1, h2⟩
      refine ⟨h1, fun b hb => ?_⟩
      obtain ⟨k, hk⟩ := List.getElem?_of_mem hb
      rw [List.getElem?_drop, tdLims_at] at hk
      split at hk
      · cases hk; exact h2 _ (by omega) (by assumption)
      · cases hk
    · rintro ⟨h1, h2⟩
      refine ⟨h1, fun k k0 k1 => ?_⟩
      refine h2 (lo1 B p q k, hi1 B p q k) ?_
      apply List.mem_of_getElem? (i := k - i)
      rw [List.getElem?_drop, tdLims_at, show i + (k - i) = k by omega, if_pos k1]
  · obtain ⟨k, hk⟩ := List.getElem?_of_mem hb
    exact (lim_at hne hk).2.2.2
  · rw [List.drop_zero] at hb
    obtain ⟨k, hk⟩ := List.getElem?_of_mem hb
    exact (lim_at hne hk).2.2.1
/-! ### the words that keep the pairs -/
theorem mem_kw_of {okz oko : Pr → Bool} : ∀ (w : List Pc) (i j : Nat), (∀ u k v, w = u ++ k :: v → (match k with | .z => okz (((i + zc u : Nat) : Int), ((j + oc u : Nat) : Int)) = true | .o => oko (((i + zc u : Nat) : Int), ((j + oc u : Nat) : Int)) = true)) → w ∈ kw okz oko w.length ((i : Int), (j : Int))
  | [], i, j, _ => by simp [kw]
  | k :: w, i, j, h => by
    have ei : ((i : Int) + 1) = ((i + 1 : Nat) : Int) := by omega
    have ej : ((j : Int) + 1) = ((j + 1 : Nat) : Int) := by omega
    have h0 := h [] k w rfl
    rw [List.length_cons]
    unfold kw
    rw [List.mem_append]
    cases k with
    | z =>
      left
      simp only [zc, oc, List.filter_nil, List.length_nil, Nat.add_zero] at h0
      rw [if_pos h0, List.mem_map]
      refine ⟨w, ?_, rfl⟩
      simp only [ei]
      refine mem_kw_of w (i + 1) j fun u k v e => ?_
      have := h (.z :: u) k v (by rw [e]; rfl)
      have z1 : zc (.z :: u) = zc u + 1 := by simp [zc, List.filter_cons]
      have z2 : oc (.z :: u) = oc u := by simp [oc, List.filter_cons]
      rw [z1, z2, show i + (zc u + 1) = i + 1 + zc u by omega] at this
      exact this
    | o =>
      right
      simp only [zc, oc, List.filter_nil, List.length_nil, Nat.add_zero] at h0
      rw [if_pos h0, List.mem_map]
      refine ⟨w, ?_, rfl⟩
      simp only [ej]
      refine mem_kw_of w i (j + 1) fun u k v e => ?_
      have := h (.o :: u) k v (by rw [e]; rfl)
      have z1 : zc (.o :: u) = zc u := by simp [zc, List.filter_cons]
      have z2 : oc (.o :: u) = oc u + 1 := by simp [oc, List.filter_cons]
      rw [z1, z2, show j + (oc u + 1) = j + 1 + oc u by omega] at this
      exact this
theorem azG_app : ∀ (u v : List Pc) (m : Nat), azG (u ++ v) m = azG u m ++ azG v (m + oc u)
  | [], v, m => by simp [azG, oc]
  | .z :: u, v, m => by
    have : oc (.z :: u) = oc u := by simp [oc, List.filter_cons]
    simp only [List.cons_append, azG, azG_app u v m, this]
  | .o :: u, v, m => by
    have : oc (.o :: u) = oc u + 1 := by simp [oc, List.filter_cons]
    simp only [List.cons_append, azG, azG_app u v (m + 1), this]
    rw [show m + 1 + oc u = m + (oc u + 1) by omega]
theorem azG_len2 (w : List Pc) (m : Nat) : (azG w m).length = zc w := azG_len w m
theorem azi_mid (u v : List Pc) : azi (zc u : Nat) (u ++ .z :: v) = (oc u : Nat) := by
  unfold azi
  rw [azG_app, List.getElem?_append_right (by rw [azG_len2]; omega), azG_len2]
  simp [azG]
theorem azi_ge (u v : List Pc) {k : Nat} (h0 : zc u ≤ k) (h1 : k < zc (u ++ .o :: v)) : ((oc u : Nat) : Int) + 1 ≤ azi k (u ++ .o :: v) := by
  have hz : zc (u ++ .o :: v) = zc u + zc v := by simp [zc, List.filter_append, List.filter_cons]
  unfold azi
  rw [azG_app, List.getElem?_append_right (by rw [azG_len2]; omega), azG_len2]
  have hk : k - zc u < (azG v (0 + oc u + 1)).length := by rw [azG_len2]; omega
  show _ ≤ (((azG (.o :: v) (0 + oc u))[k - zc u]?.getD 0 : Nat) : Int)
  simp only [azG]
  rw [List.getElem?_eq_getElem hk]
  have := (azG_le v (0 + oc u + 1) _ (List.getElem_mem hk)).1
  simp only [Option.getD_some]; omega
theorem zc_app (u v : List Pc) : zc (u ++ v) = zc u + zc v := by simp [zc, List.filter_append]
theorem oc_app (u v : List Pc) : oc (u ++ v) = oc u + oc v := by simp [oc, List.filter_append]
theorem shuf_kw {B : Bk} {p q : Pr} {w : List Pc} (hw : w ∈ shuf B p q) : w ∈ kw (okzT B p q) (okoT B p q) ((wayI p.1 q.1).length + (wayI p.2 q.2).length) (0, 0) := by
  have hne : shuf B p q ≠ [] := List.ne_nil_of_mem hw
  obtain ⟨h1, h2, h3⟩ := shuf_len hw
  have hl : (wayI p.1 q.1).length + (wayI p.2 q.2).length = w.length := by rw [len_wayI, len_wayI]; omega
  rw [hl]
  refine mem_kw_of w 0 0 fun u k v e => ?_
  simp only [Nat.zero_add]
  have b1 : zc u + zc (k :: v) = (wayI p.1 q.1).length := by rw [← zc_app, ← e, h1, len_wayI]
  have b2 : oc u + oc (k :: v) = (wayI p.2 q.2).length := by rw [← oc_app, ← e, h2, len_wayI]
  cases k with
  | z =>
    have c1 : zc (.z :: v) = zc v + 1 := by simp [zc, List.filter_cons]
    refine (okz_iff hne _ _).mpr ⟨by omega, ?_⟩
    have := (lo_hi hne (zc u : Nat)).2.2 w hw
    rw [e, azi_mid] at this
    exact this.1
  | o =>
    have c1 : oc (.o :: v) = oc v + 1 := by simp [oc, List.filter_cons]
    refine (oko_iff hne _ _).mpr ⟨by omega, fun k k0 k1 => ?_⟩
    have := (lo_hi hne (k : Nat)).2.2 w hw
    have h5 := azi_ge u v k0 (by rw [← e, h1, ← len_wayI]; exact k1)
    rw [e] at this; omega
theorem sub_of_len {α : Type} [DecidableEq α] {l l' : List α} (n : l.Nodup) (s : ∀ x ∈ l, x ∈ l') (h : l'.length ≤ l.length) : ∀ x ∈ l', x ∈ l := by
  intro x hx
  by_cases hin : x ∈ l
  · exact hin
  · have := nodup_sub_len (l := l) (l' := l'.erase x) n fun y hy => by
      have hne : y ≠ x := fun e => hin (e ▸ hy)
      exact (List.mem_erase_of_ne hne).mpr (s y hy)
    rw [List.length_erase_of_mem hx] at this
    have := List.length_pos_of_mem hx
    omega
theorem nodup_flatMap2 {α β γ : Type} {f : α → List β} (g : α → γ) (key : β → γ) : ∀ (l : List α), (l.map g).Nodup → (∀ a ∈ l, (f a).Nodup ∧ ∀ x ∈ f a, key x = g a) → (l.flatMap f).Nodup
  | [], _, _ => by simp
  | a :: l, h, hf => by
    rw [List.map_cons, List.nodup_cons] at h
    rw [List.flatMap_cons, List.nodup_append]
    refine ⟨(hf a (List.mem_cons_self ..)).1, nodup_flatMap2 g key l h.2 fun b hb => hf b (List.mem_cons_of_mem _ hb), fun x hx y hy e => ?_⟩
    subst e
    obtain ⟨b, hb, hxb⟩ := List.mem_flatMap.mp hy
    have h1 := (hf a (List.mem_cons_self ..)).2 x hx
    have h2 := (hf b (List.mem_cons_of_mem _ hb)).2 x hxb
    exact h.1 (by rw [← h1, h2]; exact List.mem_map_of_mem hb)
def shRowF (B : Bk) (q : Pr) (x : List Pc × Pr) : List (List Pc × Pr) := ([Pc.z, Pc.o].filter fun k => decide (co x.2 k ≠ co q k) && lets B (co x.2 k) (co x.2 k.n) (decide (co x.2 k < co q k))).map fun k => (x.1 ++ [k], shTo q x.2 k)
theorem shTurn_flat (B : Bk) (q : Pr) (rows : List (List Pc × Pr)) : shTurn B q rows = rows.flatMap (shRowF B q) := by
  have : shRow B q = fun b x => b ++ shRowF B q x := by
    funext b x
    unfold shRow shRowF
    simp only [List.foldl_cons, List.foldl_nil, List.filter]
    unfold shStep
    by_cases h1 : co x.2 .z ≠ co q .z ∧ lets B (co x.2 .z) (co x.2 Pc.z.n) (decide (co x.2 .z < co q .z)) = true
    · by_cases h2 : co x.2 .o ≠ co q .o ∧ lets B (co x.2 .o) (co x.2 Pc.o.n) (decide (co x.2 .o < co q .o)) = true
      · simp [h1, h2, shTo]
      · have h3 : (decide (co x.2 .o ≠ co q .o) && lets B (co x.2 .o) (co x.2 Pc.o.n) (decide (co x.2 .o < co q .o))) = false := by
          rw [Bool.eq_false_iff, ne_eq, Bool.and_eq_true, decide_eq_true_eq]; exact h2
        rw [if_pos h1, if_neg h2, h3]
        simp [h1, shTo]
    · have h4 : (decide (co x.2 .z ≠ co q .z) && lets B (co x.2 .z) (co x.2 Pc.z.n) (decide (co x.2 .z < co q .z))) = false := by
        rw [Bool.eq_false_iff, ne_eq, Bool.and_eq_true, decide_eq_true_eq]; exact h1
      by_cases h2 : co x.2 .o ≠ co q .o ∧ lets B (co x.2 .o) (co x.2 Pc.o.n) (decide (co x.2 .o < co q .o)) = true
      · rw [if_neg h1, if_pos h2, h4]
        simp [h2, shTo]
      · have h3 : (decide (co x.2 .o ≠ co q .o) && lets B (co x.2 .o) (co x.2 Pc.o.n) (decide (co x.2 .o < co q .o))) = false := by
          rw [Bool.eq_false_iff, ne_eq, Bool.and_eq_true, decide_eq_true_eq]; exact h2
        rw [if_neg h1, if_neg h2, h3, h4]
        simp
  unfold shTurn
  rw [this, fold_app]; simp
theorem shTurn_nodup {B : Bk} {q : Pr} {rows : List (List Pc × Pr)} (n : (rows.map (·.1)).Nodup) : ((shTurn B q rows).map (·.1)).Nodup := by
  rw [shTurn_flat, List.map_flatMap]
  refine nodup_flatMap2 (·.1) (fun w => w.dropLast) rows n fun x _ => ⟨?_, fun y hy => ?_⟩
  · unfold shRowF
    rw [List.map_map]
    refine nodup_map (fun a b h => ?_) (List.Pairwise.filter _ (by decide))
    simpa using h
  · unfold shRowF at hy
    rw [List.map_map] at hy
    obtain ⟨k, _, rfl⟩ := List.mem_map.mp hy
    simp
theorem shuf_nodup (B : Bk) (p q : Pr) : (shuf B p q).Nodup := by
  have key : ∀ (l : List Int) (r : List (List Pc × Pr)), (r.map (·.1)).Nodup → ((l.foldl (fun r _ => shTurn B q r) r).map (·.1)).Nodup := by
    intro l
    induction l with
    | nil => intro r h; exact h
    | cons a l ih => intro r h; exact ih _ (shTurn_nodup h)
  exact key _ _ (by simp)
/-- told courses: the words that keep the pairs are the shuffles -/
theorem told_kw {B : Bk} {p q : Pr} (hne : shuf B p q ≠ []) (h : isTold B p q = true) {w : List Pc} (hw : w ∈ kw (okzT B p q) (okoT B p q) ((wayI p.1 q.1).length + (wayI p.2 q.2).length) (0, 0)) : w ∈ shuf B p q := by
  have h1 := kw_len (okzT B p q) (okoT B p q) ((wayI p.1 q.1).length + (wayI p.2 q.2).length) (0, 0)
  rw [told_count hne] at h1
  have h2 : cnt (tdLims B p q) = ((shuf B p q).length : Int) := of_decide_eq_true h
  exact sub_of_len (shuf_nodup B p q) (fun x hx => shuf_kw hx) (by omega) w hw
end HB

set_option Elab.async false
set_option linter.all false
set_option autoImplicit false
namespace HB
open PySem PySem.Spec L2
open En (enc)
theorem Run.cons {B : Bk} {q p x : Pr} {w : List Pc} {k : Pc} (hk : shOk B q p k) (h : Run B q (shTo q p k) w x) : Run B q p (k :: w) x := by
  induction h with
  | nil => exact Run.snoc (w := []) .nil hk
  | @snoc w here l _ hl ih => exact Run.snoc (w := k :: w) ih hl
theorem Run.nil_inv {B : Bk} {q p x : Pr} {v : List Pc} (h : Run B q p v x) (e : v = []) : x = p := by
  cases h with
  | nil => rfl
  | snoc => simp at e
theorem Run.uncons {B : Bk} {q p x : Pr} {w v : List Pc} {k : Pc} (h : Run B q p v x) (e : v = k :: w) : shOk B q p k ∧ Run B q (shTo q p k) w x := by
  induction h generalizing w with
  | nil => cases e
  | @snoc w' here l h1 hl ih =>
    cases w' with
    | nil =>
      have := h1.nil_inv rfl
      subst this
      simp only [List.nil_append, List.cons.injEq] at e
      obtain ⟨rfl, rfl⟩ := e
      exact ⟨hl, .nil⟩
    | cons a w' =>
      rw [List.cons_append, List.cons.injEq] at e
      obtain ⟨rfl, rfl⟩ := e
      obtain ⟨i1, i2⟩ := ih rfl
      exact ⟨i1, .snoc i2 hl⟩
instance (B : Bk) (q p : Pr) (k : Pc) : Decidable (shOk B q p k) := by unfold shOk; infer_instance
def shLs (B : Bk) (q : Pr) (rec : Pr → List (List Pc)) (p : Pr) (b : List (List Pc)) (k : Pc) : List (List Pc) := if shOk B q p k then b ++ (rec (shTo q p k)).map (k :: ·) else b
def shL (B : Bk) (q : Pr) : Nat → Pr → List (List Pc)
  | 0, _ => [[]]
  | n + 1, p => if p = q then [[]] else [Pc.z, Pc.o].foldl (shLs B q (shL B q n) p) []
theorem offP_self (q : Pr) : offP q q = 0 := by unfold offP; omega
theorem offP_nn (p q : Pr) : 0 ≤ offP p q := by unfold offP; omega
theorem shOk_off {B : Bk} {q p : Pr} {k : Pc} (h : shOk B q p k) : offP (shTo q p k) q + 1 = offP p q := by
  have := h.1
  cases k with
  | z =>
    have h1 : p.1 ≠ q.1 := this
    rw [shTo_z]; unfold offP; simp only
    split <;> omega
  | o =>
    have h1 : p.2 ≠ q.2 := this
    rw [shTo_o]; unfold offP; simp only
    split <;> omega
theorem mem_shLs {B : Bk} {q p : Pr} {rec : Pr → List (List Pc)} {w : List Pc} : w ∈ [Pc.z, Pc.o].foldl (shLs B q rec p) [] ↔ ∃ k v, w = k :: v ∧ shOk B q p k ∧ v ∈ rec (shTo q p k) := by
  simp only [List.foldl_cons, List.foldl_nil, shLs]
  constructor
  · intro h
    by_cases h1 : shOk B q p .z <;> by_cases h2 : shOk B q p .o <;> simp [h1, h2] at h
    · rcases h with ⟨a, ha, rfl⟩ | ⟨a, ha, rfl⟩
      · exact ⟨.z, a, rfl, h1, ha⟩
      · exact ⟨.o, a, rfl, h2, ha⟩
    · obtain ⟨a, ha, rfl⟩ := h; exact ⟨.z, a, rfl, h1, ha⟩
    · obtain ⟨a, ha, rfl⟩ := h; exact ⟨.o, a, rfl, h2, ha⟩
  · rintro ⟨k, v, rfl, hk, hv⟩
    cases k with
    | z =>
      rw [if_pos hk]
      split
      · exact List.mem_append_left _ (List.mem_append_right _ (List.mem_map.mpr ⟨v, hv, rfl⟩))
      · exact List.mem_append_right _ (List.mem_map.mpr ⟨v, hv, rfl⟩)
    | o =>
      rw [if_pos hk]
      exact List.mem_append_right _ (List.mem_map.mpr ⟨v, hv, rfl⟩)
theorem mem_shL {B : Bk} {q : Pr} : ∀ (n : Nat) (p : Pr), offP p q ≤ n → ∀ w, w ∈ shL B q n p ↔ Run B q p w q
  | 0, p, h, w => by
    have : p = q := offP_0 (by have := offP_nn p q; omega)
    subst this
    simp only [shL, List.mem_singleton]
    constructor
    · rintro rfl; exact .nil
    · intro hr
      have := hr.off
      rw [offP_self] at this
      exact List.eq_nil_of_length_eq_zero (by omega)
  | n + 1, p, h, w => by
    unfold shL
    by_cases e : p = q
    · subst e
      rw [if_pos rfl, List.mem_singleton]
      constructor
      · rintro rfl; exact .nil
      · intro hr
        have := hr.off
        rw [offP_self] at this
        exact List.eq_nil_of_length_eq_zero (by omega)
    · rw [if_neg e, mem_shLs]
      constructor
      · rintro ⟨k, v, rfl, hk, hv⟩
        have := shOk_off hk
        exact .cons hk ((mem_shL n _ (by omega) v).mp hv)
      · intro hr
        cases w with
        | nil =>
          have := hr.off
          rw [offP_self] at this
          exact absurd (offP_0 (by simp at this; omega)) e
        | cons k v =>
          obtain ⟨hk, hv⟩ := hr.uncons rfl
          have := shOk_off hk
          exact ⟨k, v, rfl, hk, (mem_shL n _ (by omega) v).mpr hv⟩
theorem shL_nodup {B : Bk} {q : Pr} : ∀ (n : Nat) (p : Pr), (shL B q n p).Nodup
  | 0, _ => by simp [shL]
  | n + 1, p => by
    unfold shL
    split
    · simp
    · have h1 : ∀ k : Pc, ((shL B q n (shTo q p k)).map (k :: ·)).Nodup := fun k => nodup_map (fun a b h => by simpa using h) (shL_nodup n _)
      simp only [List.foldl_cons, List.foldl_nil, shLs]
      by_cases z1 : shOk B q p .z <;> by_cases z2 : shOk B q p .o
      · rw [if_pos z1, if_pos z2, List.nil_append, List.nodup_append]
        refine ⟨h1 _, h1 _, fun a ha b hb e => ?_⟩
        obtain ⟨x, _, rfl⟩ := List.mem_map.mp ha
        obtain ⟨y, _, rfl⟩ := List.mem_map.mp hb
        simp at e
      · rw [if_pos z1, if_neg z2, List.nil_append]; exact h1 _
      · rw [if_neg z1, if_pos z2, List.nil_append]; exact h1 _
      · rw [if_neg z1, if_neg z2]; simp
theorem shL_len {B : Bk} {q : Pr} : ∀ (n : Nat) (p : Pr), (shL B q n p).length ≤ 2 ^ n
  | 0, _ => by simp [shL]
  | n + 1, p => by
    unfold shL
    have h0 : 1 ≤ 2 ^ (n + 1) := Nat.one_le_two_pow
    split
    · simpa using h0
    · have h1 := shL_len (B := B) (q := q) n (shTo q p .z)
      have h2 := shL_len (B := B) (q := q) n (shTo q p .o)
      simp only [List.foldl_cons, List.foldl_nil, shLs]
      rw [Nat.pow_succ]
      split <;> split <;> simp <;> omega
theorem shL_ne {B : Bk} {p q : Pr} {n : Nat} (h : offP p q ≤ n) : shL B q n p ≠ [] ↔ shuf B p q ≠ [] := by
  constructor
  · intro z
    obtain ⟨w, hw⟩ := List.exists_mem_of_ne_nil _ z
    exact List.ne_nil_of_mem (mem_shuf.mpr ((mem_shL n p h w).mp hw))
  · intro z
    obtain ⟨w, hw⟩ := List.exists_mem_of_ne_nil _ z
    exact List.ne_nil_of_mem ((mem_shL n p h w).mpr (mem_shuf.mp hw))
theorem shL_count {B : Bk} {p q : Pr} {n : Nat} (h : offP p q ≤ n) : (shL B q n p).length = (shuf B p q).length :=
  Nat.le_antisymm (nodup_sub_len (shL_nodup n p) fun w hw => mem_shuf.mpr ((mem_shL n p h w).mp hw)) (nodup_sub_len (shuf_nodup B p q) fun w hw => (mem_shL n p h w).mpr (mem_shuf.mp hw))
theorem same_len_box {B : Bk} {p q : Pr} (hp : box B.r p) (hq : box B.r q) (hr : B.r ≤ 4) : offP p q ≤ 8 := by
  obtain ⟨⟨_, _⟩, _, _⟩ := hp; obtain ⟨⟨_, _⟩, _, _⟩ := hq
  unfold offP; omega
/-! ### lines -/
def lineOf (q : Pr) : Pr → List Pc → List Ev
  | _, [] => []
  | p, k :: w => (k, co p k) :: lineOf q (shTo q p k) w
def lineG : List Pc → List Int → List Int → List Ev
  | [], _, _ => []
  | .z :: w, a, b => (.z, a.headD 0) :: lineG w a.tail b
  | .o :: w, a, b => (.o, b.headD 0) :: lineG w a b.tail
theorem dnI_cons {a b : Int} (h : b < a) : dnI a b = a :: dnI (a - 1) b := by
  unfold dnI
  have e : (a - b).toNat = (a - 1 - b).toNat + 1 := by omega
  rw [e, List.range_succ_eq_map, List.map_cons, List.map_map]
  congr 1
  · simp
  · apply List.map_congr_left
    intro i _
    show a - ((i + 1 : Nat) : Int) = a - 1 - (i : Int)
    omega
theorem wayI_cons {a b : Int} (h : a ≠ b) : wayI a b = a :: wayI (if a < b then a + 1 else a - 1) b := by
  by_cases h1 : a < b
  · rw [if_pos h1]
    unfold wayI
    rw [if_pos h1, rgI_cons h1]
    by_cases h2 : a + 1 < b
    · rw [if_pos h2]
    · rw [if_neg h2, show rgI (a + 1) b = [] from rgI_nil (by omega)]
      have : dnI (a + 1) b = [] := by
        apply List.eq_nil_of_length_eq_zero
        unfold dnI; simp; omega
      rw [this]
  · rw [if_neg h1]
    unfold wayI
    rw [if_neg h1, if_neg (by omega), dnI_cons (by omega)]
theorem lineOf_G {B : Bk} {q : Pr} : ∀ (w : List Pc) (p : Pr), Run B q p w q → lineOf q p w = lineG w (wayI p.1 q.1) (wayI p.2 q.2)
  | [], _, _ => rfl
  | k :: w, p, h => by
    obtain ⟨hk, hv⟩ := h.uncons rfl
    have ih := lineOf_G w _ hv
    unfold lineOf
    rw [ih]
    cases k with
    | z =>
      have h1 : p.1 ≠ q.1 := hk.1
      rw [shTo_z]
      simp only [lineG]
      rw [wayI_cons h1]; rfl
    | o =>
      have h1 : p.2 ≠ q.2 := hk.1
      rw [shTo_o]
      simp only [lineG]
      rw [wayI_cons h1]; rfl
theorem mem_lineG : ∀ (w : List Pc) (a b : List Int), a.length = zc w → b.length = oc w → ∀ e, e ∈ lineG w a b ↔ (e.1 = .z ∧ e.2 ∈ a) ∨ (e.1 = .o ∧ e.2 ∈ b)
  | [], a, b, ha, hb, e => by
    have h1 : a = [] := List.eq_nil_of_length_eq_zero (by simpa [zc] using ha)
    have h2 : b = [] := List.eq_nil_of_length_eq_zero (by simpa [oc] using hb)
    subst h1; subst h2; simp [lineG]
  | .z :: w, [], b, ha, hb, e => by simp [zc, List.filter_cons] at ha
  | .z :: w, x :: a, b, ha, hb, (k, y) => by
    have z1 : zc (.z :: w) = zc w + 1 := by simp [zc, List.filter_cons]
    have z2 : oc (.z :: w) = oc w := by simp [oc, List.filter_cons]
    have ih := mem_lineG w a b (by rw [List.length_cons] at ha; omega) (by omega) (k, y)
    simp only [lineG, List.headD_cons, List.tail_cons, List.mem_cons, ih, Prod.mk.injEq]
    constructor
    · rintro (⟨rfl, rfl⟩ | ⟨rfl, h⟩ | h)
      · exact .inl ⟨rfl, .inl rfl⟩
      · exact .inl ⟨rfl, .inr h⟩
      · exact .inr h
    · rintro (⟨rfl, rfl | h⟩ | h)
      · exact .inl ⟨rfl, rfl⟩
      · exact .inr (.inl ⟨rfl, h⟩)
      · exact .inr (.inr h)
  | .o :: w, a, [], ha, hb, e => by simp [oc, List.filter_cons] at hb
  | .o :: w, a, x :: b, ha, hb, (k, y) => by
    have z1 : zc (.o :: w) = zc w := by simp [zc, List.filter_cons]
    have z2 : oc (.o :: w) = oc w + 1 := by simp [oc, List.filter_cons]
    have ih := mem_lineG w a b (by omega) (by rw [List.length_cons] at hb; omega) (k, y)
    simp only [lineG, List.headD_cons, List.tail_cons, List.mem_cons, ih, Prod.mk.injEq]
    constructor
    · rintro (⟨rfl, rfl⟩ | h | ⟨rfl, h⟩)
      · exact .inr ⟨rfl, .inl rfl⟩
      · exact .inl h
      · exact .inr ⟨rfl, .inr h⟩
    · rintro (h | ⟨rfl, rfl | h⟩)
      · exact .inr (.inl h)
      · exact .inl ⟨rfl, rfl⟩
      · exact .inr (.inr ⟨rfl, h⟩)
theorem nodup_lineG : ∀ (w : List Pc) (a b : List Int), a.length = zc w → b.length = oc w → a.Nodup → b.Nodup → (lineG w a b).Nodup
  | [], a, b, _, _, _, _ => by simp [lineG]
  | .z :: w, [], b, ha, hb, _, _ => by simp [zc, List.filter_cons] at ha
  | .z :: w, x :: a, b, ha, hb, na, nb => by
    have z1 : zc (.z :: w) = zc w + 1 := by simp [zc, List.filter_cons]
    have z2 : oc (.z :: w) = oc w := by simp [oc, List.filter_cons]
    have l1 : a.length = zc w := by rw [List.length_cons] at ha; omega
    rw [List.nodup_cons] at na
    simp only [lineG, List.headD_cons, List.tail_cons, List.nodup_cons]
    refine ⟨fun h => ?_, nodup_lineG w a b l1 (by omega) na.2 nb⟩
    rcases (mem_lineG w a b l1 (by omega) _).mp h with z | z
    · exact na.1 z.2
    · cases z.1
  | .o :: w, a, [], ha, hb, _, _ => by simp [oc, List.filter_cons] at hb
  | .o :: w, a, x :: b, ha, hb, na, nb => by
    have z1 : zc (.o :: w) = zc w := by simp [zc, List.filter_cons]
    have z2 : oc (.o :: w) = oc w + 1 := by simp [oc, List.filter_cons]
    have l1 : b.length = oc w := by rw [List.length_cons] at hb; omega
    rw [List.nodup_cons] at nb
    simp only [lineG, List.headD_cons, List.tail_cons, List.nodup_cons]
    refine ⟨fun h => ?_, nodup_lineG w a b (by omega) l1 na nb.2⟩
    rcases (mem_lineG w a b (by omega) l1 _).mp h with z | z
    · cases z.1
    · exact nb.1 z.2
theorem azG_shift : ∀ (w : List Pc) (m k : Nat), azG w (m + k) = (azG w m).map (· + k)
  | [], _, _ => rfl
  | .z :: w, m, k => by simp only [azG, List.map_cons, azG_shift w m k]
  | .o :: w, m, k => by
    have := azG_shift w (m + 1) k
    simp only [azG]; rw [← this]; congr 1; omega
/-- the place in a line -/
def pl (l : List Ev) (e : Ev) : Nat := l.idxOf e
theorem pl_cons (x e : Ev) (l : List Ev) : pl (x :: l) e = if x = e then 0 else pl l e + 1 := by
  unfold pl
  rw [List.idxOf_cons]
  by_cases h : x = e
  · subst h; simp
  · have : (x == e) = false := beq_false_of_ne h
    rw [this, if_neg h]; rfl
theorem pl_zo : ∀ (w : List Pc) (a b : List Int), a.length = zc w → b.length = oc w → a.Nodup → b.Nodup → ∀ (i j : Nat) (x y : Int), a[i]? = some x → b[j]? = some y → (pl (lineG w a b) (.z, x) < pl (lineG w a b) (.o, y) ↔ ((azG w 0)[i]?).getD 0 ≤ j)
  | [], a, b, ha, hb, _, _, i, j, x, y, hx, hy => by
    have h1 : a = [] := List.eq_nil_of_length_eq_zero (by simpa [zc] using ha)
    subst h1; simp at hx
  | .z :: w, [], b, ha, hb, _, _, _, _, _, _, _, _ => by simp [zc, List.filter_cons] at ha
  | .z :: w, x0 :: a, b, ha, hb, na, nb, i, j, x, y, hx, hy => by
    have z1 : zc (.z :: w) = zc w + 1 := by simp [zc, List.filter_cons]
    have z2 : oc (.z :: w) = oc w := by simp [oc, List.filter_cons]
    have l1 : a.length = zc w := by rw [List.length_cons] at ha; omega
    rw [List.nodup_cons] at na
    simp only [lineG, List.headD_cons, List.tail_cons]
    have hne : ¬ ((Pc.z, x0) : Ev) = (.o, y) := by simp
    rw [pl_cons, pl_cons, if_neg hne]
    cases i with
    | zero =>
      simp at hx; subst hx
      rw [if_pos rfl]; simp [azG]
    | succ i =>
      rw [List.getElem?_cons_succ] at hx
      have hne2 : ¬ ((Pc.z, x0) : Ev) = (.z, x) := by
        simp only [Prod.mk.injEq, true_and]
        rintro rfl; exact na.1 (List.mem_of_getElem? hx)
      rw [if_neg hne2]
      have ih := pl_zo w a b l1 (by omega) na.2 nb i j x y hx hy
      simp only [azG, List.getElem?_cons_succ]
      rw [← ih]; omega
  | .o :: w, a, [], ha, hb, _, _, _, _, _, _, _, _ => by simp [oc, List.filter_cons] at hb
  | .o :: w, a, y0 :: b, ha, hb, na, nb, i, j, x, y, hx, hy => by
    have z1 : zc (.o :: w) = zc w := by simp [zc, List.filter_cons]
    have z2 : oc (.o :: w) = oc w + 1 := by simp [oc, List.filter_cons]
    have l1 : b.length = oc w := by rw [List.length_cons] at hb; omega
    rw [List.nodup_cons] at nb
    simp only [lineG, List.headD_cons, List.tail_cons]
    have hne : ¬ ((Pc.o, y0) : Ev) = (.z, x) := by simp
    rw [pl_cons, pl_cons, if_neg hne]
    have hi : i < (azG w 0).length := by
      rw [azG_len2]
      have := (List.getElem?_eq_some_iff.mp hx).1
      omega
    have eaz : ((azG (.o :: w) 0)[i]?).getD 0 = ((azG w 0)[i]?).getD 0 + 1 := by
      show ((azG w (0 + 1))[i]?).getD 0 = _
      rw [azG_shift, List.getElem?_map, List.getElem?_eq_getElem hi]; rfl
    rw [eaz]
    cases j with
    | zero =>
      simp at hy; subst hy
      rw [if_pos rfl]; omega
    | succ j =>
      rw [List.getElem?_cons_succ] at hy
      have hne2 : ¬ ((Pc.o, y0) : Ev) = (.o, y) := by
        simp only [Prod.mk.injEq, true_and]
        rintro rfl; exact nb.1 (List.mem_of_getElem? hy)
      rw [if_neg hne2]
      have ih := pl_zo w a b (by omega) l1 na nb.2 i j x y hx hy
      rw [show ((azG w 0)[i]?).getD 0 + 1 ≤ j + 1 ↔ ((azG w 0)[i]?).getD 0 ≤ j by omega, ← ih]; omega
theorem pl_lt {l : List Ev} {e : Ev} (h : e ∈ l) : pl l e < l.length := List.idxOf_lt_length_iff.mpr h
theorem pl_inj {l : List Ev} {e f : Ev} (h : e ∈ l) (h2 : pl l e = pl l f) : e = f := by
  have h1 := pl_lt h
  have hf : pl l f < l.length := by omega
  have hf2 : f ∈ l := List.idxOf_lt_length_iff.mp hf
  have e1 : l[pl l e] = e := List.getElem_idxOf h1
  have e2 : l[pl l f] = f := List.getElem_idxOf hf
  rw [← e1, ← e2]; simp only [h2]
/-! ### the law's told pairs -/
def ltIn (ls : List (List Ev)) (f s : Ev) : Bool := decide (f.1 ≠ s.1) && ls.all fun l => decide (pl l f ≤ pl l s)
def lt2 (ls : List (List Ev)) (f : Ev) (b : List (Ev × Ev)) (s : Ev) : List (Ev × Ev) := if ltIn ls f s = true then b ++ [(f, s)] else b
def lt1 (ls : List (List Ev)) (l0 : List Ev) (b : List (Ev × Ev)) (f : Ev) : List (Ev × Ev) := l0.foldl (lt2 ls f) b
def ltRaw (ls : List (List Ev)) (l0 : List Ev) : List (Ev × Ev) := l0.foldl (lt1 ls l0) []
theorem lt2_fold (ls : List (List Ev)) (f : Ev) : ∀ (l : List Ev) (b : List (Ev × Ev)), l.foldl (lt2 ls f) b = b ++ (l.filter (ltIn ls f)).map fun s => (f, s)
  | [], b => by simp
  | s :: l, b => by
    rw [List.foldl_cons, lt2_fold ls f l, lt2, List.filter_cons]
    split <;> simp
theorem ltRaw_flat (ls : List (List Ev)) (l0 : List Ev) : ltRaw ls l0 = l0.flatMap fun f => (l0.filter (ltIn ls f)).map fun s => (f, s) := by
  have : lt1 ls l0 = fun b f => b ++ (l0.filter (ltIn ls f)).map fun s => (f, s) := by
    funext b f; exact lt2_fold ls f l0 b
  unfold ltRaw
  rw [this, fold_app]; simp
theorem mem_ltRaw {ls : List (List Ev)} {l0 : List Ev} {f s : Ev} : (f, s) ∈ ltRaw ls l0 ↔ f ∈ l0 ∧ s ∈ l0 ∧ f.1 ≠ s.1 ∧ ∀ l ∈ ls, pl l f ≤ pl l s := by
  rw [ltRaw_flat, List.mem_flatMap]
  simp only [List.mem_map, List.mem_filter, Prod.mk.injEq, ltIn, Bool.and_eq_true, decide_eq_true_eq, List.all_eq_true]
  constructor
  · rintro ⟨a, ha, b, ⟨hb, h1, h2⟩, rfl, rfl⟩; exact ⟨ha, hb, h1, h2⟩
  · rintro ⟨ha, hb, h1, h2⟩; exact ⟨f, ha, s, ⟨hb, h1, h2⟩, rfl, rfl⟩
theorem ltRaw_nodup {ls : List (List Ev)} {l0 : List Ev} (n : l0.Nodup) : (ltRaw ls l0).Nodup := by
  rw [ltRaw_flat]
  refine nodup_flatMap (·.1) l0 n fun f _ => ⟨nodup_map (fun a b h => by simpa using h) (List.Pairwise.filter _ n), fun x hx => ?_⟩
  obtain ⟨s, _, rfl⟩ := List.mem_map.mp hx
  rfl
theorem tdRaw_nodup {B : Bk} {p q : Pr} (hne : shuf B p q ≠ []) : (tdRaw B p q).Nodup := by
  have hl : (tdLims B p q).length = (wayI p.1 q.1).length := by rw [tdLims_len, len_wayI]
  have e : tdStep (wayI p.1 q.1) (wayI p.2 q.2) (tdLims B p q) = fun b (i : Nat) => b ++ (((rgI 0 (((tdLims B p q)[i]?).getD (0, 0)).1).map fun k => (((Pc.o, getI (wayI p.2 q.2) k), (Pc.z, getI (wayI p.1 q.1) i)) : Ev × Ev)) ++ (rgI (((tdLims B p q)[i]?).getD (0, 0)).2 (wayI p.2 q.2).length).map fun k => ((Pc.z, getI (wayI p.1 q.1) i), (Pc.o, getI (wayI p.2 q.2) k))) := by
    funext b i; unfold tdStep; rw [List.append_assoc]
  unfold tdRaw
  rw [e, fold_app, List.nil_append]
  refine nodup_flatMap2 (fun i : Nat => getI (wayI p.1 q.1) (i : Int)) (fun x => if x.1.1 = .z then x.1.2 else x.2.2) _ ?_ fun i hi => ?_
  · refine List.pairwise_map.mpr (List.Pairwise.imp_of_mem ?_ List.nodup_range)
    intro a b ha hb hab e
    have h1 := List.mem_range.mp ha; have h2 := List.mem_range.mp hb
    have := getI_inj (nodup_wayI _ _) (i := (a : Int)) (j := (b : Int)) ⟨by omega, by omega⟩ ⟨by omega, by omega⟩ e
    omega
  · have hi2 := List.mem_range.mp hi
    rw [tdLims_at, if_pos (by omega)]
    have hb := lo_hi hne (i : Int)
    simp only [Option.getD_some]
    refine ⟨?_, fun x hx => ?_⟩
    · rw [List.nodup_append]
      refine ⟨?_, ?_, fun a ha b hb e => ?_⟩
      · refine List.pairwise_map.mpr (List.Pairwise.imp_of_mem ?_ (nodup_rgI _ _))
        intro a b ha hb2 hab e
        have h1 := mem_rgI.mp ha; have h2 := mem_rgI.mp hb2
        simp only [Prod.mk.injEq, true_and, and_true] at e
        exact hab (getI_inj (nodup_wayI _ _) ⟨h1.1, by omega⟩ ⟨h2.1, by omega⟩ e)
      · refine List.pairwise_map.mpr (List.Pairwise.imp_of_mem ?_ (nodup_rgI _ _))
        intro a b ha hb2 hab e
        have h1 := mem_rgI.mp ha; have h2 := mem_rgI.mp hb2
        simp only [Prod.mk.injEq, true_and] at e
        exact hab (getI_inj (nodup_wayI _ _) ⟨by omega, by omega⟩ ⟨by omega, by omega⟩ e)
      · obtain ⟨k, _, rfl⟩ := List.mem_map.mp ha
        obtain ⟨k', _, rfl⟩ := List.mem_map.mp hb
        simp at e
    · rcases List.mem_append.mp hx with z | z
      · obtain ⟨k, _, rfl⟩ := List.mem_map.mp z; simp
      · obtain ⟨k, _, rfl⟩ := List.mem_map.mp z; simp
theorem getI_at {l : List Int} {i : Nat} {x : Int} (h : l[i]? = some x) : getI l (i : Int) = x := by
  unfold getI
  rw [show (i : Int).toNat = i by omega, h]; rfl
theorem at_getI {l : List Int} {i : Nat} (h : i < l.length) : l[i]? = some (getI l (i : Int)) := by
  unfold getI
  rw [show (i : Int).toNat = i by omega, List.getElem?_eq_getElem h]; rfl
def lawTold (B : Bk) (p q : Pr) (ws : List (List Pc)) : List (Ev × Ev) := sortE (ltRaw (ws.map (lineOf q p)) (lineOf q p (ws.headD [])))
theorem lawTold_eq {B : Bk} {p q : Pr} {ws : List (List Pc)} (hws : ∀ w, w ∈ ws ↔ Run B q p w q) (hne : ws ≠ []) : lawTold B p q ws = toldP B p q := by
  have hne2 : shuf B p q ≠ [] := by
    obtain ⟨w, hw⟩ := List.exists_mem_of_ne_nil _ hne
    exact List.ne_nil_of_mem (mem_shuf.mpr ((hws w).mp hw))
  obtain ⟨w0, ws', rfl⟩ := List.exists_cons_of_ne_nil hne
  have h0 : w0 ∈ w0 :: ws' := List.mem_cons_self ..
  have lens : ∀ w ∈ w0 :: ws', (wayI p.1 q.1).length = zc w ∧ (wayI p.2 q.2).length = oc w := fun w hw => by
    have := shuf_len (mem_shuf.mpr ((hws w).mp hw))
    rw [len_wayI, len_wayI]; omega
  have gl : ∀ w ∈ w0 :: ws', lineOf q p w = lineG w (wayI p.1 q.1) (wayI p.2 q.2) := fun w hw => lineOf_G w p ((hws w).mp hw)
  have hmem : ∀ w ∈ w0 :: ws', ∀ e, e ∈ lineOf q p w ↔ (e.1 = .z ∧ e.2 ∈ wayI p.1 q.1) ∨ (e.1 = .o ∧ e.2 ∈ wayI p.2 q.2) := fun w hw e => by
    rw [gl w hw]; exact mem_lineG w _ _ (lens w hw).1 (lens w hw).2 e
  have hzo : ∀ w ∈ w0 :: ws', ∀ (i j : Nat), i < (wayI p.1 q.1).length → j < (wayI p.2 q.2).length → (pl (lineOf q p w) (.z, getI (wayI p.1 q.1) i) < pl (lineOf q p w) (.o, getI (wayI p.2 q.2) j) ↔ azi i w ≤ j) := fun w hw i j hi hj => by
    rw [gl w hw, pl_zo w _ _ (lens w hw).1 (lens w hw).2 (nodup_wayI _ _) (nodup_wayI _ _) i j _ _ (at_getI hi) (at_getI hj)]
    unfold azi; simp
  have hne3 : ∀ w ∈ w0 :: ws', ∀ (i j : Nat), i < (wayI p.1 q.1).length → j < (wayI p.2 q.2).length → pl (lineOf q p w) (.z, getI (wayI p.1 q.1) i) ≠ pl (lineOf q p w) (.o, getI (wayI p.2 q.2) j) := fun w hw i j hi hj h => by
    have := pl_inj ((hmem w hw _).mpr (.inl ⟨rfl, List.mem_of_getElem? (at_getI hi)⟩)) h
    simp at this
  unfold lawTold toldP
  rw [List.headD_cons]
  refine sortE_congr (ltRaw_nodup (by rw [gl w0 h0]; exact nodup_lineG w0 _ _ (lens w0 h0).1 (lens w0 h0).2 (nodup_wayI _ _) (nodup_wayI _ _))) (tdRaw_nodup hne2) ?_
  rintro ⟨⟨k, x⟩, ⟨l, y⟩⟩
  have etd : ∀ z, z ∈ tdRaw B p q ↔ z ∈ toldP B p q := fun z => (mem_sortE _ _).symm
  rw [etd, mem_ltRaw, hmem w0 h0, hmem w0 h0]
  constructor
  · rintro ⟨h1, h2, h3, h4⟩
    have h4' : ∀ w ∈ w0 :: ws', pl (lineOf q p w) (k, x) ≤ pl (lineOf q p w) (l, y) := fun w hw => h4 _ (List.mem_map_of_mem hw)
    rcases h1 with ⟨h1, h1'⟩ | ⟨h1, h1'⟩ <;> rcases h2 with ⟨h2, h2'⟩ | ⟨h2, h2'⟩ <;> simp only at h1 h1' h2 h2' h3 <;> subst h1 <;> subst h2
    · exact absurd rfl h3
    · obtain ⟨i, hi⟩ := List.getElem?_of_mem h1'
      obtain ⟨j, hj⟩ := List.getElem?_of_mem h2'
      have li := (List.getElem?_eq_some_iff.mp hi).1
      have lj := (List.getElem?_eq_some_iff.mp hj).1
      rw [← getI_at hi, ← getI_at hj] at h4' ⊢
      refine (told_zo hne2 li lj).mpr ?_
      have hm : hi1 B p q i ∈ (shuf B p q).map (azi i) := (lmax_mem _ (fun z => hne2 (List.map_eq_nil_iff.mp z))).1
      obtain ⟨w, hw, e⟩ := List.mem_map.mp hm
      have hw2 := (hws w).mpr (mem_shuf.mp hw)
      have h5 := h4' w hw2
      have h6 := hne3 w hw2 i j li lj
      rw [← e]
      exact (hzo w hw2 i j li lj).mp (by omega)
    · obtain ⟨j, hj⟩ := List.getElem?_of_mem h1'
      obtain ⟨i, hi⟩ := List.getElem?_of_mem h2'
      have li := (List.getElem?_eq_some_iff.mp hi).1
      have lj := (List.getElem?_eq_some_iff.mp hj).1
      rw [← getI_at hi, ← getI_at hj] at h4' ⊢
      refine (told_oz hne2 li lj).mpr ?_
      have hm : lo1 B p q i ∈ (shuf B p q).map (azi i) := (lmin_mem _ (fun z => hne2 (List.map_eq_nil_iff.mp z))).1
      obtain ⟨w, hw, e⟩ := List.mem_map.mp hm
      have hw2 := (hws w).mpr (mem_shuf.mp hw)
      have h5 := h4' w hw2
      have h6 := hzo w hw2 i j li lj
      rw [← e]
      by_cases h7 : azi i w ≤ j
      · have := h6.mpr h7; omega
      · omega
    · exact absurd rfl h3
  · intro h
    obtain ⟨i, hi, ⟨k', ⟨k0, k1⟩, e⟩ | ⟨k', ⟨k0, k1⟩, e⟩⟩ := mem_told.mp h
    · have hb := lo_hi hne2 (i : Int)
      have ek : k' = (k'.toNat : Int) := by omega
      rw [ek] at e k1
      simp only [Prod.mk.injEq] at e
      obtain ⟨⟨rfl, rfl⟩, rfl, rfl⟩ := e
      have hj : k'.toNat < (wayI p.2 q.2).length := by omega
      refine ⟨.inr ⟨rfl, List.mem_of_getElem? (at_getI hj)⟩, .inl ⟨rfl, List.mem_of_getElem? (at_getI hi)⟩, by simp, fun l hl => ?_⟩
      obtain ⟨w, hw, rfl⟩ := List.mem_map.mp hl
      have h1 := hzo w hw i k'.toNat hi hj
      have h2 := hb.2.2 w (mem_shuf.mpr ((hws w).mp hw))
      by_cases h7 : azi i w ≤ (k'.toNat : Nat)
      · omega
      · have : ¬ pl (lineOf q p w) (.z, getI (wayI p.1 q.1) i) < pl (lineOf q p w) (.o, getI (wayI p.2 q.2) (k'.toNat : Nat)) := fun z => h7 (h1.mp z)
        omega
    · have hb := lo_hi hne2 (i : Int)
      have ek : k' = (k'.toNat : Int) := by omega
      rw [ek] at e k1 k0
      simp only [Prod.mk.injEq] at e
      obtain ⟨⟨rfl, rfl⟩, rfl, rfl⟩ := e
      have hj : k'.toNat < (wayI p.2 q.2).length := by omega
      refine ⟨.inl ⟨rfl, List.mem_of_getElem? (at_getI hi)⟩, .inr ⟨rfl, List.mem_of_getElem? (at_getI hj)⟩, by simp, fun l hl => ?_⟩
      obtain ⟨w, hw, rfl⟩ := List.mem_map.mp hl
      have h1 := hzo w hw i k'.toNat hi hj
      have h2 := hb.2.2 w (mem_shuf.mpr ((hws w).mp hw))
      exact Nat.le_of_lt (h1.mpr (by omega))
end HB

set_option Elab.async false
set_option linter.all false
set_option maxRecDepth 100000
set_option maxHeartbeats 4000000
set_option autoImplicit false
namespace HB
open PySem PySem.Spec L2
open En (enc)
section
variable {P : Program} {w : World} {K : PySem.W.Frag} {mg : Str → Option Value} {base : Heap}
local macro_rules | `(tactic| walk_at "rd") => `(tactic| simp [-List.any_eq_true, -List.any_eq_false, sSeq, sIf, sRt, sNx, sAs, sOw, sFz, sDo, sNo, sApp, gNm, gTp_t, gC_c, gN_n, xB, xZ, xA, xK, getZ, getA, fzz, x2, xAnd, xOr, xNot, xAndV, xOrV, xNotV, xIf, xChain, xFn, xTup, xLst, xNil, xCons, xCatL, xCatT, xSlL, xSlT, xNoP, xSoP, xThenL, xTupOf, xRngL, xSort, xSortSet, xSortK, xSumV, xDget, xDictOf, xTIndex, xTupF, xCatF, xRevT, xRngL3, xRngT, xRow, gRow, xLen0, xCell, xCallR, xIsi, xIsi2, xCall, xDnew, xDone, xGetD, xInD, xYes, sFor, iL, iT, iR1, iR2, iR3, iEnT, iEnL, iKs, iLn, xLc, kOk_p, any_p, dlk_p, put_p, dne0_p, deq0_p, dne0_i, dne0_w, deq0_w, encM_len, sMix, xMo, xMf, xMn, setS, gSbD, gSb, cut_take, cut_drop, ex2_eq, kOk_kk, put_kk, kOk_k3, dlk_k3, put_k3, itw0, itw1, wb_nt, wb_tu, wb_len, kOk_h, dlk_h, put_h, getD_h, sAugM, rngD_0, wip, dseq_t, dseq_l, deq_il, rngD_rg, dnD_dn, disN_n, dnotN_n, isNo, start', startR, rwAt, rwSet, dint, itb0, itb1, itb2, bk_nt, bk_tu, bk_len, encL_list, list_encL, len_L, len_l, len_t, it2_0, it2_1, it3_0, it3_1, it3_2, il2_0, il2_1, il1_0, it2_v, it2_n, icmp_i, isub_i, iadd_i, din_i, din_iL, deq_i, dne_i, deq_b, dne_b, nd_i, nd_b, nd_s, nd_n, nd_l, nd_t, ik_ii, ik_ib, ik_tt, small, dabs, dmax2, sum_L, enc_i, enc_b, enc_k, enc_p, enc_3, enc_l])
def S_law_straight : SpT := fun ds W => ∃ (B : Bk), ds = [bkD B] ∧ 0 ≤ B.r ∧ B.r ≤ 4 ∧ ∀ v : Bool, (v = true → Straight B) → W (.bool v)
theorem ln_law_straight {ds : List PyData} {W : PyData → Prop} (h : S_law_straight ds W) : ds.length = 1 := by obtain ⟨_, e, _⟩ := h; rw [e]; rfl
theorem fromW_nop {B : Bk} {p : Pr} {m : Mp} (F : FromW B p m) (h : ∀ a b x : Int, ((a, b), x) ∈ m → alook m (a, b) = some (offP (p.1, p.2) (a, b))) : ∀ q k, Path B p q k → ∃ k', Path B p q k' ∧ (k' : Int) = offP p q := by
  intro q k hp
  obtain ⟨⟨q', n⟩, hm, e⟩ := List.mem_map.mp (F.all q k hp)
  simp only at e
  subst e
  obtain ⟨k', e2, hp2⟩ := F.pa _ _ hm
  refine ⟨k', hp2, ?_⟩
  have := h q'.1 q'.2 n hm
  rw [show (q'.1, q'.2) = q' from rfl, alook_mem F.nd hm] at this
  have := Option.some.inj this
  rw [show (p.1, p.2) = p from rfl] at this
  omega
def StrAt (B : Bk) (l : List Pr) : Prop := ∀ p ∈ l, ∀ q k, Path B p q k → ∃ k', Path B p q k' ∧ (k' : Int) = offP p q
theorem StrAt.all {B : Bk} (h : StrAt B (allPairs B.r)) : Straight B := fun p q k hb hp => h p (mem_allPairs.mpr hb) q k hp
theorem sumH_off (p q : Pr) : sumH [p.1, p.2] [q.1, q.2] = offP p q := by
  unfold sumH offP
  simp [List.range, List.range.loop, getI]
theorem df_law_straight (G_law_pairs : Df P w K mg base "_law_pairs" 1 S_law_pairs) (G_law_from : Df P w K mg base "_law_from" 3 S_law_from) (G_law_off : Df P w K mg base "_law_off" 1 S_law_off) (Fn_law_straight : Fn K mg "_law_straight" "_law_straight" 67) : Df P w K mg base "_law_straight" 4 S_law_straight := by
  refine mkfn Fn_law_straight sc_law_straight (fun kV doc pm an cdv ct us h => by rcases us with _ | ⟨x0, _ | ⟨x1, r1⟩⟩ <;> first | rfl | (simp at h)) (by intro ds W h; exact ln_law_straight h) fun f cdv A outer s H F E hr => ⟨_, (jbcons (jfor (pr := false) PassesOwn.never rfl (jiL (jcall G_law_pairs ⟨rfl, rfl⟩ (hr.mono (by decide)) (jcons (jix (ja 0) (jc ji)) jnil))) (jgn (i := 1) sc_law_straight.nd) (jbcons (jset (i := 2) sc_law_straight.nd (jcall G_law_from ⟨rfl, rfl⟩ hr (jcons (jz 0) (jcons (jz 1) jnil))))
    (jbone (jifs (jcmpT (o_ne hr.units) (jc_f (jlc [("_law_other", 3)] rfl sc_law_straight.nd (jiKeys rfl (jz 2)) (blkOk_by (N := N_law_straight) (sc := defScope (top 67)) (own := [("_law_other", 3)]) (by decide +kernel)) (fun _ _ _ _ _ => (jgn (i := 3) sc_law_straight.nd)) (fun _ _ _ _ _ => (jtone (jcmpT (o_ne hr.units) (jc (jdix ⟨rfl, rfl⟩ hr.u_d (ja 2) (jz 3))) (jc (jcall G_law_off ⟨rfl, rfl⟩ (hr.mono (by decide)) (jcons (jz 1) (jcons (jz 3) jnil))))))) (fun _ _ _ _ _ => (jz 3)))) (jc_f (jlst jnil))) (jbone (jret jb)) jbnil))))
    (jbone (jret jb))), ?_⟩
  intro ds W h
  obtain ⟨B, rfl, r0, r1, h⟩ := h
  walk_at "rd"
  rw [u_law_pairs ⟨r0, r1⟩]
  walk_at "rd"
  refine loop_rel (allPairs B.r) (fun (_ : Unit) (e : Slo × Slo) => [.fz (bkD B), e.1, e.2, .no]) (fun pre _ => StrAt B pre) () (.no, .no) rfl (fun p hp => by cases hp) ?_ ?_
  · intro pre p post hl _ e J
    have hb : box B.r p := mem_allPairs.mp (by rw [hl]; exact List.mem_append_right _ (List.mem_cons_self ..))
    walk_at "rd"
    refine u_law_from hb r1 fun m F => ?_
    have hlen : m.length ≤ 25 := keys_len hb r1 F.nd fun q n hq => let ⟨k, _, hp⟩ := F.pa q n hq; ⟨k, hp⟩
    have e1 : (encM PyData.int m).map (·.1) = (m.map (·.1)).map enc := encM_keys .int m
    walk_at "rd"
    rw [e1]
    refine lc_ofE (m.map (·.1)) (fun q => !decide (alook m q = some (offP (p.1, p.2) q))) (fun q => q) (by rw [List.length_map]; omega) (fun q hq K1 K0 k1 k0 => ?_) ?_
    · obtain ⟨⟨q2, n⟩, hqm, e2⟩ := List.mem_map.mp hq
      simp only at e2
      subst e2
      have hlk : alook m (q2.1, q2.2) = some n := alook_mem F.nd hqm
      walk_at "rd"
      simp only [hlk, Option.some.injEq, exists_eq_left']
      refine u_law_off (a := [p.1, p.2]) (b := [q2.1, q2.2]) rfl (by simp) ?_
      rw [sumH_off]
      walk_at "rd"
      have hlk' : alook m q2 = some n := hlk
      by_cases hn : n = offP p q2
      · exact .inl ⟨hn, k0 (by rw [hlk', hn]; simp)⟩
      · exact .inr ⟨hn, k1 (by rw [hlk']; simp; exact hn)⟩
    · walk_at "rd"
      by_cases hn : ∀ a b x : Int, ((a, b), x) ∈ m → alook m (a, b) = some (offP (p.1, p.2) (a, b))
      · refine .inl ⟨hn, fun p' hp' => ?_⟩
        rcases List.mem_append.mp hp' with z | z
        · exact J p' z
        · rw [List.mem_singleton.mp z]; exact fromW_nop F hn
      · refine .inr ⟨?_, h false (fun z => by cases z)⟩
        simp only [Classical.not_forall] at hn
        obtain ⟨a, b, x, h1, h2⟩ := hn
        exact ⟨a, b, ⟨x, h1⟩, h2⟩
  · intro _ e J
    walk_at "rd"
    exact h true fun _ => J.all

def SS_law_shuffles : Nat → SpT
  | 0 => fun _ _ => False
  | n + 1 => fun ds W => ∃ (B : Bk) (p q : Pr), ds = [bkD B, enc p, enc q] ∧ offP p q ≤ n ∧ n ≤ 8 ∧ W (encL (shL B q n p))
abbrev S_law_shuffles : SpT := SS_law_shuffles 9
theorem ln_law_shuffles {n : Nat} {ds : List PyData} {W : PyData → Prop} (h : SS_law_shuffles (n + 1) ds W) : ds.length = 3 := by obtain ⟨_, _, _, e, _⟩ := h; rw [e]; rfl
theorem u_law_shuffles {n : Nat} {B : Bk} {p q : Pr} (ho : offP p q ≤ n) (h8 : n ≤ 8) {W : PyData → Prop} (h : W (encL (shL B q n p))) : SS_law_shuffles (n + 1) [bkD B, .tuple [.int p.1, .int p.2], .tuple [.int q.1, .int q.2]] W := ⟨B, p, q, rfl, ho, h8, h⟩
theorem shL_wlen {B : Bk} {q : Pr} : ∀ (n : Nat) (p : Pr) (w : List Pc), w ∈ shL B q n p → w.length ≤ n
  | 0, _, w, h => by
    simp only [shL, List.mem_singleton] at h; subst h; simp
  | n + 1, p, w, h => by
    unfold shL at h
    split at h
    · simp only [List.mem_singleton] at h; subst h; simp
    · obtain ⟨k, v, rfl, _, hv⟩ := mem_shLs.mp h
      have := shL_wlen n _ v hv
      rw [List.length_cons]; omega
theorem shLs_len {B : Bk} {q p : Pr} {n : Nat} : ∀ (l : List Pc) (b : List (List Pc)), (l.foldl (shLs B q (shL B q n) p) b).length ≤ b.length + 2 ^ n * l.length
  | [], b => by simp
  | k :: l, b => by
    have h := shLs_len (B := B) (q := q) (p := p) (n := n) l (shLs B q (shL B q n) p b k)
    have h2 : (shLs B q (shL B q n) p b k).length ≤ b.length + 2 ^ n := by
      unfold shLs; split
      · have := shL_len (B := B) (q := q) n (shTo q p k)
        rw [List.length_append, List.length_map]; omega
      · exact Nat.le_add_right _ _
    rw [List.foldl_cons, List.length_cons, Nat.mul_add, Nat.mul_one]; omega
theorem dfr_law_shuffles (G_law_lets : Df P w K mg base "_law_lets" 1 S_law_lets) (h_tuple : mg "tuple" = none) (Fn_law_shuffles : Fn K mg "_law_shuffles" "_law_shuffles" 68) : ∀ n : Nat, Df P w K mg base "_law_shuffles" (n + 1) (SS_law_shuffles n) := by
  intro n
  induction n with
  | zero => exact mkfn Fn_law_shuffles sc_law_shuffles (fun kV doc pm an cdv ct us h => by rcases us with _ | ⟨x0, _ | ⟨x1, _ | ⟨x2, _ | ⟨x3, r3⟩⟩⟩⟩ <;> first | rfl | (simp at h)) (by intro ds W h; exact h.elim) fun f cdv A outer s H F E hr => ⟨fun _ _ _ => False, ⟨fun _ _ _ _ _ _ h => by obtain ⟨_, _, _, _, _, h, _⟩ := h; exact h.elim⟩, fun ds W h => h.elim⟩
  | succ n ih =>
    have G_law_shuffles := ih
    refine mkfn Fn_law_shuffles sc_law_shuffles (fun kV doc pm an cdv ct us h => by rcases us with _ | ⟨x0, _ | ⟨x1, _ | ⟨x2, _ | ⟨x3, r3⟩⟩⟩⟩ <;> first | rfl | (simp at h)) (by intro ds W h; exact ln_law_shuffles h) fun f cdv A outer s H F E hr => ⟨_, (jbcons (jifs (jcmpT (o_eq hr.units) (ja 1) (ja 2)) (jbone (jret (je_f (jlst (jcons (jtup jnil) jnil))))) jbnil)
    (jbcons (jset (i := 3) sc_law_shuffles.nd (je_f (jlst jnil)))
    (jbcons (jfor (pr := false) PassesOwn.never rfl (jiL (je_f (jlst (jcons ji (jcons ji jnil))))) (jgn (i := 4) sc_law_shuffles.nd) (jbcons (jset (i := 5) sc_law_shuffles.nd (jcmp o_lt (jc (jix (ja 1) (ja 4))) (jc (jix (ja 2) (ja 4)))))
    (jbone (jifs (jw (jw_and (jcmpT (o_ne hr.units) (jc (jix (ja 1) (ja 4))) (jc (jix (ja 2) (ja 4)))) (jw_and1 (jt (jc (jcall G_law_lets ⟨rfl, rfl⟩ (hr.mono (by omega)) (jcons (jz 0) (jcons (jix (ja 1) (ja 4)) (jcons (jix (ja 1) (jc (jsub (jc ji) (ja 4)))) (jcons (jz 5) jnil)))))))))) (jbcons (jown (i := 6) sc_law_shuffles.nd (jlst (jcons (jix (ja 1) (jc ji)) (jcons (jix (ja 1) (jc ji)) jnil))))
    (jbcons (jas (pr := false) (jadd (jc (jix (ja 6) (ja 4))) (jc (jif (jt (ja 5)) ji (jsub (jc ji) (jc ji))))) (jgsub 6 (pv 6) (ja 4)))
    (jbone (jset (i := 3) sc_law_shuffles.nd (je_f (jcatL (ja 3) (jc_f (jlc [("_law_word", 7)] rfl sc_law_shuffles.nd (jiL (jcall G_law_shuffles ⟨rfl, rfl⟩ (hr.mono (by omega)) (jcons (jz 0) (jcons (jtupOf h_tuple (ja 6)) (jcons (jz 2) jnil))))) (blkOk_by (N := N_law_shuffles) (sc := defScope (top 68)) (own := [("_law_word", 7)]) (by decide +kernel)) (fun _ _ _ _ _ => (jgn (i := 7) sc_law_shuffles.nd)) (fun _ _ _ _ _ => jtnil) (fun _ _ _ _ _ => (jcatT (jtup (jcons (jz 4) jnil)) (jz 7))))))))))) jbnil))))
    (jbone (jret (jz 3)))))), ?_⟩
    intro ds W h
    obtain ⟨B, p, q, rfl, ho, h8, h⟩ := h
    walk_at "rd"
    have e0 : deq (PyData.tuple [PyData.int p.fst, PyData.int p.snd]) (PyData.tuple [PyData.int q.fst, PyData.int q.snd]) = some (.bool (decide (p = q))) := deqE (α := Pr) (by decide) p q
    refine ⟨_, e0, ?_⟩
    by_cases hpq : p = q
    · rw [decide_eq_true hpq]
      have e1 : shL B q n p = [[]] := by
        cases n with
        | zero => rfl
        | succ n => unfold shL; rw [if_pos hpq]
      rw [e1] at h
      exact .inr ⟨rfl, h⟩
    rw [decide_eq_false hpq]
    refine .inl ⟨rfl, ?_⟩
    obtain ⟨n', rfl⟩ : ∃ n', n = n' + 1 := ⟨n - 1, by
      have : offP p q ≠ 0 := fun z => hpq (offP_0 z)
      have := offP_nn p q
      omega⟩
    unfold shL at h
    rw [if_neg hpq] at h
    have hpow : 2 ^ n' ≤ 2 ^ 8 := Nat.pow_le_pow_right (by decide) (by omega)
    refine loop_fold (en := fun k : Pc => PyData.int k.v) [.z, .o] (fun (b : List (List Pc)) (e : Slo × Slo × Slo) => [.fz (bkD B), .fz (.tuple [.int p.1, .int p.2]), .fz (.tuple [.int q.1, .int q.2]), .fz (encL b), e.1, e.2.1, e.2.2, .no]) (shLs B q (shL B q n') p) [] (.no, .no, .no) rfl ?_ ?_
    · intro pre k post hl e
      have l2 := shLs_len (B := B) (q := q) (p := p) (n := n') pre []
      have l3 := congrArg List.length hl
      rw [List.length_append, List.length_cons] at l3
      simp only [List.length_cons, List.length_nil] at l3 l2
      have l4 : 2 ^ n' * pre.length ≤ 2 ^ n' * 2 := Nat.mul_le_mul_left _ (by omega)
      generalize pre.foldl (shLs B q (shL B q n') p) [] = b at l2
      walk_at "rd"
      by_cases h1 : co (p.1, p.2) k = co (q.1, q.2) k
      · exact .inl ⟨h1, by unfold shLs; rw [if_neg (fun z => z.1 h1)]⟩
      refine .inr ⟨h1, ?_⟩
      rw [u_law_lets]
      walk_at "rd"
      cases hc : lets B (co (p.1, p.2) k) (co (p.1, p.2) k.n) (decide (co (p.1, p.2) k < co (q.1, q.2) k))
      · refine .inl ⟨rfl, ?_⟩
        unfold shLs; rw [if_neg (fun z => by have := z.2; rw [show lets B (co p k) (co p k.n) (decide (co p k < co q k)) = false from hc] at this; cases this)]
      · refine .inr ⟨rfl, ?_⟩
        have hok : shOk B q p k := ⟨h1, hc⟩
        have hof := shOk_off hok
        unfold shLs
        rw [if_pos hok]
        have hlen : (shL B q n' (shTo q p k)).length ≤ 2 ^ n' := shL_len n' _
        cases k with
        | z =>
          by_cases hlt : p.1 < q.1
          · have es : shTo q p .z = (p.1 + 1, p.2) := by rw [shTo_z, if_pos hlt]
            rw [es] at hlen hof ⊢
            refine ⟨.int p.1, rfl, .inr ⟨hlt, _, rfl, 0, rfl, ?_⟩⟩
            refine u_law_shuffles (p := (p.1 + 1, p.2)) (by omega) (by omega) ?_
            walk_at "rd"
            refine lc_allE (shL B q n' (p.1 + 1, p.2)) (fun w => Pc.z :: w) (by omega) (fun w hw K1 k1 => ?_) ?_
            · walk_at "rd"
              have := shL_wlen n' _ w hw
              exact ⟨by omega, k1⟩
            · walk_at "rd"
              omega
          · have es : shTo q p .z = (p.1 + -1, p.2) := by rw [shTo_z, if_neg (by omega)]; rfl
            rw [es] at hlen hof ⊢
            refine ⟨.int p.1, rfl, .inl ⟨Int.not_lt.mp hlt, _, rfl, 0, rfl, ?_⟩⟩
            refine u_law_shuffles (p := (p.1 + -1, p.2)) (by omega) (by omega) ?_
            walk_at "rd"
            refine lc_allE (shL B q n' (p.1 + -1, p.2)) (fun w => Pc.z :: w) (by omega) (fun w hw K1 k1 => ?_) ?_
            · walk_at "rd"
              have := shL_wlen n' _ w hw
              exact ⟨by omega, k1⟩
            · walk_at "rd"
              omega
        | o =>
          by_cases hlt : p.2 < q.2
          · have es : shTo q p .o = (p.1, p.2 + 1) := by rw [shTo_o, if_pos hlt]
            rw [es] at hlen hof ⊢
            refine ⟨.int p.2, rfl, .inr ⟨hlt, _, rfl, 1, rfl, ?_⟩⟩
            refine u_law_shuffles (p := (p.1, p.2 + 1)) (by omega) (by omega) ?_
            walk_at "rd"
            refine lc_allE (shL B q n' (p.1, p.2 + 1)) (fun w => Pc.o :: w) (by omega) (fun w hw K1 k1 => ?_) ?_
            · walk_at "rd"
              have := shL_wlen n' _ w hw
              exact ⟨by omega, k1⟩
            · walk_at "rd"
              omega
          · have es : shTo q p .o = (p.1, p.2 + -1) := by rw [shTo_o, if_neg (by omega)]; rfl
            rw [es] at hlen hof ⊢
            refine ⟨.int p.2, rfl, .inl ⟨Int.not_lt.mp hlt, _, rfl, 1, rfl, ?_⟩⟩
            refine u_law_shuffles (p := (p.1, p.2 + -1)) (by omega) (by omega) ?_
            walk_at "rd"
            refine lc_allE (shL B q n' (p.1, p.2 + -1)) (fun w => Pc.o :: w) (by omega) (fun w hw K1 k1 => ?_) ?_
            · walk_at "rd"
              have := shL_wlen n' _ w hw
              exact ⟨by omega, k1⟩
            · walk_at "rd"
              omega
    · intro e
      walk_at "rd"
      exact h
theorem df_law_shuffles (G_law_lets : Df P w K mg base "_law_lets" 1 S_law_lets) (h_tuple : mg "tuple" = none) (Fn_law_shuffles : Fn K mg "_law_shuffles" "_law_shuffles" 68) : Df P w K mg base "_law_shuffles" 10 S_law_shuffles := dfr_law_shuffles G_law_lets h_tuple Fn_law_shuffles 9

def S_law_courses : SpT := fun ds W => ∃ (B : Bk), ds = [bkD B] ∧ 0 ≤ B.r ∧ B.r ≤ 4 ∧ W (encL (courses B))
theorem ln_law_courses {ds : List PyData} {W : PyData → Prop} (h : S_law_courses ds W) : ds.length = 1 := by obtain ⟨_, e, _⟩ := h; rw [e]; rfl
theorem u_law_courses {B : Bk} (h0 : 0 ≤ B.r) (h1 : B.r ≤ 4) {W : PyData → Prop} : S_law_courses [bkD B] W ↔ W (encL (courses B)) := ⟨fun ⟨B', e, _, _, h⟩ => by
  simp only [List.cons.injEq, and_true] at e
  rw [bkD_inj e]; exact h, fun h => ⟨B, rfl, h0, h1, h⟩⟩
theorem df_law_courses (G_law_pairs : Df P w K mg base "_law_pairs" 1 S_law_pairs) (G_law_shuffles : Df P w K mg base "_law_shuffles" 10 S_law_shuffles) (Fn_law_courses : Fn K mg "_law_courses" "_law_courses" 69) : Df P w K mg base "_law_courses" 11 S_law_courses := by
  refine mkfn Fn_law_courses sc_law_courses (fun kV doc pm an cdv ct us h => by rcases us with _ | ⟨x0, _ | ⟨x1, r1⟩⟩ <;> first | rfl | (simp at h)) (by intro ds W h; exact ln_law_courses h) fun f cdv A outer s H F E hr => ⟨_, (jbcons (jset (i := 1) sc_law_courses.nd (je_f (jlst jnil)))
    (jbcons (jfor (pr := false) PassesOwn.never rfl (jiL (jcall G_law_pairs ⟨rfl, rfl⟩ (hr.mono (by decide)) (jcons (jix (ja 0) (jc ji)) jnil))) (jgn (i := 2) sc_law_courses.nd) (jbone (jset (i := 1) sc_law_courses.nd (je_f (jcatL (ja 1) (jc_f (jlc [("_law_other", 3)] rfl sc_law_courses.nd (jiL (jcall G_law_pairs ⟨rfl, rfl⟩ (hr.mono (by decide)) (jcons (jix (ja 0) (jc ji)) jnil))) (blkOk_by (N := N_law_courses) (sc := defScope (top 69)) (own := [("_law_other", 3)]) (by decide +kernel)) (fun _ _ _ _ _ => (jgn (i := 3) sc_law_courses.nd)) (fun _ _ _ _ _ => (jtone (jcmpT (o_ne hr.units) (jc (jcall G_law_shuffles ⟨rfl, rfl⟩ hr (jcons (jz 0) (jcons (jz 2) (jcons (jz 3) jnil))))) (jc_f (jlst jnil))))) (fun _ _ _ _ _ => (jtup (jcons (jz 2) (jcons (jz 3) jnil)))))))))))
    (jbone (jret (jz 1))))), ?_⟩
  intro ds W h
  obtain ⟨B, rfl, h0, h1, h⟩ := h
  walk_at "rd"
  rw [u_law_pairs ⟨h0, h1⟩]
  walk_at "rd"
  refine loop_fold (allPairs B.r) (fun (b : List (Pr × Pr)) (e : Slo) => [.fz (bkD B), .fz (encL b), e, .no]) (coStep B) [] .no rfl ?_ ?_
  · intro pre p post hl e
    have hp : box B.r p := mem_allPairs.mp (by rw [hl]; exact List.mem_append_right _ (List.mem_cons_self ..))
    have hap := allPairs_len h1
    have hb := co_len h1 pre []
    have hpl := congrArg List.length hl
    rw [List.length_append, List.length_cons] at hpl
    generalize hbb : pre.foldl (coStep B) [] = bb at hb
    simp at hb
    rw [coStep]
    walk_at "rd"
    rw [u_law_pairs ⟨h0, h1⟩]
    walk_at "rd"
    refine lc_ofE (allPairs B.r) (fun q => !(shuf B p q).isEmpty) (fun q => (p, q)) (by omega) (fun q hq K1 K0 k1 k0 => ?_) ?_
    · have hq' := mem_allPairs.mp hq
      have h8 := same_len_box hp hq' h1
      walk_at "rd"
      refine u_law_shuffles h8 (Nat.le_refl _) ?_
      have hiff := shL_ne (B := B) (p := p) (q := q) (n := 8) h8
      walk_at "rd"
      by_cases hc : shuf B p q = []
      · have : shL B q 8 p = [] := Classical.not_not.mp fun z => hiff.mp z hc
        refine .inl ⟨this, k0 (by rw [hc]; rfl)⟩
      · refine .inr ⟨hiff.mpr hc, k1 (by cases z : shuf B p q with | nil => exact absurd z hc | cons => rfl)⟩
    · have := List.length_filter_le (fun q => !(shuf B p q).isEmpty) (allPairs B.r)
      walk_at "rd"
      omega
  · intro e
    walk_at "rd"
    exact h

def loSum (f s : List Ev) (P : List (Ev × Ev)) : Int := ((loAll (okzL f s P) (okoL f s P) (rgI 0 ((f.length : Int) + s.length))).map (·.2)).sum
structure LoGood (n m : Int) (rows : List (Pr × Int)) : Prop where
  nd : (rows.map (·.1)).Nodup
  bx : ∀ k ∈ rows.map (·.1), (0 ≤ k.1 ∧ k.1 ≤ n) ∧ 0 ≤ k.2 ∧ k.2 ≤ m
theorem LoGood.put {n m : Int} {rows : List (Pr × Int)} (G : LoGood n m rows) {k : Pr} {v : Int} (h : (0 ≤ k.1 ∧ k.1 ≤ n) ∧ 0 ≤ k.2 ∧ k.2 ≤ m) : LoGood n m (aput rows k v) := ⟨aput_nodup G.nd k v, fun x hx => by
  rcases mem_keys_aput.mp hx with z | z
  · exact G.bx x z
  · rw [z]; exact h⟩
theorem allP10 : (allPairs 10).length = 121 := by decide
theorem LoGood.len {n m : Int} {rows : List (Pr × Int)} (G : LoGood n m rows) (hn : n ≤ 10) (hm : m ≤ 10) : rows.length ≤ 121 := by
  have h1 := nodup_sub_len (l' := allPairs 10) G.nd fun x hx => by
    have := G.bx x hx
    exact mem_allPairs.mpr ⟨⟨by omega, by omega⟩, by omega, by omega⟩
  rw [List.length_map, allP10] at h1; exact h1
theorem LoGood.step {f s : List Ev} {P : List (Ev × Ev)} {rows more : List (Pr × Int)} {p : Pr} (hp : 0 ≤ p.1 ∧ 0 ≤ p.2) (hp2 : p.1 ≤ f.length ∧ p.2 ≤ s.length) (G : LoGood f.length s.length more) : LoGood f.length s.length (loStep (okzL f s P) (okoL f s P) rows more p) := by
  unfold loStep
  have h1 : okzL f s P p = true → p.1 < f.length := fun h => by unfold okzL at h; rw [Bool.and_eq_true] at h; exact of_decide_eq_true h.1
  have h2 : okoL f s P p = true → p.2 < s.length := fun h => by unfold okoL at h; rw [Bool.and_eq_true] at h; exact of_decide_eq_true h.1
  have G1 : LoGood f.length s.length (if okzL f s P p = true then loPut rows more p (p.1 + 1, p.2) else more) := by
    split
    · rename_i h; have := h1 h; exact G.put ⟨⟨by simp only; omega, by simp only; omega⟩, by simp only; omega, by simp only; omega⟩
    · exact G
  simp only
  split
  · rename_i h; have := h2 h; exact G1.put ⟨⟨by simp only; omega, by simp only; omega⟩, by simp only; omega, by simp only; omega⟩
  · exact G1
theorem LoGood.fold {f s : List Ev} {P : List (Ev × Ev)} {rows : List (Pr × Int)} : ∀ (l : List Pr) (more : List (Pr × Int)), (∀ k ∈ l, (0 ≤ k.1 ∧ k.1 ≤ f.length) ∧ 0 ≤ k.2 ∧ k.2 ≤ s.length) → LoGood f.length s.length more → LoGood f.length s.length (l.foldl (loStep (okzL f s P) (okoL f s P) rows) more)
  | [], more, _, G => G
  | p :: l, more, h, G => by
    have := h p (List.mem_cons_self ..)
    exact LoGood.fold l _ (fun k hk => h k (List.mem_cons_of_mem _ hk)) (G.step ⟨this.1.1, this.2.1⟩ ⟨this.1.2, this.2.2⟩)
theorem LoGood.nil (n m : Int) : LoGood n m [] := ⟨by simp, fun k hk => by simp at hk⟩
theorem LoGood.turns {f s : List Ev} {P : List (Ev × Ev)} : ∀ (l : List Int) (rows : List (Pr × Int)), LoGood f.length s.length rows → LoGood f.length s.length (l.foldl (fun r _ => loTurn (okzL f s P) (okoL f s P) r) rows)
  | [], rows, G => G
  | _ :: l, rows, G => LoGood.turns l _ (LoGood.fold _ [] G.bx (LoGood.nil _ _))
theorem it_V (l : List Ev) {i : Int} (h0 : 0 ≤ i) (h1 : i < l.length) : ditem (encL l) (.int i) = some (enc (getV l i)) := by
  unfold encL getV
  rw [it_L _ h0, List.getElem?_map, List.getElem?_eq_getElem (by omega)]; rfl
theorem okz_fil (f s : List Ev) (P : List (Ev × Ev)) (p : Pr) : okzL f s P p = (decide (p.1 < f.length) && ((rgI p.2 s.length).filter fun k => decide ((getV s k, getV f p.1) ∈ P)).isEmpty) := by
  unfold okzL
  congr 1
  rw [Bool.eq_iff_iff, List.all_eq_true, List.isEmpty_iff, List.filter_eq_nil_iff]
  simp
theorem oko_fil (f s : List Ev) (P : List (Ev × Ev)) (p : Pr) : okoL f s P p = (decide (p.2 < s.length) && ((rgI p.1 f.length).filter fun k => decide ((getV f k, getV s p.2) ∈ P)).isEmpty) := by
  unfold okoL
  congr 1
  rw [Bool.eq_iff_iff, List.all_eq_true, List.isEmpty_iff, List.filter_eq_nil_iff]
  simp
def S_law_orders : SpT := fun ds W => ∃ (f s : List Ev) (P : List (Ev × Ev)), ds = [encL f, encL s, encL P] ∧ f.length ≤ 10 ∧ s.length ≤ 10 ∧ W (.int (loSum f s P))
theorem ln_law_orders {ds : List PyData} {W : PyData → Prop} (h : S_law_orders ds W) : ds.length = 3 := by obtain ⟨_, _, _, e, _⟩ := h; rw [e]; rfl
theorem df_law_orders (h_len : mg "len" = none) (h_range : mg "range" = none) (h_sum : mg "sum" = none) (Fn_law_orders : Fn K mg "_law_orders" "_law_orders" 71) : Df P w K mg base "_law_orders" 1 S_law_orders := by
  refine mkfn Fn_law_orders sc_law_orders (fun kV doc pm an cdv ct us h => by rcases us with _ | ⟨x0, _ | ⟨x1, _ | ⟨x2, _ | ⟨x3, r3⟩⟩⟩⟩ <;> first | rfl | (simp at h)) (by intro ds W h; exact ln_law_orders h) fun f cdv A outer s H F E hr => ⟨_, (jbcons (jset (i := 3) sc_law_orders.nd (je_f (jdone ⟨rfl, rfl⟩ hr.u_d (jtup (jcons ji (jcons ji jnil))) ji)))
    (jbcons (jfor (pr := false) PassesOwn.never rfl (jiR1 h_range (jccons (jc (jadd (jc (jcallB b_len h_len (jccons (ja 0) jcnil))) (jc (jcallB b_len h_len (jccons (ja 1) jcnil))))) jcnil)) (jgn (i := 4) sc_law_orders.nd) (jbcons (jown (i := 5) sc_law_orders.nd (jdnew ⟨rfl, rfl⟩))
    (jbcons (jfor (pr := false) PassesOwn.never rfl (jiKeys rfl (jz 3)) (jgtp rfl (jgcons (jgn (i := 6) sc_law_orders.nd) (jgcons (jgn (i := 7) sc_law_orders.nd) jgnil))) (jbcons (jifs (jw (jw_and (jcmpT o_lt (ja 6) (jc (jcallB b_len h_len (jccons (ja 0) jcnil)))) (jw_and1 (jcmpT (o_eq hr.units) (jc_f (jlc [("_law_k", 8)] rfl sc_law_orders.nd (jiR2 h_range (jccons (ja 7) (jccons (jc (jcallB b_len h_len (jccons (ja 1) jcnil))) jcnil))) (blkOk_by (N := N_law_orders) (sc := defScope (top 71)) (own := [("_law_k", 8)]) (by decide +kernel)) (fun _ _ _ _ _ => (jgn (i := 8) sc_law_orders.nd)) (fun _ _ _ _ _ => (jtone (jcmpT (o_in hr.u65) (jc (jtup (jcons (jix (ja 1) (ja 8)) (jcons (jix (ja 0) (ja 6)) jnil)))) (ja 2)))) (fun _ _ _ _ _ => (jz 8)))) (jc_f (jlst jnil)))))) (jbone (jas (pr := false) (jadd (jc (jdget ⟨rfl, rfl⟩ hr.u_d (ja 5) (jtup (jcons (jadd (ja 6) (jc ji)) (jcons (jz 7) jnil))) ji)) (jc (jdix ⟨rfl, rfl⟩ hr.u_d (ja 3) (jtup (jcons (jz 6) (jcons (jz 7) jnil)))))) (jgsubD ⟨rfl, rfl⟩ hr.u_d 5 (pv 5) (jtup (jcons (jadd (ja 6) (jc ji)) (jcons (jz 7) jnil)))))) jbnil)
    (jbone (jifs (jw (jw_and (jcmpT o_lt (ja 7) (jc (jcallB b_len h_len (jccons (ja 1) jcnil)))) (jw_and1 (jcmpT (o_eq hr.units) (jc_f (jlc [("_law_k", 8)] rfl sc_law_orders.nd (jiR2 h_range (jccons (ja 6) (jccons (jc (jcallB b_len h_len (jccons (ja 0) jcnil))) jcnil))) (blkOk_by (N := N_law_orders) (sc := defScope (top 71)) (own := [("_law_k", 8)]) (by decide +kernel)) (fun _ _ _ _ _ => (jgn (i := 8) sc_law_orders.nd)) (fun _ _ _ _ _ => (jtone (jcmpT (o_in hr.u65) (jc (jtup (jcons (jix (ja 0) (ja 8)) (jcons (jix (ja 1) (ja 7)) jnil)))) (ja 2)))) (fun _ _ _ _ _ => (jz 8)))) (jc_f (jlst jnil)))))) (jbone (jas (pr := false) (jadd (jc (jdget ⟨rfl, rfl⟩ hr.u_d (ja 5) (jtup (jcons (jz 6) (jcons (jadd (ja 7) (jc ji)) jnil))) ji)) (jc (jdix ⟨rfl, rfl⟩ hr.u_d (ja 3) (jtup (jcons (jz 6) (jcons (jz 7) jnil)))))) (jgsubD ⟨rfl, rfl⟩ hr.u_d 5 (pv 5) (jtup (jcons (jz 6) (jcons (jadd (ja 7) (jc ji)) jnil)))))) jbnil))))
    (jbone (jfz 5 (jset (i := 3) sc_law_orders.nd (jz 5)))))))
    (jbone (jret (jsumV rfl h_sum (ja 3)))))), ?_⟩
  intro ds W h
  obtain ⟨f, s, P, rfl, f0, s0, h⟩ := h
  walk_at "rd"
  refine ⟨by omega, loop_fold (rgI 0 ((f.length : Int) + s.length)) (fun (rows : List (Pr × Int)) (e : Slo × Slo × Slo × Slo) => [.fz (encL f), .fz (encL s), .fz (encL P), .fz (dc (encM .int rows)), e.1, e.2.1, e.2.2.1, e.2.2.2, .no]) (fun r _ => loTurn (okzL f s P) (okoL f s P) r) [((0, 0), 1)] (.no, .no, .no, .no) rfl ?_ ?_⟩
  · intro pre tn post hl e
    have G := LoGood.turns (f := f) (s := s) (P := P) pre [((0, 0), 1)] ⟨by simp, fun k hk => by simp at hk; subst hk; simp only; omega⟩
    generalize pre.foldl (fun r _ => loTurn (okzL f s P) (okoL f s P) r) [((0, 0), 1)] = rows at G
    walk_at "rd"
    rw [encM_keys]
    refine loop_fold (rows.map (·.1)) (fun (more : List (Pr × Int)) (e : Slo × Slo) => [.fz (encL f), .fz (encL s), .fz (encL P), .fz (dc (encM .int rows)), .fz (.int tn), .ow (dc (encM .int more)), e.1, e.2, .no]) (loStep (okzL f s P) (okoL f s P) rows) [] (e.2.2.1, e.2.2.2) rfl ?_ ?_
    · rintro pre2 p post2 hl2 e2
      have hmem : p ∈ rows.map (·.1) := by rw [hl2]; exact List.mem_append_right _ (List.mem_cons_self ..)
      obtain ⟨⟨p0, p1⟩, p2, p3⟩ := G.bx p hmem
      have G2 := LoGood.fold (rows := rows) (P := P) pre2 [] (fun h hh => G.bx h (by rw [hl2]; exact List.mem_append_left _ hh)) (LoGood.nil f.length s.length)
      obtain ⟨vr, hvr⟩ := alook_some hmem
      generalize pre2.foldl (loStep (okzL f s P) (okoL f s P) rows) [] = more1 at G2
      walk_at "rd"
      have hm1 := G2.len (by omega) (by omega)
      have hvr2 : (alook rows p).getD 0 = vr := by rw [hvr]; rfl
      by_cases hi : p.1 < f.length
      · refine .inr ⟨hi, by omega, lc_ofE (rgI p.2 s.length) (fun k => decide ((getV s k, getV f p.1) ∈ P)) id (by rw [len_rgI]; omega) (fun k hk K1 K0 k1 k0 => ?_) ?_⟩
        · have hkb := mem_rgI.mp hk
          walk_at "rd"
          simp only [it_V s (show 0 ≤ k by omega) (show k < s.length by omega), it_V f p0 hi, Option.some.injEq, exists_eq_left']
          refine ⟨_, dinL (α := Ev × Ev) (by decide) false (getV s k, getV f p.1) P, ?_⟩
          by_cases hc : (getV s k, getV f p.1) ∈ P
          · exact .inr ⟨by simp [hc], k1 (by simp [hc])⟩
          · exact .inl ⟨by simp [hc], k0 (by simp [hc])⟩
        · rw [List.map_id]
          refine ⟨_, deq0 (α := Int) (by decide) _, ?_⟩
          have eo := okz_fil f s P p
          rw [decide_eq_true hi, Bool.true_and] at eo
          rw [← eo]
          cases hz : okzL f s P p
          · refine .inl ⟨rfl, ?_⟩
            by_cases hj : p.2 < s.length
            · refine .inr ⟨hj, by omega, lc_ofE (rgI p.1 f.length) (fun k => decide ((getV f k, getV s p.2) ∈ P)) id (by rw [len_rgI]; omega) (fun k hk K1 K0 k1 k0 => ?_) ?_⟩
              · have hkb := mem_rgI.mp hk
                walk_at "rd"
                simp only [it_V f (show 0 ≤ k by omega) (show k < f.length by omega), it_V s p2 hj, Option.some.injEq, exists_eq_left']
                refine ⟨_, dinL (α := Ev × Ev) (by decide) false (getV f k, getV s p.2) P, ?_⟩
                by_cases hc : (getV f k, getV s p.2) ∈ P
                · exact .inr ⟨by simp [hc], k1 (by simp [hc])⟩
                · exact .inl ⟨by simp [hc], k0 (by simp [hc])⟩
              · rw [List.map_id]
                refine ⟨_, deq0 (α := Int) (by decide) _, ?_⟩
                have eo := oko_fil f s P p
                rw [decide_eq_true hj, Bool.true_and] at eo
                rw [← eo]
                cases hb : okoL f s P p
                · exact .inl ⟨rfl, rfl, by unfold loStep loPut; simp only [hz, hb, hvr2, if_true, Bool.false_eq_true, if_false]⟩
                · refine .inr ⟨rfl, _, ⟨vr, hvr, rfl⟩, _, iadd_i _ _, by omega, rfl, ?_⟩
                  rw [put_p]
                  unfold loStep loPut; simp only [hz, hb, hvr2, if_true, Bool.false_eq_true, if_false]
            · have eo : okoL f s P p = false := by unfold okoL; rw [decide_eq_false hj]; rfl
              exact .inl ⟨by omega, rfl, by unfold loStep loPut; simp only [hz, eo, hvr2, if_true, Bool.false_eq_true, if_false]⟩
          · refine .inr ⟨rfl, _, ⟨vr, hvr, rfl⟩, _, iadd_i _ _, by omega, ?_⟩
            have hm2 : (aput more1 (p.1 + 1, p.2) ((alook more1 (p.1 + 1, p.2)).getD 0 + vr)).length ≤ 122 := Nat.le_trans (aput_len _ _ _) (by omega)
            simp only [put_p, dlk_p]
            have e0 : ∀ (m : List (Pr × Int)) (x : Pr), ((alook m x).map PyData.int).getD (.int 0) = .int ((alook m x).getD 0) := fun m x => by cases alook m x <;> rfl
            simp only [e0, encM_len]
            by_cases hj : p.2 < s.length
            · refine .inr ⟨hj, by omega, lc_ofE (rgI p.1 f.length) (fun k => decide ((getV f k, getV s p.2) ∈ P)) id (by rw [len_rgI]; omega) (fun k hk K1 K0 k1 k0 => ?_) ?_⟩
              · have hkb := mem_rgI.mp hk
                walk_at "rd"
                simp only [it_V f (show 0 ≤ k by omega) (show k < f.length by omega), it_V s p2 hj, Option.some.injEq, exists_eq_left']
                refine ⟨_, dinL (α := Ev × Ev) (by decide) false (getV f k, getV s p.2) P, ?_⟩
                by_cases hc : (getV f k, getV s p.2) ∈ P
                · exact .inr ⟨by simp [hc], k1 (by simp [hc])⟩
                · exact .inl ⟨by simp [hc], k0 (by simp [hc])⟩
              · rw [List.map_id]
                refine ⟨_, deq0 (α := Int) (by decide) _, ?_⟩
                have eo := oko_fil f s P p
                rw [decide_eq_true hj, Bool.true_and] at eo
                rw [← eo]
                cases hb : okoL f s P p
                · exact .inl ⟨rfl, rfl, by unfold loStep loPut; simp only [hz, hb, hvr2, if_true, Bool.false_eq_true, if_false]⟩
                · refine .inr ⟨rfl, _, ⟨vr, hvr, rfl⟩, _, iadd_i _ _, by omega, rfl, ?_⟩
                  rw [put_p]
                  unfold loStep loPut; simp only [hz, hb, hvr2, if_true, Bool.false_eq_true, if_false]
            · have eo : okoL f s P p = false := by unfold okoL; rw [decide_eq_false hj]; rfl
              exact .inl ⟨by omega, trivial, by unfold loStep loPut; simp only [hz, eo, hvr2, if_true, Bool.false_eq_true, if_false]⟩
      · have hz : okzL f s P p = false := by unfold okzL; rw [decide_eq_false hi]; rfl
        refine .inl ⟨by omega, ?_⟩
        by_cases hj : p.2 < s.length
        · refine .inr ⟨hj, by omega, lc_ofE (rgI p.1 f.length) (fun k => decide ((getV f k, getV s p.2) ∈ P)) id (by rw [len_rgI]; omega) (fun k hk K1 K0 k1 k0 => ?_) ?_⟩
          · have hkb := mem_rgI.mp hk
            walk_at "rd"
            simp only [it_V f (show 0 ≤ k by omega) (show k < f.length by omega), it_V s p2 hj, Option.some.injEq, exists_eq_left']
            refine ⟨_, dinL (α := Ev × Ev) (by decide) false (getV f k, getV s p.2) P, ?_⟩
            by_cases hc : (getV f k, getV s p.2) ∈ P
            · exact .inr ⟨by simp [hc], k1 (by simp [hc])⟩
            · exact .inl ⟨by simp [hc], k0 (by simp [hc])⟩
          · rw [List.map_id]
            refine ⟨_, deq0 (α := Int) (by decide) _, ?_⟩
            have eo := oko_fil f s P p
            rw [decide_eq_true hj, Bool.true_and] at eo
            rw [← eo]
            cases hb : okoL f s P p
            · exact .inl ⟨rfl, rfl, by unfold loStep loPut; simp only [hz, hb, hvr2, if_true, Bool.false_eq_true, if_false]⟩
            · refine .inr ⟨rfl, _, ⟨vr, hvr, rfl⟩, _, iadd_i _ _, by omega, rfl, ?_⟩
              rw [put_p]
              unfold loStep loPut; simp only [hz, hb, hvr2, if_true, Bool.false_eq_true, if_false]
        · have eo : okoL f s P p = false := by unfold okoL; rw [decide_eq_false hj]; rfl
          exact .inl ⟨by omega, by unfold loStep loPut; simp only [hz, eo, hvr2, if_true, Bool.false_eq_true, if_false]⟩
    · intro e3
      walk_at "rd"
      rfl
  · intro e
    walk_at "rd"
    unfold loSum at h
    refine ⟨_, ?_, h⟩
    unfold encM loAll
    rw [List.map_map, List.map_map]; rfl

end
end HB

set_option Elab.async false
set_option linter.all false
set_option maxRecDepth 100000
set_option maxHeartbeats 4000000
set_option autoImplicit false
namespace HB
open PySem PySem.Spec L2
open En (enc)
section
variable {P : Program} {w : World} {K : PySem.W.Frag} {mg : Str → Option Value} {base : Heap}
local macro_rules | `(tactic| walk_at "rd") => `(tactic| simp [-List.any_eq_true, -List.any_eq_false, sSeq, sIf, sRt, sNx, sAs, sOw, sFz, sDo, sNo, sApp, gNm, gTp_t, gC_c, gN_n, xB, xZ, xA, xK, getZ, getA, fzz, x2, xAnd, xOr, xNot, xAndV, xOrV, xNotV, xIf, xChain, xFn, xTup, xLst, xNil, xCons, xCatL, xCatT, xSlL, xSlT, xNoP, xSoP, xThenL, xTupOf, xRngL, xSort, xSortSet, xSortK, xSumV, xDget, xDictOf, xTIndex, xTupF, xCatF, xRevT, xRngL3, xRngT, xRow, gRow, xLen0, xCell, xCallR, xIsi, xIsi2, xCall, xDnew, xDone, xGetD, xInD, xYes, sFor, iL, iT, iR1, iR2, iR3, iEnT, iEnL, iKs, iLn, xLc, kOk_p, any_p, dlk_p, put_p, dne0_p, deq0_p, dne0_i, dne0_w, deq0_w, encM_len, sMix, xMo, xMf, xMn, setS, gSbD, gSb, cut_take, cut_drop, ex2_eq, kOk_kk, put_kk, kOk_k3, dlk_k3, put_k3, itw0, itw1, wb_nt, wb_tu, wb_len, kOk_h, dlk_h, put_h, getD_h, sAugM, rngD_0, wip, dseq_t, dseq_l, deq_il, rngD_rg, dnD_dn, disN_n, dnotN_n, isNo, start', startR, rwAt, rwSet, dint, itb0, itb1, itb2, bk_nt, bk_tu, bk_len, encL_list, list_encL, len_L, len_l, len_t, it2_0, it2_1, it3_0, it3_1, it3_2, il2_0, il2_1, il1_0, it2_v, it2_n, icmp_i, isub_i, iadd_i, din_i, din_iL, deq_i, dne_i, deq_b, dne_b, nd_i, nd_b, nd_s, nd_n, nd_l, nd_t, ik_ii, ik_ib, ik_tt, small, dabs, dmax2, sum_L, enc_i, enc_b, enc_k, enc_p, enc_3, enc_l])
abbrev lnD (l : List Ev) : PyData := ln (l.map enc)
def lnStep (q : Pr) (s : List Ev × Pr) (k : Pc) : List Ev × Pr := (s.1 ++ [(k, co s.2 k)], shTo q s.2 k)
theorem lnFold (q : Pr) : ∀ (w : List Pc) (s : List Ev × Pr), (w.foldl (lnStep q) s).1 = s.1 ++ lineOf q s.2 w
  | [], s => by simp [lineOf]
  | k :: w, s => by
    rw [List.foldl_cons, lnFold q w, lnStep, lineOf, List.append_assoc]; rfl
theorem lnFold_len (q : Pr) : ∀ (w : List Pc) (s : List Ev × Pr), (w.foldl (lnStep q) s).1.length = s.1.length + w.length
  | [], s => by simp
  | k :: w, s => by
    rw [List.foldl_cons, lnFold_len q w, lnStep, List.length_cons]; simp; omega
def S_law_lines : SpT := fun ds W => ∃ (p q : Pr) (ws : List (List Pc)), ds = [enc p, enc q, encL ws] ∧ ws.length ≤ 1000 ∧ (∀ w ∈ ws, w.length ≤ 10) ∧ W (.list (ws.map fun w => lnD (lineOf q p w)))
theorem ln_law_lines {ds : List PyData} {W : PyData → Prop} (h : S_law_lines ds W) : ds.length = 3 := by obtain ⟨_, _, _, e, _⟩ := h; rw [e]; rfl
theorem df_law_lines (Fn_law_lines : Fn K mg "_law_lines" "_law_lines" 72) : Df P w K mg base "_law_lines" 1 S_law_lines := by
  refine mkfn Fn_law_lines sc_law_lines (fun kV doc pm an cdv ct us h => by rcases us with _ | ⟨x0, _ | ⟨x1, _ | ⟨x2, _ | ⟨x3, r3⟩⟩⟩⟩ <;> first | rfl | (simp at h)) (by intro ds W h; exact ln_law_lines h) fun f cdv A outer s H F E hr => ⟨_, (jbcons (jown (i := 3) sc_law_lines.nd (jlst jnil))
    (jbcons (jfor (pr := false) PassesOwn.never rfl (jiL (jz 2)) (jgn (i := 4) sc_law_lines.nd) (jbcons (jpar2 (is_ := [5, 6]) sc_law_lines.nd (jmow (jlst (jcons (jix (ja 0) (jc ji)) (jcons (jix (ja 0) (jc ji)) jnil))) (jmfz (jltup jnil) jmnil)))
    (jbcons (jfor (pr := false) PassesOwn.never rfl (jiT (jz 4)) (jgn (i := 7) sc_law_lines.nd) (jbcons (jset (i := 6) sc_law_lines.nd (jlcat (jz 6) (jltup (jcons (jtup (jcons (jz 7) (jcons (jix (ja 5) (ja 7)) jnil))) jnil))))
    (jbone (jas (pr := false) (jadd (jc (jix (ja 5) (ja 7))) (jc (jif (jcmpT o_lt (jc (jix (ja 5) (ja 7))) (jc (jix (ja 1) (ja 7)))) ji (jsub (jc ji) (jc ji))))) (jgsub 5 (pv 5) (ja 7))))))
    (jbone (japp 3 (pv 3) (jz 6))))))
    (jbone (jfz 3 (jret (jz 3)))))), ?_⟩
  intro ds W h
  obtain ⟨p, q, ws, rfl, hl, hw, h⟩ := h
  walk_at "rd"
  refine loop_fold ws (fun (b : List (List Ev)) (e : Slo × Slo × Slo × Slo) => [.fz (.tuple [.int p.1, .int p.2]), .fz (.tuple [.int q.1, .int q.2]), .fz (encL ws), .ow (.list (b.map lnD)), e.1, e.2.1, e.2.2.1, e.2.2.2]) (fun b w => b ++ [lineOf q p w]) [] (.no, .no, .no, .no) rfl ?_ ?_
  · intro pre w post hlw e
    have hpl := congrArg List.length hlw
    rw [List.length_append, List.length_cons] at hpl
    have hwl := hw w (by rw [hlw]; exact List.mem_append_right _ (List.mem_cons_self ..))
    rw [fold_snoc (lineOf q p), List.nil_append]
    have hbl : (pre.map (lineOf q p)).length = pre.length := List.length_map ..
    generalize pre.map (lineOf q p) = b at hbl
    walk_at "rd"
    refine loop_fold (en := fun k : Pc => PyData.int k.v) w (fun (s : List Ev × Pr) (e : Slo) => [.fz (.tuple [.int p.1, .int p.2]), .fz (.tuple [.int q.1, .int q.2]), .fz (encL ws), .ow (.list (b.map lnD)), .fz (.tuple (w.map enc)), .ow (.list [.int s.2.1, .int s.2.2]), .fz (lnD s.1), e]) (lnStep q) ([], p) e.2.2.2 rfl ?_ ?_
    · intro pre2 k post2 hl2 e2
      have hpl2 := congrArg List.length hl2
      rw [List.length_append, List.length_cons] at hpl2
      have hsl := lnFold_len q pre2 ([], p)
      generalize pre2.foldl (lnStep q) ([], p) = s at hsl
      obtain ⟨l, here⟩ := s
      simp only [List.length_nil, Nat.zero_add] at hsl
      walk_at "rd"
      cases k with
      | z =>
        refine ⟨_, rfl, by omega, _, rfl, _, rfl, _, rfl, ?_⟩
        by_cases hlt : here.1 < q.1
        · refine .inr ⟨congrArg PyData.bool (decide_eq_true hlt), _, rfl, 0, rfl, ?_, ?_⟩
          · unfold lnStep; rw [shTo_z, if_pos hlt]; rfl
          · unfold lnStep; rw [List.map_append]; rfl
        · refine .inl ⟨congrArg PyData.bool (decide_eq_false hlt), _, rfl, 0, rfl, ?_, ?_⟩
          · unfold lnStep; rw [shTo_z, if_neg hlt]; rfl
          · unfold lnStep; rw [List.map_append]; rfl
      | o =>
        refine ⟨_, rfl, by omega, _, rfl, _, rfl, _, rfl, ?_⟩
        by_cases hlt : here.2 < q.2
        · refine .inr ⟨congrArg PyData.bool (decide_eq_true hlt), _, rfl, 1, rfl, ?_, ?_⟩
          · unfold lnStep; rw [shTo_o, if_pos hlt]; rfl
          · unfold lnStep; rw [List.map_append]; rfl
        · refine .inl ⟨congrArg PyData.bool (decide_eq_false hlt), _, rfl, 1, rfl, ?_, ?_⟩
          · unfold lnStep; rw [shTo_o, if_neg hlt]; rfl
          · unfold lnStep; rw [List.map_append]; rfl
    · intro e2
      have hsl := lnFold q w ([], p)
      rw [List.nil_append] at hsl
      generalize w.foldl (lnStep q) ([], p) = s at hsl
      obtain ⟨l, here⟩ := s
      simp only at hsl
      subst hsl
      walk_at "rd"
      omega
  · intro e
    rw [fold_snoc (lineOf q p), List.nil_append]
    walk_at "rd"
    have e1 : List.map (lnD ∘ lineOf q p) ws = ws.map fun w => lnD (lineOf q p w) := rfl
    rw [e1]
    exact h

theorem fplace_E (e : Ev) : ∀ (l : List Ev), e ∈ l → fplace (l.map enc) (enc e) = some (pl l e)
  | [], h => by simp at h
  | x :: l, h => by
    have ih := fplace_E e l
    unfold fplace at ih ⊢
    rw [List.map_cons, List.findIdx?_cons, ev_dec, pl_cons]
    by_cases hx : x = e
    · rw [decide_eq_true hx, if_pos hx]; rfl
    · have hm : e ∈ l := (List.mem_cons.mp h).resolve_left fun z => hx z.symm
      rw [decide_eq_false hx, if_neg hx, ih hm]; rfl
theorem lt2_len (ls : List (List Ev)) (f : Ev) (l : List Ev) (b : List (Ev × Ev)) : (l.foldl (lt2 ls f) b).length ≤ b.length + l.length := by
  rw [lt2_fold, List.length_append, List.length_map]
  have := List.length_filter_le (ltIn ls f) l
  omega
theorem lt1_len (ls : List (List Ev)) (l0 : List Ev) : ∀ (l : List Ev) (b : List (Ev × Ev)), (l.foldl (lt1 ls l0) b).length ≤ b.length + l0.length * l.length
  | [], b => by simp
  | f :: l, b => by
    have h1 := lt1_len ls l0 l (lt1 ls l0 b f)
    have h2 : (lt1 ls l0 b f).length ≤ b.length + l0.length := lt2_len ls f l0 b
    rw [List.foldl_cons, List.length_cons, Nat.mul_add, Nat.mul_one]; omega
def S_law_told : SpT := fun ds W => ∃ (B : Bk) (p q : Pr), ds = [bkD B, enc p, enc q] ∧ box B.r p ∧ box B.r q ∧ B.r ≤ 4 ∧ shuf B p q ≠ [] ∧ W (encL (toldP B p q))
theorem ln_law_told {ds : List PyData} {W : PyData → Prop} (h : S_law_told ds W) : ds.length = 3 := by obtain ⟨_, _, _, e, _⟩ := h; rw [e]; rfl
theorem u_law_told {B : Bk} {a b c d : Int} (h1 : box B.r (a, b)) (h2 : box B.r (c, d)) (h3 : B.r ≤ 4) (h4 : shuf B (a, b) (c, d) ≠ []) {W : PyData → Prop} (h : W (encL (toldP B (a, b) (c, d)))) : S_law_told [bkD B, .tuple [.int a, .int b], .tuple [.int c, .int d]] W := ⟨B, (a, b), (c, d), rfl, h1, h2, h3, h4, h⟩
theorem df_law_told (G_law_shuffles : Df P w K mg base "_law_shuffles" 10 S_law_shuffles) (G_law_lines : Df P w K mg base "_law_lines" 1 S_law_lines) (h_sorted : mg "sorted" = none) (Fn_law_told : Fn K mg "_law_told" "_law_told" 73) : Df P w K mg base "_law_told" 11 S_law_told := by
  refine mkfn Fn_law_told sc_law_told (fun kV doc pm an cdv ct us h => by rcases us with _ | ⟨x0, _ | ⟨x1, _ | ⟨x2, _ | ⟨x3, r3⟩⟩⟩⟩ <;> first | rfl | (simp at h)) (by intro ds W h; exact ln_law_told h) fun f cdv A outer s H F E hr => ⟨_, (jbcons (jpar2 (is_ := [3, 4]) sc_law_told.nd (jmfz (jcall G_law_lines ⟨rfl, rfl⟩ (hr.mono (by decide)) (jcons (jz 1) (jcons (jz 2) (jcons (jcall G_law_shuffles ⟨rfl, rfl⟩ hr (jcons (jz 0) (jcons (jz 1) (jcons (jz 2) jnil)))) jnil)))) (jmow (jlst jnil) jmnil)))
    (jbcons (jfor (pr := false) PassesOwn.never rfl (jiLn (jix (ja 3) (jc ji))) (jgn (i := 5) sc_law_told.nd) (jbone (jfor (pr := false) PassesOwn.never rfl (jiLn (jix (ja 3) (jc ji))) (jgn (i := 6) sc_law_told.nd) (jbone (jifs (jw (jw_and (jcmpT (o_ne hr.units) (jc (jix (ja 5) (jc ji))) (jc (jix (ja 6) (jc ji)))) (jw_and1 (jcmpT (o_eq0 hr.units) (jc_f (jlc [("_law_line", 7)] rfl sc_law_told.nd (jiL (jz 3)) (blkOk_by (N := N_law_told) (sc := defScope (top 73)) (own := [("_law_line", 7)]) (by decide +kernel)) (fun _ _ _ _ _ => (jgn (i := 7) sc_law_told.nd)) (fun _ _ _ _ _ => (jtone (jcmpT o_gt (jc (jtindex hr.u65 (ja 7) (ja 5))) (jc (jtindex hr.u65 (ja 7) (ja 6)))))) (fun _ _ _ _ _ => (jz 7)))) (jc_f (jlst jnil)))))) (jbone (japp 4 (pv 4) (jtup (jcons (jz 5) (jcons (jz 6) jnil))))) jbnil)))))
    (jbone (jret (je_f (jsort rfl hr.u_s h_sorted (ja 4))))))), ?_⟩
  intro ds W h
  obtain ⟨B, p, q, rfl, hp, hq, hr, hne, h⟩ := h
  have h8 := same_len_box hp hq hr
  walk_at "rd"
  refine u_law_shuffles h8 (Nat.le_refl _) ?_
  have hws : ∀ w, w ∈ shL B q 8 p ↔ Run B q p w q := mem_shL 8 p h8
  have hne2 := (shL_ne (B := B) (p := p) (q := q) (n := 8) h8).mpr hne
  have hwl : ∀ w ∈ shL B q 8 p, w.length ≤ 10 := fun w hw => by have := shL_wlen 8 p w hw; omega
  have hlen : (shL B q 8 p).length ≤ 1000 := Nat.le_trans (shL_len 8 p) (by decide)
  have htold := lawTold_eq hws hne2
  generalize hW : shL B q 8 p = ws at hws hne2 hwl hlen htold
  refine ⟨p, q, ws, rfl, hlen, hwl, ?_⟩
  obtain ⟨w0, ws', rfl⟩ := List.exists_cons_of_ne_nil hne2
  have hc0 : ditem (.list ((w0 :: ws').map fun w => lnD (lineOf q p w))) (.int 0) = some (lnD (lineOf q p w0)) := il1_0 _ _
  rw [← htold] at h
  unfold lawTold at h
  rw [List.headD_cons] at h
  have hLs : ((w0 :: ws').map fun w => lnD (lineOf q p w)) = ((w0 :: ws').map (lineOf q p)).map lnD := by rw [List.map_map]; rfl
  have hmemL : ∀ l ∈ (w0 :: ws').map (lineOf q p), ∀ e ∈ lineOf q p w0, e ∈ l := fun l hl e he => by
    obtain ⟨w, hw, rfl⟩ := List.mem_map.mp hl
    have g : ∀ w ∈ w0 :: ws', ∀ e, e ∈ lineOf q p w ↔ (e.1 = .z ∧ e.2 ∈ wayI p.1 q.1) ∨ (e.1 = .o ∧ e.2 ∈ wayI p.2 q.2) := fun w hw e => by
      have := shuf_len (mem_shuf.mpr ((hws w).mp hw))
      rw [lineOf_G w p ((hws w).mp hw)]
      exact mem_lineG w _ _ (by rw [len_wayI]; omega) (by rw [len_wayI]; omega) e
    exact (g w hw e).mpr ((g w0 (List.mem_cons_self ..) e).mp he)
  have hl0 : (lineOf q p w0).length ≤ 10 := by
    have := lnFold_len q w0 ([], p)
    rw [lnFold] at this
    have h2 := hwl w0 (List.mem_cons_self ..)
    simp at this; omega
  have hlsl : ((w0 :: ws').map (lineOf q p)).length ≤ 1000 := by rw [List.length_map]; exact hlen
  rw [hLs] at hc0 ⊢
  generalize hL : (w0 :: ws').map (lineOf q p) = ls at hc0 hmemL h hlsl ⊢
  generalize hl00 : lineOf q p w0 = l0 at hc0 hmemL h hl0
  rw [hc0]
  walk_at "rd"
  refine loop_fold l0 (fun (b : List (Ev × Ev)) (e : Slo × Slo) => [.fz (bkD B), .fz (.tuple [.int p.1, .int p.2]), .fz (.tuple [.int q.1, .int q.2]), .fz (.list (ls.map lnD)), .ow (encL b), e.1, e.2, .no]) (lt1 ls l0) [] (.no, .no) rfl ?_ ?_
  · intro pre f post hl e
    have hf : f ∈ l0 := by rw [hl]; exact List.mem_append_right _ (List.mem_cons_self ..)
    have hpl := congrArg List.length hl
    rw [List.length_append, List.length_cons] at hpl
    have hb := lt1_len ls l0 pre []
    have hm : l0.length * pre.length ≤ 10 * 10 := Nat.mul_le_mul hl0 (by omega)
    simp only [List.length_nil, Nat.zero_add] at hb
    generalize pre.foldl (lt1 ls l0) [] = b at hb
    walk_at "rd"
    simp only [hc0, Option.some.injEq, exists_eq_left']
    refine ⟨l0.map enc, rfl, ?_⟩
    refine loop_fold l0 (fun (b : List (Ev × Ev)) (e : Slo) => [.fz (bkD B), .fz (.tuple [.int p.1, .int p.2]), .fz (.tuple [.int q.1, .int q.2]), .fz (.list (ls.map lnD)), .ow (encL b), .fz (.tuple [.int f.1.v, .int f.2]), e, .no]) (lt2 ls f) b e.2 rfl ?_ ?_
    · intro pre2 s post2 hl2 e2
      have hs : s ∈ l0 := by rw [hl2]; exact List.mem_append_right _ (List.mem_cons_self ..)
      have hpl2 := congrArg List.length hl2
      rw [List.length_append, List.length_cons] at hpl2
      have hb2 := lt2_len ls f pre2 b
      generalize pre2.foldl (lt2 ls f) b = b2 at hb2
      walk_at "rd"
      by_cases hfs : f.1.v = s.1.v
      · refine .inl ⟨hfs, ?_⟩
        unfold lt2 ltIn
        rw [decide_eq_false (by rw [Classical.not_not]; exact Pc.v_inj hfs)]; rfl
      refine .inr ⟨hfs, ?_⟩
      have hfs2 : f.1 ≠ s.1 := fun z => hfs (by rw [z])
      have hlt : ltIn ls f s = (ls.filter fun l => decide (pl l f > pl l s)).isEmpty := by
        unfold ltIn
        rw [decide_eq_true hfs2, Bool.true_and, Bool.eq_iff_iff, List.all_eq_true, List.isEmpty_iff, List.filter_eq_nil_iff]
        simp
      refine lc_of ls (fun l => decide (pl l f > pl l s)) lnD (by omega) (fun l hl K1 K0 k1 k0 => ?_) ?_
      · have i1 := fplace_E f l (hmemL l hl f hf)
        have i2 := fplace_E s l (hmemL l hl s hs)
        have ok0 : okD (.tuple (l.map enc)) = true := okE (α := List Ev) (by decide) l
        have ok1 : okD (.tuple [.int f.1.v, .int f.2]) = true := okE (α := Ev) (by decide) f
        have ok2 : okD (.tuple [.int s.1.v, .int s.2]) = true := okE (α := Ev) (by decide) s
        walk_at "rd"
        refine ⟨ok0, ok1, pl l f, i1, ok0, ok2, pl l s, i2, ?_⟩
        by_cases hgt : pl l s < pl l f
        · exact .inr ⟨hgt, k1 (decide_eq_true hgt)⟩
        · exact .inl ⟨by omega, k0 (decide_eq_false hgt)⟩
      · refine ⟨_, deq0D_list _, ?_⟩
        have hem : ((ls.filter fun l => decide (pl l f > pl l s)).map lnD).isEmpty = ltIn ls f s := by
          rw [hlt, List.isEmpty_map]
        rw [hem]
        unfold lt2
        cases hi : ltIn ls f s
        · exact .inl ⟨rfl, rfl, rfl⟩
        · exact .inr ⟨rfl, by omega, rfl, by rw [if_pos rfl, List.map_append]; rfl⟩
    · intro e2
      walk_at "rd"
      rfl
  · intro e
    have hb := lt1_len ls l0 l0 []
    have hm : l0.length * l0.length ≤ 10 * 10 := Nat.mul_le_mul hl0 hl0
    have e1 := sortD_E (ltRaw ls l0)
    have e2 : l0.foldl (lt1 ls l0) [] = ltRaw ls l0 := rfl
    rw [e2] at hb ⊢
    simp only [List.length_nil, Nat.zero_add] at hb
    walk_at "rd"
    rw [e1]
    exact ⟨sortOk_E _ (by omega), h⟩

def S_law_is_told : SpT := fun ds W => ∃ (B : Bk) (p q : Pr), ds = [bkD B, enc p, enc q] ∧ box B.r p ∧ box B.r q ∧ B.r ≤ 4 ∧ shuf B p q ≠ [] ∧ W (.bool (isTold B p q))
theorem ln_law_is_told {ds : List PyData} {W : PyData → Prop} (h : S_law_is_told ds W) : ds.length = 3 := by obtain ⟨_, _, _, e, _⟩ := h; rw [e]; rfl
theorem u_law_is_told {B : Bk} {a b c d : Int} (h1 : box B.r (a, b)) (h2 : box B.r (c, d)) (h3 : B.r ≤ 4) (h4 : shuf B (a, b) (c, d) ≠ []) {W : PyData → Prop} (h : W (.bool (isTold B (a, b) (c, d)))) : S_law_is_told [bkD B, .tuple [.int a, .int b], .tuple [.int c, .int d]] W := ⟨B, (a, b), (c, d), rfl, h1, h2, h3, h4, h⟩
theorem df_law_is_told (G_law_shuffles : Df P w K mg base "_law_shuffles" 10 S_law_shuffles) (G_law_way : Df P w K mg base "_law_way" 1 S_law_way) (G_law_orders : Df P w K mg base "_law_orders" 1 S_law_orders) (G_law_told : Df P w K mg base "_law_told" 11 S_law_told) (h_len : mg "len" = none) (Fn_law_is_told : Fn K mg "_law_is_told" "_law_is_told" 74) : Df P w K mg base "_law_is_told" 12 S_law_is_told := by
  refine mkfn Fn_law_is_told sc_law_is_told (fun kV doc pm an cdv ct us h => by rcases us with _ | ⟨x0, _ | ⟨x1, _ | ⟨x2, _ | ⟨x3, r3⟩⟩⟩⟩ <;> first | rfl | (simp at h)) (by intro ds W h; exact ln_law_is_told h) fun f cdv A outer s H F E hr => ⟨_, (jbcons (jsetLc (i := 3) [("_law_at", 4)] rfl sc_law_is_told.nd (jiL (jcall G_law_way ⟨rfl, rfl⟩ (hr.mono (by decide)) (jcons (jix (ja 1) (jc ji)) (jcons (jix (ja 2) (jc ji)) jnil)))) (blkOk_by (N := N_law_is_told) (sc := defScope (top 74)) (own := [("_law_at", 4)]) (by decide +kernel)) (fun _ _ _ _ _ => (jgn (i := 4) sc_law_is_told.nd)) (fun _ _ _ _ _ => jtnil) (fun _ _ _ _ _ => (jtup (jcons ji (jcons (jz 4) jnil)))))
    (jbcons (jsetLc (i := 5) [("_law_at", 4)] rfl sc_law_is_told.nd (jiL (jcall G_law_way ⟨rfl, rfl⟩ (hr.mono (by decide)) (jcons (jix (ja 1) (jc ji)) (jcons (jix (ja 2) (jc ji)) jnil)))) (blkOk_by (N := N_law_is_told) (sc := defScope (top 74)) (own := [("_law_at", 4)]) (by decide +kernel)) (fun _ _ _ _ _ => (jgn (i := 4) sc_law_is_told.nd)) (fun _ _ _ _ _ => jtnil) (fun _ _ _ _ _ => (jtup (jcons ji (jcons (jz 4) jnil)))))
    (jbone (jret (jcmp (o_eq hr.units) (jc (jcall G_law_orders ⟨rfl, rfl⟩ (hr.mono (by decide)) (jcons (jz 3) (jcons (jz 5) (jcons (jcall G_law_told ⟨rfl, rfl⟩ hr (jcons (jz 0) (jcons (jz 1) (jcons (jz 2) jnil)))) jnil))))) (jc (jcallB b_len h_len (jccons (jc (jcall G_law_shuffles ⟨rfl, rfl⟩ (hr.mono (by decide)) (jcons (jz 0) (jcons (jz 1) (jcons (jz 2) jnil))))) jcnil)))))))), ?_⟩
  intro ds W h
  obtain ⟨B, p, q, rfl, hp, hq, hr, hne, h⟩ := h
  have h8 := same_len_box hp hq hr
  have hp' := hp
  have hq' := hq
  obtain ⟨⟨_, _⟩, _, _⟩ := hp'
  obtain ⟨⟨_, _⟩, _, _⟩ := hq'
  walk_at "rd"
  rw [u_law_way (by omega)]
  walk_at "rd"
  refine lc_allE (wayI p.1 q.1) (fun x => (Pc.z, x)) (by rw [len_wayI]; omega) (fun x hx K1 k1 => ?_) ?_
  · walk_at "rd"
    exact k1
  rw [u_law_way (by omega)]
  walk_at "rd"
  refine lc_allE (wayI p.2 q.2) (fun x => (Pc.o, x)) (by rw [len_wayI]; omega) (fun x hx K1 k1 => ?_) ?_
  · walk_at "rd"
    exact k1
  refine u_law_told hp hq hr hne ?_
  refine ⟨evs .z (wayI p.1 q.1), evs .o (wayI p.2 q.2), toldP B p q, rfl, by unfold evs; rw [List.length_map, len_wayI]; omega, by unfold evs; rw [List.length_map, len_wayI]; omega, ?_⟩
  refine u_law_shuffles h8 (Nat.le_refl _) ?_
  walk_at "rd"
  rw [shL_count h8]
  have hc : loSum (evs .z (wayI p.1 q.1)) (evs .o (wayI p.2 q.2)) (toldP B p q) = cnt (tdLims B p q) := by
    unfold loSum
    rw [loAll_sum, ← told_count hne, len_rgI]
    congr 1
    unfold evs; rw [List.length_map, List.length_map]; omega
  rw [hc]
  exact h

def S_law_leads : SpT := fun ds W => ∃ (B : Bk), ds = [bkD B] ∧ 0 ≤ B.r ∧ B.r ≤ 4 ∧ W (encL (leads B))
theorem u_law_leads {B : Bk} (h0 : 0 ≤ B.r) (h1 : B.r ≤ 4) {W : PyData → Prop} (h : W (encL (leads B))) : S_law_leads [bkD B] W := ⟨B, rfl, h0, h1, h⟩
theorem ln_law_leads {ds : List PyData} {W : PyData → Prop} (h : S_law_leads ds W) : ds.length = 1 := by obtain ⟨_, e, _⟩ := h; rw [e]; rfl
theorem df_law_leads (G_law_courses : Df P w K mg base "_law_courses" 11 S_law_courses) (G_law_told : Df P w K mg base "_law_told" 11 S_law_told) (G_law_kinds : Df P w K mg base "_law_kinds" 2 S_law_kinds) (h_sorted : mg "sorted" = none) (Fn_law_leads : Fn K mg "_law_leads" "_law_leads" 76) : Df P w K mg base "_law_leads" 12 S_law_leads := by
  refine mkfn Fn_law_leads sc_law_leads (fun kV doc pm an cdv ct us h => by rcases us with _ | ⟨x0, _ | ⟨x1, r1⟩⟩ <;> first | rfl | (simp at h)) (by intro ds W h; exact ln_law_leads h) fun f cdv A outer s H F E hr => ⟨_, (jbcons (jown (i := 1) sc_law_leads.nd (jdnew ⟨rfl, rfl⟩))
    (jbcons (jfor (pr := false) PassesOwn.never rfl (jiL (jcall G_law_kinds ⟨rfl, rfl⟩ (hr.mono (by decide)) (jcons (jix (ja 0) (jc ji)) jnil))) (jgtp rfl (jgcons (jgn (i := 2) sc_law_leads.nd) (jgcons (jgn (i := 3) sc_law_leads.nd) (jgcons (jgn (i := 4) sc_law_leads.nd) jgnil)))) (jbcons (jset (i := 5) sc_law_leads.nd (jadd (ja 4) (jc (jif (jcmpT o_lt (ja 2) (ja 3)) ji (jsub (jc ji) (jc ji))))))
    (jbone (jifs (jcmpT (o_ne hr.units) (ja 5) (ja 3)) (jbone (jas (pr := false) jb (jgsubD ⟨rfl, rfl⟩ hr.u_d 1 (pv 1) (jtup (jcons (jtup (jcons (jz 2) (jcons (jz 3) (jcons (jz 4) jnil)))) (jcons (jtup (jcons (jz 2) (jcons (jz 3) (jcons (jz 5) jnil)))) jnil)))))) jbnil))))
    (jbcons (jfor (pr := false) PassesOwn.never rfl (jiL (jcall G_law_courses ⟨rfl, rfl⟩ hr (jcons (jz 0) jnil))) (jgtp rfl (jgcons (jgn (i := 6) sc_law_leads.nd) (jgcons (jgn (i := 7) sc_law_leads.nd) jgnil))) (jbone (jfor (pr := false) PassesOwn.never rfl (jiL (jcall G_law_told ⟨rfl, rfl⟩ hr (jcons (jz 0) (jcons (jz 6) (jcons (jz 7) jnil))))) (jgtp rfl (jgcons (jgtp rfl (jgcons (jgn (i := 8) sc_law_leads.nd) (jgcons (jgn (i := 4) sc_law_leads.nd) jgnil))) (jgcons (jgtp rfl (jgcons (jgn (i := 9) sc_law_leads.nd) (jgcons (jgn (i := 10) sc_law_leads.nd) jgnil))) jgnil))) (jbone (jas (pr := false) jb (jgsubD ⟨rfl, rfl⟩ hr.u_d 1 (pv 1) (jtup (jcons (jtup (jcons (jix (ja 6) (ja 8)) (jcons (jix (ja 7) (ja 8)) (jcons (jz 4) jnil)))) (jcons (jtup (jcons (jix (ja 6) (ja 9)) (jcons (jix (ja 7) (ja 9)) (jcons (jz 10) jnil)))) jnil)))))))))
    (jbone (jret (je_f (jsortK rfl hr.u_s h_sorted (ja 1)))))))), ?_⟩
  intro ds W h
  obtain ⟨B, rfl, h0, h1, h⟩ := h
  walk_at "rd"
  rw [u_law_kinds ⟨h0, h1⟩]
  walk_at "rd"
  refine loop_fold (kinds B.r) (fun (m : List (KK × Bool)) (e : Slo × Slo × Slo × Slo) => [.fz (bkD B), .ow (dc (encM .bool m)), e.1, e.2.1, e.2.2.1, e.2.2.2, .no, .no, .no, .no, .no]) ld1 [] (.no, .no, .no, .no) rfl ?_ ?_
  · intro pre k post hl e
    have hb := ld1_len pre []
    have hk := kinds_len h1
    have hpl := congrArg List.length hl
    rw [List.length_append, List.length_cons] at hpl
    generalize hbb : pre.foldl ld1 [] = bb at hb
    simp at hb
    rw [ld1, nx3]
    walk_at "rd"
    by_cases hab : k.a < k.b
    · refine .inr ⟨hab, ?_⟩
      simp only [hab, if_true]
      by_cases h2 : k.c + 1 = k.b
      · exact .inl ⟨h2, by rw [if_pos h2]⟩
      · exact .inr ⟨h2, by omega, by rw [if_neg h2]⟩
    · refine .inl ⟨by omega, ?_⟩
      simp only [hab, if_false]
      by_cases h2 : k.c - 1 = k.b
      · exact .inl ⟨h2, by rw [if_pos h2]⟩
      · exact .inr ⟨h2, by omega, by rw [if_neg h2]; rfl⟩
  · intro e
    walk_at "rd"
    rw [u_law_courses h0 h1]
    have hk1 := ld1_len (kinds B.r) []
    have hk := kinds_len h1
    have hcl := courses_len h1
    generalize hm0 : (kinds B.r).foldl ld1 [] = m0 at hk1
    simp at hk1
    walk_at "rd"
    refine loop_fold (courses B) (fun (m : List (KK × Bool)) (e : Slo × Slo × Slo × Slo × Slo × Slo × Slo × Slo × Slo) => [.fz (bkD B), .ow (dc (encM .bool m)), e.1, e.2.1, e.2.2.1, e.2.2.2.1, e.2.2.2.2.1, e.2.2.2.2.2.1, e.2.2.2.2.2.2.1, e.2.2.2.2.2.2.2.1, e.2.2.2.2.2.2.2.2]) (ldRow B) m0 (e.1, e.2.1, e.2.2.1, e.2.2.2, .no, .no, .no, .no, .no) rfl ?_ ?_
    · rintro pre ⟨p, q⟩ post hl e2
      obtain ⟨hp, hq, hne⟩ := mem_courses.mp (show (p, q) ∈ courses B by rw [hl]; exact List.mem_append_right _ (List.mem_cons_self ..))
      have hb := ldRow_len h1 pre m0 (fun c hc => by rw [hl]; exact List.mem_append_left _ hc)
      have hpl := congrArg List.length hl
      rw [List.length_append, List.length_cons] at hpl
      have htl := told_len hne hp hq h1
      generalize hbb : pre.foldl (ldRow B) m0 = bb at hb
      walk_at "rd"
      refine u_law_told hp hq h1 hne ?_
      show ∃ ds, _
      refine ⟨(toldP B p q).map enc, rfl, ?_⟩
      refine loop_fold (toldP B p q) (fun (m : List (KK × Bool)) (e : Slo × Slo × Slo × Slo × Slo × Slo × Slo) => [.fz (bkD B), .ow (dc (encM .bool m)), e.1, e.2.1, e.2.2.1, e.2.2.2.1, .fz (.tuple [.int p.1, .int p.2]), .fz (.tuple [.int q.1, .int q.2]), e.2.2.2.2.1, e.2.2.2.2.2.1, e.2.2.2.2.2.2]) (ld2 p q) bb (e2.1, e2.2.1, e2.2.2.1, e2.2.2.2.1, e2.2.2.2.2.2.2.1, e2.2.2.2.2.2.2.2.1, e2.2.2.2.2.2.2.2.2) rfl ?_ ?_
      · rintro pre2 ⟨⟨k1, a1⟩, ⟨k2, a2⟩⟩ post2 hl2 e3
        have hb2 := ld2_len p q pre2 bb
        have hpl2 := congrArg List.length hl2
        rw [List.length_append, List.length_cons] at hpl2
        generalize hbb2 : pre2.foldl (ld2 p q) bb = b2 at hb2
        rw [ld2]
        walk_at "rd"
        refine ⟨by omega, ?_⟩
        rfl
      · intro e3
        exact ⟨rfl, _, _, _, _, _, _, _, _, _, rfl⟩
    · intro e2
      have hml := ldM_len h1
      have hmm : (courses B).foldl (ldRow B) m0 = ldM B := by unfold ldM; rw [hm0]
      rw [hmm]
      walk_at "rd"
      rw [encM_keys]
      have e1 := sortD_E ((ldM B).map (·.1))
      rw [e1]
      exact ⟨sortOk_E _ (by rw [List.length_map]; omega), h⟩

end
end HB

set_option Elab.async false
set_option linter.all false
set_option autoImplicit false
namespace HB
open PySem PySem.Spec L2
open En (enc)
/-! ### what leads, told as a set -/
theorem mem_dnI {hi lo x : Int} : x ∈ dnI hi lo ↔ lo < x ∧ x ≤ hi := by
  unfold dnI
  rw [List.mem_map]
  constructor
  · rintro ⟨i, h, rfl⟩
    have := List.mem_range.mp h; omega
  · rintro ⟨h1, h2⟩
    exact ⟨(hi - x).toNat, List.mem_range.mpr (by omega), by omega⟩
theorem mem_wayI {a b x : Int} : x ∈ wayI a b ↔ (a ≤ x ∧ x < b) ∨ (b < x ∧ x ≤ a) := by
  unfold wayI
  split
  · rw [mem_rgI]; omega
  · rw [mem_dnI]; omega
theorem mem_kinds {r : Int} {k : K3} : k ∈ kinds r ↔ (0 ≤ k.a ∧ k.a ≤ r) ∧ (0 ≤ k.b ∧ k.b ≤ r) ∧ k.c ∈ wayI k.a k.b := by
  unfold kinds
  rw [mem_sortE, kdRaw_flat, List.mem_flatMap]
  constructor
  · rintro ⟨f, hf, h⟩
    obtain ⟨l, hl, h⟩ := List.mem_flatMap.mp h
    obtain ⟨a, ha, rfl⟩ := List.mem_map.mp h
    have := mem_rgI.mp hf; have := mem_rgI.mp hl
    exact ⟨⟨by simp only; omega, by simp only; omega⟩, ⟨by simp only; omega, by simp only; omega⟩, ha⟩
  · rintro ⟨h1, h2, h3⟩
    exact ⟨k.a, mem_rgI.mpr (by omega), List.mem_flatMap.mpr ⟨k.b, mem_rgI.mpr (by omega), List.mem_map.mpr ⟨k.c, h3, rfl⟩⟩⟩
theorem mem_ld1 {e : KK} : ∀ (l : List K3) (m : List (KK × Bool)), e ∈ (l.foldl ld1 m).map (·.1) ↔ e ∈ m.map (·.1) ∨ ∃ k ∈ l, nx3 k ≠ k.b ∧ e = (k, ⟨k.a, k.b, nx3 k⟩)
  | [], m => by simp
  | k :: l, m => by
    rw [List.foldl_cons, mem_ld1 l]
    have h : e ∈ (ld1 m k).map (·.1) ↔ e ∈ m.map (·.1) ∨ (nx3 k ≠ k.b ∧ e = (k, ⟨k.a, k.b, nx3 k⟩)) := by
      unfold ld1
      by_cases z : nx3 k = k.b
      · rw [if_neg (by simp [z])]; simp [z]
      · rw [if_pos z, mem_keys_aput]; simp [z]
    rw [h]
    constructor
    · rintro ((h | h) | ⟨x, hx, h⟩)
      · exact .inl h
      · exact .inr ⟨k, List.mem_cons_self .., h⟩
      · exact .inr ⟨x, List.mem_cons_of_mem _ hx, h⟩
    · rintro (h | ⟨x, hx, h⟩)
      · exact .inl (.inl h)
      · rcases List.mem_cons.mp hx with z | hx
        · rw [z] at h; exact .inl (.inr h)
        · exact .inr ⟨x, hx, h⟩
theorem mem_ld2 {p q : Pr} {e : KK} : ∀ (l : List (Ev × Ev)) (m : List (KK × Bool)), e ∈ (l.foldl (ld2 p q) m).map (·.1) ↔ e ∈ m.map (·.1) ∨ ∃ t ∈ l, e = (evK p q t.1, evK p q t.2)
  | [], m => by simp
  | k :: l, m => by
    rw [List.foldl_cons, mem_ld2 l, ld2, mem_keys_aput]
    constructor
    · rintro ((h | h) | ⟨x, hx, h⟩)
      · exact .inl h
      · exact .inr ⟨k, List.mem_cons_self .., h⟩
      · exact .inr ⟨x, List.mem_cons_of_mem _ hx, h⟩
    · rintro (h | ⟨x, hx, h⟩)
      · exact .inl (.inl h)
      · rcases List.mem_cons.mp hx with z | hx
        · subst z; exact .inl (.inr h)
        · exact .inr ⟨x, hx, h⟩
theorem mem_ldRow {B : Bk} {e : KK} : ∀ (l : List (Pr × Pr)) (m : List (KK × Bool)), e ∈ (l.foldl (ldRow B) m).map (·.1) ↔ e ∈ m.map (·.1) ∨ ∃ c ∈ l, ∃ t ∈ toldP B c.1 c.2, e = (evK c.1 c.2 t.1, evK c.1 c.2 t.2)
  | [], m => by simp
  | k :: l, m => by
    rw [List.foldl_cons, mem_ldRow l, ldRow, mem_ld2]
    constructor
    · rintro ((h | h) | ⟨x, hx, h⟩)
      · exact .inl h
      · exact .inr ⟨k, List.mem_cons_self .., h⟩
      · exact .inr ⟨x, List.mem_cons_of_mem _ hx, h⟩
    · rintro (h | ⟨x, hx, h⟩)
      · exact .inl (.inl h)
      · rcases List.mem_cons.mp hx with z | hx
        · subst z; exact .inl (.inr h)
        · exact .inr ⟨x, hx, h⟩
theorem mem_leads {B : Bk} {e : KK} : e ∈ leads B ↔ (∃ k ∈ kinds B.r, nx3 k ≠ k.b ∧ e = (k, ⟨k.a, k.b, nx3 k⟩)) ∨ ∃ c ∈ courses B, ∃ t ∈ toldP B c.1 c.2, e = (evK c.1 c.2 t.1, evK c.1 c.2 t.2) := by
  unfold leads ldM
  rw [mem_sortE, mem_ldRow, mem_ld1]; simp
/-- the events of a told pair are on the ways -/
theorem told_ev {B : Bk} {p q : Pr} (hne : shuf B p q ≠ []) {t : Ev × Ev} (h : t ∈ toldP B p q) : t.1.2 ∈ wayI (co p t.1.1) (co q t.1.1) ∧ t.2.2 ∈ wayI (co p t.2.1) (co q t.2.1) := by
  obtain ⟨i, hi, ⟨k, ⟨k0, k1⟩, rfl⟩ | ⟨k, ⟨k0, k1⟩, rfl⟩⟩ := mem_told.mp h
  · have := lo_hi hne i
    exact ⟨(getI_mem k0 (by omega) : getI (wayI p.2 q.2) k ∈ wayI p.2 q.2), (getI_mem (by omega) (by omega) : getI (wayI p.1 q.1) i ∈ wayI p.1 q.1)⟩
  · have := lo_hi hne i
    exact ⟨(getI_mem (by omega) (by omega) : getI (wayI p.1 q.1) i ∈ wayI p.1 q.1), (getI_mem (by omega) k1 : getI (wayI p.2 q.2) k ∈ wayI p.2 q.2)⟩
theorem box_co {r : Int} {p : Pr} (h : box r p) (k : Pc) : 0 ≤ co p k ∧ co p k ≤ r := by
  obtain ⟨⟨_, _⟩, _, _⟩ := h
  cases k <;> exact ⟨by assumption, by assumption⟩
theorem evK_kinds {B : Bk} {p q : Pr} (hp : box B.r p) (hq : box B.r q) {e : Ev} (h : e.2 ∈ wayI (co p e.1) (co q e.1)) : evK p q e ∈ kinds B.r :=
  mem_kinds.mpr ⟨box_co hp e.1, box_co hq e.1, h⟩
theorem leads_en (B : Bk) : ∀ e ∈ leads B, e.1 ∈ kinds B.r ∧ e.2 ∈ kinds B.r := by
  intro e he
  rcases mem_leads.mp he with ⟨k, hk, hn, rfl⟩ | ⟨c, hc, t, ht, rfl⟩
  · refine ⟨hk, ?_⟩
    obtain ⟨h1, h2, h3⟩ := mem_kinds.mp hk
    refine mem_kinds.mpr ⟨h1, h2, ?_⟩
    rw [mem_wayI] at h3
    show nx3 k ∈ wayI k.a k.b
    rw [mem_wayI]
    unfold nx3 at hn ⊢
    split <;> (rename_i z; simp only [z, if_true, if_false] at hn; omega)
  · obtain ⟨hp, hq, hne⟩ := mem_courses.mp (show (c.1, c.2) ∈ courses B from hc)
    obtain ⟨h1, h2⟩ := told_ev hne ht
    exact ⟨evK_kinds hp hq h1, evK_kinds hp hq h2⟩
end HB

set_option Elab.async false
set_option linter.all false
set_option maxRecDepth 100000
set_option maxHeartbeats 4000000
set_option autoImplicit false
namespace HB
open PySem PySem.Spec L2
open En (enc)
section
variable {P : Program} {w : World} {K : PySem.W.Frag} {mg : Str → Option Value} {base : Heap}
local macro_rules | `(tactic| walk_at "rd") => `(tactic| simp [-List.any_eq_true, -List.any_eq_false, sSeq, sIf, sRt, sNx, sAs, sOw, sFz, sDo, sNo, sApp, gNm, gTp_t, gC_c, gN_n, xB, xZ, xA, xK, getZ, getA, fzz, x2, xAnd, xOr, xNot, xAndV, xOrV, xNotV, xIf, xChain, xFn, xTup, xLst, xNil, xCons, xCatL, xCatT, xSlL, xSlT, xNoP, xSoP, xThenL, xTupOf, xRngL, xSort, xSortSet, xSortK, xSumV, xDget, xDictOf, xTIndex, xTupF, xCatF, xRevT, xRngL3, xRngT, xRow, gRow, xLen0, xCell, xCallR, xIsi, xIsi2, xCall, xDnew, xDone, xGetD, xInD, xYes, sFor, iL, iT, iR1, iR2, iR3, iEnT, iEnL, iKs, iLn, xLc, kOk_p, any_p, dlk_p, put_p, dne0_p, deq0_p, dne0_i, dne0_w, deq0_w, encM_len, sMix, xMo, xMf, xMn, setS, gSbD, gSb, cut_take, cut_drop, ex2_eq, kOk_kk, put_kk, kOk_k3, dlk_k3, put_k3, itw0, itw1, wb_nt, wb_tu, wb_len, kOk_h, dlk_h, put_h, getD_h, sAugM, rngD_0, wip, dseq_t, dseq_l, deq_il, rngD_rg, dnD_dn, disN_n, dnotN_n, isNo, start', startR, rwAt, rwSet, dint, itb0, itb1, itb2, bk_nt, bk_tu, bk_len, encL_list, list_encL, len_L, len_l, len_t, it2_0, it2_1, it3_0, it3_1, it3_2, il2_0, il2_1, il1_0, it2_v, it2_n, icmp_i, isub_i, iadd_i, din_i, din_iL, deq_i, dne_i, deq_b, dne_b, nd_i, nd_b, nd_s, nd_n, nd_l, nd_t, ik_ii, ik_ib, ik_tt, small, dabs, dmax2, sum_L, enc_i, enc_b, enc_k, enc_p, enc_3, enc_l])
def RisesOk (B : Bk) : Prop := ∃ lam : K3 → Nat, (∀ e ∈ leads B, e.1 ∈ kinds B.r → e.2 ∈ kinds B.r → lam e.1 < lam e.2) ∧ ∀ k ∈ kinds B.r, lam k < (kinds B.r).length
structure RsInv (B : Bk) (m : Rk) (left : List K3) (t : Nat) : Prop where
  ex : ∃ lam : K3 → Nat, (∀ k ∈ kinds B.r, k ∉ left → lam k < t) ∧ ∀ e ∈ leads B, e.1 ∈ kinds B.r → e.2 ∈ kinds B.r → e.2 ∉ left → e.1 ∉ left ∧ lam e.1 < lam e.2
  sub : ∀ k ∈ left, k ∈ kinds B.r
  len : t + left.length ≤ (kinds B.r).length
  ml : m.length + left.length ≤ (kinds B.r).length
def fstB (B : Bk) (left : List K3) (k : K3) : Bool := ((leads B).filter fun e => decide (e.2 = k) && decide (e.1 ∈ left)).isEmpty
theorem fstB_iff {B : Bk} {left : List K3} {k : K3} : fstB B left k = true ↔ ∀ e ∈ leads B, e.2 = k → e.1 ∉ left := by
  unfold fstB
  rw [List.isEmpty_iff, List.filter_eq_nil_iff]
  simp
theorem RsInv.start (B : Bk) : RsInv B [] (kinds B.r) 0 := ⟨⟨fun _ => 0, fun k hk h => absurd hk h, fun e _ _ h2 h3 => absurd h2 h3⟩, fun k h => h, by omega, by simp⟩
theorem RsInv.fin {B : Bk} {m : Rk} {t : Nat} (I : RsInv B m [] t) : RisesOk B := by
  obtain ⟨lam, h1, h2⟩ := I.ex
  have := I.len
  simp only [List.length_nil] at this
  exact ⟨lam, fun e he k1 k2 => (h2 e he k1 k2 (by simp)).2, fun k hk => by have := h1 k hk (by simp); omega⟩
theorem RsInv.next {B : Bk} {m m' : Rk} {left : List K3} {t : Nat} (I : RsInv B m left t) (hne : left.filter (fstB B left) ≠ []) (hm : m'.length ≤ m.length + (left.filter (fstB B left)).length) : RsInv B m' (left.filter fun k => !decide (k ∈ left.filter (fstB B left))) (t + 1) := by
  obtain ⟨lam, h1, h2⟩ := I.ex
  have hsplit : ∀ l : List K3, (l.filter (fstB B left)).length + (l.filter fun k => !(fstB B left k)).length = l.length := fun l => by
    induction l with
    | nil => rfl
    | cons a l ih =>
      rw [List.filter_cons, List.filter_cons]
      cases fstB B left a <;> simp <;> omega
  have heq : (left.filter fun k => !decide (k ∈ left.filter (fstB B left))) = left.filter fun k => !(fstB B left k) := by
    apply List.filter_congr
    intro k hk
    congr 1
    rw [Bool.eq_iff_iff, decide_eq_true_eq, List.mem_filter]
    exact ⟨fun h => h.2, fun h => ⟨hk, h⟩⟩
  rw [heq]
  have hs := hsplit left
  have hpos : 0 < (left.filter (fstB B left)).length := List.length_pos_iff.mpr hne
  refine ⟨⟨fun k => if k ∈ left then t else lam k, fun k hk hn => ?_, fun e he k1 k2 hn => ?_⟩, fun k hk => I.sub k (List.mem_filter.mp hk).1, by have := I.len; omega, by have := I.ml; omega⟩
  · simp only
    split
    · omega
    · rename_i h; have := h1 k hk h; omega
  · simp only
    by_cases hl : e.2 ∈ left
    · have hf : fstB B left e.2 = true := by
        cases z : fstB B left e.2
        · exact absurd (List.mem_filter.mpr ⟨hl, by rw [z]; rfl⟩) hn
        · rfl
      have h3 := fstB_iff.mp hf e he rfl
      rw [if_pos hl, if_neg h3]
      exact ⟨fun z => h3 (List.mem_filter.mp z).1, h1 _ k1 h3⟩
    · obtain ⟨h3, h4⟩ := h2 e he k1 k2 hl
      rw [if_neg hl, if_neg h3]
      exact ⟨fun z => h3 (List.mem_filter.mp z).1, h4⟩
def S_law_rises : SpT := fun ds W => ∃ (B : Bk), ds = [bkD B] ∧ 0 ≤ B.r ∧ B.r ≤ 4 ∧ W .none ∧ (RisesOk B → ∀ m : Rk, W (dc (encM .int m)))
theorem ln_law_rises {ds : List PyData} {W : PyData → Prop} (h : S_law_rises ds W) : ds.length = 1 := by obtain ⟨_, e, _⟩ := h; rw [e]; rfl
def RsW (B : Bk) (μ : Nat) (δ : Enm) (ρ : Rw) : Prop := ρ = (0, 0, 0) ∧ ∃ (m : Rk) (left : List K3) (t : Nat) (e5 e6 : Slo), δ = [.fz (bkD B), .fz (encL (leads B)), .ow (dc (encM .int m)), .fz (encL left), .fz (.int t), e5, e6, .no, .no] ∧ RsInv B m left t ∧ μ = left.length
theorem df_law_rises (G_law_kinds : Df P w K mg base "_law_kinds" 2 S_law_kinds) (G_law_leads : Df P w K mg base "_law_leads" 12 S_law_leads) (Fn_law_rises : Fn K mg "_law_rises" "_law_rises" 77) : Df P w K mg base "_law_rises" 13 S_law_rises := by
  refine mkfn Fn_law_rises sc_law_rises (fun kV doc pm an cdv ct us h => by rcases us with _ | ⟨x0, _ | ⟨x1, r1⟩⟩ <;> first | rfl | (simp at h)) (by intro ds W h; exact ln_law_rises h) fun f cdv A outer s H F E hr => ⟨_, (jbcons (jmix2 (is_ := [1, 2]) sc_law_rises.nd (jmfz (jcall G_law_leads ⟨rfl, rfl⟩ hr (jcons (jz 0) jnil)) (jmow (jdnew ⟨rfl, rfl⟩) jmnil)))
    (jbcons (jas (pr := false) (jtup (jcons (jcall G_law_kinds ⟨rfl, rfl⟩ (hr.mono (by decide)) (jcons (jix (ja 0) (jc ji)) jnil)) (jcons ji jnil))) (jgtp rfl (jgcons (jgn (i := 3) sc_law_rises.nd) (jgcons (jgn (i := 4) sc_law_rises.nd) jgnil))))
    (jbcons (jwhile PassesOwn.never (jcmpT (o_ne hr.units) (ja 3) (jc_f (jlst jnil))) (jbcons (jset (i := 5) sc_law_rises.nd (je_f (jlc [("_law_kind", 6)] rfl sc_law_rises.nd (jiL (jz 3)) (blkOk_by (N := N_law_rises) (sc := defScope (top 77)) (own := [("_law_kind", 6)]) (by decide +kernel)) (fun _ _ _ _ _ => (jgn (i := 6) sc_law_rises.nd)) (fun _ _ _ _ _ => (jtone (jcmpT (o_eq hr.units) (jc_f (jlc [("_law_one", 7), ("_law_other", 8)] rfl sc_law_rises.nd (jiL (jz 1)) (by exact blkOk_by (by kernel_rfl)) (fun _ _ _ _ _ => (jgtp rfl (jgcons (jgn (i := 7) sc_law_rises.nd) (jgcons (jgn (i := 8) sc_law_rises.nd) jgnil)))) (fun _ _ _ _ _ => (jtone (jw (jw_and (jcmpT (o_eq hr.units) (ja 8) (ja 6)) (jw_and1 (jcmpT (o_in hr.u65) (ja 7) (ja 3))))))) (fun _ _ _ _ _ => (jz 7)))) (jc_f (jlst jnil))))) (fun _ _ _ _ _ => (jz 6)))))
    (jbcons (jifs (jcmpT (o_eq hr.units) (ja 5) (jc_f (jlst jnil))) (jbone (jret jn)) jbnil)
    (jbcons (jfor (pr := false) PassesOwn.never rfl (jiL (jz 5)) (jgn (i := 6) sc_law_rises.nd) (jbone (jas (pr := false) (jz 4) (jgsubD ⟨rfl, rfl⟩ hr.u_d 2 (pv 2) (jz 6)))))
    (jbone (jas (pr := false) (jtup (jcons (je_f (jlc [("_law_kind", 6)] rfl sc_law_rises.nd (jiL (jz 3)) (blkOk_by (N := N_law_rises) (sc := defScope (top 77)) (own := [("_law_kind", 6)]) (by decide +kernel)) (fun _ _ _ _ _ => (jgn (i := 6) sc_law_rises.nd)) (fun _ _ _ _ _ => (jtone (jcmpT (o_notin hr.u65) (ja 6) (ja 5)))) (fun _ _ _ _ _ => (jz 6)))) (jcons (jadd (ja 4) (jc ji)) jnil))) (jgtp rfl (jgcons (jgn (i := 3) sc_law_rises.nd) (jgcons (jgn (i := 4) sc_law_rises.nd) jgnil)))))))))
    (jbone (jfz 2 (jret (jz 2))))))), ?_⟩
  intro ds W h
  obtain ⟨B, rfl, h0, h1, hN, h⟩ := h
  walk_at "rd"
  refine u_law_leads h0 h1 ?_
  rw [u_law_kinds ⟨h0, h1⟩]
  have hkl := kinds_len (r := B.r) h1
  have hll := leads_len h1
  refine ⟨RsW B, ⟨_, rfl, [], kinds B.r, 0, .no, .no, rfl, RsInv.start B, rfl⟩, ?_⟩
  rintro μ δ ρ ⟨rfl, m, left, t, e5, e6, rfl, I, hμ⟩
  have hl1 := I.len
  have hl2 := I.ml
  by_cases hnil : left = []
  · subst hnil
    walk_at "rd"
    exact ⟨_, dne0 (α := K3) (by decide) _, .inl ⟨rfl, h I.fin m⟩⟩
  have hne0 : left.isEmpty = false := by cases left with | nil => exact absurd rfl hnil | cons => rfl
  walk_at "rd"
  refine ⟨_, dne0 (α := K3) (by decide) _, .inr ⟨by rw [hne0]; rfl, ?_⟩⟩
  refine lc_ofE left (fstB B left) (fun k => k) (by omega) (fun k hk K1 K0 k1 k0 => ?_) ?_
  · walk_at "rd"
    refine lc_ofE (leads B) (fun e => decide (e.2 = k) && decide (e.1 ∈ left)) (fun e => e.1) (by omega) (fun e he L1 L0 l1 l0 => ?_) ?_
    · walk_at "rd"
      refine ⟨_, deqE (α := K3) (by decide) e.2 k, ?_⟩
      by_cases h1 : e.2 = k
      · refine .inr ⟨congrArg PyData.bool (decide_eq_true h1), _, dinL (α := K3) (by decide) false e.1 left, ?_⟩
        by_cases h2 : e.1 ∈ left
        · exact .inr ⟨by simp [h2], l1 (by simp [h1, h2])⟩
        · exact .inl ⟨by simp [h2], l0 (by simp [h1, h2])⟩
      · exact .inl ⟨congrArg PyData.bool (decide_eq_false h1), l0 (by simp [h1])⟩
    · refine ⟨_, deq0 (α := K3) (by decide) _, ?_⟩
      have e1 : (((leads B).filter fun e => decide (e.2 = k) && decide (e.1 ∈ left)).map fun e => e.1).isEmpty = fstB B left k := by
        unfold fstB; rw [List.isEmpty_map]
      rw [e1]
      cases hf : fstB B left k
      · exact .inl ⟨rfl, k0 hf⟩
      · exact .inr ⟨rfl, k1 hf⟩
  · walk_at "rd"
    have hfl := List.length_filter_le (fstB B left) left
    refine ⟨_, deq0 (α := K3) (by decide) _, ?_⟩
    by_cases hem : left.filter (fstB B left) = []
    · rw [hem]
      exact .inr ⟨rfl, hN⟩
    have hne1 : (left.filter (fstB B left)).isEmpty = false := by rw [Bool.eq_false_iff]; intro z; exact hem (List.isEmpty_iff.mp z)
    rw [hne1]
    refine .inl ⟨rfl, ?_⟩
    have hpl : ∀ (l : List K3) (m : Rk), (l.foldl (fun m k => aput m k (t : Int)) m).length ≤ m.length + l.length := by
      intro l
      induction l with
      | nil => intro m; simp
      | cons a l ih =>
        intro m
        have h1 := ih (aput m a (t : Int))
        have h2 := aput_len m a (t : Int)
        rw [List.foldl_cons, List.length_cons]; omega
    have hnx := fun m' hm' => RsInv.next (m' := m') I hem hm'
    generalize hff : left.filter (fstB B left) = fs at hnx hfl
    refine loop_fold fs (fun (m : Rk) (e : Slo) => [.fz (bkD B), .fz (encL (leads B)), .ow (dc (encM .int m)), .fz (encL left), .fz (.int t), .fz (encL fs), e, .no, .no]) (fun m k => aput m k (t : Int)) m e6 rfl ?_ ?_
    · intro pre k post hl e
      have h1 := hpl pre m
      have h2 := congrArg List.length hl
      rw [List.length_append, List.length_cons] at h2
      generalize pre.foldl (fun m k => aput m k (t : Int)) m = mm at h1
      walk_at "rd"
      omega
    · intro e
      have h1 := hpl fs m
      generalize fs.foldl (fun m k => aput m k (t : Int)) m = mm at h1
      walk_at "rd"
      refine lc_ofE left (fun k => !decide (k ∈ fs)) (fun k => k) (by omega) (fun k hk K1 K0 k1 k0 => ?_) ?_
      · walk_at "rd"
        refine ⟨_, dinL (α := K3) (by decide) true k fs, ?_⟩
        by_cases h2 : k ∈ fs
        · exact .inl ⟨by simp [h2], k0 (by simp [h2])⟩
        · exact .inr ⟨by simp [h2], k1 (by simp [h2])⟩
      · walk_at "rd"
        refine ⟨(left.filter fun k => !decide (k ∈ fs)).length, ?_, rfl, mm, left.filter (fun k => !decide (k ∈ fs)), t + 1, .fz (encL fs), e, ?_, hnx mm h1, rfl⟩
        · rw [hμ, List.length_filter_lt_length_iff_exists]
          obtain ⟨x, hx⟩ := List.exists_mem_of_ne_nil _ hem
          rw [hff] at hx
          refine ⟨x, ?_, by simp [hx]⟩
          rw [← hff] at hx
          exact (List.mem_filter.mp hx).1
        · have : ((t + 1 : Nat) : Int) = (t : Int) + 1 := by omega
          rw [this]

def S_law_verdict : SpT := fun ds W => ∃ (B : Bk), ds = [bkD B] ∧ Valid B ∧ B.r ≤ 3 ∧ ∀ v : Str, PyData.strOk v = true → (v = Str.ofString "kept" → Kept B) → W (.str v)
theorem ln_law_verdict {ds : List PyData} {W : PyData → Prop} (h : S_law_verdict ds W) : ds.length = 1 := by obtain ⟨_, e, _⟩ := h; rw [e]; rfl
theorem df_law_verdict (G_law_straight : Df P w K mg base "_law_straight" 4 S_law_straight) (G_law_courses : Df P w K mg base "_law_courses" 11 S_law_courses) (G_law_is_told : Df P w K mg base "_law_is_told" 12 S_law_is_told) (G_law_rises : Df P w K mg base "_law_rises" 13 S_law_rises) (Fn_law_verdict : Fn K mg "_law_verdict" "_law_verdict" 78) : Df P w K mg base "_law_verdict" 14 S_law_verdict := by
  refine mkfn Fn_law_verdict sc_law_verdict (fun kV doc pm an cdv ct us h => by rcases us with _ | ⟨x0, _ | ⟨x1, r1⟩⟩ <;> first | rfl | (simp at h)) (by intro ds W h; exact ln_law_verdict h) fun f cdv A outer s H F E hr => ⟨_, (jbcons (jifs (jnot (jt (jc (jcall G_law_straight ⟨rfl, rfl⟩ (hr.mono (by decide)) (jcons (jz 0) jnil))))) (jbone (jret jstr)) jbnil)
    (jbcons (jifs (jcmpT (o_ne hr.units) (jc_f (jlc [("_law_course", 1)] rfl sc_law_verdict.nd (jiL (jcall G_law_courses ⟨rfl, rfl⟩ (hr.mono (by decide)) (jcons (jz 0) jnil))) (blkOk_by (N := N_law_verdict) (sc := defScope (top 78)) (own := [("_law_course", 1)]) (by decide +kernel)) (fun _ _ _ _ _ => (jgn (i := 1) sc_law_verdict.nd)) (fun _ _ _ _ _ => (jtone (jnot (jt (jc (jcall G_law_is_told ⟨rfl, rfl⟩ (hr.mono (by decide)) (jcons (jz 0) (jcons (jix (ja 1) (jc ji)) (jcons (jix (ja 1) (jc ji)) jnil))))))))) (fun _ _ _ _ _ => (jz 1)))) (jc_f (jlst jnil))) (jbone (jret jstr)) jbnil)
    (jbone (jret (jif (jcmpT o_notN (jc (jcall G_law_rises ⟨rfl, rfl⟩ hr (jcons (jz 0) jnil))) (jc jn)) jstr jstr))))), ?_⟩
  intro ds W h
  obtain ⟨B, rfl, V, hr, h⟩ := h
  have r0 := V.r0
  have hcl := courses_len (B := B) (by omega)
  walk_at "rd"
  refine ⟨B, rfl, by omega, by omega, fun v hv => ?_⟩
  cases v with
  | false => exact .inl ⟨rfl, h _ (by decide +kernel) (fun z => absurd z (by decide))⟩
  | true =>
    refine .inr ⟨rfl, ?_⟩
    rw [u_law_courses (by omega) (by omega)]
    refine ⟨(courses B).map enc, rfl, ?_⟩
    refine lc_ofE (courses B) (fun c => !(isTold B c.1 c.2)) (fun c => c) (by omega) (fun c hc K1 K0 k1 k0 => ?_) ?_
    · obtain ⟨hp, hq, hne⟩ := mem_courses.mp (show (c.1, c.2) ∈ courses B from hc)
      walk_at "rd"
      refine u_law_is_told hp hq (by omega) hne ?_
      have ec : isTold B (c.1.1, c.1.2) (c.2.1, c.2.2) = isTold B c.1 c.2 := rfl
      rw [ec]
      cases hi : isTold B c.1 c.2
      · exact .inl ⟨rfl, k1 (by rw [hi]; rfl)⟩
      · exact .inr ⟨rfl, k0 (by rw [hi]; rfl)⟩
    · refine ⟨_, dne0 (α := Pr × Pr) (by decide) _, ?_⟩
      rw [List.map_id']
      by_cases hem : (courses B).filter (fun c => !(isTold B c.1 c.2)) = []
      · rw [hem]
        refine .inl ⟨rfl, ?_⟩
        have htd : ∀ p q, (p, q) ∈ courses B → isTold B p q = true := fun p q hc => by
          have := List.filter_eq_nil_iff.mp hem _ hc
          simpa using this
        refine ⟨B, rfl, by omega, by omega, .inl ⟨rfl, h _ (by decide +kernel) (fun z => absurd z (by decide))⟩, fun hR m => .inr ⟨rfl, h _ (by decide +kernel) fun _ => ?_⟩⟩
        obtain ⟨lam, l1, l2⟩ := hR
        exact ⟨V, hv rfl, htd, ⟨lam, fun e he => l1 e he (leads_en B e he).1 (leads_en B e he).2, l2⟩, leads_en B⟩
      · refine .inr ⟨?_, h _ (by decide +kernel) (fun z => absurd z (by decide))⟩
        rw [show List.isEmpty _ = false from by rw [Bool.eq_false_iff]; intro z; exact hem (List.isEmpty_iff.mp z)]
        rfl

end
end HB

set_option Elab.async false
set_option linter.all false
set_option autoImplicit false
namespace HB
open PySem PySem.Spec L2
open En (enc)
/-! ### the books at the end of the drawing -/
def FB (r : Int) : Bk := ⟨r, rgI 0 (r + 1), rgI (-r) 1⟩
def bfs (B : Bk) : Nat → Mp → List Pr → Option Mp
  | 0, _, _ => none
  | n + 1, m, rs => match rs with
    | [] => some m
    | _ => bfs B n (rs.foldl (rowR B) (m, [])).1 (rs.foldl (rowR B) (m, [])).2
theorem bfs_ok {B : Bk} {p : Pr} : ∀ (n : Nat) (m : Mp) (rs : List Pr) (t : Nat) (m' : Mp), FInv B p m rs t → bfs B n m rs = some m' → FromOk B p m'
  | 0, _, _, _, _, _, h => by cases h
  | n + 1, m, [], t, m', I, h => by
    unfold bfs at h
    simp only [Option.some.injEq] at h
    subst h; exact I.fin
  | n + 1, m, a :: rs, t, m', I, h => bfs_ok n _ _ (t + 1) m' I.step.1 h
def strB (B : Bk) : Bool := (allPairs B.r).all fun p => match bfs B 12 [(p, 0)] [p] with
  | some m => m.all fun x => decide (x.2 = offP p x.1)
  | none => false
theorem straight_of {B : Bk} (h : strB B = true) : Straight B := by
  intro p q k hb hp
  have h1 := List.all_eq_true.mp h p (mem_allPairs.mpr hb)
  split at h1
  · rename_i m hm
    have F := bfs_ok 12 _ _ 0 m (FInv.start B p) hm
    obtain ⟨n, h2, _⟩ := F.all q k hp
    obtain ⟨k', e, hp'⟩ := F.pa q n h2
    have := of_decide_eq_true (List.all_eq_true.mp h1 _ h2)
    exact ⟨k', hp', by rw [← e]; exact this⟩
  · cases h1
def tdB (B : Bk) : Bool := (allPairs B.r).all fun p => (allPairs B.r).all fun q => (shuf B p q).isEmpty || isTold B p q
theorem told_of {B : Bk} (h : tdB B = true) : ∀ p q, (p, q) ∈ courses B → isTold B p q = true := by
  intro p q hc
  obtain ⟨hp, hq, hne⟩ := mem_courses.mp hc
  have h1 := List.all_eq_true.mp (List.all_eq_true.mp h p (mem_allPairs.mpr hp)) q (mem_allPairs.mpr hq)
  rw [Bool.or_eq_true] at h1
  rcases h1 with h1 | h1
  · exact absurd (List.isEmpty_iff.mp h1) hne
  · exact h1
def lamT (t : List (K3 × Nat)) (k : K3) : Nat := ((t.find? fun x => decide (x.1 = k)).map (·.2)).getD 0
def rkB (B : Bk) (t : List (K3 × Nat)) : Bool := ((kdRaw B.r).all fun k => (decide (nx3 k = k.b) || decide (lamT t k < lamT t ⟨k.a, k.b, nx3 k⟩)) && decide (lamT t k < (kdRaw B.r).length)) && (allPairs B.r).all fun p => (allPairs B.r).all fun q => (shuf B p q).isEmpty || (tdRaw B p q).all fun x => decide (lamT t (evK p q x.1) < lamT t (evK p q x.2))
theorem ranked_of {B : Bk} {t : List (K3 × Nat)} (h : rkB B t = true) : Ranked B := by
  unfold rkB at h
  rw [Bool.and_eq_true] at h
  have hk : ∀ k ∈ kinds B.r, k ∈ kdRaw B.r := fun k hk => (mem_sortE _ _).mp hk
  have hl : (kinds B.r).length = (kdRaw B.r).length := by unfold kinds; exact len_sortE _
  refine ⟨⟨lamT t, fun e he => ?_, fun k hk2 => ?_⟩, leads_en B⟩
  · rcases mem_leads.mp he with ⟨k, hk2, hn, rfl⟩ | ⟨c, hc, x, hx, rfl⟩
    · have h1 := List.all_eq_true.mp h.1 k (hk k hk2)
      rw [Bool.and_eq_true, Bool.or_eq_true] at h1
      rcases h1.1 with z | z
      · exact absurd (of_decide_eq_true z) hn
      · exact of_decide_eq_true z
    · obtain ⟨hp, hq, hne⟩ := mem_courses.mp (show (c.1, c.2) ∈ courses B from hc)
      have h1 := List.all_eq_true.mp (List.all_eq_true.mp h.2 c.1 (mem_allPairs.mpr hp)) c.2 (mem_allPairs.mpr hq)
      rw [Bool.or_eq_true] at h1
      rcases h1 with z | z
      · exact absurd (List.isEmpty_iff.mp z) hne
      · exact of_decide_eq_true (List.all_eq_true.mp z x ((mem_sortE _ _).mp hx))
  · have h1 := List.all_eq_true.mp h.1 k (hk k hk2)
    rw [Bool.and_eq_true] at h1
    rw [hl]; exact of_decide_eq_true h1.2
def rt3 : List (K3 × Nat) := [(⟨0, 1, 0⟩, 0), (⟨0, 2, 0⟩, 0), (⟨0, 2, 1⟩, 1), (⟨0, 3, 0⟩, 0), (⟨0, 3, 1⟩, 1), (⟨0, 3, 2⟩, 2), (⟨1, 0, 1⟩, 2), (⟨1, 2, 1⟩, 1), (⟨1, 3, 1⟩, 1), (⟨1, 3, 2⟩, 2), (⟨2, 0, 1⟩, 2), (⟨2, 0, 2⟩, 1), (⟨2, 1, 2⟩, 1), (⟨2, 3, 2⟩, 2), (⟨3, 0, 1⟩, 2), (⟨3, 0, 2⟩, 1), (⟨3, 0, 3⟩, 0), (⟨3, 1, 2⟩, 1), (⟨3, 1, 3⟩, 0), (⟨3, 2, 3⟩, 0)]
def rt2 : List (K3 × Nat) := [(⟨0, 1, 0⟩, 0), (⟨0, 2, 0⟩, 0), (⟨0, 2, 1⟩, 1), (⟨1, 0, 1⟩, 1), (⟨1, 2, 1⟩, 1), (⟨2, 0, 1⟩, 1), (⟨2, 0, 2⟩, 0), (⟨2, 1, 2⟩, 0)]
theorem FB_valid {r : Int} (h : 1 ≤ r ∧ r ≤ 3) : Valid (FB r) := by
  have hs : ∀ a b : Int, (rgI a b).Pairwise (· < ·) := fun a b => by
    unfold rgI
    refine List.pairwise_map.mpr (List.Pairwise.imp ?_ List.pairwise_lt_range)
    intro x y h; omega
  exact ⟨by simp only [FB]; omega, by simp only [FB]; omega, hs _ _, hs _ _, fun x hx => by
    have := mem_rgI.mp hx; simp only [FB]; omega, fun x hx => by
    have := mem_rgI.mp hx; simp only [FB]; omega⟩
theorem FB1 : Kept (FB 1) := ⟨FB_valid (by decide), straight_of (by decide +kernel), told_of (by decide +kernel), ranked_of (t := []) (by decide +kernel)⟩
theorem FB2 : Kept (FB 2) := ⟨FB_valid (by decide), straight_of (by decide +kernel), told_of (by decide +kernel), ranked_of (t := rt2) (by decide +kernel)⟩
theorem FB3 : Kept (FB 3) := ⟨FB_valid (by decide), straight_of (by decide +kernel), told_of (by decide +kernel), ranked_of (t := rt3) (by decide +kernel)⟩
theorem FB_kept {r : Int} (h : 1 ≤ r ∧ r ≤ 3) : Kept (FB r) := by
  obtain rfl | rfl | rfl : r = 1 ∨ r = 2 ∨ r = 3 := by omega
  · exact FB1
  · exact FB2
  · exact FB3
end HB

set_option Elab.async false
set_option linter.all false
set_option maxRecDepth 100000
set_option maxHeartbeats 4000000
set_option autoImplicit false
namespace HB
open PySem PySem.Spec L2
open En (enc)
section
variable {P : Program} {w : World} {K : PySem.W.Frag} {mg : Str → Option Value} {base : Heap}
local macro_rules | `(tactic| walk_at "rd") => `(tactic| simp [-List.any_eq_true, -List.any_eq_false, sSeq, sIf, sRt, sNx, sAs, sOw, sFz, sDo, sNo, sApp, gNm, gTp_t, gC_c, gN_n, xB, xZ, xA, xK, getZ, getA, fzz, x2, xAnd, xOr, xNot, xAndV, xOrV, xNotV, xIf, xChain, xFn, xTup, xLst, xNil, xCons, xCatL, xCatT, xSlL, xSlT, xNoP, xSoP, xThenL, xTupOf, xRngL, xSort, xSortSet, xSortK, xSumV, xDget, xDictOf, xTIndex, xTupF, xCatF, xRevT, xRngL3, xRngT, xRow, gRow, xLen0, xCell, xCallR, xIsi, xIsi2, xCall, xDnew, xDone, xGetD, xInD, xYes, sFor, iL, iT, iR1, iR2, iR3, iEnT, iEnL, iKs, iLn, xLc, kOk_p, any_p, dlk_p, put_p, dne0_p, deq0_p, dne0_i, dne0_w, deq0_w, encM_len, sMix, xMo, xMf, xMn, setS, gSbD, gSb, cut_take, cut_drop, ex2_eq, kOk_kk, put_kk, kOk_k3, dlk_k3, put_k3, itw0, itw1, wb_nt, wb_tu, wb_len, kOk_h, dlk_h, put_h, getD_h, sAugM, rngD_0, wip, dseq_t, dseq_l, deq_il, rngD_rg, dnD_dn, disN_n, dnotN_n, isNo, start', startR, rwAt, rwSet, dint, itb0, itb1, itb2, bk_nt, bk_tu, bk_len, encL_list, list_encL, len_L, len_l, len_t, it2_0, it2_1, it3_0, it3_1, it3_2, il2_0, il2_1, il1_0, it2_v, it2_n, icmp_i, isub_i, iadd_i, din_i, din_iL, deq_i, dne_i, deq_b, dne_b, nd_i, nd_b, nd_s, nd_n, nd_l, nd_t, ik_ii, ik_ib, ik_tt, small, dabs, dmax2, sum_L, enc_i, enc_b, enc_k, enc_p, enc_3, enc_l])
structure GoodL (r : Int) (l : List Int) : Prop where
  so : l.Pairwise (· < ·)
  bd : ∀ x ∈ l, -r ≤ x ∧ x ≤ r
theorem GoodL.sub {r : Int} {l : List Int} (h : l.Sublist (rgI (-r) (r + 1))) : GoodL r l := ⟨List.Pairwise.sublist h (by
  unfold rgI
  refine List.pairwise_map.mpr (List.Pairwise.imp ?_ List.pairwise_lt_range)
  intro x y h; omega), fun x hx => by have := mem_rgI.mp (h.subset hx); omega⟩
theorem GoodL.neg {r : Int} {l : List Int} (h : GoodL r l) : GoodL r (l.reverse.map fun x => 0 - x) := ⟨by
  rw [List.pairwise_map, List.pairwise_reverse]
  exact h.so.imp fun h => by omega, fun x hx => by
  obtain ⟨y, hy, rfl⟩ := List.mem_map.mp hx
  have := h.bd y (List.mem_reverse.mp hy); omega⟩
theorem GoodL.len {r : Int} {l : List Int} (h : GoodL r l) (hr : r ≤ 3) : l.length ≤ 7 := by
  have := span_len h.so h.bd
  omega
theorem GoodL.valid {r : Int} {u d : List Int} (hu : GoodL r u) (hd : GoodL r d) (h : 1 ≤ r ∧ r ≤ 3) : Valid ⟨r, u, d⟩ := ⟨by simp only; omega, by simp only; omega, hu.so, hd.so, hu.bd, hd.bd⟩
theorem cutI_d (l : List Int) {i : Int} (h : 0 ≤ i) : cutD (l.map .int) (some i) none = (l.drop i.toNat).map .int := by
  have := cut_drop (l.map PyData.int) i.toNat
  rw [show ((i.toNat : Nat) : Int) = i by omega, ← List.map_drop] at this; exact this
theorem cutI_t (l : List Int) {i : Int} (h : 0 ≤ i) : cutD (l.map .int) none (some i) = (l.take i.toNat).map .int := by
  have := cut_take (l.map PyData.int) i.toNat
  rw [show ((i.toNat : Nat) : Int) = i by omega, ← List.map_take] at this; exact this
def S_law_book : SpR := fun ns ρ ds W => 0 ≤ ρ.1 ∧ ds = [.int 3] ∧ ∀ (B : Bk) (ρ' : Rw), Valid B → B.r ≤ 3 → 0 ≤ ρ'.1 → W (bkD B) ρ'
theorem ln_law_book {ns : List Int} {ρ : Rw} {ds : List PyData} {W : PyData → Rw → Prop} (h : S_law_book ns ρ ds W) : ds.length + 1 = 2 := by obtain ⟨_, e, _⟩ := h; rw [e]; rfl
theorem df_law_book (G_law_taken : DfR P w K mg base "_law_taken" 1 S_law_taken) (h_len : mg "len" = none) (h_list : mg "list" = none) (h_range : mg "range" = none) (h_tuple : mg "tuple" = none) (Fn_law_book : Fn K mg "_law_book" "_law_book" 61) : DfR P w K mg base "_law_book" 2 S_law_book := by
  refine mkfnR Fn_law_book sc_law_book (fun kV doc pm an cdv ct us h => by rcases us with _ | ⟨x0, _ | ⟨x1, _ | ⟨x2, r2⟩⟩⟩ <;> first | rfl | (simp at h)) (by intro ns ρ ds W h; exact ln_law_book h) fun f cdv A outer s H F E r sa ns hr => ⟨_, (jbcons (jpar2 (is_ := [2, 3]) sc_law_book.nd (jmfz (jadd (jc ji) (jc (jcallR G_law_taken ⟨rfl, rfl, rfl⟩ hr 0 (pv 0) (jcons (jz 1) jnil)))) (jmfz (jcallR G_law_taken ⟨rfl, rfl, rfl⟩ hr 0 (pv 0) (jcons ji jnil)) jmnil)))
    (jbcons (jset (i := 4) sc_law_book.nd (je_f (jlistR2 h_list h_range (jc (jsub (jc ji) (ja 2))) (jc (jadd (ja 2) (jc ji))))))
    (jbcons (jset (i := 5) sc_law_book.nd (jtupOf h_tuple (jc_f (jlc [("_law_one", 6)] rfl sc_law_book.nd (jiL (jz 4)) (blkOk_by (N := N_law_book) (sc := defScope (top 61)) (own := [("_law_one", 6)]) (by decide +kernel)) (fun _ _ _ _ _ => (jgn (i := 6) sc_law_book.nd)) (fun _ _ _ _ _ => (jtone (jcmpT (o_eq hr.units) (jc (jcallR G_law_taken ⟨rfl, rfl, rfl⟩ hr 0 (pv 0) (jcons ji jnil))) (jc ji)))) (fun _ _ _ _ _ => (jz 6))))))
    (jbcons (jset (i := 7) sc_law_book.nd (jtupOf h_tuple (jc_f (jlc [("_law_one", 6)] rfl sc_law_book.nd (jiL (jz 4)) (blkOk_by (N := N_law_book) (sc := defScope (top 61)) (own := [("_law_one", 6)]) (by decide +kernel)) (fun _ _ _ _ _ => (jgn (i := 6) sc_law_book.nd)) (fun _ _ _ _ _ => (jtone (jcmpT (o_eq hr.units) (jc (jcallR G_law_taken ⟨rfl, rfl, rfl⟩ hr 0 (pv 0) (jcons ji jnil))) (jc ji)))) (fun _ _ _ _ _ => (jz 6))))))
    (jbcons (jifs (jcmpT (o_eq hr.units) (ja 3) (jc ji)) (jbone (jpar2 (is_ := [5, 7]) sc_law_book.nd (jmfz (jtupOf h_tuple (jc_f (jslL (ja 4) (jso (ja 2)) jno))) (jmfz (jtupOf h_tuple (jc_f (jslL (ja 4) jno (jso (jc (jadd (ja 2) (jc ji))))))) jmnil)))) jbnil)
    (jbcons (jifs (jcmpT (o_eq hr.units) (ja 3) (jc ji)) (jbone (jpar2 (is_ := [5, 7]) sc_law_book.nd (jmfz (jtupOf h_tuple (jc_f (jslL (ja 4) (jso (jc (jcallR G_law_taken ⟨rfl, rfl, rfl⟩ hr 0 (pv 0) (jcons (jcallB b_len h_len (jccons (ja 4) jcnil)) jnil)))) jno))) (jmfz (jtupOf h_tuple (jc_f (jslL (ja 4) jno (jso (jc (jcallR G_law_taken ⟨rfl, rfl, rfl⟩ hr 0 (pv 0) (jcons (jcallB b_len h_len (jccons (ja 4) jcnil)) jnil))))))) jmnil)))) jbnil)
    (jbcons (jifs (jcmpT (o_eq hr.units) (ja 3) (jc ji)) (jbone (jset (i := 5) sc_law_book.nd (jtupOf h_tuple (jc_f (jslL (jc_f (jslL (ja 4) (jso (jc (jcallR G_law_taken ⟨rfl, rfl, rfl⟩ hr 0 (pv 0) (jcons (jcallB b_len h_len (jccons (ja 4) jcnil)) jnil)))) jno)) jno (jso (jc (jadd (jc ji) (jc (jcallR G_law_taken ⟨rfl, rfl, rfl⟩ hr 0 (pv 0) (jcons ji jnil))))))))))) jbnil)
    (jbcons (jifs (jcmpT (o_eq hr.units) (ja 3) (jc ji)) (jbone (jpar2 (is_ := [5, 7]) sc_law_book.nd (jmfz (jz 5) (jmfz (jtupOf h_tuple (jc_f (jlc [("_law_one", 6)] rfl sc_law_book.nd (jiT (jrevT (jz 5))) (blkOk_by (N := N_law_book) (sc := defScope (top 61)) (own := [("_law_one", 6)]) (by decide +kernel)) (fun _ _ _ _ _ => (jgn (i := 6) sc_law_book.nd)) (fun _ _ _ _ _ => jtnil) (fun _ _ _ _ _ => (jsub (jc ji) (ja 6)))))) jmnil)))) jbnil)
    (jbone (jret (jtup (jcons (jz 2) (jcons (jz 5) (jcons (jz 7) jnil)))))))))))))), ?_⟩
  intro ρ ds W h
  obtain ⟨hρ, rfl, h⟩ := h
  walk_at "rd"
  refine u_law_taken hρ (by omega) (by omega) fun x ρ1 x0 x1 r1 => ?_
  walk_at "rd"
  refine u_law_taken r1 (by omega) (by omega) fun y ρ2 y0 y1 r2 => ?_
  have hgev : GoodL (1 + x) (rgI (-(1 + x)) (1 + x + 1)) := GoodL.sub (List.Sublist.refl _)
  have hevl := hgev.len (by omega)
  have hevp : 0 < (rgI (-(1 + x)) (1 + x + 1)).length := by rw [len_rgI]; omega
  have hsub : ∀ l : List Int, l.Sublist (rgI (-(1 + x)) (1 + x + 1)) → GoodL (1 + x) l := fun l => GoodL.sub
  have fin : ∀ (u d : List Int) (ρ' : Rw), GoodL (1 + x) u → GoodL (1 + x) d → 0 ≤ ρ'.1 → W (.tuple [.int (1 + x), .tuple (u.map .int), .tuple (d.map .int)]) ρ' := fun u d ρ' hu hd hr => h ⟨1 + x, u, d⟩ ρ' (hu.valid hd ⟨by omega, by omega⟩) (by show 1 + x ≤ 3; omega) hr
  generalize hev : rgI (-(1 + x)) (1 + x + 1) = ev at hgev hevl hevp hsub ⊢
  refine ⟨by omega, fun pre acc ρ' => 0 ≤ ρ'.1 ∧ acc.Sublist pre, ⟨r2, List.Sublist.refl _⟩, ?_, ?_⟩
  · rintro pre d post acc ρ' hl ⟨g1, g2⟩
    obtain ⟨e, he, rfl⟩ := List.mem_map.mp (show d ∈ ev.map PyData.int by rw [hl]; exact List.mem_append_right _ (List.mem_cons_self ..))
    have hal : acc.length ≤ 7 := by
      have h1 := g2.length_le
      have h2 := congrArg List.length hl
      rw [List.length_map, List.length_append, List.length_cons] at h2
      omega
    walk_at "rd"
    refine u_law_taken g1 (by omega) (by omega) fun z ρ3 z0 z1 r3 => ?_
    rw [deq_i]
    by_cases hz : z = 0
    · exact ⟨_, rfl, .inr ⟨congrArg PyData.bool (decide_eq_true hz), by omega, r3, g2⟩⟩
    · exact ⟨_, rfl, .inl ⟨congrArg PyData.bool (decide_eq_false hz), r3, g2.trans (List.sublist_append_left _ _)⟩⟩
  rintro acc ρ3 ⟨r3, gs⟩
  obtain ⟨u, hu, rfl⟩ := List.sublist_map_iff.mp gs
  walk_at "rd"
  refine ⟨ fun pre acc ρ' => 0 ≤ ρ'.1 ∧ acc.Sublist pre, ⟨r3, List.Sublist.refl _⟩, ?_, ?_⟩
  · rintro pre d post acc ρ' hl ⟨g1, g2⟩
    obtain ⟨e, he, rfl⟩ := List.mem_map.mp (show d ∈ ev.map PyData.int by rw [hl]; exact List.mem_append_right _ (List.mem_cons_self ..))
    have hal : acc.length ≤ 7 := by
      have h1 := g2.length_le
      have h2 := congrArg List.length hl
      rw [List.length_map, List.length_append, List.length_cons] at h2
      omega
    walk_at "rd"
    refine u_law_taken g1 (by omega) (by omega) fun z ρ3 z0 z1 r3 => ?_
    rw [deq_i]
    by_cases hz : z = 0
    · exact ⟨_, rfl, .inr ⟨congrArg PyData.bool (decide_eq_true hz), by omega, r3, g2⟩⟩
    · exact ⟨_, rfl, .inl ⟨congrArg PyData.bool (decide_eq_false hz), r3, g2.trans (List.sublist_append_left _ _)⟩⟩
  rintro acc ρ4 ⟨r4, gs⟩
  obtain ⟨d, hd, rfl⟩ := List.sublist_map_iff.mp gs
  have gu := hsub u hu
  have gd := hsub d hd
  have hsd : ∀ i : Nat, GoodL (1 + x) (ev.drop i) := fun i => hsub _ (List.drop_sublist _ _)
  have hst : ∀ i : Nat, GoodL (1 + x) (ev.take i) := fun i => hsub _ (List.take_sublist _ _)
  obtain rfl | rfl | rfl | rfl | h4 : y = 0 ∨ y = 1 ∨ y = 2 ∨ y = 3 ∨ 4 ≤ y := by omega
  · walk_at "rd"
    rw [cutI_d ev (by omega), cutI_t ev (by omega)]
    exact fin _ _ ρ4 (hsd _) (hst _) r4
  · walk_at "rd"
    refine u_law_taken r4 (by omega) (by omega) fun i ρ5 i0 i1 r5 => ⟨i, rfl, ?_⟩
    refine u_law_taken r5 (by omega) (by omega) fun j ρ6 j0 j1 r6 => ⟨j, rfl, ?_⟩
    rw [cutI_d ev (by omega), cutI_t ev (by omega)]
    exact fin _ _ ρ6 (hsd _) (hst _) r6
  · walk_at "rd"
    refine u_law_taken r4 (by omega) (by omega) fun i ρ5 i0 i1 r5 => ⟨i, rfl, ?_⟩
    refine u_law_taken r5 (by omega) (by omega) fun j ρ6 j0 j1 r6 => ⟨_, iadd_i _ _, _, rfl, ?_⟩
    rw [cutI_d ev (by omega), cutI_t _ (by omega)]
    exact fin _ _ ρ6 (hsub _ ((List.take_sublist _ _).trans (List.drop_sublist _ _))) gd r6
  · walk_at "rd"
    rw [← List.map_reverse]
    refine lc_allE u.reverse (fun k => 0 - k) (by rw [List.length_reverse]; have := gu.len (by omega); omega) (fun k hk K1 k1 => ?_) ?_
    · walk_at "rd"
      rw [Int.zero_sub] at k1
      exact k1
    · exact ⟨_, rfl, fin _ _ ρ4 gu gu.neg r4⟩
  · exact ⟨_, rfl, .inl ⟨by omega, .inl ⟨by omega, .inl ⟨by omega, .inl ⟨by omega, fin _ _ ρ4 gu gd r4⟩⟩⟩⟩⟩

theorem deq_s (a b : Str) (ha : PyData.strOk a = true) (hb : PyData.strOk b = true) : deq (.str a) (.str b) = some (.bool (decide (a = b))) := by
  have o : ∀ s : Str, PyData.strOk s = true → okD (.str s) = true := fun s h => by simp [okD, plainD, SeqAt.shaped, PyData.canLay0, PyData.depth, h]
  unfold deq; rw [o a ha, o b hb]
  by_cases h : a = b
  · subst h; simp [PyData.eqv]
  · simp [PyData.eqv, h]
theorem u_law_book {ns : List Int} {ρ : Rw} {W : PyData → Rw → Prop} (hρ : 0 ≤ ρ.1) (h : ∀ (B : Bk) (ρ' : Rw), Valid B → B.r ≤ 3 → 0 ≤ ρ'.1 → W (bkD B) ρ') : S_law_book ns ρ [.int 3] W := ⟨hρ, rfl, h⟩
def S_law_kept : SpR := fun ns ρ ds W => 0 ≤ ρ.1 ∧ ds = [.int 3] ∧ ∀ (B : Bk) (ρ' : Rw), Kept B → B.r ≤ 3 → 0 ≤ ρ'.1 → W (bkD B) ρ'
theorem ln_law_kept {ns : List Int} {ρ : Rw} {ds : List PyData} {W : PyData → Rw → Prop} (h : S_law_kept ns ρ ds W) : ds.length + 1 = 2 := by obtain ⟨_, e, _⟩ := h; rw [e]; rfl
theorem df_law_kept (G_law_taken : DfR P w K mg base "_law_taken" 1 S_law_taken) (G_law_book : DfR P w K mg base "_law_book" 2 S_law_book) (G_law_courses : Df P w K mg base "_law_courses" 11 S_law_courses) (G_law_verdict : Df P w K mg base "_law_verdict" 14 S_law_verdict) (h_len : mg "len" = none) (h_range : mg "range" = none) (h_tuple : mg "tuple" = none) (Fn_law_kept : Fn K mg "_law_kept" "_law_kept" 79) : DfR P w K mg base "_law_kept" 15 S_law_kept := by
  refine mkfnR Fn_law_kept sc_law_kept (fun kV doc pm an cdv ct us h => by rcases us with _ | ⟨x0, _ | ⟨x1, _ | ⟨x2, r2⟩⟩⟩ <;> first | rfl | (simp at h)) (by intro ns ρ ds W h; exact ln_law_kept h) fun f cdv A outer s H F E r sa ns hr => ⟨_, (jbcons (jfor (pr := false) PassesOwn.never rfl (jiR1 h_range (jccons (jc ji) jcnil)) (jgn (i := 2) sc_law_kept.nd) (jbcons (jset (i := 3) sc_law_kept.nd (jcallR G_law_book ⟨rfl, rfl, rfl⟩ (hr.mono (by decide)) 0 (pv 0) (jcons (jz 1) jnil)))
    (jbone (jifs (jw (jw_and (jcmpT (o_eq hr.units) (jc (jcall G_law_verdict ⟨rfl, rfl⟩ hr (jcons (jz 3) jnil))) (jc jstr)) (jw_and1 (jcmpT o_gt (jc (jcallB b_len h_len (jccons (jc (jcall G_law_courses ⟨rfl, rfl⟩ (hr.mono (by decide)) (jcons (jz 3) jnil))) jcnil))) (jc (jmul (jc (jmul (jc ji) (jc (jadd (jc (jix (ja 3) (jc ji))) (jc ji))))) (jc (jadd (jc (jix (ja 3) (jc ji))) (jc ji))))))))) (jbone (jret (jz 3))) jbnil))))
    (jbcons (jset (i := 4) sc_law_kept.nd (jadd (jc ji) (jc (jcallR G_law_taken ⟨rfl, rfl, rfl⟩ (hr.mono (by decide)) 0 (pv 0) (jcons (jz 1) jnil)))))
    (jbone (jret (jtup (jcons (jz 4) (jcons (jtupR2 h_tuple h_range (jc ji) (jc (jadd (ja 4) (jc ji)))) (jcons (jtupR2 h_tuple h_range (jc (jsub (jc ji) (ja 4))) (jc ji)) jnil)))))))), ?_⟩
  intro ρ ds W h
  obtain ⟨hρ, rfl, h⟩ := h
  walk_at "rd"
  refine loop_relR (rgI 0 6) (fun (_ : Unit) (e : Slo × Slo) => [.row, .fz (.int 3), e.1, e.2, .no]) (fun _ _ ρ' => 0 ≤ ρ'.1) () (.no, .no) rfl hρ ?_ ?_
  · intro pre a post hl _ e ρ1 r1
    walk_at "rd"
    refine u_law_book r1 fun B ρ2 V hr r2 => ?_
    refine ⟨B, rfl, V, hr, fun v ho hv => ⟨_, deq_s _ _ ho (by decide +kernel), ?_⟩⟩
    have rr := V.r0
    by_cases hk : v = Str.ofString "kept"
    · refine .inr ⟨congrArg PyData.bool (decide_eq_true hk), ?_⟩
      rw [u_law_courses (by omega) (by omega)]
      walk_at "rd"
      have im : ∀ a b : Int, -100 < b → b < 100 → imul (.int a) (.int b) = some (.int (a * b)) := fun a b h1 h2 => if_pos (.inr ⟨by omega, by omega⟩)
      refine ⟨_, im _ _ (by omega) (by omega), _, im _ _ (by omega) (by omega), _, icmp_i _ _ _, ?_⟩
      cases hd : decide (((courses B).length : Int) > 2 * (B.r + 1) * (B.r + 1))
      · exact .inl ⟨rfl, r2⟩
      · exact .inr ⟨rfl, h B ρ2 (hv hk) hr r2⟩
    · exact .inl ⟨congrArg PyData.bool (decide_eq_false hk), r2⟩
  · intro _ e ρ1 r1
    walk_at "rd"
    refine u_law_taken r1 (by omega) (by omega) fun x ρ2 x0 x1 r2 => ?_
    refine ⟨_, iadd_i _ _, _, iadd_i _ _, _, rfl, by omega, _, isub_i _ _, _, rfl, by omega, ?_⟩
    have := h (FB (1 + x)) ρ2 (FB_kept ⟨by omega, by omega⟩) (by show 1 + x ≤ 3; omega) r2
    unfold FB bkD at this
    rw [Int.zero_sub]
    exact this

end
end HB

set_option Elab.async false
set_option linter.all false
set_option autoImplicit false
namespace HB
open PySem PySem.Spec L2
open En (enc)
/-! ### deeds of a web, edge by edge -/
theorem mem_deedsW {B : Bk} {w : Wb} {h : List Int} {d : Dw} : d ∈ deedsW B w h ↔ (0 ≤ d.2 ∧ d.2 < w.n) ∧ canW B w h d.1 d.2 = true := by
  obtain ⟨u, k⟩ := d
  unfold deedsW
  simp only [List.mem_append, List.mem_map, List.mem_filter, Prod.mk.injEq, mem_rgI]
  constructor
  · rintro (⟨a, ⟨h1, h2⟩, rfl, rfl⟩ | ⟨a, ⟨h1, h2⟩, rfl, rfl⟩) <;> exact ⟨h1, h2⟩
  · rintro ⟨h1, h2⟩
    cases u
    · exact .inl ⟨k, ⟨h1, h2⟩, rfl, rfl⟩
    · exact .inr ⟨k, ⟨h1, h2⟩, rfl, rfl⟩
theorem mem_nearL {B : Bk} {w : Wb} {h o : List Int} {d : Dw} : d ∈ nearL B w h o ↔ ((0 ≤ d.2 ∧ d.2 < w.n) ∧ canW B w h d.1 d.2 = true) ∧ getI h d.2 ≠ getI o d.2 ∧ d.1 = decide (getI h d.2 < getI o d.2) := by
  unfold nearL
  rw [List.mem_filter, mem_deedsW]
  obtain ⟨u, k⟩ := d
  cases u with
  | true =>
    simp only [if_true, decide_eq_true_eq]
    constructor
    · rintro ⟨h1, h2⟩; exact ⟨h1, by omega, (decide_eq_true h2).symm⟩
    · rintro ⟨h1, h2, h3⟩; exact ⟨h1, of_decide_eq_true h3.symm⟩
  | false =>
    simp only [if_false, Bool.false_eq_true, decide_eq_true_eq]
    constructor
    · rintro ⟨h1, h2⟩; exact ⟨h1, by omega, (decide_eq_false (by omega)).symm⟩
    · rintro ⟨h1, h2, h3⟩
      have := of_decide_eq_false h3.symm
      exact ⟨h1, by omega⟩
theorem getI_chg {h : List Int} {d : Dw} {k : Int} (k0 : 0 ≤ d.2) (k1 : d.2 < h.length) (j0 : 0 ≤ k) : getI (chg h d) k = if k = d.2 then getI h d.2 + sg d.1 else getI h k := by
  unfold chg
  unfold getI
  rw [List.getElem?_set]
  by_cases e : k = d.2
  · rw [if_pos e, if_pos (by rw [e]), if_pos (by omega)]; rfl
  · rw [if_neg e, if_neg (by omega)]
theorem besd_l {w : Wb} {e : Int × Int} (he : e ∈ w.es) : e.2 ∈ besd w e.1 := by
  unfold besd
  exact List.mem_append_right _ (List.mem_map.mpr ⟨e, List.mem_filter.mpr ⟨he, decide_eq_true rfl⟩, rfl⟩)
theorem besd_r {w : Wb} {e : Int × Int} (he : e ∈ w.es) : e.1 ∈ besd w e.2 := by
  unfold besd
  exact List.mem_append_left _ (List.mem_map.mpr ⟨e, List.mem_filter.mpr ⟨he, decide_eq_true rfl⟩, rfl⟩)
theorem mem_besd {w : Wb} {k j : Int} : j ∈ besd w k ↔ (j, k) ∈ w.es ∨ (k, j) ∈ w.es := by
  unfold besd
  rw [List.mem_append, List.mem_map, List.mem_map]
  constructor
  · rintro (⟨e, he, rfl⟩ | ⟨e, he, rfl⟩)
    · obtain ⟨h1, h2⟩ := List.mem_filter.mp he
      have := of_decide_eq_true h2; subst this; exact .inl h1
    · obtain ⟨h1, h2⟩ := List.mem_filter.mp he
      have := of_decide_eq_true h2; subst this; exact .inr h1
  · rintro (h | h)
    · exact .inl ⟨_, List.mem_filter.mpr ⟨h, decide_eq_true rfl⟩, rfl⟩
    · exact .inr ⟨_, List.mem_filter.mpr ⟨h, decide_eq_true rfl⟩, rfl⟩
/-- a deed on an edge -/
theorem edge_deed {B : Bk} {w : Wb} {h : List Int} {d : Dw} (V : VWeb w) (VH : VHts B w h) (hd : (0 ≤ d.2 ∧ d.2 < w.n) ∧ canW B w h d.1 d.2 = true) {e : Int × Int} (he : e ∈ w.es) :
    (d.2 = e.1 ∧ can B (pr2 h e) (d.1, .z) = true ∧ pr2 (chg h d) e = mv (pr2 h e) (d.1, .z)) ∨ (d.2 = e.2 ∧ d.2 ≠ e.1 ∧ can B (pr2 h e) (d.1, .o) = true ∧ pr2 (chg h d) e = mv (pr2 h e) (d.1, .o)) ∨ (d.2 ≠ e.1 ∧ d.2 ≠ e.2 ∧ pr2 (chg h d) e = pr2 h e) := by
  have hn := VH.len
  have ed := V.ed e he
  obtain ⟨⟨k0, k1⟩, hc⟩ := hd
  unfold canW at hc
  rw [Bool.and_eq_true, List.all_eq_true] at hc
  have hc := hc.2
  have g1 := getI_chg (h := h) (d := d) (k := e.1) k0 (by omega) (by omega)
  have g2 := getI_chg (h := h) (d := d) (k := e.2) k0 (by omega) (by omega)
  by_cases h1 : d.2 = e.1
  · left
    refine ⟨h1, ?_, ?_⟩
    · have := hc e.2 (by rw [h1]; exact besd_l he)
      rw [h1] at this
      exact this
    · rw [if_pos h1.symm] at g1
      rw [if_neg (by omega)] at g2
      unfold pr2; rw [g1, g2, h1]; rfl
  · right
    by_cases h2 : d.2 = e.2
    · left
      refine ⟨h2, h1, ?_, ?_⟩
      · have := hc e.1 (by rw [h2]; exact besd_r he)
        rw [h2] at this
        exact this
      · rw [if_neg (by omega)] at g1
        rw [if_pos h2.symm] at g2
        unfold pr2; rw [g1, g2, h2]; rfl
    · right
      refine ⟨h1, h2, ?_⟩
      rw [if_neg (by omega)] at g1 g2
      unfold pr2; rw [g1, g2]
/-! ### heights that come -/
inductive Came (B : Bk) (w : Wb) (a : List Int) : List Int → Nat → Prop
  | nil : Came B w a a 0
  | snoc {h : List Int} {k : Nat} {d : Dw} : Came B w a h k → d ∈ deedsW B w h → Came B w a (chg h d) (k + 1)
theorem Came.vh {B : Bk} {w : Wb} {a b : List Int} {k : Nat} (h : Came B w a b k) (VA : VHts B w a) : VHts B w b := by
  induction h with
  | nil => exact VA
  | snoc _ hd ih =>
    obtain ⟨⟨k0, k1⟩, hc⟩ := mem_deedsW.mp hd
    exact chg_ok ih k0 k1 hc
theorem Came.reach {B : Bk} {w : Wb} {a b : List Int} {k : Nat} (V : VWeb w) (VA : VHts B w a) (h : Came B w a b k) : Reach B w a b := by
  induction h with
  | nil => exact fun e _ => ⟨0, .nil⟩
  | @snoc h k d hp hd ih =>
    intro e he
    obtain ⟨j, hj⟩ := ih e he
    rcases edge_deed V (hp.vh VA) (mem_deedsW.mp hd) he with ⟨_, h1, h2⟩ | ⟨_, _, h1, h2⟩ | ⟨_, _, h2⟩
    · rw [h2]; exact ⟨j + 1, .snoc hj h1⟩
    · rw [h2]; exact ⟨j + 1, .snoc hj h1⟩
    · rw [h2]; exact ⟨j, hj⟩
theorem sum_one {f g : Nat → Int} {i : Nat} {c : Int} : ∀ (l : List Nat), l.Nodup → i ∈ l → (∀ j ∈ l, j ≠ i → f j = g j) → f i = g i + c → (l.map f).sum = (l.map g).sum + c
  | [], _, h, _, _ => by simp at h
  | a :: l, n, h, hne, he => by
    rw [List.nodup_cons] at n
    rw [List.map_cons, List.map_cons, List.sum_cons, List.sum_cons]
    by_cases e : a = i
    · subst e
      have : l.map f = l.map g := List.map_congr_left fun j hj => hne j (List.mem_cons_of_mem _ hj) fun z => n.1 (z ▸ hj)
      rw [this, he]; omega
    · have := sum_one (f := f) (g := g) (i := i) (c := c) l n.2 ((List.mem_cons.mp h).resolve_left fun z => e z.symm) (fun j hj => hne j (List.mem_cons_of_mem _ hj)) he
      rw [this, hne a (List.mem_cons_self ..) e]; omega
theorem sumH_chg {B : Bk} {w : Wb} {h o : List Int} {d : Dw} (VH : VHts B w h) (k0 : 0 ≤ d.2) (k1 : d.2 < w.n) : sumH (chg h d) o = sumH h o + (((getI h d.2 + sg d.1 - getI o d.2).natAbs : Int) - ((getI h d.2 - getI o d.2).natAbs : Int)) := by
  have hn := VH.len
  have hl : (chg h d).length = h.length := List.length_set ..
  unfold sumH
  rw [hl]
  refine sum_one (i := d.2.toNat) _ List.nodup_range (List.mem_range.mpr (by omega)) (fun j hj hne => ?_) ?_
  · have := getI_chg (h := h) (d := d) (k := (j : Int)) k0 (by omega) (by omega)
    rw [this, if_neg (by omega)]
  · have := getI_chg (h := h) (d := d) (k := ((d.2.toNat : Nat) : Int)) k0 (by omega) (by omega)
    rw [this, if_pos (by omega), show ((d.2.toNat : Nat) : Int) = d.2 by omega]; omega
theorem sumH_near {B : Bk} {w : Wb} {h o : List Int} {d : Dw} (VH : VHts B w h) (hd : d ∈ nearL B w h o) : sumH (chg h d) o + 1 = sumH h o := by
  obtain ⟨⟨⟨k0, k1⟩, _⟩, h1, h2⟩ := mem_nearL.mp hd
  rw [sumH_chg VH k0 k1]
  obtain ⟨u, k⟩ := d
  simp only at h1 h2 ⊢
  by_cases hlt : getI h k < getI o k
  · rw [decide_eq_true hlt] at h2; subst h2; simp only [sg, if_true]; omega
  · rw [decide_eq_false hlt] at h2; subst h2; simp only [sg, Bool.false_eq_true, if_false]; omega
/-- nearer deeds are those by which the sum of the differences falls -/
theorem near_iff {B : Bk} {w : Wb} {h o : List Int} {d : Dw} (VH : VHts B w h) (hd : d ∈ deedsW B w h) : sumH (chg h d) o < sumH h o ↔ d ∈ nearL B w h o := by
  constructor
  · intro hlt
    obtain ⟨⟨k0, k1⟩, hc⟩ := mem_deedsW.mp hd
    rw [sumH_chg VH k0 k1] at hlt
    refine mem_nearL.mpr ⟨⟨⟨k0, k1⟩, hc⟩, ?_⟩
    obtain ⟨u, k⟩ := d
    simp only at hlt ⊢
    cases u with
    | true =>
      simp only [sg, if_true] at hlt
      exact ⟨by omega, (decide_eq_true (by omega)).symm⟩
    | false =>
      simp only [sg, if_false, Bool.false_eq_true] at hlt
      exact ⟨by omega, (decide_eq_false (by omega)).symm⟩
  · intro h1
    have := sumH_near VH h1
    omega
theorem sumH_nn (a b : List Int) : 0 ≤ sumH a b := by
  unfold sumH
  have : ∀ l : List Nat, 0 ≤ (l.map fun (i : Nat) => ((getI a i - getI b i).natAbs : Int)).sum := by
    intro l
    induction l with
    | nil => simp
    | cons x l ih => rw [List.map_cons, List.sum_cons]; omega
  exact this _
theorem sumH_0 {a b : List Int} (hl : a.length = b.length) (h : sumH a b = 0) : a = b := by
  have key : ∀ l : List Nat, (l.map fun (i : Nat) => ((getI a i - getI b i).natAbs : Int)).sum = 0 → ∀ i ∈ l, getI a (i : Nat) = getI b (i : Nat) := by
    intro l
    induction l with
    | nil => intro _ i hi; simp at hi
    | cons x l ih =>
      intro h i hi
      rw [List.map_cons, List.sum_cons] at h
      have hnn : 0 ≤ (l.map fun (i : Nat) => ((getI a i - getI b i).natAbs : Int)).sum := by
        clear ih h hi
        induction l with
        | nil => simp
        | cons x l ih => rw [List.map_cons, List.sum_cons]; omega
      rcases List.mem_cons.mp hi with e | hi
      · subst e; omega
      · exact ih (by omega) i hi
  apply List.ext_getElem hl
  intro i h1 h2
  have := key _ h i (List.mem_range.mpr h1)
  unfold getI at this
  rw [show (i : Int).toNat = i by omega, List.getElem?_eq_getElem h1, List.getElem?_eq_getElem h2] at this
  exact this
theorem sumH_self (a : List Int) : sumH a a = 0 := by
  unfold sumH
  apply sum_zero
  intro x hx
  obtain ⟨i, _, rfl⟩ := List.mem_map.mp hx
  omega
theorem Came.off {B : Bk} {w : Wb} {a b : List Int} {k : Nat} (VA : VHts B w a) (h : Came B w a b k) : sumH a b ≤ k := by
  have sym : ∀ x y : List Int, x.length = y.length → sumH x y = sumH y x := fun x y e => by
    unfold sumH; rw [e]; congr 1; apply List.map_congr_left; intro i _; omega
  induction h with
  | nil => rw [sumH_self]; omega
  | @snoc h k d hp hd ih =>
    obtain ⟨⟨k0, k1⟩, hc⟩ := mem_deedsW.mp hd
    have VH := hp.vh VA
    have V2 := chg_ok VH k0 k1 hc
    have l1 : a.length = h.length := by have := VA.len; have := VH.len; omega
    have l2 : a.length = (chg h d).length := by have := VA.len; have := V2.len; omega
    rw [sym _ _ l2, sumH_chg VH k0 k1]
    rw [sym _ _ l1] at ih
    have : sg d.1 = 1 ∨ sg d.1 = -1 := by cases d.1 <;> simp [sg]
    omega
/-! ### straight runs of a web -/
inductive SR (B : Bk) (w : Wb) (a b : List Int) : List Ew → List Int → Prop
  | nil : SR B w a b [] a
  | snoc {l : List Ew} {h : List Int} {d : Dw} : SR B w a b l h → d ∈ nearL B w h b → SR B w a b (l ++ [(d.2, getI h d.2)]) (chg h d)
def prj (e : Int × Int) (l : List Ew) : List Pc := l.filterMap fun x => if x.1 = e.1 then some .z else if x.1 = e.2 then some .o else none
def plc (k : Int) (l : List Ew) : List Int := (l.filter fun x => decide (x.1 = k)).map (·.2)
theorem prj_snoc (e : Int × Int) (l : List Ew) (x : Ew) : prj e (l ++ [x]) = prj e l ++ (if x.1 = e.1 then [Pc.z] else if x.1 = e.2 then [Pc.o] else []) := by
  unfold prj
  rw [List.filterMap_append]
  congr 1
  by_cases h1 : x.1 = e.1
  · simp [h1]
  · by_cases h2 : x.1 = e.2
    · have h3 : ¬ e.2 = e.1 := by rw [← h2]; exact h1
      simp [h2, h3]
    · simp [h1, h2]
theorem plc_app (k : Int) (l l' : List Ew) : plc k (l ++ l') = plc k l ++ plc k l' := by
  unfold plc; rw [List.filter_append, List.map_append]
theorem plc_snoc (k : Int) (l : List Ew) (x : Ew) : plc k (l ++ [x]) = plc k l ++ (if x.1 = k then [x.2] else []) := by
  rw [plc_app]
  congr 1
  unfold plc
  by_cases h1 : x.1 = k <;> simp [h1]
theorem mem_plc {k : Int} {l : List Ew} {x : Int} : x ∈ plc k l ↔ (k, x) ∈ l := by
  unfold plc
  rw [List.mem_map]
  constructor
  · rintro ⟨e, he, rfl⟩
    obtain ⟨h1, h2⟩ := List.mem_filter.mp he
    have := of_decide_eq_true h2
    subst this; exact h1
  · intro h
    exact ⟨_, List.mem_filter.mpr ⟨h, decide_eq_true rfl⟩, rfl⟩
theorem prj_zc {e : Int × Int} (hne : e.1 ≠ e.2) : ∀ (l : List Ew), zc (prj e l) = (plc e.1 l).length ∧ oc (prj e l) = (plc e.2 l).length
  | [] => by simp [prj, plc, zc, oc]
  | x :: l => by
    obtain ⟨h1, h2⟩ := prj_zc hne l
    have e1 : prj e (x :: l) = (if x.1 = e.1 then [Pc.z] else if x.1 = e.2 then [Pc.o] else []) ++ prj e l := by
      unfold prj
      rw [List.filterMap_cons]
      by_cases z1 : x.1 = e.1
      · simp [z1]
      · by_cases z2 : x.1 = e.2
        · have h3 : ¬ e.2 = e.1 := by rw [← z2]; exact z1
          simp [z2, h3]
        · simp [z1, z2]
    have e2 : ∀ k, plc k (x :: l) = (if x.1 = k then [x.2] else []) ++ plc k l := fun k => by
      unfold plc
      by_cases z1 : x.1 = k <;> simp [z1]
    rw [e1, e2, e2, zc_app, oc_app, h1, h2, List.length_append, List.length_append]
    by_cases z1 : x.1 = e.1
    · have z2 : ¬ x.1 = e.2 := fun z => hne (z1 ▸ z)
      have z3 : ¬ e.1 = e.2 := hne
      simp [z1, z3, zc, oc]
    · by_cases z2 : x.1 = e.2
      · have z3 : ¬ e.2 = e.1 := fun z => hne z.symm
        simp [z2, z3, zc, oc]
      · simp [z1, z2, zc, oc]
theorem SR.vh {B : Bk} {w : Wb} {a b : List Int} {l : List Ew} {h : List Int} (VA : VHts B w a) (s : SR B w a b l h) : VHts B w h := by
  induction s with
  | nil => exact VA
  | snoc _ hd ih =>
    obtain ⟨⟨⟨k0, k1⟩, hc⟩, _⟩ := mem_nearL.mp hd
    exact chg_ok ih k0 k1 hc
theorem SR.off {B : Bk} {w : Wb} {a b : List Int} {l : List Ew} {h : List Int} (VA : VHts B w a) (s : SR B w a b l h) : (l.length : Int) + sumH h b = sumH a b := by
  induction s with
  | nil => simp
  | snoc s hd ih =>
    have := sumH_near (s.vh VA) hd
    rw [List.length_append, List.length_cons, List.length_nil]; omega
theorem SR.run {B : Bk} {w : Wb} {a b : List Int} {l : List Ew} {h : List Int} (V : VWeb w) (VA : VHts B w a) (s : SR B w a b l h) {e : Int × Int} (he : e ∈ w.es) : Run B (pr2 b e) (pr2 a e) (prj e l) (pr2 h e) := by
  induction s with
  | nil => exact .nil
  | @snoc l h d s hd ih =>
    obtain ⟨hd1, hne, hu⟩ := mem_nearL.mp hd
    rw [prj_snoc]
    rcases edge_deed V (s.vh VA) hd1 he with ⟨h1, h2, h3⟩ | ⟨h1, h1', h2, h3⟩ | ⟨h1, h2, h3⟩
    · simp only [if_pos h1]
      have hk : shOk B (pr2 b e) (pr2 h e) .z := by
        refine ⟨by rw [h1] at hne; exact hne, ?_⟩
        rw [h1] at hu
        have : d.1 = decide (co (pr2 h e) .z < co (pr2 b e) .z) := hu
        rw [← this]; exact h2
      have : pr2 (chg h d) e = shTo (pr2 b e) (pr2 h e) .z := by
        rw [h3]; unfold shTo mv
        rw [h1] at hu
        have : d.1 = decide (co (pr2 h e) .z < co (pr2 b e) .z) := hu
        rw [← this]
      rw [this]; exact .snoc ih hk
    · simp only [if_neg h1', if_pos h1]
      have hk : shOk B (pr2 b e) (pr2 h e) .o := by
        refine ⟨by rw [h1] at hne; exact hne, ?_⟩
        rw [h1] at hu
        have : d.1 = decide (co (pr2 h e) .o < co (pr2 b e) .o) := hu
        rw [← this]; exact h2
      have : pr2 (chg h d) e = shTo (pr2 b e) (pr2 h e) .o := by
        rw [h3]; unfold shTo mv
        rw [h1] at hu
        have : d.1 = decide (co (pr2 h e) .o < co (pr2 b e) .o) := hu
        rw [← this]
      rw [this]; exact .snoc ih hk
    · simp only [if_neg h1, if_neg h2, List.append_nil]
      rw [h3]; exact ih
theorem SR.pre {B : Bk} {w : Wb} {a b : List Int} {l : List Ew} {h : List Int} (VA : VHts B w a) (s : SR B w a b l h) {k : Int} (k0 : 0 ≤ k) (k1 : k < w.n) : wayI (getI a k) (getI b k) = plc k l ++ wayI (getI h k) (getI b k) := by
  induction s with
  | nil => simp [plc]
  | @snoc l h d s hd ih =>
    obtain ⟨⟨⟨j0, j1⟩, hc⟩, hne, hu⟩ := mem_nearL.mp hd
    have hn := (s.vh VA).len
    rw [ih, plc_snoc, getI_chg j0 (by omega) k0]
    by_cases e : d.2 = k
    · rw [if_pos e, if_pos e.symm]
      rw [e] at hne hu
      rw [wayI_cons hne, List.append_assoc]
      congr 1
      rw [e]
      simp only [List.cons_append, List.nil_append, List.cons.injEq, true_and]
      congr 1
      rw [hu]
      by_cases hlt : getI h k < getI b k
      · rw [if_pos hlt, decide_eq_true hlt]; rfl
      · rw [if_neg hlt, decide_eq_false hlt]; rfl
    · rw [if_neg e, if_neg fun z => e z.symm, List.append_nil]
theorem SR.ent {B : Bk} {w : Wb} {a b : List Int} {l : List Ew} {h : List Int} (s : SR B w a b l h) : ∀ x ∈ l, 0 ≤ x.1 ∧ x.1 < w.n := by
  induction s with
  | nil => intro x hx; cases hx
  | @snoc l h d s hd ih =>
    intro x hx
    rcases List.mem_append.mp hx with z | z
    · exact ih x z
    · rw [List.mem_singleton.mp z]
      exact (mem_nearL.mp hd).1.1
end HB

set_option Elab.async false
set_option linter.all false
set_option autoImplicit false
namespace HB
open PySem PySem.Spec L2
open En (enc)
/-! ### single deeds, pairs of them -/
theorem singles_flat (a b : List Int) : singles a b = (rgI 0 (a.length : Int)).flatMap fun k => (wayI (getI a k) (getI b k)).map fun x => (k, x) := by
  unfold singles
  have : sgRow a b = fun f k => f ++ (wayI (getI a k) (getI b k)).map fun x => (k, x) := rfl
  rw [this, fold_app]; simp
theorem mem_singles {a b : List Int} {x : Ew} : x ∈ singles a b ↔ (0 ≤ x.1 ∧ x.1 < a.length) ∧ x.2 ∈ wayI (getI a x.1) (getI b x.1) := by
  rw [singles_flat, List.mem_flatMap]
  constructor
  · rintro ⟨k, hk, h⟩
    obtain ⟨y, hy, rfl⟩ := List.mem_map.mp h
    exact ⟨mem_rgI.mp hk, hy⟩
  · rintro ⟨h1, h2⟩
    exact ⟨x.1, mem_rgI.mpr h1, List.mem_map.mpr ⟨x.2, h2, rfl⟩⟩
theorem singles_nodup (a b : List Int) : (singles a b).Nodup := by
  rw [singles_flat]
  refine nodup_flatMap (·.1) _ (nodup_rgI _ _) fun k _ => ⟨nodup_map (fun x y h => by simpa using h) (nodup_wayI _ _), fun x hx => ?_⟩
  obtain ⟨y, _, rfl⟩ := List.mem_map.mp hx
  rfl
theorem singles_len (a b : List Int) : ((singles a b).length : Int) = sumH a b := by
  rw [singles_flat, rgI_range]
  unfold sumH
  have : ∀ l : List Nat, ((((l.map fun (i : Nat) => (i : Int)).flatMap fun k => (wayI (getI a k) (getI b k)).map fun x => ((k, x) : Ew)).length : Nat) : Int) = (l.map fun (i : Nat) => ((getI a i - getI b i).natAbs : Int)).sum := by
    intro l
    induction l with
    | nil => rfl
    | cons i l ih =>
      rw [List.map_cons, List.flatMap_cons, List.length_append, List.length_map, len_wayI, List.map_cons, List.sum_cons, ← ih]
      omega
  exact this _
theorem mem_pwFirst {a b : List Int} {x : Ew × Ew} : ∀ (l : List Nat) (f : List (Ew × Ew)), x ∈ l.foldl (fun f i => f ++ pwA a b i) f ↔ x ∈ f ∨ ∃ i ∈ l, x ∈ pwA a b i
  | [], f => by simp
  | i :: l, f => by
    rw [List.foldl_cons, mem_pwFirst l, List.mem_append]
    simp only [List.mem_cons, exists_eq_or_imp, or_assoc]
theorem mem_pwRows {B : Bk} {a b : List Int} {x : Ew × Ew} : ∀ (l : List (Int × Int)) (f : List (Ew × Ew)), x ∈ l.foldl (pwRow B a b) f ↔ x ∈ f ∨ ∃ e ∈ l, ∃ t ∈ toldP B (pr2 a e) (pr2 b e), x = pwE e t
  | [], f => by simp
  | e :: l, f => by
    rw [List.foldl_cons, mem_pwRows l, pwRow, fold_snoc, List.mem_append, List.mem_map]
    simp only [List.mem_cons, exists_eq_or_imp, or_assoc]
    constructor
    · rintro (h | ⟨t, ht, h⟩ | h)
      · exact .inl h
      · exact .inr (.inl ⟨t, ht, h.symm⟩)
      · exact .inr (.inr h)
    · rintro (h | ⟨t, ht, h⟩ | h)
      · exact .inl h
      · exact .inr (.inl ⟨t, ht, h.symm⟩)
      · exact .inr (.inr h)
theorem mem_pairsW {B : Bk} {w : Wb} {a b : List Int} {x : Ew × Ew} : x ∈ pairsW B w a b ↔ (∃ i : Nat, i < a.length ∧ ∃ k : Nat, k + 1 < (wayI (getI a i) (getI b i)).length ∧ x = (((i : Int), getI (wayI (getI a i) (getI b i)) k), ((i : Int), getI (wayI (getI a i) (getI b i)) ((k + 1 : Nat) : Int)))) ∨ ∃ e ∈ w.es, ∃ t ∈ toldP B (pr2 a e) (pr2 b e), x = pwE e t := by
  unfold pairsW
  rw [mem_sortE, pwRaw, mem_pwRows, mem_pwFirst]
  simp only [List.not_mem_nil, false_or]
  apply or_congr_left
  constructor
  · rintro ⟨i, hi, h⟩
    unfold pwA at h
    obtain ⟨k, hk, rfl⟩ := List.mem_map.mp h
    have := mem_rgI.mp hk
    refine ⟨i, List.mem_range.mp hi, k.toNat, by omega, ?_⟩
    rw [show ((k.toNat : Nat) : Int) = k by omega, show ((k.toNat + 1 : Nat) : Int) = k + 1 by omega]
  · rintro ⟨i, hi, k, hk, rfl⟩
    refine ⟨i, List.mem_range.mpr hi, ?_⟩
    unfold pwA
    exact List.mem_map.mpr ⟨(k : Int), mem_rgI.mpr ⟨by omega, by omega⟩, rfl⟩
structure Ctx (B : Bk) (w : Wb) (a b : List Int) : Prop where
  K : Kept B
  V : VWeb w
  VA : VHts B w a
  VB : VHts B w b
  R : Reach B w a b
section
variable {B : Bk} {w : Wb} {a b : List Int}
theorem Ctx.ne (C : Ctx B w a b) {e : Int × Int} (he : e ∈ w.es) : shuf B (pr2 a e) (pr2 b e) ≠ [] := by
  obtain ⟨k, hk⟩ := C.R e he
  exact straight_shuf C.K.st (C.VA.box C.V he) hk
theorem Ctx.told (C : Ctx B w a b) {e : Int × Int} (he : e ∈ w.es) : isTold B (pr2 a e) (pr2 b e) = true :=
  C.K.td _ _ (mem_courses.mpr ⟨C.VA.box C.V he, C.VB.box C.V he, C.ne he⟩)
def kindW (a b : List Int) (x : Ew) : K3 := ⟨getI a x.1, getI b x.1, x.2⟩
theorem way_next {a b : Int} {k : Nat} (h : k + 1 < (wayI a b).length) : getI (wayI a b) ((k + 1 : Nat) : Int) = if a < b then getI (wayI a b) k + 1 else getI (wayI a b) k - 1 := by
  have hl := len_wayI a b
  unfold getI
  rw [show ((k + 1 : Nat) : Int).toNat = k + 1 by omega, show ((k : Nat) : Int).toNat = k by omega]
  rw [List.getElem?_eq_getElem h, List.getElem?_eq_getElem (by omega)]
  simp only [Option.getD_some]
  unfold wayI at h ⊢
  by_cases hab : a < b
  · simp only [if_pos hab] at h ⊢
    unfold rgI at h ⊢
    simp only [List.getElem_map, List.getElem_range]; omega
  · simp only [if_neg hab] at h ⊢
    unfold dnI at h ⊢
    simp only [List.getElem_map, List.getElem_range]; omega
theorem Ctx.pair_kind (C : Ctx B w a b) {x : Ew × Ew} (hx : x ∈ pairsW B w a b) : (kindW a b x.1, kindW a b x.2) ∈ leads B := by
  have hn := C.VA.len
  rcases mem_pairsW.mp hx with ⟨i, hi, k, hk, rfl⟩ | ⟨e, he, t, ht, rfl⟩
  · have b1 := C.VA.at (i := (i : Int)) (by omega) (by omega)
    have b2 := C.VB.at (i := (i : Int)) (by omega) (by omega)
    refine mem_leads.mpr (.inl ⟨kindW a b ((i : Int), getI (wayI (getI a i) (getI b i)) k), mem_kinds.mpr ⟨b1, b2, (getI_mem (by omega) (by omega) : getI (wayI (getI a i) (getI b i)) k ∈ wayI (getI a i) (getI b i))⟩, ?_⟩)
    have e1 : nx3 (kindW a b ((i : Int), getI (wayI (getI a i) (getI b i)) k)) = getI (wayI (getI a i) (getI b i)) ((k + 1 : Nat) : Int) := by
      rw [way_next hk]; rfl
    rw [e1]
    refine ⟨?_, rfl⟩
    have := getI_mem (l := wayI (getI a i) (getI b i)) (i := ((k + 1 : Nat) : Int)) (by omega) (by omega)
    rw [mem_wayI] at this
    show _ ≠ getI b i
    omega
  · refine mem_leads.mpr (.inr ⟨(pr2 a e, pr2 b e), mem_courses.mpr ⟨C.VA.box C.V he, C.VB.box C.V he, C.ne he⟩, t, ht, ?_⟩)
    obtain ⟨⟨k1, x1⟩, ⟨k2, x2⟩⟩ := t
    cases k1 <;> cases k2 <;> rfl
theorem Ctx.pair_sg (C : Ctx B w a b) {x : Ew × Ew} (hx : x ∈ pairsW B w a b) : x.1 ∈ singles a b ∧ x.2 ∈ singles a b := by
  have hn := C.VA.len
  rcases mem_pairsW.mp hx with ⟨i, hi, k, hk, rfl⟩ | ⟨e, he, t, ht, rfl⟩
  · exact ⟨mem_singles.mpr ⟨⟨by simp only; omega, by simp only; omega⟩, (getI_mem (by omega) (by omega) : getI (wayI (getI a i) (getI b i)) k ∈ wayI (getI a i) (getI b i))⟩, mem_singles.mpr ⟨⟨by simp only; omega, by simp only; omega⟩, (getI_mem (by omega) (by omega) : getI (wayI (getI a i) (getI b i)) ((k + 1 : Nat) : Int) ∈ wayI (getI a i) (getI b i))⟩⟩
  · have ed := C.V.ed e he
    obtain ⟨h1, h2⟩ := told_ev (C.ne he) ht
    obtain ⟨⟨k1, x1⟩, ⟨k2, x2⟩⟩ := t
    constructor
    · refine mem_singles.mpr ⟨?_, ?_⟩
      · cases k1 <;> (show 0 ≤ _ ∧ _ < (a.length : Int); simp only [pwE, co]; omega)
      · cases k1 <;> exact h1
    · refine mem_singles.mpr ⟨?_, ?_⟩
      · cases k2 <;> (show 0 ≤ _ ∧ _ < (a.length : Int); simp only [pwE, co]; omega)
      · cases k2 <;> exact h2
end
/-! ### orders -/
inductive ORr (S : List Ew) (P : List (Ew × Ew)) : List Ew → Prop
  | nil : ORr S P []
  | snoc {l : List Ew} {d : Ew} : ORr S P l → d ∈ S → d ∉ l → (∀ f, (f, d) ∈ P → f ∈ l) → ORr S P (l ++ [d])
theorem ORr.nodup {S : List Ew} {P : List (Ew × Ew)} {l : List Ew} (h : ORr S P l) : l.Nodup ∧ ∀ x ∈ l, x ∈ S := by
  induction h with
  | nil => exact ⟨by simp, fun x hx => by cases hx⟩
  | @snoc l d _ h1 h2 _ ih =>
    refine ⟨?_, fun x hx => ?_⟩
    · rw [List.nodup_append]
      refine ⟨ih.1, by simp, ?_⟩
      intro x hx y hy e
      rw [List.mem_singleton.mp hy] at e
      rw [e] at hx
      exact h2 hx
    · rcases List.mem_append.mp hx with z | z
      · exact ih.2 x z
      · rw [List.mem_singleton.mp z]; exact h1
theorem ORr.last {S : List Ew} {P : List (Ew × Ew)} {L l : List Ew} {d : Ew} (h : ORr S P L) (e : L = l ++ [d]) : ORr S P l ∧ d ∈ S ∧ d ∉ l ∧ ∀ f, (f, d) ∈ P → f ∈ l := by
  cases h with
  | nil => simp at e
  | @snoc l' d' h1 h2 h3 h4 =>
    obtain ⟨e1, e2⟩ := List.append_inj' e rfl
    simp only [List.cons.injEq, and_true] at e2
    subst e1; subst e2
    exact ⟨h1, h2, h3, h4⟩
theorem ORr.pre {S : List Ew} {P : List (Ew × Ew)} {L : List Ew} (h : ORr S P L) : ∀ (l r : List Ew), L = l ++ r → ORr S P l := by
  induction h with
  | nil =>
    intro l r e
    have := (List.append_eq_nil_iff.mp e.symm).1
    subst this; exact .nil
  | @snoc l0 d h1 h2 h3 h4 ih =>
    intro l r e
    rcases List.eq_nil_or_concat r with rfl | ⟨r', x, rfl⟩
    · rw [List.append_nil] at e
      rw [← e]; exact .snoc h1 h2 h3 h4
    · rw [List.concat_eq_append, ← List.append_assoc] at e
      obtain ⟨e1, _⟩ := List.append_inj' e rfl
      exact ih l r' e1
theorem ORr.split {S : List Ew} {P : List (Ew × Ew)} {L l r : List Ew} {d : Ew} (h : ORr S P L) (e : L = l ++ d :: r) : ORr S P l ∧ d ∈ S ∧ d ∉ l ∧ ∀ f, (f, d) ∈ P → f ∈ l :=
  (h.pre (l ++ [d]) r (by rw [e]; simp)).last rfl
end HB

set_option Elab.async false
set_option linter.all false
set_option autoImplicit false
namespace HB
open PySem PySem.Spec L2
open En (enc)
theorem take_mem {W : List Int} (n : W.Nodup) {i c : Nat} (hi : i < W.length) : getI W i ∈ W.take c ↔ i < c := by
  constructor
  · intro h
    obtain ⟨j, hj⟩ := List.getElem?_of_mem h
    rw [List.getElem?_take] at hj
    split at hj
    · rename_i hjc
      have h2 := getI_at hj
      have h3 := (List.getElem?_eq_some_iff.mp hj).1
      have := getI_inj n (i := (j : Int)) (j := (i : Int)) ⟨by omega, by omega⟩ ⟨by omega, by omega⟩ h2
      omega
    · cases hj
  · intro h
    have h1 := at_getI hi
    apply List.mem_of_getElem? (i := i)
    rw [List.getElem?_take, if_pos h]; exact h1
theorem mem_getI {W : List Int} {x : Int} (h : x ∈ W) : ∃ i : Nat, i < W.length ∧ getI W i = x := by
  obtain ⟨i, hi⟩ := List.getElem?_of_mem h
  exact ⟨i, (List.getElem?_eq_some_iff.mp hi).1, getI_at hi⟩
section
variable {B : Bk} {w : Wb} {a b : List Int}
abbrev OrW (B : Bk) (w : Wb) (a b : List Int) : List Ew → Prop := ORr (singles a b) (pairsW B w a b)
/-- the step of a chain -/
theorem chain_at {l : List Ew} {d : Ew} (hS : d ∈ singles a b) (hn : d ∉ l) (hp : ∀ f, (f, d) ∈ pairsW B w a b → f ∈ l) (hpre : plc d.1 l = (wayI (getI a d.1) (getI b d.1)).take (plc d.1 l).length) : (plc d.1 l).length < (wayI (getI a d.1) (getI b d.1)).length ∧ d.2 = getI (wayI (getI a d.1) (getI b d.1)) ((plc d.1 l).length : Nat) := by
  obtain ⟨⟨k0, k1⟩, hx⟩ := mem_singles.mp hS
  obtain ⟨i, hi, e⟩ := mem_getI hx
  have nd := nodup_wayI (getI a d.1) (getI b d.1)
  have h1 : ¬ i < (plc d.1 l).length := fun z => by
    have := (take_mem nd hi).mpr z
    rw [← hpre, e] at this
    exact hn (mem_plc.mp this)
  have h2 : i = (plc d.1 l).length := by
    cases i with
    | zero => omega
    | succ j =>
      by_cases hj : j < (plc d.1 l).length
      · omega
      · exfalso
        have hpair : ((d.1, getI (wayI (getI a d.1) (getI b d.1)) j), d) ∈ pairsW B w a b := by
          refine mem_pairsW.mpr (.inl ⟨d.1.toNat, by omega, j, ?_, ?_⟩)
          · rw [show ((d.1.toNat : Nat) : Int) = d.1 by omega]; omega
          · rw [show ((d.1.toNat : Nat) : Int) = d.1 by omega, e]
        have h3 := hp _ hpair
        have h4 := mem_plc.mpr h3
        rw [hpre] at h4
        exact hj ((take_mem nd (by omega)).mp h4)
  subst h2
  exact ⟨hi, e.symm⟩
theorem or_pre {l : List Ew} (h : OrW B w a b l) : ∀ k : Int, 0 ≤ k → k < (a.length : Int) → plc k l = (wayI (getI a k) (getI b k)).take (plc k l).length := by
  induction h with
  | nil => intro k _ _; simp [plc]
  | @snoc l d hl hS hn hp ih =>
    intro k k0 k1
    rw [plc_snoc]
    by_cases e : d.1 = k
    · subst e
      rw [if_pos rfl]
      have hpre := ih d.1 k0 k1
      obtain ⟨h1, h2⟩ := chain_at hS hn hp hpre
      have h3 := at_getI h1
      rw [List.length_append, List.length_cons, List.length_nil, List.take_add_one, h3, ← hpre, h2]; rfl
    · rw [if_neg e, List.append_nil]; exact ih k k0 k1
/-- what the pairs of an edge say of the next deed -/
theorem OrW.next {l : List Ew} {d : Ew} (C : Ctx B w a b) (h : OrW B w a b l) (hS : d ∈ singles a b) (hn : d ∉ l) (hp : ∀ f, (f, d) ∈ pairsW B w a b → f ∈ l) {e : Int × Int} (he : e ∈ w.es) :
    (d.1 = e.1 → zc (prj e l) < (wayI (getI a e.1) (getI b e.1)).length ∧ lo1 B (pr2 a e) (pr2 b e) (zc (prj e l) : Nat) ≤ (oc (prj e l) : Nat)) ∧
    (d.1 = e.2 → oc (prj e l) < (wayI (getI a e.2) (getI b e.2)).length ∧ ∀ i : Nat, zc (prj e l) ≤ i → i < (wayI (getI a e.1) (getI b e.1)).length → ((oc (prj e l) : Nat) : Int) < hi1 B (pr2 a e) (pr2 b e) i) := by
  have ed := C.V.ed e he
  have hlen := C.VA.len
  have hne := C.ne he
  obtain ⟨z1, z2⟩ := prj_zc (e := e) (by omega) l
  have p1 := or_pre h e.1 (by omega) (by omega)
  have p2 := or_pre h e.2 (by omega) (by omega)
  have nd1 := nodup_wayI (getI a e.1) (getI b e.1)
  have nd2 := nodup_wayI (getI a e.2) (getI b e.2)
  constructor
  · intro e1
    obtain ⟨c1, c2⟩ := chain_at hS hn hp (by rw [e1]; exact p1)
    rw [e1] at c1 c2
    rw [z1, z2]
    refine ⟨c1, ?_⟩
    by_cases hlo : lo1 B (pr2 a e) (pr2 b e) ((plc e.1 l).length : Nat) ≤ ((plc e.2 l).length : Nat)
    · exact hlo
    · exfalso
      have hb := lo_hi hne ((plc e.1 l).length : Nat)
      have hj : (plc e.2 l).length < (wayI (pr2 a e).2 (pr2 b e).2).length := by omega
      have ht := (told_oz hne (i := (plc e.1 l).length) (j := (plc e.2 l).length) c1 hj).mpr (by omega)
      have hpair : ((e.2, getI (wayI (getI a e.2) (getI b e.2)) ((plc e.2 l).length : Nat)), d) ∈ pairsW B w a b := by
        refine mem_pairsW.mpr (.inr ⟨e, he, _, ht, ?_⟩)
        refine Prod.ext rfl (Prod.ext e1 c2)
      have h3 := mem_plc.mpr (hp _ hpair)
      have h4 : ∀ x, x ∈ plc e.2 l → x ∈ (wayI (getI a e.2) (getI b e.2)).take (plc e.2 l).length := fun x hx => by rw [← p2]; exact hx
      have := (take_mem nd2 hj).mp (h4 _ h3)
      omega
  · intro e1
    obtain ⟨c1, c2⟩ := chain_at hS hn hp (by rw [e1]; exact p2)
    rw [e1] at c1 c2
    rw [z1, z2]
    refine ⟨c1, fun i i0 i1 => ?_⟩
    by_cases hhi : (((plc e.2 l).length : Nat) : Int) < hi1 B (pr2 a e) (pr2 b e) i
    · exact hhi
    · exfalso
      have ht := (told_zo hne (i := i) (j := (plc e.2 l).length) i1 c1).mpr (by omega)
      have hpair : ((e.1, getI (wayI (getI a e.1) (getI b e.1)) i), d) ∈ pairsW B w a b := by
        refine mem_pairsW.mpr (.inr ⟨e, he, _, ht, ?_⟩)
        refine Prod.ext rfl (Prod.ext e1 c2)
      have h3 := mem_plc.mpr (hp _ hpair)
      have h4 : ∀ x, x ∈ plc e.1 l → x ∈ (wayI (getI a e.1) (getI b e.1)).take (plc e.1 l).length := fun x hx => by rw [← p1]; exact hx
      have := (take_mem nd1 i1).mp (h4 _ h3)
      omega
theorem prj_split {e : Int × Int} {L : List Ew} {u v : List Pc} {k : Pc} (h : prj e L = u ++ k :: v) : ∃ l d r, L = l ++ d :: r ∧ prj e l = u ∧ ((k = .z ∧ d.1 = e.1) ∨ (k = .o ∧ d.1 = e.2)) := by
  unfold prj at h
  obtain ⟨l1, l2, rfl, h1, h2⟩ := List.filterMap_eq_append_iff.mp h
  obtain ⟨l3, d, l4, rfl, h3, h4, h5⟩ := List.filterMap_eq_cons_iff.mp h2
  refine ⟨l1 ++ l3, d, l4, by simp, ?_, ?_⟩
  · unfold prj
    rw [List.filterMap_append, h1, List.filterMap_eq_nil_iff.mpr h3, List.append_nil]
  · by_cases z1 : d.1 = e.1
    · rw [if_pos z1] at h4; cases h4; exact .inl ⟨rfl, z1⟩
    · rw [if_neg z1] at h4
      by_cases z2 : d.1 = e.2
      · rw [if_pos z2] at h4; cases h4; exact .inr ⟨rfl, z2⟩
      · rw [if_neg z2] at h4; cases h4
theorem OrW.full {L : List Ew} (h : OrW B w a b L) (hl : L.length = (singles a b).length) : ∀ x ∈ singles a b, x ∈ L := sub_of_len h.nodup.1 h.nodup.2 (by omega)
theorem OrW.plc_full {L : List Ew} (h : OrW B w a b L) (hl : L.length = (singles a b).length) {k : Int} (k0 : 0 ≤ k) (k1 : k < a.length) : plc k L = wayI (getI a k) (getI b k) := by
  have hp := or_pre h k k0 k1
  have hall : ∀ x ∈ wayI (getI a k) (getI b k), x ∈ plc k L := fun x hx => mem_plc.mpr (h.full hl _ (mem_singles.mpr ⟨⟨k0, k1⟩, hx⟩))
  have h1 := nodup_sub_len (nodup_wayI (getI a k) (getI b k)) hall
  rw [hp, List.take_of_length_le h1]
theorem OrW.shuf {L : List Ew} (C : Ctx B w a b) (h : OrW B w a b L) (hl : L.length = (singles a b).length) {e : Int × Int} (he : e ∈ w.es) : prj e L ∈ shuf B (pr2 a e) (pr2 b e) := by
  have ed := C.V.ed e he
  have hlen := C.VA.len
  have hne := C.ne he
  obtain ⟨z1, z2⟩ := prj_zc (e := e) (by omega) L
  have q1 := h.plc_full hl (k := e.1) (by omega) (by omega)
  have q2 := h.plc_full hl (k := e.2) (by omega) (by omega)
  have hlw : (wayI (pr2 a e).1 (pr2 b e).1).length + (wayI (pr2 a e).2 (pr2 b e).2).length = (prj e L).length := by
    have : (prj e L).length = zc (prj e L) + oc (prj e L) := by
      generalize prj e L = x
      induction x with
      | nil => rfl
      | cons k x ih => cases k <;> simp [zc, oc, List.filter_cons] at ih ⊢ <;> omega
    rw [this, z1, z2, q1, q2]; rfl
  refine told_kw hne (C.told he) ?_
  rw [hlw]
  refine mem_kw_of (prj e L) 0 0 fun u k v hs => ?_
  simp only [Nat.zero_add]
  obtain ⟨l, d, r, hL, rfl, hk⟩ := prj_split hs
  obtain ⟨h1, h2, h3, h4⟩ := h.split hL
  obtain ⟨n1, n2⟩ := OrW.next C h1 h2 h3 h4 he
  rcases hk with ⟨rfl, hk⟩ | ⟨rfl, hk⟩
  · exact (okz_iff hne _ _).mpr (n1 hk)
  · exact (oko_iff hne _ _).mpr (n2 hk)
theorem run_split {q p : Pr} {W : List Pc} {x : Pr} (h : Run B q p W x) : ∀ (u v : List Pc) (k : Pc), W = u ++ k :: v → ∃ y, Run B q p u y ∧ shOk B q y k := by
  induction h with
  | nil => intro u v k e; simp at e
  | @snoc w' here l h1 hl ih =>
    intro u v k e
    rcases List.eq_nil_or_concat v with rfl | ⟨v', y, rfl⟩
    · obtain ⟨e1, e2⟩ := List.append_inj' e rfl
      simp only [List.cons.injEq, and_true] at e2
      subst e1; subst e2
      exact ⟨here, h1, hl⟩
    · rw [List.concat_eq_append, show u ++ k :: (v' ++ [y]) = (u ++ k :: v') ++ [y] by simp] at e
      obtain ⟨e1, _⟩ := List.append_inj' e rfl
      exact ih u v' k e1
theorem run_det {q p : Pr} {W : List Pc} {x : Pr} (h : Run B q p W x) : ∀ {y : Pr} {V : List Pc}, Run B q p V y → W = V → x = y := by
  induction h with
  | nil =>
    intro y V h2 e
    exact (h2.nil_inv e.symm).symm
  | @snoc w' here l h1 hl ih =>
    intro y V h2 e
    cases h2 with
    | nil => simp at e
    | @snoc w2 here2 l2 h3 hl2 =>
      obtain ⟨e1, e2⟩ := List.append_inj' e rfl
      simp only [List.cons.injEq, and_true] at e2
      have := ih h3 e1
      rw [this, e2]
theorem prj_app (e : Int × Int) (l l' : List Ew) : prj e (l ++ l') = prj e l ++ prj e l' := List.filterMap_append ..
theorem prj_cons (e : Int × Int) (x : Ew) (l : List Ew) : prj e (x :: l) = (if x.1 = e.1 then [Pc.z] else if x.1 = e.2 then [Pc.o] else []) ++ prj e l := by
  have h1 := prj_snoc e [] x
  have h2 := prj_app e [x] l
  rw [List.nil_append] at h1
  rw [List.singleton_append] at h2
  rw [h2, h1]; rfl
/-- a whole order is straight -/
theorem OrW.straight {L : List Ew} (C : Ctx B w a b) (h : OrW B w a b L) (hl : L.length = (singles a b).length) : ∀ (n : Nat) (l r : List Ew), l.length = n → L = l ++ r → ∃ hh, SR B w a b l hh
  | 0, l, r, hn, _ => by
    have : l = [] := List.eq_nil_of_length_eq_zero hn
    subst this; exact ⟨a, .nil⟩
  | n + 1, l, r, hn, e => by
    rcases List.eq_nil_or_concat l with rfl | ⟨l', d, rfl⟩
    · simp at hn
    rw [List.concat_eq_append] at hn e ⊢
    rw [List.length_append, List.length_cons, List.length_nil] at hn
    have e' : L = l' ++ d :: r := by rw [e]; simp
    obtain ⟨hh, S⟩ := OrW.straight C h hl n l' (d :: r) (by omega) e'
    obtain ⟨h1, h2, h3, h4⟩ := h.split e'
    have hlen := C.VA.len
    obtain ⟨⟨k0, k1⟩, hx⟩ := mem_singles.mp h2
    have hp := or_pre h1 d.1 k0 k1
    obtain ⟨c1, c2⟩ := chain_at h2 h3 h4 hp
    have hsp := S.pre C.VA k0 (by omega)
    have VH := S.vh C.VA
    have hne : getI hh d.1 ≠ getI b d.1 := fun z => by
      rw [z] at hsp
      have : wayI (getI b d.1) (getI b d.1) = [] := List.eq_nil_of_length_eq_zero (by rw [len_wayI]; omega)
      rw [this, List.append_nil] at hsp
      rw [hsp] at c1; omega
    have hxh : d.2 = getI hh d.1 := by
      rw [c2]
      apply getI_at
      rw [hsp, List.getElem?_append_right (Nat.le_refl _), Nat.sub_self, wayI_cons hne, List.getElem?_cons_zero]
    have hd : (decide (getI hh d.1 < getI b d.1), d.1) ∈ nearL B w hh b := by
      refine mem_nearL.mpr ⟨⟨⟨k0, by omega⟩, ?_⟩, hne, rfl⟩
      unfold canW
      rw [Bool.and_eq_true, List.all_eq_true]
      have b1 := VH.at (i := d.1) k0 (by omega)
      have b2 := C.VB.at (i := d.1) k0 (by omega)
      refine ⟨?_, fun j hj => ?_⟩
      · by_cases hlt : getI hh d.1 < getI b d.1
        · simp only [decide_eq_true hlt, if_true, decide_eq_true_eq]; omega
        · simp only [decide_eq_false hlt, Bool.false_eq_true, if_false, decide_eq_true_eq]; omega
      · rcases mem_besd.mp hj with hj | hj
        · have ed := C.V.ed _ hj
          simp only at ed
          have hW := mem_shuf.mp (OrW.shuf C h hl hj)
          rw [e', prj_app, prj_cons, if_neg (by simp only; omega), if_pos rfl] at hW
          obtain ⟨y, y1, y2⟩ := run_split hW (prj (j, d.1) l') (prj (j, d.1) r) .o (by simp)
          have := run_det y1 (S.run C.V C.VA hj) rfl
          subst this
          exact y2.2
        · have ed := C.V.ed _ hj
          simp only at ed
          have hW := mem_shuf.mp (OrW.shuf C h hl hj)
          rw [e', prj_app, prj_cons, if_pos rfl] at hW
          obtain ⟨y, y1, y2⟩ := run_split hW (prj (d.1, j) l') (prj (d.1, j) r) .z (by simp)
          have := run_det y1 (S.run C.V C.VA hj) rfl
          subst this
          exact y2.2
    have := SR.snoc S hd
    rw [← hxh] at this
    exact ⟨_, this⟩
/-- a whole straight run is an order -/
theorem SR.order {L : List Ew} (C : Ctx B w a b) (hL : SR B w a b L b) {l : List Ew} {hh : List Int} (S : SR B w a b l hh) : ∀ r, L = l ++ r → OrW B w a b l := by
  have hlen := C.VA.len
  induction S with
  | nil => intro r _; exact .nil
  | @snoc l h d S hd ih =>
    intro r e
    have e' : L = l ++ (d.2, getI h d.2) :: r := by rw [e]; simp
    obtain ⟨⟨⟨k0, k1⟩, hc⟩, hne, hu⟩ := mem_nearL.mp hd
    have hpre : ∀ k, 0 ≤ k → k < w.n → plc k l = (wayI (getI a k) (getI b k)).take (plc k l).length := fun k z0 z1 => by
      have := S.pre C.VA z0 z1
      rw [this, List.take_left']; rfl
    have hsp := S.pre C.VA k0 k1
    rw [wayI_cons hne] at hsp
    have hcl : (plc d.2 l).length < (wayI (getI a d.2) (getI b d.2)).length := by
      have := congrArg List.length hsp
      rw [List.length_append, List.length_cons] at this; omega
    have hcx : getI (wayI (getI a d.2) (getI b d.2)) ((plc d.2 l).length : Nat) = getI h d.2 := by
      apply getI_at
      rw [hsp, List.getElem?_append_right (Nat.le_refl _), Nat.sub_self, List.getElem?_cons_zero]
    have nd := nodup_wayI (getI a d.2) (getI b d.2)
    have hnot : (d.2, getI h d.2) ∉ l := fun z => by
      have h1 := mem_plc.mpr z
      rw [hpre d.2 k0 k1, ← hcx] at h1
      have := (take_mem nd hcl).mp h1
      omega
    refine .snoc (ih _ e') (mem_singles.mpr ⟨⟨k0, by show d.2 < (a.length : Int); omega⟩, ?_⟩) hnot fun f hf => ?_
    · show getI h d.2 ∈ wayI (getI a d.2) (getI b d.2)
      rw [hsp]; simp
    · rcases mem_pairsW.mp hf with ⟨i, hi, k, hk, hfe⟩ | ⟨e0, he, t, ht, hfe⟩
      · simp only [Prod.mk.injEq] at hfe
        obtain ⟨rfl, hi2, hx⟩ := hfe
        rw [← hi2] at hk hx ⊢
        rw [← hcx] at hx
        have := getI_inj nd ⟨by omega, by omega⟩ ⟨by omega, by omega⟩ hx
        refine mem_plc.mp ?_
        rw [hpre d.2 k0 k1]
        exact (take_mem nd (by omega)).mpr (by omega)
      · have ed := C.V.ed e0 he
        have hshuf := mem_shuf.mpr (hL.run C.V C.VA he)
        have hne0 := C.ne he
        obtain ⟨z1, z2⟩ := prj_zc (e := e0) (by omega) l
        have p1 := hpre e0.1 (by omega) (by omega)
        have p2 := hpre e0.2 (by omega) (by omega)
        have nd1 := nodup_wayI (getI a e0.1) (getI b e0.1)
        have nd2 := nodup_wayI (getI a e0.2) (getI b e0.2)
        obtain ⟨i, hi, ⟨k, ⟨kk0, kk1⟩, rfl⟩ | ⟨k, ⟨kk0, kk1⟩, rfl⟩⟩ := mem_told.mp ht
        · simp only [pwE, Prod.mk.injEq, co] at hfe
          obtain ⟨rfl, hd2, hx⟩ := hfe
          have hb := lo_hi hne0 (i : Nat)
          rw [hd2] at hcx hcl nd hx
          rw [← hcx] at hx
          have hi' : i < (wayI (getI a e0.1) (getI b e0.1)).length := hi
          have hic := getI_inj nd ⟨by omega, by omega⟩ ⟨by omega, by omega⟩ hx
          have h5 := hb.2.2 _ hshuf
          rw [e', prj_app, prj_cons, if_pos hd2] at h5
          have h6 := azi_mid (prj e0 l) (prj e0 r)
          rw [z1, z2] at h6
          rw [show ((i : Nat) : Int) = ((plc e0.1 l).length : Nat) by omega] at h5 kk1
          rw [List.singleton_append, h6] at h5
          refine mem_plc.mp ?_
          show getI (wayI (getI a e0.2) (getI b e0.2)) k ∈ plc e0.2 l
          rw [p2, show k = ((k.toNat : Nat) : Int) by omega]
          have hb2 : hi1 B (pr2 a e0) (pr2 b e0) ((plc e0.1 l).length : Nat) ≤ (wayI (getI a e0.2) (getI b e0.2)).length := (lo_hi hne0 _).2.1
          exact (take_mem nd2 (by omega)).mpr (by omega)
        · simp only [pwE, Prod.mk.injEq, co] at hfe
          obtain ⟨rfl, hd2, hx⟩ := hfe
          have hb := lo_hi hne0 (i : Nat)
          rw [hd2] at hcx hcl nd hx
          rw [← hcx] at hx
          have hb1 := hb.1
          have hkl : k < (wayI (getI a e0.2) (getI b e0.2)).length := kk1
          have hic := getI_inj nd ⟨by omega, by omega⟩ ⟨by omega, hkl⟩ hx
          have h5 := hb.2.2 _ hshuf
          refine mem_plc.mp ?_
          show getI (wayI (getI a e0.1) (getI b e0.1)) i ∈ plc e0.1 l
          rw [p1]
          refine (take_mem nd1 hi).mpr ?_
          by_cases hlt : i < (plc e0.1 l).length
          · exact hlt
          · exfalso
            have hzc : zc (prj e0 L) = (wayI (getI a e0.1) (getI b e0.1)).length := by
              rw [(shuf_len hshuf).1, len_wayI]; rfl
            rw [e', prj_app, prj_cons, if_neg (by omega), if_pos hd2, List.singleton_append] at h5 hzc
            have h6 := azi_ge (prj e0 l) (prj e0 r) (k := i) (by omega) (by rw [hzc]; exact hi)
            omega
end
end HB

set_option Elab.async false
set_option linter.all false
set_option autoImplicit false
namespace HB
open PySem PySem.Spec L2
open En (enc)
/-! ### orders go on to the end -/
theorem list_min {α : Type} (f : α → Nat) : ∀ (l : List α), l ≠ [] → ∃ d ∈ l, ∀ x ∈ l, f d ≤ f x
  | [], h => absurd rfl h
  | [x], _ => ⟨x, by simp, fun y hy => by rw [List.mem_singleton.mp hy]; exact Nat.le_refl _⟩
  | x :: y :: l, _ => by
    obtain ⟨d, hd, h⟩ := list_min f (y :: l) (by simp)
    by_cases z : f x ≤ f d
    · exact ⟨x, List.mem_cons_self .., fun v hv => by
        rcases List.mem_cons.mp hv with e | hv
        · rw [e]; exact Nat.le_refl _
        · have := h v hv; omega⟩
    · exact ⟨d, List.mem_cons_of_mem _ hd, fun v hv => by
        rcases List.mem_cons.mp hv with e | hv
        · rw [e]; omega
        · exact h v hv⟩
section
variable {B : Bk} {w : Wb} {a b : List Int}
theorem OrW.ext {l : List Ew} (C : Ctx B w a b) (h : OrW B w a b l) (hl : l.length < (singles a b).length) : ∃ d, OrW B w a b (l ++ [d]) := by
  obtain ⟨lam, hlam, _⟩ := C.K.rk.ex
  have hne : (singles a b).filter (fun x => !decide (x ∈ l)) ≠ [] := fun z => by
    have := nodup_sub_len (l := singles a b) (l' := l) (singles_nodup a b) fun x hx => by
      have := List.filter_eq_nil_iff.mp z x hx
      simpa using this
    omega
  obtain ⟨d, hd, hmin⟩ := list_min (fun x => lam (kindW a b x)) _ hne
  obtain ⟨h1, h2⟩ := List.mem_filter.mp hd
  refine ⟨d, .snoc h h1 (by simpa using h2) fun f hf => ?_⟩
  by_cases hfl : f ∈ l
  · exact hfl
  · exfalso
    have h3 := hlam _ (C.pair_kind hf)
    have h4 := hmin f (List.mem_filter.mpr ⟨(C.pair_sg hf).1, by simpa using hfl⟩)
    simp only at h3
    omega
theorem OrW.all (C : Ctx B w a b) : ∀ (n : Nat) (l : List Ew), OrW B w a b l → l.length + n = (singles a b).length → ∃ r, OrW B w a b (l ++ r) ∧ (l ++ r).length = (singles a b).length
  | 0, l, h, hl => ⟨[], by rw [List.append_nil]; exact ⟨h, hl⟩⟩
  | n + 1, l, h, hl => by
    obtain ⟨d, hd⟩ := OrW.ext C h (by omega)
    obtain ⟨r, h1, h2⟩ := OrW.all C n (l ++ [d]) hd (by rw [List.length_append, List.length_cons, List.length_nil]; omega)
    exact ⟨d :: r, by rw [List.append_assoc] at h1; exact h1, by rw [List.append_assoc] at h2; exact h2⟩
end
/-! ### rows of straight words -/
def swRow (B : Bk) (w : Wb) (b : List Int) (x : List Ew × List Int) : List (List Ew × List Int) := ((afW B w x.2).filter fun y => decide (sumH y.2 b < sumH x.2 b)).map fun y => (x.1 ++ [(y.1.2, getI x.2 y.1.2)], y.2)
def swTurn (B : Bk) (w : Wb) (b : List Int) (rows : List (List Ew × List Int)) : List (List Ew × List Int) := rows.flatMap (swRow B w b)
def sw (B : Bk) (w : Wb) (a b : List Int) : Nat → List (List Ew × List Int)
  | 0 => [([], a)]
  | n + 1 => swTurn B w b (sw B w a b n)
def ooRow (S : List Ew) (P : List (Ew × Ew)) (l : List Ew) : List (List Ew) := (S.filter fun d => !decide (d ∈ l) && (P.filter fun p => decide (p.2 = d) && !decide (p.1 ∈ l)).isEmpty).map fun d => l ++ [d]
def oo (S : List Ew) (P : List (Ew × Ew)) : Nat → List (List Ew)
  | 0 => [[]]
  | n + 1 => (oo S P n).flatMap (ooRow S P)
theorem mem_ooRow {S : List Ew} {P : List (Ew × Ew)} {l L : List Ew} : L ∈ ooRow S P l ↔ ∃ d ∈ S, d ∉ l ∧ (∀ f, (f, d) ∈ P → f ∈ l) ∧ L = l ++ [d] := by
  unfold ooRow
  rw [List.mem_map]
  constructor
  · rintro ⟨d, hd, rfl⟩
    obtain ⟨h1, h2⟩ := List.mem_filter.mp hd
    rw [Bool.and_eq_true, Bool.not_eq_true', decide_eq_false_iff_not, List.isEmpty_iff, List.filter_eq_nil_iff] at h2
    refine ⟨d, h1, h2.1, fun f hf => ?_, rfl⟩
    have := h2.2 _ hf
    simpa using this
  · rintro ⟨d, h1, h2, h3, rfl⟩
    refine ⟨d, List.mem_filter.mpr ⟨h1, ?_⟩, rfl⟩
    rw [Bool.and_eq_true, Bool.not_eq_true', decide_eq_false_iff_not, List.isEmpty_iff, List.filter_eq_nil_iff]
    refine ⟨h2, fun p hp => ?_⟩
    obtain ⟨f, g⟩ := p
    simp only [Bool.and_eq_true, decide_eq_true_eq, Bool.not_eq_true', decide_eq_false_iff_not, not_and, Classical.not_not]
    rintro rfl
    exact h3 f hp
theorem mem_oo {S : List Ew} {P : List (Ew × Ew)} : ∀ (n : Nat) (l : List Ew), l ∈ oo S P n ↔ ORr S P l ∧ l.length = n
  | 0, l => by
    simp only [oo, List.mem_singleton]
    constructor
    · rintro rfl; exact ⟨.nil, rfl⟩
    · rintro ⟨_, h⟩; exact List.eq_nil_of_length_eq_zero h
  | n + 1, l => by
    simp only [oo, List.mem_flatMap, mem_ooRow]
    constructor
    · rintro ⟨l0, h0, d, h1, h2, h3, rfl⟩
      obtain ⟨h4, h5⟩ := (mem_oo n l0).mp h0
      exact ⟨.snoc h4 h1 h2 h3, by simp [h5]⟩
    · rintro ⟨h, hl⟩
      cases h with
      | nil => simp at hl
      | @snoc l0 d h1 h2 h3 h4 =>
        rw [List.length_append, List.length_cons, List.length_nil] at hl
        exact ⟨l0, (mem_oo n l0).mpr ⟨h1, by omega⟩, d, h2, h3, h4, rfl⟩
theorem oo_nodup {S : List Ew} {P : List (Ew × Ew)} (nS : S.Nodup) : ∀ n, (oo S P n).Nodup
  | 0 => by simp [oo]
  | n + 1 => by
    unfold oo
    refine nodup_flatMap (fun L => L.dropLast) _ (oo_nodup nS n) fun l _ => ⟨nodup_map (fun x y h => by simpa using h) (List.Pairwise.filter _ nS), fun x hx => ?_⟩
    obtain ⟨d, _, _, _, rfl⟩ := mem_ooRow.mp hx
    simp
section
variable {B : Bk} {w : Wb} {a b : List Int}
theorem swRow_eq {x : List Ew × List Int} (VH : VHts B w x.2) : swRow B w b x = (nearL B w x.2 b).map fun d => (x.1 ++ [(d.2, getI x.2 d.2)], chg x.2 d) := by
  unfold swRow afW
  rw [List.filter_map, List.map_map]
  have : (deedsW B w x.2).filter ((fun y : Dw × List Int => decide (sumH y.2 b < sumH x.2 b)) ∘ fun d => (d, chg x.2 d)) = nearL B w x.2 b := by
    unfold nearL
    apply List.filter_congr
    intro d hd
    have h1 := near_iff (o := b) VH hd
    unfold nearL at h1
    rw [List.mem_filter] at h1
    show decide (sumH (chg x.2 d) b < sumH x.2 b) = _
    rw [Bool.eq_iff_iff, decide_eq_true_eq, h1]
    exact ⟨fun h => h.2, fun h => ⟨hd, h⟩⟩
  rw [this]; rfl
theorem mem_sw (VA : VHts B w a) : ∀ (n : Nat) (x : List Ew × List Int), x ∈ sw B w a b n ↔ SR B w a b x.1 x.2 ∧ x.1.length = n
  | 0, x => by
    simp only [sw, List.mem_singleton]
    constructor
    · rintro rfl; exact ⟨.nil, rfl⟩
    · obtain ⟨l, h⟩ := x
      rintro ⟨h1, h2⟩
      cases h1 with
      | nil => rfl
      | snoc => simp at h2
  | n + 1, x => by
    simp only [sw, swTurn, List.mem_flatMap]
    constructor
    · rintro ⟨y, hy, hx⟩
      obtain ⟨h1, h2⟩ := (mem_sw VA n y).mp hy
      rw [swRow_eq (h1.vh VA)] at hx
      obtain ⟨d, hd, rfl⟩ := List.mem_map.mp hx
      exact ⟨.snoc h1 hd, by simp [h2]⟩
    · obtain ⟨l, h⟩ := x
      rintro ⟨h1, h2⟩
      simp only at h1 h2
      cases h1 with
      | nil => simp at h2
      | @snoc l0 h0 d s hd =>
        rw [List.length_append, List.length_cons, List.length_nil] at h2
        refine ⟨(l0, h0), (mem_sw VA n _).mpr ⟨s, by simp only; omega⟩, ?_⟩
        rw [swRow_eq (s.vh VA)]
        exact List.mem_map.mpr ⟨d, hd, rfl⟩
theorem deedsW_nodup (B : Bk) (w : Wb) (h : List Int) : (deedsW B w h).Nodup := by
  unfold deedsW
  rw [List.nodup_append]
  refine ⟨nodup_map (fun x y e => by simpa using e) (List.Pairwise.filter _ (nodup_rgI _ _)), nodup_map (fun x y e => by simpa using e) (List.Pairwise.filter _ (nodup_rgI _ _)), ?_⟩
  intro x hx y hy e
  obtain ⟨k, _, rfl⟩ := List.mem_map.mp hx
  obtain ⟨j, _, rfl⟩ := List.mem_map.mp hy
  simp at e
theorem sw_nodup (VA : VHts B w a) : ∀ n, ((sw B w a b n).map (·.1)).Nodup
  | 0 => by simp [sw]
  | n + 1 => by
    unfold sw swTurn
    rw [List.map_flatMap]
    refine nodup_flatMap2 (·.1) (fun L => L.dropLast) _ (sw_nodup VA n) fun x hx => ?_
    have VH := ((mem_sw VA n x).mp hx).1.vh VA
    rw [swRow_eq VH, List.map_map]
    refine ⟨List.pairwise_map.mpr (List.Pairwise.imp_of_mem ?_ (List.Pairwise.filter _ (deedsW_nodup B w x.2))), fun y hy => ?_⟩
    · intro d d' hd hd' hne e
      have h1 := mem_nearL.mp hd
      have h2 := mem_nearL.mp hd'
      simp only [Function.comp, List.append_cancel_left_eq, List.cons.injEq, Prod.mk.injEq, and_true] at e
      apply hne
      obtain ⟨u, k⟩ := d
      obtain ⟨u', k'⟩ := d'
      simp only at h1 h2 e
      obtain ⟨rfl, _⟩ := e
      rw [h1.2.2, h2.2.2]
    · obtain ⟨d, _, rfl⟩ := List.mem_map.mp hy
      simp
theorem SR.end_ {L : List Ew} {h : List Int} (C : Ctx B w a b) (s : SR B w a b L h) (hl : L.length = (singles a b).length) : h = b := by
  have h1 := s.off C.VA
  have h2 := singles_len a b
  have h3 := (s.vh C.VA).len
  have h4 := C.VB.len
  exact sumH_0 (by omega) (by omega)
theorem words_orders (C : Ctx B w a b) (L : List Ew) : L ∈ (sw B w a b (singles a b).length).map (·.1) ↔ L ∈ oo (singles a b) (pairsW B w a b) (singles a b).length := by
  rw [mem_oo, List.mem_map]
  constructor
  · rintro ⟨x, hx, rfl⟩
    obtain ⟨h1, h2⟩ := (mem_sw C.VA _ x).mp hx
    have := h1.end_ C h2
    have h3 : SR B w a b x.1 b := this ▸ h1
    exact ⟨SR.order C h3 h3 [] (List.append_nil _).symm, h2⟩
  · rintro ⟨h1, h2⟩
    obtain ⟨hh, s⟩ := OrW.straight C h1 h2 L.length L [] rfl (List.append_nil _).symm
    exact ⟨(L, hh), (mem_sw C.VA _ _).mpr ⟨s, h2⟩, rfl⟩
theorem words_sorted (C : Ctx B w a b) : sortE ((sw B w a b (singles a b).length).map (·.1)) = sortE (oo (singles a b) (pairsW B w a b) (singles a b).length) :=
  sortE_congr (sw_nodup C.VA _) (oo_nodup (singles_nodup a b) _) (words_orders C)
theorem words_len (C : Ctx B w a b) : (sw B w a b (singles a b).length).length = (oo (singles a b) (pairsW B w a b) (singles a b).length).length := by
  have h1 := nodup_sub_len (sw_nodup (b := b) C.VA (singles a b).length) fun x hx => (words_orders C x).mp hx
  have h2 := nodup_sub_len (oo_nodup (P := pairsW B w a b) (singles_nodup a b) (singles a b).length) fun x hx => (words_orders C x).mpr hx
  rw [List.length_map] at h1 h2
  omega
theorem oo_few (C : Ctx B w a b) {n : Nat} (hn : n ≤ (singles a b).length) : (oo (singles a b) (pairsW B w a b) n).length ≤ (oo (singles a b) (pairsW B w a b) (singles a b).length).length := by
  have h1 := nodup_sub_len (l' := (oo (singles a b) (pairsW B w a b) (singles a b).length).map (·.take n)) (oo_nodup (P := pairsW B w a b) (singles_nodup a b) n) fun l hl => by
    obtain ⟨h1, h2⟩ := (mem_oo n l).mp hl
    obtain ⟨r, h3, h4⟩ := OrW.all C ((singles a b).length - n) l h1 (by omega)
    exact List.mem_map.mpr ⟨l ++ r, (mem_oo _ _).mpr ⟨h3, h4⟩, by rw [← h2, List.take_left']; rfl⟩
  rwa [List.length_map] at h1
theorem words_some (C : Ctx B w a b) : 1 ≤ (sw B w a b (singles a b).length).length := by
  rw [words_len C]
  obtain ⟨r, h3, h4⟩ := OrW.all C (singles a b).length [] .nil (by simp)
  exact List.length_pos_of_mem ((mem_oo _ _).mpr ⟨h3, h4⟩)
/-! ### the count of the words -/
theorem wsum_ind {κ : Type} [DecidableEq κ] (x : κ) : ∀ {m : List (κ × Int)}, (m.map (·.1)).Nodup → wsum m (fun k => if k = x then 1 else 0) = (alook m x).getD 0
  | [], _ => rfl
  | p :: m, n => by
    rw [List.map_cons, List.nodup_cons] at n
    rw [wsum_cons, alook_cons, wsum_ind x n.2]
    by_cases e : p.1 = x
    · rw [if_pos e, if_pos e]
      have : alook m x = none := alook_none (by rw [← e]; exact n.1)
      rw [this]; simp
    · rw [if_neg e, if_neg e]; simp
theorem wcRow_wsum (f : List Int → Int) (rows : Hm) (here : List Int) : ∀ (l : List Dw) (m : Hm), (m.map (·.1)).Nodup → ((l.foldl (wcStep rows here) m).map (·.1)).Nodup ∧ wsum (l.foldl (wcStep rows here) m) f = wsum m f + hv rows here * (l.map fun d => f (chg here d)).sum
  | [], m, n => by simp [n]
  | d :: l, m, n => by
    have n1 : ((wcStep rows here m d).map (·.1)).Nodup := aput_nodup n _ _
    obtain ⟨h1, h2⟩ := wcRow_wsum f rows here l _ n1
    refine ⟨h1, ?_⟩
    rw [List.foldl_cons, h2, List.map_cons, List.sum_cons, Int.mul_add]
    have : wsum (wcStep rows here m d) f = wsum m f + hv rows here * f (chg here d) := wsum_aput n _ _ f
    rw [this]; omega
theorem wcFold_wsum (o : List Int) (f : List Int → Int) {rows : Hm} (nr : (rows.map (·.1)).Nodup) : ∀ (x : Hm), (∀ p ∈ x, p ∈ rows) → ∀ (m : Hm), (m.map (·.1)).Nodup → (((x.map (·.1)).foldl (wcRow B w o rows) m).map (·.1)).Nodup ∧ wsum ((x.map (·.1)).foldl (wcRow B w o rows) m) f = wsum m f + wsum x fun h => ((nearL B w h o).map fun d => f (chg h d)).sum
  | [], _, m, n => by simp [n, wsum]
  | p :: x, hx, m, n => by
    obtain ⟨h1, h2⟩ := wcRow_wsum f rows p.1 (nearL B w p.1 o) m n
    obtain ⟨h3, h4⟩ := wcFold_wsum o f nr x (fun q hq => hx q (List.mem_cons_of_mem _ hq)) _ h1
    refine ⟨h3, ?_⟩
    rw [List.map_cons, List.foldl_cons]
    show wsum (List.foldl (wcRow B w o rows) (wcRow B w o rows m p.1) _) f = _
    unfold wcRow at h4 ⊢
    rw [h4, h2, wsum_cons]
    have : hv rows p.1 = p.2 := by
      unfold hv
      rw [alook_mem nr (show (p.1, p.2) ∈ rows from hx p (List.mem_cons_self ..))]; rfl
    rw [this]; omega
def fsum (f : List Int → Int) (rows : List (List Ew × List Int)) : Int := (rows.map fun x => f x.2).sum
theorem fsum_turn (VA : VHts B w a) (f : List Int → Int) : ∀ (rows : List (List Ew × List Int)), (∀ x ∈ rows, VHts B w x.2) → fsum f (swTurn B w b rows) = fsum (fun h => ((nearL B w h b).map fun d => f (chg h d)).sum) rows
  | [], _ => rfl
  | x :: rows, h => by
    have ih := fsum_turn VA f rows fun y hy => h y (List.mem_cons_of_mem _ hy)
    unfold fsum swTurn at *
    rw [List.flatMap_cons, List.map_append, List.sum_append, ih, List.map_cons, List.sum_cons, swRow_eq (h x (List.mem_cons_self ..)), List.map_map]; rfl
theorem wc_fsum (VA : VHts B w a) : ∀ (l : List Int) (n : Nat) (rows : Hm), (rows.map (·.1)).Nodup → (∀ f, wsum rows f = fsum f (sw B w a b n)) → ((l.foldl (fun r _ => wcTurn B w b r) rows).map (·.1)).Nodup ∧ ∀ f, wsum (l.foldl (fun r _ => wcTurn B w b r) rows) f = fsum f (sw B w a b (n + l.length))
  | [], n, rows, nr, h => ⟨nr, h⟩
  | _ :: l, n, rows, nr, h => by
    have key : ((wcTurn B w b rows).map (·.1)).Nodup ∧ ∀ f, wsum (wcTurn B w b rows) f = fsum f (sw B w a b (n + 1)) := by
      constructor
      · exact (wcFold_wsum b (fun _ => 0) nr rows (fun p hp => hp) [] (by simp)).1
      · intro f
        unfold wcTurn sw
        rw [(wcFold_wsum b f nr rows (fun p hp => hp) [] (by simp)).2, fsum_turn VA f _ fun x hx => ((mem_sw VA n x).mp hx).1.vh VA, ← h]
        simp [wsum]
    have := wc_fsum VA l (n + 1) (wcTurn B w b rows) key.1 key.2
    rw [List.foldl_cons, List.length_cons, show n + (l.length + 1) = n + 1 + l.length by omega]
    exact this
theorem wc_count (C : Ctx B w a b) : alook (wcAll B w a b) b = some ((sw B w a b (singles a b).length).length : Int) := by
  have hT : (rgI 0 (sumH a b)).length = (singles a b).length := by
    have := singles_len a b
    rw [len_rgI]; omega
  obtain ⟨h1, h2⟩ := wc_fsum C.VA (b := b) (rgI 0 (sumH a b)) 0 [(a, 1)] (by simp) (fun f => by simp [wsum, fsum, sw])
  rw [Nat.zero_add, hT] at h2
  have h3 := h2 fun k => if k = b then 1 else 0
  rw [wsum_ind b h1] at h3
  have h4 : fsum (fun k => if k = b then 1 else 0) (sw B w a b (singles a b).length) = ((sw B w a b (singles a b).length).length : Int) := by
    have key : ∀ l : List (List Ew × List Int), (∀ x ∈ l, x.2 = b) → fsum (fun k => if k = b then 1 else 0) l = (l.length : Int) := by
      intro l
      induction l with
      | nil => intro _; rfl
      | cons x l ih =>
        intro h
        have := ih fun y hy => h y (List.mem_cons_of_mem _ hy)
        unfold fsum at this ⊢
        rw [List.map_cons, List.sum_cons, this, h x (List.mem_cons_self ..), List.length_cons]
        simp only [if_true]; omega
    refine key _ fun x hx => ?_
    obtain ⟨s, hl⟩ := (mem_sw C.VA _ x).mp hx
    exact s.end_ C hl
  rw [h4] at h3
  have h5 := words_some C
  have h6 : alook (wcAll B w a b) b = alook ((rgI 0 (sumH a b)).foldl (fun r _ => wcTurn B w b r) [(a, 1)]) b := rfl
  rw [h6]
  cases h7 : alook ((rgI 0 (sumH a b)).foldl (fun r _ => wcTurn B w b r) [(a, 1)]) b with
  | none => rw [h7] at h3; simp only [Option.getD_none] at h3; omega
  | some v => rw [h7] at h3; simp only [Option.getD_some] at h3; rw [h3]
end
end HB

set_option Elab.async false
set_option linter.all false
set_option maxRecDepth 100000
set_option maxHeartbeats 4000000
set_option autoImplicit false
namespace HB
open PySem PySem.Spec L2
open En (enc)
section
variable {P : Program} {w : World} {K : PySem.W.Frag} {mg : Str → Option Value} {base : Heap}
local macro_rules | `(tactic| walk_at "rd") => `(tactic| simp [-List.any_eq_true, -List.any_eq_false, sSeq, sIf, sRt, sNx, sAs, sOw, sFz, sDo, sNo, sApp, gNm, gTp_t, gC_c, gN_n, xB, xZ, xA, xK, getZ, getA, fzz, x2, xAnd, xOr, xNot, xAndV, xOrV, xNotV, xIf, xChain, xFn, xTup, xLst, xNil, xCons, xCatL, xCatT, xSlL, xSlT, xNoP, xSoP, xThenL, xTupOf, xRngL, xSort, xSortSet, xSortK, xSumV, xDget, xDictOf, xTIndex, xTupF, xCatF, xRevT, xRngL3, xRngT, xRow, gRow, xLen0, xCell, xCallR, xIsi, xIsi2, xCall, xDnew, xDone, xGetD, xInD, xYes, sFor, iL, iT, iR1, iR2, iR3, iEnT, iEnL, iKs, iLn, xLc, kOk_p, any_p, dlk_p, put_p, dne0_p, deq0_p, dne0_i, dne0_w, deq0_w, encM_len, sMix, xMo, xMf, xMn, setS, gSbD, gSb, cut_take, cut_drop, ex2_eq, kOk_kk, put_kk, kOk_k3, dlk_k3, put_k3, itw0, itw1, wb_nt, wb_tu, wb_len, kOk_h, dlk_h, put_h, getD_h, sAugM, rngD_0, wip, dseq_t, dseq_l, deq_il, rngD_rg, dnD_dn, disN_n, dnotN_n, isNo, start', startR, rwAt, rwSet, dint, itb0, itb1, itb2, bk_nt, bk_tu, bk_len, encL_list, list_encL, len_L, len_l, len_t, it2_0, it2_1, it3_0, it3_1, it3_2, il2_0, il2_1, il1_0, it2_v, it2_n, icmp_i, isub_i, iadd_i, din_i, din_iL, deq_i, dne_i, deq_b, dne_b, nd_i, nd_b, nd_s, nd_n, nd_l, nd_t, ik_ii, ik_ib, ik_tt, small, dabs, dmax2, sum_L, enc_i, enc_b, enc_k, enc_p, enc_3, enc_l])
theorem afW_mem {B : Bk} {w : Wb} {h : List Int} {y : Dw × List Int} (hy : y ∈ afW B w h) : y.1 ∈ deedsW B w h ∧ y.2 = chg h y.1 := by
  unfold afW at hy
  obtain ⟨d, hd, rfl⟩ := List.mem_map.mp hy
  exact ⟨hd, rfl⟩
theorem afW_len {B : Bk} {w : Wb} {h : List Int} (V : VWeb w) : (afW B w h).length ≤ 16 := by
  unfold afW deedsW
  have h1 := List.length_filter_le (canW B w h false) (rgI 0 w.n)
  have h2 := List.length_filter_le (canW B w h true) (rgI 0 w.n)
  have := V.n1
  rw [len_rgI] at h1 h2
  simp only [List.length_map, List.length_append]; omega
def CameJ (B : Bk) (w : Wb) (a : List Int) (pre : List Int) (b : List Int) (ρ : Rw) : Prop := 0 ≤ ρ.1 ∧ ∃ k, k ≤ pre.length ∧ Came B w a b k
def S_law_reached : SpR := fun ns ρ ds W => 0 ≤ ρ.1 ∧ ∃ (B : Bk) (w : Wb) (a : List Int), ds = [bkD B, wbD w, .tuple (a.map .int), .int 6] ∧ VWeb w ∧ VHts B w a ∧ ∀ (b : List Int) (k : Nat) (ρ' : Rw), Came B w a b k → k ≤ 6 → 0 ≤ ρ'.1 → W (.tuple (b.map .int)) ρ'
theorem ln_law_reached {ns : List Int} {ρ : Rw} {ds : List PyData} {W : PyData → Rw → Prop} (h : S_law_reached ns ρ ds W) : ds.length + 1 = 5 := by obtain ⟨_, _, _, _, e, _⟩ := h; rw [e]; rfl
theorem df_law_reached (G_law_taken : DfR P w K mg base "_law_taken" 1 S_law_taken) (G_law_after : Df P w K mg base "_law_after" 2 S_law_after) (G_law_pick : DfR P w K mg base "_law_pick" 2 S_law_pick) (h_range : mg "range" = none) (Fn_law_reached : Fn K mg "_law_reached" "_law_reached" 84) : DfR P w K mg base "_law_reached" 3 S_law_reached := by
  refine mkfnR Fn_law_reached sc_law_reached (fun kV doc pm an cdv ct us h => by rcases us with _ | ⟨x0, _ | ⟨x1, _ | ⟨x2, _ | ⟨x3, _ | ⟨x4, _ | ⟨x5, r5⟩⟩⟩⟩⟩⟩ <;> first | rfl | (simp at h)) (by intro ns ρ ds W h; exact ln_law_reached h) fun f cdv A outer s H F E r sa ns hr => ⟨_, (jbcons (jset (i := 5) sc_law_reached.nd (jz 3))
    (jbcons (jfor (pr := false) PassesOwn.never rfl (jiR1 h_range (jccons (jc (jcallR G_law_taken ⟨rfl, rfl, rfl⟩ (hr.mono (by decide)) 0 (pv 0) (jcons (jadd (ja 4) (jc ji)) jnil))) jcnil)) (jgn (i := 6) sc_law_reached.nd) (jbcons (jset (i := 7) sc_law_reached.nd (jcall G_law_after ⟨rfl, rfl⟩ hr (jcons (jz 1) (jcons (jz 2) (jcons (jz 5) jnil)))))
    (jbone (jset (i := 5) sc_law_reached.nd (jif (jcmpT (o_ne hr.units) (ja 7) (jc_f (jlst jnil))) (jix (jc (jcallR G_law_pick ⟨rfl, rfl, rfl⟩ hr 0 (pv 0) (jcons (jz 7) jnil))) (jc ji)) (jz 5))))))
    (jbone (jret (jz 5))))), ?_⟩
  intro ρ ds W h
  obtain ⟨hρ, B, w, a, rfl, V, VA, h⟩ := h
  walk_at "rd"
  refine u_law_taken hρ (by omega) (by omega) fun x ρ1 x0 x1 r1 => ?_
  walk_at "rd"
  refine ⟨by omega, loop_relR (rgI 0 x) (fun (b : List Int) (e : Slo × Slo) => [.row, .fz (bkD B), .fz (wbD w), .fz (.tuple (a.map .int)), .fz (.int 6), .fz (.tuple (b.map .int)), e.1, e.2]) (CameJ B w a) a (.no, .no) rfl ⟨r1, 0, Nat.le_refl _, .nil⟩ ?_ ?_⟩
  · rintro pre i post hl b e ρ2 ⟨r2, k, hk, hC⟩
    have hpl : (pre ++ [i]).length = pre.length + 1 := by simp
    have VB := hC.vh VA
    walk_at "rd"
    refine ⟨B, w, b, rfl, V, VB, ?_⟩
    refine ⟨_, dne0 (α := Dw × List Int) (by decide) _, ?_⟩
    cases he : (afW B w b).isEmpty
    · refine .inr ⟨rfl, r2, (afW B w b).map enc, rfl, ?_, ?_, ?_⟩
      · intro z
        have := List.map_eq_nil_iff.mp z
        rw [this] at he; cases he
      · rw [List.length_map]; have := afW_len (B := B) (h := b) V; omega
      · intro d hd ρ3 r3
        obtain ⟨y, hy, rfl⟩ := List.mem_map.mp hd
        obtain ⟨h1, h2⟩ := afW_mem hy
        refine ⟨.tuple (y.2.map .int), rfl, ?_⟩
        exact ⟨y.2, rfl, r3, k + 1, by omega, by rw [h2]; exact .snoc hC h1⟩
    · refine .inl ⟨rfl, ?_⟩
      exact ⟨b, rfl, r2, k, by omega, hC⟩
  · rintro b e ρ2 ⟨r2, k, hk, hC⟩
    rw [len_rgI] at hk
    walk_at "rd"
    exact h b k ρ2 hC (by omega) r2

theorem put_ww (m : List ((Ew × Ew) × Bool)) (a b c d : Int) (v : Bool) : dput (encM .bool m) (.tuple [.tuple [.int a, .int b], .tuple [.int c, .int d]]) (.bool v) = encM .bool (aput m ((a, b), (c, d)) v) := encM_put .bool m ((a, b), (c, d)) v
theorem kOk_ww (a b c d : Int) : kOk (.tuple [.tuple [.int a, .int b], .tuple [.int c, .int d]]) := kOkE (α := Ew × Ew) ((a, b), (c, d))
abbrev Wm := List ((Ew × Ew) × Bool)
def ahC (W : List Int) (k : Int) (m : Wm) (j : Int) : Wm := aput m ((k, getI W j), (k, getI W (j + 1))) true
def ah1 (a b : List Int) (m : Wm) (k : Int) : Wm := (rgI 0 (((wayI (getI a k) (getI b k)).length : Int) - 1)).foldl (ahC (wayI (getI a k) (getI b k)) k) m
def ahT (e : Int × Int) (m : Wm) (t : Ev × Ev) : Wm := aput m (pwE e t) true
def ah2 (B : Bk) (a b : List Int) (m : Wm) (e : Int × Int) : Wm := (toldP B (pr2 a e) (pr2 b e)).foldl (ahT e) m
def ahM (B : Bk) (w : Wb) (a b : List Int) : Wm := w.es.foldl (ah2 B a b) ((rgI 0 w.n).foldl (ah1 a b) [])
theorem aputF {γ : Type} (g : γ → Ew × Ew) : ∀ (l : List γ) (m : Wm), (m.map (·.1)).Nodup → ((l.foldl (fun m y => aput m (g y) true) m).map (·.1)).Nodup ∧ (∀ x, x ∈ (l.foldl (fun m y => aput m (g y) true) m).map (·.1) ↔ x ∈ m.map (·.1) ∨ ∃ y ∈ l, x = g y) ∧ (l.foldl (fun m y => aput m (g y) true) m).length ≤ m.length + l.length
  | [], m, n => ⟨n, by simp, by simp⟩
  | y :: l, m, n => by
    obtain ⟨h1, h2, h3⟩ := aputF g l (aput m (g y) true) (aput_nodup n _ _)
    have h4 := aput_len m (g y) true
    refine ⟨h1, fun x => ?_, by rw [List.foldl_cons, List.length_cons]; omega⟩
    rw [List.foldl_cons, h2, mem_keys_aput]
    simp only [List.mem_cons, exists_eq_or_imp, or_assoc]
theorem aputFF {γ : Type} {β : Type} (L : β → List γ) (g : β → γ → Ew × Ew) (N : Nat) : ∀ (l : List β) (m : Wm), (∀ y ∈ l, (L y).length ≤ N) → (m.map (·.1)).Nodup → ((l.foldl (fun m y => (L y).foldl (fun m z => aput m (g y z) true) m) m).map (·.1)).Nodup ∧ (∀ x, x ∈ (l.foldl (fun m y => (L y).foldl (fun m z => aput m (g y z) true) m) m).map (·.1) ↔ x ∈ m.map (·.1) ∨ ∃ y ∈ l, ∃ z ∈ L y, x = g y z) ∧ (l.foldl (fun m y => (L y).foldl (fun m z => aput m (g y z) true) m) m).length ≤ m.length + N * l.length
  | [], m, _, n => ⟨n, by simp, by simp⟩
  | y :: l, m, hN, n => by
    obtain ⟨k1, k2, k3⟩ := aputF (g y) (L y) m n
    obtain ⟨h1, h2, h3⟩ := aputFF L g N l _ (fun z hz => hN z (List.mem_cons_of_mem _ hz)) k1
    have h4 := hN y (List.mem_cons_self ..)
    refine ⟨h1, fun x => ?_, by rw [List.foldl_cons, List.length_cons, Nat.mul_add, Nat.mul_one]; omega⟩
    rw [List.foldl_cons, h2, k2]
    simp only [List.mem_cons, exists_eq_or_imp, or_assoc]
theorem toldP_ne {B : Bk} {p q : Pr} {t : Ev × Ev} (h : t ∈ toldP B p q) : t.1.1 ≠ t.2.1 := by
  obtain ⟨i, _, ⟨k, _, rfl⟩ | ⟨k, _, rfl⟩⟩ := mem_told.mp h <;> simp
theorem pwE_inj {e : Int × Int} (hne : e.1 < e.2) {t t' : Ev × Ev} (h : pwE e t = pwE e t') : t = t' := by
  obtain ⟨⟨k1, x1⟩, ⟨k2, x2⟩⟩ := t
  obtain ⟨⟨l1, y1⟩, ⟨l2, y2⟩⟩ := t'
  simp only [pwE, Prod.mk.injEq] at h
  obtain ⟨⟨h1, rfl⟩, h2, rfl⟩ := h
  have inj : ∀ k l : Pc, co e k = co e l → k = l := fun k l h => by
    cases k <;> cases l <;> simp [co] at h ⊢ <;> omega
  rw [inj _ _ h1, inj _ _ h2]
theorem pwRaw_nodup {B : Bk} {w : Wb} {a b : List Int} (C : Ctx B w a b) : (pwRaw B w a b).Nodup := by
  have hn := C.VA.len
  have e1 : pwRow B a b = fun f e => f ++ (toldP B (pr2 a e) (pr2 b e)).map (pwE e) := by
    funext f e; unfold pwRow; rw [fold_snoc]
  unfold pwRaw
  rw [e1, fold_app, fold_app, List.nil_append, List.nodup_append]
  refine ⟨?_, ?_, ?_⟩
  · refine nodup_flatMap2 (fun i : Nat => (i : Int)) (fun x => x.1.1) _ ?_ fun i _ => ⟨?_, fun x hx => ?_⟩
    · exact nodup_map (fun x y h => by omega) List.nodup_range
    · unfold pwA
      refine List.pairwise_map.mpr (List.Pairwise.imp_of_mem ?_ (nodup_rgI _ _))
      intro x y hx hy hne e
      have h1 := mem_rgI.mp hx
      have h2 := mem_rgI.mp hy
      simp only [Prod.mk.injEq, true_and] at e
      exact hne (getI_inj (nodup_wayI _ _) ⟨by omega, by omega⟩ ⟨by omega, by omega⟩ e.1)
    · unfold pwA at hx
      obtain ⟨k, _, rfl⟩ := List.mem_map.mp hx
      rfl
  · have hes : w.es.Nodup := C.V.so.imp fun {a b} h e => by subst e; unfold ltP at h; omega
    refine nodup_flatMap (fun x => (min x.1.1 x.2.1, max x.1.1 x.2.1)) _ hes fun e he => ⟨?_, fun x hx => ?_⟩
    · have ed := C.V.ed e he
      have hnd : (toldP B (pr2 a e) (pr2 b e)).Nodup := sortE_nodup (tdRaw_nodup (C.ne he))
      exact nodup_map (fun x y h => pwE_inj ed.2.1 h) hnd
    · have ed := C.V.ed e he
      obtain ⟨t, ht, rfl⟩ := List.mem_map.mp hx
      have := toldP_ne ht
      obtain ⟨⟨k1, x1⟩, ⟨k2, x2⟩⟩ := t
      cases k1 <;> cases k2 <;> simp [pwE, co] at this ⊢ <;> (refine Prod.ext ?_ ?_ <;> simp only <;> omega)
  · intro x hx y hy e
    subst e
    obtain ⟨i, _, h1⟩ := List.mem_flatMap.mp hx
    obtain ⟨e, he, h2⟩ := List.mem_flatMap.mp hy
    unfold pwA at h1
    obtain ⟨k, _, rfl⟩ := List.mem_map.mp h1
    obtain ⟨t, ht, h3⟩ := List.mem_map.mp h2
    have ed := C.V.ed e he
    have := toldP_ne ht
    obtain ⟨⟨k1, x1⟩, ⟨k2, x2⟩⟩ := t
    simp only [pwE, Prod.mk.injEq] at h3
    obtain ⟨⟨h4, _⟩, h5, _⟩ := h3
    cases k1 <;> cases k2 <;> simp [co] at this h4 h5 <;> omega
theorem ahM_facts {B : Bk} {w : Wb} {a b : List Int} (C : Ctx B w a b) (hr : B.r ≤ 3) : ((ahM B w a b).map (·.1)).Nodup ∧ (∀ x, x ∈ (ahM B w a b).map (·.1) ↔ x ∈ pwRaw B w a b) ∧ (ahM B w a b).length ≤ 10000 := by
  have hn := C.VA.len
  have n1 := C.V.n1
  have hw : ∀ k ∈ rgI 0 w.n, (wayI (getI a k) (getI b k)).length ≤ 3 := fun k hk => by
    have := mem_rgI.mp hk
    have b1 := C.VA.at this.1 this.2
    have b2 := C.VB.at this.1 this.2
    rw [len_wayI]; omega
  obtain ⟨h1, h2, h3⟩ := aputFF (fun k : Int => rgI 0 (((wayI (getI a k) (getI b k)).length : Int) - 1)) (fun k j => ((k, getI (wayI (getI a k) (getI b k)) j), (k, getI (wayI (getI a k) (getI b k)) (j + 1)))) 3 (rgI 0 w.n) [] (fun k hk => by have := hw k hk; rw [len_rgI]; omega) (by simp)
  obtain ⟨h4, h5, h6⟩ := aputFF (fun e : Int × Int => toldP B (pr2 a e) (pr2 b e)) (fun e t => pwE e t) 80 w.es _ (fun e he => told_len (C.ne he) (C.VA.box C.V he) (C.VB.box C.V he) (by omega)) h1
  have hes := C.V.len
  rw [len_rgI] at h3
  refine ⟨h4, fun x => ?_, ?_⟩
  · have e1 : x ∈ (ahM B w a b).map (·.1) ↔ _ := h5 x
    rw [e1, h2]
    unfold pwRaw
    rw [mem_pwRows, mem_pwFirst]
    simp only [List.map_nil, List.not_mem_nil, false_or]
    apply or_congr_left
    constructor
    · rintro ⟨k, hk, j, hj, rfl⟩
      have := mem_rgI.mp hk
      refine ⟨k.toNat, List.mem_range.mpr (by omega), ?_⟩
      unfold pwA
      rw [show ((k.toNat : Nat) : Int) = k by omega]
      exact List.mem_map.mpr ⟨j, hj, rfl⟩
    · rintro ⟨i, hi, h⟩
      have := List.mem_range.mp hi
      unfold pwA at h
      obtain ⟨j, hj, rfl⟩ := List.mem_map.mp h
      exact ⟨(i : Int), mem_rgI.mpr ⟨by omega, by omega⟩, j, hj, rfl⟩
  · have e1 : (ahM B w a b).length ≤ _ := h6
    simp only [List.length_nil, Nat.zero_add] at h3
    omega
def S_law_ahead : SpT := fun ds W => ∃ (B : Bk) (w : Wb) (a b : List Int), ds = [bkD B, wbD w, .tuple (a.map .int), .tuple (b.map .int)] ∧ Ctx B w a b ∧ B.r ≤ 3 ∧ W (encL (pairsW B w a b))
theorem ln_law_ahead {ds : List PyData} {W : PyData → Prop} (h : S_law_ahead ds W) : ds.length = 4 := by obtain ⟨_, _, _, _, e, _⟩ := h; rw [e]; rfl
theorem df_law_ahead (G_law_way : Df P w K mg base "_law_way" 1 S_law_way) (G_law_told : Df P w K mg base "_law_told" 11 S_law_told) (h_len : mg "len" = none) (h_range : mg "range" = none) (h_sorted : mg "sorted" = none) (Fn_law_ahead : Fn K mg "_law_ahead" "_law_ahead" 85) : Df P w K mg base "_law_ahead" 12 S_law_ahead := by
  refine mkfn Fn_law_ahead sc_law_ahead (fun kV doc pm an cdv ct us h => by rcases us with _ | ⟨x0, _ | ⟨x1, _ | ⟨x2, _ | ⟨x3, _ | ⟨x4, r4⟩⟩⟩⟩⟩ <;> first | rfl | (simp at h)) (by intro ds W h; exact ln_law_ahead h) fun f cdv A outer s H F E hr => ⟨_, (jbcons (jown (i := 4) sc_law_ahead.nd (jdnew ⟨rfl, rfl⟩))
    (jbcons (jfor (pr := false) PassesOwn.never rfl (jiR1 h_range (jccons (jc (jix (ja 1) (jc ji))) jcnil)) (jgn (i := 5) sc_law_ahead.nd) (jbcons (jset (i := 6) sc_law_ahead.nd (jcall G_law_way ⟨rfl, rfl⟩ (hr.mono (by decide)) (jcons (jix (ja 2) (ja 5)) (jcons (jix (ja 3) (ja 5)) jnil))))
    (jbone (jfor (pr := false) PassesOwn.never rfl (jiR1 h_range (jccons (jc (jsub (jc (jcallB b_len h_len (jccons (ja 6) jcnil))) (jc ji))) jcnil)) (jgn (i := 7) sc_law_ahead.nd) (jbone (jas (pr := false) jb (jgsubD ⟨rfl, rfl⟩ hr.u_d 4 (pv 4) (jtup (jcons (jtup (jcons (jz 5) (jcons (jix (ja 6) (ja 7)) jnil))) (jcons (jtup (jcons (jz 5) (jcons (jix (ja 6) (jc (jadd (ja 7) (jc ji)))) jnil))) jnil))))))))))
    (jbcons (jfor (pr := false) PassesOwn.never rfl (jiT (jix (ja 1) (jc ji))) (jgn (i := 8) sc_law_ahead.nd) (jbone (jfor (pr := false) PassesOwn.never rfl (jiL (jcall G_law_told ⟨rfl, rfl⟩ hr (jcons (jz 0) (jcons (jtup (jcons (jix (ja 2) (jc (jix (ja 8) (jc ji)))) (jcons (jix (ja 2) (jc (jix (ja 8) (jc ji)))) jnil))) (jcons (jtup (jcons (jix (ja 3) (jc (jix (ja 8) (jc ji)))) (jcons (jix (ja 3) (jc (jix (ja 8) (jc ji)))) jnil))) jnil))))) (jgtp rfl (jgcons (jgtp rfl (jgcons (jgn (i := 9) sc_law_ahead.nd) (jgcons (jgn (i := 7) sc_law_ahead.nd) jgnil))) (jgcons (jgtp rfl (jgcons (jgn (i := 10) sc_law_ahead.nd) (jgcons (jgn (i := 11) sc_law_ahead.nd) jgnil))) jgnil))) (jbone (jas (pr := false) jb (jgsubD ⟨rfl, rfl⟩ hr.u_d 4 (pv 4) (jtup (jcons (jtup (jcons (jix (ja 8) (ja 9)) (jcons (jz 7) jnil))) (jcons (jtup (jcons (jix (ja 8) (ja 10)) (jcons (jz 11) jnil))) jnil)))))))))
    (jbone (jret (je_f (jsortK rfl hr.u_s h_sorted (ja 4)))))))), ?_⟩
  intro ds W h
  obtain ⟨B, w, a, b, rfl, C, hr, h⟩ := h
  have n1 := C.V.n1
  have n0 := C.V.n0
  have hn := C.VA.len
  have hnb := C.VB.len
  have hw : ∀ k, 0 ≤ k → k < w.n → (wayI (getI a k) (getI b k)).length ≤ 3 ∧ (0 ≤ getI a k ∧ getI a k ≤ 3) ∧ 0 ≤ getI b k ∧ getI b k ≤ 3 := fun k k0 k1 => by
    have b1 := C.VA.at k0 k1
    have b2 := C.VB.at k0 k1
    rw [len_wayI]; omega
  have hsz1 : ∀ l : List Int, (∀ k ∈ l, 0 ≤ k ∧ k < w.n) → (l.foldl (ah1 a b) []).length ≤ 3 * l.length := fun l hl => by
    have := (aputFF (fun k : Int => rgI 0 (((wayI (getI a k) (getI b k)).length : Int) - 1)) (fun k j => ((k, getI (wayI (getI a k) (getI b k)) j), (k, getI (wayI (getI a k) (getI b k)) (j + 1)))) 3 l [] (fun k hk => by have := hl k hk; have := (hw k this.1 this.2).1; rw [len_rgI]; omega) (by simp)).2.2
    have h2 : (l.foldl (ah1 a b) []).length ≤ ([] : Wm).length + 3 * l.length := this
    rw [List.length_nil, Nat.zero_add] at h2
    exact h2
  have hfac := ahM_facts C hr
  walk_at "rd"
  refine ⟨by omega, loop_fold (rgI 0 w.n) (fun (m : Wm) (e : Slo × Slo × Slo) => [.fz (bkD B), .fz (wbD w), .fz (.tuple (a.map .int)), .fz (.tuple (b.map .int)), .ow (dc (encM .bool m)), e.1, e.2.1, e.2.2, .no, .no, .no, .no]) (ah1 a b) [] (.no, .no, .no) rfl ?_ ?_⟩
  · intro pre k post hl e
    have hk : 0 ≤ k ∧ k < w.n := mem_rgI.mp (by rw [hl]; exact List.mem_append_right _ (List.mem_cons_self ..))
    have hs := hsz1 pre (fun j hj => mem_rgI.mp (by rw [hl]; exact List.mem_append_left _ hj))
    have hpl := congrArg List.length hl
    rw [len_rgI, List.length_append, List.length_cons] at hpl
    generalize pre.foldl (ah1 a b) [] = m at hs
    obtain ⟨w1, w2, w3⟩ := hw k hk.1 hk.2
    have i1 := it_t a hk.1 (by omega)
    have i2 := it_t b (i := k) hk.1 (by omega)
    walk_at "rd"
    simp only [i1, i2, Option.some.injEq, exists_eq_left']
    rw [u_law_way (by omega)]
    walk_at "rd"
    generalize hW : wayI (getI a k) (getI b k) = Wy at w1
    refine ⟨by omega, loop_fold (rgI 0 ((Wy.length : Int) - 1)) (fun (m : Wm) (e : Slo) => [.fz (bkD B), .fz (wbD w), .fz (.tuple (a.map .int)), .fz (.tuple (b.map .int)), .ow (dc (encM .bool m)), .fz (.int k), .fz (encL Wy), e, .no, .no, .no, .no]) (ahC Wy k) m e.2.2 rfl ?_ ?_⟩
    · intro pre2 j post2 hl2 e2
      have hj : 0 ≤ j ∧ j < (Wy.length : Int) - 1 := mem_rgI.mp (by rw [hl2]; exact List.mem_append_right _ (List.mem_cons_self ..))
      have hpl2 := congrArg List.length hl2
      rw [len_rgI, List.length_append, List.length_cons] at hpl2
      have hs2 : (pre2.foldl (ahC Wy k) m).length ≤ m.length + pre2.length := by
        have key : ∀ (l : List Int) (m : Wm), (l.foldl (ahC Wy k) m).length ≤ m.length + l.length := by
          intro l
          induction l with
          | nil => intro m; simp
          | cons x l ih =>
            intro m
            have h1 := ih (ahC Wy k m x)
            have h2 : (ahC Wy k m x).length ≤ m.length + 1 := aput_len _ _ _
            rw [List.foldl_cons, List.length_cons]; omega
        exact key pre2 m
      generalize pre2.foldl (ahC Wy k) m = m2 at hs2
      have j1 := it_I Wy hj.1 (by omega)
      have j2 := it_I Wy (i := j + 1) (by omega) (by omega)
      walk_at "rd"
      simp only [j1, j2, Option.some.injEq, exists_eq_left', put_ww, kOk_ww, true_and]
      exact ⟨by omega, rfl⟩
    · intro e2
      have ha : ah1 a b m k = (rgI 0 ((Wy.length : Int) - 1)).foldl (ahC Wy k) m := by unfold ah1; rw [hW]
      rw [ha]
      exact ⟨rfl, _, _, _, rfl⟩
  · intro e
    have hs := hsz1 (rgI 0 w.n) (fun j hj => mem_rgI.mp hj)
    rw [len_rgI] at hs
    walk_at "rd"
    refine loop_fold w.es (fun (m : Wm) (e : Slo × Slo × Slo × Slo × Slo × Slo × Slo) => [.fz (bkD B), .fz (wbD w), .fz (.tuple (a.map .int)), .fz (.tuple (b.map .int)), .ow (dc (encM .bool m)), e.1, e.2.1, e.2.2.1, e.2.2.2.1, e.2.2.2.2.1, e.2.2.2.2.2.1, e.2.2.2.2.2.2]) (ah2 B a b) ((rgI 0 w.n).foldl (ah1 a b) []) (e.1, e.2.1, e.2.2, .no, .no, .no, .no) rfl ?_ ?_
    · rintro pre ed post hl e2
      have he : ed ∈ w.es := by rw [hl]; exact List.mem_append_right _ (List.mem_cons_self ..)
      have hee := C.V.ed ed he
      have hpl := congrArg List.length hl
      rw [List.length_append, List.length_cons] at hpl
      have hel := C.V.len
      have hs2 : (pre.foldl (ah2 B a b) ((rgI 0 w.n).foldl (ah1 a b) [])).length ≤ 24 + 80 * pre.length := by
        have h0 := (aputFF (fun k : Int => rgI 0 (((wayI (getI a k) (getI b k)).length : Int) - 1)) (fun k j => ((k, getI (wayI (getI a k) (getI b k)) j), (k, getI (wayI (getI a k) (getI b k)) (j + 1)))) 3 (rgI 0 w.n) [] (fun k hk => by have := mem_rgI.mp hk; have := (hw k this.1 this.2).1; rw [len_rgI]; omega) (by simp)).1
        have h1 := (aputFF (fun e : Int × Int => toldP B (pr2 a e) (pr2 b e)) (fun e t => pwE e t) 80 pre _ (fun e he => told_len (C.ne (by rw [hl]; exact List.mem_append_left _ he)) (C.VA.box C.V (by rw [hl]; exact List.mem_append_left _ he)) (C.VB.box C.V (by rw [hl]; exact List.mem_append_left _ he)) (by omega)) h0).2.2
        have h2 : (pre.foldl (ah2 B a b) ((rgI 0 w.n).foldl (ah1 a b) [])).length ≤ ((rgI 0 w.n).foldl (ah1 a b) []).length + 80 * pre.length := h1
        omega
      generalize pre.foldl (ah2 B a b) ((rgI 0 w.n).foldl (ah1 a b) []) = m at hs2
      have i1 := it_t a (i := ed.1) (by omega) (by omega)
      have i2 := it_t a (i := ed.2) (by omega) (by omega)
      have i3 := it_t b (i := ed.1) (by omega) (by omega)
      have i4 := it_t b (i := ed.2) (by omega) (by omega)
      have htl := told_len (C.ne he) (C.VA.box C.V he) (C.VB.box C.V he) (by omega)
      walk_at "rd"
      simp only [i1, i2, i3, i4, Option.some.injEq, exists_eq_left']
      refine u_law_told (C.VA.box C.V he) (C.VB.box C.V he) (by omega) (C.ne he) ?_
      refine ⟨(toldP B (pr2 a ed) (pr2 b ed)).map enc, rfl, ?_⟩
      refine loop_fold (toldP B (pr2 a ed) (pr2 b ed)) (fun (m : Wm) (e : Slo × Slo × Slo × Slo × Slo × Slo) => [.fz (bkD B), .fz (wbD w), .fz (.tuple (a.map .int)), .fz (.tuple (b.map .int)), .ow (dc (encM .bool m)), e.1, e.2.1, e.2.2.1, .fz (.tuple [.int ed.1, .int ed.2]), e.2.2.2.1, e.2.2.2.2.1, e.2.2.2.2.2]) (ahT ed) m (e2.1, e2.2.1, e2.2.2.1, e2.2.2.2.2.1, e2.2.2.2.2.2.1, e2.2.2.2.2.2.2) rfl ?_ ?_
      · rintro pre2 ⟨⟨k1, x1⟩, ⟨k2, x2⟩⟩ post2 hl2 e3
        have hpl2 := congrArg List.length hl2
        rw [List.length_append, List.length_cons] at hpl2
        have hs3 : (pre2.foldl (ahT ed) m).length ≤ m.length + pre2.length := by
          have key : ∀ (l : List (Ev × Ev)) (m : Wm), (l.foldl (ahT ed) m).length ≤ m.length + l.length := by
            intro l
            induction l with
            | nil => intro m; simp
            | cons x l ih =>
              intro m
              have h1 := ih (ahT ed m x)
              have h2 : (ahT ed m x).length ≤ m.length + 1 := aput_len _ _ _
              rw [List.foldl_cons, List.length_cons]; omega
          exact key pre2 m
        generalize pre2.foldl (ahT ed) m = m2 at hs3
        walk_at "rd"
        simp only [put_ww, kOk_ww, true_and]
        exact ⟨by omega, rfl⟩
      · intro e3
        exact ⟨rfl, _, _, _, _, _, _, _, rfl⟩
    · intro e2
      have hM : w.es.foldl (ah2 B a b) ((rgI 0 w.n).foldl (ah1 a b) []) = ahM B w a b := rfl
      rw [hM]
      have hso := sortOk_E ((ahM B w a b).map (·.1)) (by rw [List.length_map]; omega)
      have e1 := sortD_E ((ahM B w a b).map (·.1))
      have e2 : sortE ((ahM B w a b).map (·.1)) = pairsW B w a b := sortE_congr hfac.1 (pwRaw_nodup C) hfac.2.1
      rw [e2] at e1
      walk_at "rd"
      rw [encM_keys]
      exact ⟨hso, by rw [e1]; exact h⟩

end
end HB

set_option Elab.async false
set_option linter.all false
set_option maxRecDepth 100000
set_option maxHeartbeats 4000000
set_option autoImplicit false
namespace HB
open PySem PySem.Spec L2
open En (enc)
section
variable {P : Program} {w : World} {K : PySem.W.Frag} {mg : Str → Option Value} {base : Heap}
local macro_rules | `(tactic| walk_at "rd") => `(tactic| simp [-List.any_eq_true, -List.any_eq_false, sSeq, sIf, sRt, sNx, sAs, sOw, sFz, sDo, sNo, sApp, gNm, gTp_t, gC_c, gN_n, xB, xZ, xA, xK, getZ, getA, fzz, x2, xAnd, xOr, xNot, xAndV, xOrV, xNotV, xIf, xChain, xFn, xTup, xLst, xNil, xCons, xCatL, xCatT, xSlL, xSlT, xNoP, xSoP, xThenL, xTupOf, xRngL, xSort, xSortSet, xSortK, xSumV, xDget, xDictOf, xTIndex, xTupF, xCatF, xRevT, xRngL3, xRngT, xRow, gRow, xLen0, xCell, xCallR, xIsi, xIsi2, xCall, xDnew, xDone, xGetD, xInD, xYes, sFor, iL, iT, iR1, iR2, iR3, iEnT, iEnL, iKs, iLn, xLc, kOk_p, any_p, dlk_p, put_p, dne0_p, deq0_p, dne0_i, dne0_w, deq0_w, encM_len, sMix, xMo, xMf, xMn, setS, gSbD, gSb, cut_take, cut_drop, ex2_eq, kOk_kk, put_kk, kOk_k3, dlk_k3, put_k3, itw0, itw1, wb_nt, wb_tu, wb_len, kOk_h, dlk_h, put_h, getD_h, sAugM, rngD_0, wip, dseq_t, dseq_l, deq_il, rngD_rg, dnD_dn, disN_n, dnotN_n, isNo, start', startR, rwAt, rwSet, dint, itb0, itb1, itb2, bk_nt, bk_tu, bk_len, encL_list, list_encL, len_L, len_l, len_t, it2_0, it2_1, it3_0, it3_1, it3_2, il2_0, il2_1, il1_0, it2_v, it2_n, icmp_i, isub_i, iadd_i, din_i, din_iL, deq_i, dne_i, deq_b, dne_b, nd_i, nd_b, nd_s, nd_n, nd_l, nd_t, ik_ii, ik_ib, ik_tt, small, dabs, dmax2, sum_L, enc_i, enc_b, enc_k, enc_p, enc_3, enc_l])
/-- tuples of whole numbers, so many levels -/
def shape : Nat → PyData → Prop
  | 0, _ => False
  | n + 1, d => (∃ i : Int, d = .int i) ∨ ∃ l : List PyData, d = .tuple l ∧ l.length < 100000 ∧ ∀ x ∈ l, shape n x
def SS_law_alike : Nat → SpT
  | 0 => fun _ _ => False
  | n + 1 => fun ds W => ∃ d, ds = [d, d] ∧ shape (n + 1) d ∧ W (.bool true)
abbrev S_law_alike : SpT := SS_law_alike 6
theorem ln_law_alike {n : Nat} {ds : List PyData} {W : PyData → Prop} (h : SS_law_alike (n + 1) ds W) : ds.length = 2 := by obtain ⟨_, e, _⟩ := h; rw [e]; rfl
theorem dfr_law_alike (h_bool : mg "bool" = none) (h_int : mg "int" = none) (h_isinstance : mg "isinstance" = none) (h_len : mg "len" = none) (h_list : mg "list" = none) (h_range : mg "range" = none) (h_str : mg "str" = none) (h_tuple : mg "tuple" = none) (Fn_law_alike : Fn K mg "_law_alike" "_law_alike" 86) : ∀ n : Nat, Df P w K mg base "_law_alike" (n + 1) (SS_law_alike n) := by
  intro n
  induction n with
  | zero => exact mkfn Fn_law_alike sc_law_alike (fun kV doc pm an cdv ct us h => by rcases us with _ | ⟨x0, _ | ⟨x1, _ | ⟨x2, r2⟩⟩⟩ <;> first | rfl | (simp at h)) (by intro ds W h; exact h.elim) fun f cdv A outer s H F E hr => ⟨fun _ _ _ => False, ⟨fun _ _ _ _ _ _ h => by obtain ⟨_, _, _, _, _, h, _⟩ := h; exact h.elim⟩, fun ds W h => h.elim⟩
  | succ n ih =>
    have G_law_alike := ih
    refine mkfn Fn_law_alike sc_law_alike (fun kV doc pm an cdv ct us h => by rcases us with _ | ⟨x0, _ | ⟨x1, _ | ⟨x2, r2⟩⟩⟩ <;> first | rfl | (simp at h)) (by intro ds W h; exact ln_law_alike h) fun f cdv A outer s H F E hr => ⟨_, (jbcons (jifs (jt (jc (jisi2 .tuple .list h_isinstance h_tuple h_list (ja 1)))) (jbcons (jifs (jw (jw_or (jnot (jt (jc (jisi2 .tuple .list h_isinstance h_tuple h_list (ja 0))))) (jw_or1 (jcmpT (o_ne hr.units) (jc (jisi .list h_isinstance h_list (ja 0))) (jc (jisi .list h_isinstance h_list (ja 1))))))) (jbone (jret jb)) jbnil)
    (jbcons (jifs (jcmpT (o_ne hr.units) (jc (jcallB b_len h_len (jccons (ja 0) jcnil))) (jc (jcallB b_len h_len (jccons (ja 1) jcnil)))) (jbone (jret jb)) jbnil)
    (jbone (jret (jcmp (o_eq hr.units) (jc_f (jlc [("_law_k", 2)] rfl sc_law_alike.nd (jiR1 h_range (jccons (jc (jcallB b_len h_len (jccons (ja 1) jcnil))) jcnil)) (blkOk_by (N := N_law_alike) (sc := defScope (top 86)) (own := [("_law_k", 2)]) (by decide +kernel)) (fun _ _ _ _ _ => (jgn (i := 2) sc_law_alike.nd)) (fun _ _ _ _ _ => (jtone (jnot (jt (jc (jcall G_law_alike ⟨rfl, rfl⟩ (hr.mono (by omega)) (jcons (jix (ja 0) (ja 2)) (jcons (jix (ja 1) (ja 2)) jnil)))))))) (fun _ _ _ _ _ => (jz 2)))) (jc_f (jlst jnil))))))) jbnil)
    (jbcons (jifs (jw (jw_or (jcmpT o_isN (ja 1) (jc jn)) (jw_or1 (jt (jc (jisi .str h_isinstance h_str (ja 1))))))) (jbone (jret (jandV (jc (jcmp (o_eq hr.units) (ja 0) (ja 1))) (jone (jcmp (o_eq hr.units) (jc (jisi .str h_isinstance h_str (ja 0))) (jc (jisi .str h_isinstance h_str (ja 1)))))))) jbnil)
    (jbone (jret (jandV (jc (jisi .int h_isinstance h_int (ja 0))) (jandV (jc (jcmp (o_eq hr.units) (jc (jisi .bool h_isinstance h_bool (ja 0))) (jc (jisi .bool h_isinstance h_bool (ja 1))))) (jone (jcmp (o_eq hr.units) (ja 0) (ja 1))))))))), ?_⟩
    intro ds W h
    obtain ⟨d, rfl, hs, h⟩ := h
    walk_at "rd"
    rcases hs with ⟨i, rfl⟩ | ⟨l, rfl, hl, hx⟩
    · refine ⟨rfl, fun z => ?_, fun _ _ => .inl ⟨rfl, rfl, fun z => ?_, fun _ => ⟨rfl, fun z => ?_, fun _ => ⟨rfl, ?_⟩⟩⟩⟩
      · rcases z with z | z <;> cases z
      · cases z
      · cases z
      · exact ⟨_, deq_i i i, by rw [decide_eq_true rfl]; exact h⟩
    · refine ⟨rfl, fun _ => ⟨rfl, fun z => (by cases z), fun _ => ⟨rfl, ?_⟩⟩, fun z => (by cases z)⟩
      walk_at "rd"
      refine ⟨by omega, ?_⟩
      refine lc_ofE (rgI 0 (l.length : Int)) (fun _ => false) (fun k => k) (by rw [len_rgI]; omega) (fun k hk K1 K0 k1 k0 => ?_) ?_
      · have hkb := mem_rgI.mp hk
        walk_at "rd"
        have hkl : k.toNat < l.length := by omega
        have it : ditem (.tuple l) (.int k) = some l[k.toNat] := by rw [it_T _ hkb.1, List.getElem?_eq_getElem hkl]
        simp only [it, Option.some.injEq, exists_eq_left']
        have hs := hx l[k.toNat] (List.getElem_mem _)
        cases n with
        | zero => exact hs.elim
        | succ n => exact ⟨l[k.toNat], rfl, hs, .inr ⟨rfl, k0 rfl⟩⟩
      · refine ⟨_, deq0 (α := Int) (by decide) _, ?_⟩
        have e0 : ((rgI 0 (l.length : Int)).filter fun _ => false) = [] := by simp
        rw [e0]; exact h
theorem df_law_alike (h_bool : mg "bool" = none) (h_int : mg "int" = none) (h_isinstance : mg "isinstance" = none) (h_len : mg "len" = none) (h_list : mg "list" = none) (h_range : mg "range" = none) (h_str : mg "str" = none) (h_tuple : mg "tuple" = none) (Fn_law_alike : Fn K mg "_law_alike" "_law_alike" 86) : Df P w K mg base "_law_alike" 7 S_law_alike := dfr_law_alike h_bool h_int h_isinstance h_len h_list h_range h_str h_tuple Fn_law_alike 6

def SwJ (B : Bk) (w : Wb) (a b : List Int) (pre : List Int) (rows : List (List Ew × List Int)) : Prop := rows = sw B w a b pre.length ∧ ∀ m, m ≤ pre.length → (sw B w a b m).length ≤ 300
theorem swRow_len {B : Bk} {w : Wb} {b : List Int} {x : List Ew × List Int} (V : VWeb w) : (swRow B w b x).length ≤ 16 := by
  unfold swRow
  rw [List.length_map]
  exact Nat.le_trans (List.length_filter_le _ _) (afW_len V)
theorem flat_len {α β : Type} {f : α → List β} {N : Nat} : ∀ (l : List α), (∀ x ∈ l, (f x).length ≤ N) → (l.flatMap f).length ≤ N * l.length
  | [], _ => by simp
  | x :: l, h => by
    have := flat_len l fun y hy => h y (List.mem_cons_of_mem _ hy)
    have := h x (List.mem_cons_self ..)
    rw [List.flatMap_cons, List.length_append, List.length_cons, Nat.mul_add, Nat.mul_one]; omega
def swStep1 (x : List Ew × List Int) (b : List Int) (f : List (List Ew × List Int)) (y : Dw × List Int) : List (List Ew × List Int) := if sumH y.2 b < sumH x.2 b then f ++ [(x.1 ++ [(y.1.2, getI x.2 y.1.2)], y.2)] else f
theorem swStep1_fold (x : List Ew × List Int) (b : List Int) : ∀ (l : List (Dw × List Int)) (f : List (List Ew × List Int)), l.foldl (swStep1 x b) f = f ++ (l.filter fun y => decide (sumH y.2 b < sumH x.2 b)).map fun y => (x.1 ++ [(y.1.2, getI x.2 y.1.2)], y.2)
  | [], f => by simp
  | y :: l, f => by
    rw [List.foldl_cons, swStep1_fold x b l, swStep1, List.filter_cons]
    by_cases h : sumH y.2 b < sumH x.2 b
    · rw [if_pos h, if_pos (decide_eq_true h)]; simp
    · rw [if_neg h, if_neg (by simpa using h)]
def S_law_straight_words : SpT := fun ds W => ∃ (B : Bk) (w : Wb) (a b : List Int), ds = [bkD B, wbD w, .tuple (a.map .int), .tuple (b.map .int), .int 300] ∧ VWeb w ∧ VHts B w a ∧ VHts B w b ∧ B.r ≤ 3 ∧ w.n ≤ 5 ∧ sumH a b ≤ 6 ∧ ((∃ n : Nat, (n : Int) ≤ sumH a b ∧ 300 < (sw B w a b n).length) → W .none) ∧ ((∀ n : Nat, (n : Int) ≤ sumH a b → (sw B w a b n).length ≤ 300) → W (encL ((sw B w a b (sumH a b).toNat).map (·.1))))
theorem ln_law_straight_words {ds : List PyData} {W : PyData → Prop} (h : S_law_straight_words ds W) : ds.length = 5 := by obtain ⟨_, _, _, _, e, _⟩ := h; rw [e]; rfl
theorem df_law_straight_words (G_law_off : Df P w K mg base "_law_off" 1 S_law_off) (G_law_after : Df P w K mg base "_law_after" 2 S_law_after) (h_len : mg "len" = none) (h_range : mg "range" = none) (Fn_law_straight_words : Fn K mg "_law_straight_words" "_law_straight_words" 87) : Df P w K mg base "_law_straight_words" 3 S_law_straight_words := by
  refine mkfn Fn_law_straight_words sc_law_straight_words (fun kV doc pm an cdv ct us h => by rcases us with _ | ⟨x0, _ | ⟨x1, _ | ⟨x2, _ | ⟨x3, _ | ⟨x4, _ | ⟨x5, r5⟩⟩⟩⟩⟩⟩ <;> first | rfl | (simp at h)) (by intro ds W h; exact ln_law_straight_words h) fun f cdv A outer s H F E hr => ⟨_, (jbcons (jset (i := 5) sc_law_straight_words.nd (je_f (jlst (jcons (jtup (jcons (jtup jnil) (jcons (jz 2) jnil))) jnil))))
    (jbcons (jfor (pr := false) PassesOwn.never rfl (jiR1 h_range (jccons (jc (jcall G_law_off ⟨rfl, rfl⟩ (hr.mono (by decide)) (jcons (jz 2) (jcons (jz 3) jnil)))) jcnil)) (jgn (i := 6) sc_law_straight_words.nd) (jbcons (jown (i := 7) sc_law_straight_words.nd (jlst jnil))
    (jbcons (jfor (pr := false) PassesOwn.never rfl (jiL (jz 5)) (jgtp rfl (jgcons (jgn (i := 8) sc_law_straight_words.nd) (jgcons (jgn (i := 9) sc_law_straight_words.nd) jgnil))) (jbone (jfor (pr := false) PassesOwn.never rfl (jiL (jcall G_law_after ⟨rfl, rfl⟩ hr (jcons (jz 0) (jcons (jz 1) (jcons (jz 9) jnil))))) (jgtp rfl (jgcons (jgtp rfl (jgcons (jgn (i := 10) sc_law_straight_words.nd) (jgcons (jgn (i := 11) sc_law_straight_words.nd) jgnil))) (jgcons (jgn (i := 12) sc_law_straight_words.nd) jgnil))) (jbone (jifs (jcmpT o_lt (jc (jcall G_law_off ⟨rfl, rfl⟩ (hr.mono (by decide)) (jcons (jz 12) (jcons (jz 3) jnil)))) (jc (jcall G_law_off ⟨rfl, rfl⟩ (hr.mono (by decide)) (jcons (jz 9) (jcons (jz 3) jnil))))) (jbone (japp 7 (pv 7) (jtup (jcons (jcatT (jz 8) (jtup (jcons (jtup (jcons (jz 11) (jcons (jix (ja 9) (ja 11)) jnil))) jnil))) (jcons (jz 12) jnil))))) jbnil)))))
    (jbcons (jfz 7 (jset (i := 5) sc_law_straight_words.nd (jz 7)))
    (jbone (jifs (jcmpT o_gt (jc (jcallB b_len h_len (jccons (ja 5) jcnil))) (ja 4)) (jbone (jret jn)) jbnil))))))
    (jbone (jret (je_f (jlc [("_law_line", 8), ("_law_here", 9)] rfl sc_law_straight_words.nd (jiL (jz 5)) (blkOk_by (N := N_law_straight_words) (sc := defScope (top 87)) (own := [("_law_line", 8), ("_law_here", 9)]) (by decide +kernel)) (fun _ _ _ _ _ => (jgtp rfl (jgcons (jgn (i := 8) sc_law_straight_words.nd) (jgcons (jgn (i := 9) sc_law_straight_words.nd) jgnil)))) (fun _ _ _ _ _ => jtnil) (fun _ _ _ _ _ => (jz 8)))))))), ?_⟩
  intro ds W h
  obtain ⟨B, w, a, b, rfl, V, VA, VB, hr, hn5, h6, hN, h⟩ := h
  have hna := VA.len
  have hnb := VB.len
  have hnn := sumH_nn a b
  walk_at "rd"
  refine u_law_off (by omega) (by omega) ?_
  walk_at "rd"
  refine ⟨by omega, loop_rel (rgI 0 (sumH a b)) (fun (rows : List (List Ew × List Int)) (e : Slo × Slo × Slo × Slo × Slo × Slo × Slo) => [.fz (bkD B), .fz (wbD w), .fz (.tuple (a.map .int)), .fz (.tuple (b.map .int)), .fz (.int 300), .fz (encL rows), e.1, e.2.1, e.2.2.1, e.2.2.2.1, e.2.2.2.2.1, e.2.2.2.2.2.1, e.2.2.2.2.2.2]) (SwJ B w a b) [([], a)] (.no, .no, .no, .no, .no, .no, .no) rfl ⟨rfl, fun m hm => ?_⟩ ?_ ?_⟩
  · have : m = 0 := by simpa using hm
    subst this; simp [sw]
  · rintro pre i post hl rows e ⟨rfl, hJ⟩
    have hpl := congrArg List.length hl
    rw [len_rgI, List.length_append, List.length_cons] at hpl
    have h300 := hJ pre.length (Nat.le_refl _)
    have hmem : ∀ x ∈ sw B w a b pre.length, VHts B w x.2 ∧ x.1.length = pre.length := fun x hx => by
      have := (mem_sw VA _ x).mp hx
      exact ⟨this.1.vh VA, this.2⟩
    have hnext : sw B w a b (pre.length + 1) = (sw B w a b pre.length).flatMap (swRow B w b) := rfl
    have hnl : (sw B w a b (pre.length + 1)).length ≤ 16 * 300 := by
      rw [hnext]
      have := flat_len (N := 16) (f := swRow B w b) (sw B w a b pre.length) fun x _ => swRow_len V
      omega
    generalize hrows : sw B w a b pre.length = rows at h300 hmem hnext
    walk_at "rd"
    refine loop_fold rows (fun (f : List (List Ew × List Int)) (e : Slo × Slo × Slo × Slo × Slo) => [.fz (bkD B), .fz (wbD w), .fz (.tuple (a.map .int)), .fz (.tuple (b.map .int)), .fz (.int 300), .fz (encL rows), .fz (.int i), .ow (encL f), e.1, e.2.1, e.2.2.1, e.2.2.2.1, e.2.2.2.2]) (fun f x => f ++ swRow B w b x) [] (e.2.2.1, e.2.2.2.1, e.2.2.2.2.1, e.2.2.2.2.2.1, e.2.2.2.2.2.2) rfl ?_ ?_
    · rintro pre2 ⟨line, here⟩ post2 hl2 e2
      obtain ⟨VH, hll⟩ := hmem (line, here) (by rw [hl2]; exact List.mem_append_right _ (List.mem_cons_self ..))
      simp only at VH hll
      have hnh := VH.len
      have hpl2 := congrArg List.length hl2
      rw [List.length_append, List.length_cons] at hpl2
      rw [fold_app, List.nil_append]
      have hfl := flat_len (N := 16) (f := swRow B w b) pre2 fun x _ => swRow_len V
      generalize pre2.flatMap (swRow B w b) = f at hfl
      walk_at "rd"
      refine ⟨B, w, here, rfl, V, VH, ?_⟩
      have hal := afW_len (B := B) (h := here) V
      refine ⟨(afW B w here).map enc, rfl, ?_⟩
      refine loop_fold (afW B w here) (fun (f : List (List Ew × List Int)) (e : Slo × Slo × Slo) => [.fz (bkD B), .fz (wbD w), .fz (.tuple (a.map .int)), .fz (.tuple (b.map .int)), .fz (.int 300), .fz (encL rows), .fz (.int i), .ow (encL f), .fz (.tuple (line.map enc)), .fz (.tuple (here.map .int)), e.1, e.2.1, e.2.2]) (swStep1 (line, here) b) f (e2.2.2.1, e2.2.2.2.1, e2.2.2.2.2) rfl ?_ ?_
      · rintro pre3 ⟨⟨u, k⟩, there⟩ post3 hl3 e3
        have hy : ((u, k), there) ∈ afW B w here := by rw [hl3]; exact List.mem_append_right _ (List.mem_cons_self ..)
        obtain ⟨hd, hth⟩ := afW_mem hy
        simp only at hd hth
        obtain ⟨⟨k0, k1⟩, hc⟩ := mem_deedsW.mp hd
        have VT : VHts B w there := by rw [hth]; exact chg_ok VH k0 k1 hc
        have hnt := VT.len
        have hpl3 := congrArg List.length hl3
        rw [List.length_append, List.length_cons] at hpl3
        rw [swStep1_fold]
        have hf3 := List.length_filter_le (fun y : Dw × List Int => decide (sumH y.2 b < sumH (line, here).2 b)) pre3
        have hfl2 : (f ++ (pre3.filter fun y => decide (sumH y.2 b < sumH (line, here).2 b)).map fun y => ((line, here).1 ++ [(y.1.2, getI (line, here).2 y.1.2)], y.2)).length ≤ 16 * pre2.length + 16 := by
          rw [List.length_append, List.length_map]; omega
        generalize (f ++ (pre3.filter fun y => decide (sumH y.2 b < sumH (line, here).2 b)).map fun y => ((line, here).1 ++ [(y.1.2, getI (line, here).2 y.1.2)], y.2)) = f3 at hfl2
        simp only at k0 k1
        have i1 := it_t here (i := k) k0 (by omega)
        walk_at "rd"
        refine u_law_off (by omega) (by omega) ?_
        refine u_law_off (by omega) (by omega) ?_
        refine ⟨_, icmp_i _ _ _, ?_⟩
        unfold swStep1
        simp only
        by_cases hlt : sumH there b < sumH here b
        · rw [if_pos hlt]
          refine .inr ⟨congrArg PyData.bool (decide_eq_true hlt), _, i1, by omega, by omega, ?_⟩
          rw [List.map_append]
          simp only [List.map_cons, List.map_nil, enc_p, enc_l, List.map_append, enc_i]
        · rw [if_neg hlt]
          exact .inl ⟨congrArg PyData.bool (decide_eq_false hlt), rfl⟩
      · intro e3
        rw [swStep1_fold]
        exact ⟨rfl, _, _, _, _, _, rfl⟩
    · intro e2
      rw [fold_app, List.nil_append, ← hnext]
      walk_at "rd"
      by_cases hgt : 300 < (sw B w a b (pre.length + 1)).length
      · exact .inr ⟨by omega, hN ⟨pre.length + 1, by omega, hgt⟩⟩
      · refine .inl ⟨by omega, _, rfl, ?_, fun m hm => ?_⟩
        · rw [List.length_append]; rfl
        · rw [List.length_append, List.length_cons, List.length_nil] at hm
          by_cases e : m = pre.length + 1
          · subst e; omega
          · exact hJ m (by omega)
  · rintro rows e ⟨rfl, hJ⟩
    rw [len_rgI] at hJ ⊢
    rw [Int.sub_zero] at hJ ⊢
    have h300 := hJ (sumH a b).toNat (Nat.le_refl _)
    have hfin := h fun n hn => hJ n (by omega)
    generalize sw B w a b (sumH a b).toNat = rows at h300 hfin
    walk_at "rd"
    refine lc_allE rows (fun x => x.1) (by omega) (fun x hx K1 k1 => ?_) ?_
    · walk_at "rd"
      exact k1
    · exact hfin

def S_law_orders_of : SpT := fun ds W => ∃ (S : List Ew) (P : List (Ew × Ew)), ds = [encL S, encL P, .int 300] ∧ S.length ≤ 20 ∧ P.length ≤ 10000 ∧ (∀ n, n ≤ S.length → (oo S P n).length ≤ 300) ∧ W (encL (oo S P S.length))
theorem ln_law_orders_of {ds : List PyData} {W : PyData → Prop} (h : S_law_orders_of ds W) : ds.length = 3 := by obtain ⟨_, _, e, _⟩ := h; rw [e]; rfl
def ooCond (P : List (Ew × Ew)) (l : List Ew) (d : Ew) : Bool := !decide (d ∈ l) && (P.filter fun p => decide (p.2 = d) && !decide (p.1 ∈ l)).isEmpty
def ooStep (P : List (Ew × Ew)) (l : List Ew) (f : List (List Ew)) (d : Ew) : List (List Ew) := if ooCond P l d = true then f ++ [l ++ [d]] else f
theorem ooStep_fold (P : List (Ew × Ew)) (l : List Ew) : ∀ (S : List Ew) (f : List (List Ew)), S.foldl (ooStep P l) f = f ++ ooRow S P l
  | [], f => by simp [ooRow]
  | d :: S, f => by
    rw [List.foldl_cons, ooStep_fold P l S, ooStep]
    unfold ooRow
    rw [List.filter_cons]
    have e : (!decide (d ∈ l) && (P.filter fun p => decide (p.2 = d) && !decide (p.1 ∈ l)).isEmpty) = ooCond P l d := rfl
    rw [e]
    split <;> simp
theorem ooRow_len (S : List Ew) (P : List (Ew × Ew)) (l : List Ew) : (ooRow S P l).length ≤ S.length := by
  unfold ooRow; rw [List.length_map]; exact List.length_filter_le _ _
theorem df_law_orders_of (h_len : mg "len" = none) (h_range : mg "range" = none) (Fn_law_orders_of : Fn K mg "_law_orders_of" "_law_orders_of" 88) : Df P w K mg base "_law_orders_of" 1 S_law_orders_of := by
  refine mkfn Fn_law_orders_of sc_law_orders_of (fun kV doc pm an cdv ct us h => by rcases us with _ | ⟨x0, _ | ⟨x1, _ | ⟨x2, _ | ⟨x3, r3⟩⟩⟩⟩ <;> first | rfl | (simp at h)) (by intro ds W h; exact ln_law_orders_of h) fun f cdv A outer s H F E hr => ⟨_, (jbcons (jset (i := 3) sc_law_orders_of.nd (je_f (jlst (jcons (jtup jnil) jnil))))
    (jbcons (jfor (pr := false) PassesOwn.never rfl (jiR1 h_range (jccons (jc (jcallB b_len h_len (jccons (ja 0) jcnil))) jcnil)) (jgn (i := 4) sc_law_orders_of.nd) (jbcons (jown (i := 5) sc_law_orders_of.nd (jlst jnil))
    (jbcons (jfor (pr := false) PassesOwn.never rfl (jiL (jz 3)) (jgn (i := 6) sc_law_orders_of.nd) (jbone (jfor (pr := false) PassesOwn.never rfl (jiL (jz 0)) (jgn (i := 7) sc_law_orders_of.nd) (jbone (jifs (jw (jw_and (jcmpT (o_notin hr.u65) (ja 7) (ja 6)) (jw_and1 (jcmpT (o_eq hr.units) (jc_f (jlc [("_law_first", 8), ("_law_second", 9)] rfl sc_law_orders_of.nd (jiL (jz 1)) (blkOk_by (N := N_law_orders_of) (sc := defScope (top 88)) (own := [("_law_first", 8), ("_law_second", 9)]) (by decide +kernel)) (fun _ _ _ _ _ => (jgtp rfl (jgcons (jgn (i := 8) sc_law_orders_of.nd) (jgcons (jgn (i := 9) sc_law_orders_of.nd) jgnil)))) (fun _ _ _ _ _ => (jtone (jw (jw_and (jcmpT (o_eq hr.units) (ja 9) (ja 7)) (jw_and1 (jcmpT (o_notin hr.u65) (ja 8) (ja 6))))))) (fun _ _ _ _ _ => (jz 8)))) (jc_f (jlst jnil)))))) (jbone (japp 5 (pv 5) (jcatT (jz 6) (jtup (jcons (jz 7) jnil))))) jbnil)))))
    (jbcons (jfz 5 (jset (i := 3) sc_law_orders_of.nd (jz 5)))
    (jbone (jifs (jcmpT o_gt (jc (jcallB b_len h_len (jccons (ja 3) jcnil))) (ja 2)) (jbone (jret jn)) jbnil))))))
    (jbone (jret (jz 3))))), ?_⟩
  intro ds W h
  obtain ⟨S, P, rfl, hS, hP, hfew, h⟩ := h
  walk_at "rd"
  refine ⟨by omega, loop_fold (rgI 0 (S.length : Int)) (fun (rows : List (List Ew)) (e : Slo × Slo × Slo × Slo) => [.fz (encL S), .fz (encL P), .fz (.int 300), .fz (encL rows), e.1, e.2.1, e.2.2.1, e.2.2.2, .no, .no]) (fun rows _ => rows.flatMap (ooRow S P)) [[]] (.no, .no, .no, .no) rfl ?_ ?_⟩
  · intro pre i post hl e
    have hpl := congrArg List.length hl
    rw [len_rgI, List.length_append, List.length_cons] at hpl
    have hoo : ∀ (l : List Int) (n : Nat), l.foldl (fun rows _ => rows.flatMap (ooRow S P)) (oo S P n) = oo S P (n + l.length) := by
      intro l
      induction l with
      | nil => intro n; rfl
      | cons x l ih =>
        intro n
        have := ih (n + 1)
        rw [List.foldl_cons, List.length_cons, show n + (l.length + 1) = n + 1 + l.length by omega]
        exact this
    have e0 : pre.foldl (fun rows _ => rows.flatMap (ooRow S P)) [[]] = oo S P pre.length := by
      have := hoo pre 0
      rw [Nat.zero_add] at this; exact this
    rw [e0]
    have h300 := hfew pre.length (by omega)
    have h301 := hfew (pre.length + 1) (by omega)
    have hnext : oo S P (pre.length + 1) = (oo S P pre.length).flatMap (ooRow S P) := rfl
    have hmem : ∀ l ∈ oo S P pre.length, l.length = pre.length := fun l hl => ((mem_oo _ l).mp hl).2
    rw [← hnext]
    generalize hrows : oo S P pre.length = rows at h300 hnext hmem
    walk_at "rd"
    refine loop_fold rows (fun (f : List (List Ew)) (e : Slo × Slo) => [.fz (encL S), .fz (encL P), .fz (.int 300), .fz (encL rows), .fz (.int i), .ow (encL f), e.1, e.2, .no, .no]) (fun f l => f ++ ooRow S P l) [] (e.2.2.1, e.2.2.2) rfl ?_ ?_
    · intro pre2 l post2 hl2 e2
      have hll := hmem l (by rw [hl2]; exact List.mem_append_right _ (List.mem_cons_self ..))
      have hpl2 := congrArg List.length hl2
      rw [List.length_append, List.length_cons] at hpl2
      rw [fold_app, List.nil_append]
      have hfl := flat_len (N := 20) (f := ooRow S P) pre2 fun x _ => Nat.le_trans (ooRow_len S P x) hS
      generalize pre2.flatMap (ooRow S P) = f at hfl
      walk_at "rd"
      refine loop_fold S (fun (f : List (List Ew)) (e : Slo) => [.fz (encL S), .fz (encL P), .fz (.int 300), .fz (encL rows), .fz (.int i), .ow (encL f), .fz (.tuple (l.map enc)), e, .no, .no]) (ooStep P l) f e2.2 rfl ?_ ?_
      · intro pre3 d post3 hl3 e3
        have hpl3 := congrArg List.length hl3
        rw [List.length_append, List.length_cons] at hpl3
        rw [ooStep_fold]
        have hf3 := ooRow_len pre3 P l
        have hfl2 : (f ++ ooRow pre3 P l).length ≤ 20 * pre2.length + 20 := by
          rw [List.length_append]; omega
        generalize f ++ ooRow pre3 P l = f3 at hfl2
        walk_at "rd"
        refine ⟨_, dinE (α := Ew) (by decide) true d l, ?_⟩
        unfold ooStep ooCond
        by_cases hd : d ∈ l
        · refine .inl ⟨by simp [hd], ?_⟩
          rw [decide_eq_true hd]; rfl
        refine .inr ⟨by simp [hd], ?_⟩
        refine lc_ofE P (fun p => decide (p.2 = d) && !decide (p.1 ∈ l)) (fun p => p.1) (by omega) (fun p hp K1 K0 k1 k0 => ?_) ?_
        · walk_at "rd"
          refine ⟨_, deqE (α := Ew) (by decide) p.2 d, ?_⟩
          by_cases h1 : p.2 = d
          · refine .inr ⟨congrArg PyData.bool (decide_eq_true h1), _, dinE (α := Ew) (by decide) true p.1 l, ?_⟩
            by_cases h2 : p.1 ∈ l
            · exact .inl ⟨by simp [h2], k0 (by simp [h1, h2])⟩
            · exact .inr ⟨by simp [h2], k1 (by simp [h1, h2])⟩
          · exact .inl ⟨congrArg PyData.bool (decide_eq_false h1), k0 (by simp [h1])⟩
        · refine ⟨_, deq0 (α := Ew) (by decide) _, ?_⟩
          rw [List.isEmpty_map, decide_eq_false hd, Bool.not_false, Bool.true_and]
          cases hem : (P.filter fun p => decide (p.2 = d) && !decide (p.1 ∈ l)).isEmpty
          · exact .inl ⟨rfl, rfl, rfl⟩
          · refine .inr ⟨rfl, by omega, by omega, rfl, ?_⟩
            rw [if_pos rfl, List.map_append]
            simp only [List.map_cons, List.map_nil, enc_p, enc_l, List.map_append, enc_i]
      · intro e3
        rw [ooStep_fold]
        exact ⟨rfl, _, _, rfl⟩
    · intro e2
      rw [fold_app, List.nil_append, ← hnext]
      walk_at "rd"
      exact .inl (by omega)
  · intro e
    have hoo : ∀ (l : List Int) (n : Nat), l.foldl (fun rows _ => rows.flatMap (ooRow S P)) (oo S P n) = oo S P (n + l.length) := by
      intro l
      induction l with
      | nil => intro n; rfl
      | cons x l ih =>
        intro n
        have := ih (n + 1)
        rw [List.foldl_cons, List.length_cons, show n + (l.length + 1) = n + 1 + l.length by omega]
        exact this
    have e0 : (rgI 0 (S.length : Int)).foldl (fun rows _ => rows.flatMap (ooRow S P)) [[]] = oo S P S.length := by
      have := hoo (rgI 0 (S.length : Int)) 0
      rw [len_rgI, show 0 + ((S.length : Int) - 0).toNat = S.length by omega] at this
      exact this
    rw [e0]
    walk_at "rd"
    exact h

end
end HB

set_option Elab.async false
set_option linter.all false
set_option autoImplicit false
namespace HB
open PySem PySem.Spec L2
open En (enc)
/-! ### words of places -/
def dec1 : List Nat → Nat → Option (List Nat)
  | [], _ => none
  | 0 :: _, 0 => none
  | (c + 1) :: cs, 0 => some (c :: cs)
  | c :: cs, k + 1 => match dec1 cs k with
    | none => none
    | some r => some (c :: r)
def gw : Nat → List Nat → List (List Nat)
  | 0, _ => [[]]
  | n + 1, c => [0, 1, 2, 3, 4].flatMap fun k => match dec1 c k with
    | none => []
    | some c' => (gw n c').map (k :: ·)
def cntP (k : Nat) (v : List Nat) : Nat := (v.filter fun j => j == k).length
theorem dec1_succ (c : Nat) (cs : List Nat) (k : Nat) : dec1 (c :: cs) (k + 1) = match dec1 cs k with
    | none => none
    | some r => some (c :: r) := by cases c <;> rfl
theorem dec1_some : ∀ (c : List Nat) (k : Nat), 1 ≤ c.getD k 0 → ∃ c', dec1 c k = some c' ∧ ∀ j, c'.getD j 0 = c.getD j 0 - (if j = k then 1 else 0)
  | [], k, h => by simp at h
  | 0 :: cs, 0, h => by simp at h
  | (c + 1) :: cs, 0, _ => ⟨c :: cs, rfl, fun j => by cases j <;> simp⟩
  | c :: cs, k + 1, h => by
    obtain ⟨r, h1, h2⟩ := dec1_some cs k (by simpa using h)
    refine ⟨c :: r, by rw [dec1_succ, h1], fun j => ?_⟩
    cases j with
    | zero => simp
    | succ j =>
      have := h2 j
      simp only [List.getD_cons_succ, this, Nat.add_right_cancel_iff]
theorem mem_gw : ∀ (v c : List Nat), (∀ k ∈ v, k < 5) → (∀ k, cntP k v ≤ c.getD k 0) → v ∈ gw v.length c
  | [], _, _, _ => by simp [gw]
  | k :: v, c, h5, hc => by
    have hk : k < 5 := h5 k (List.mem_cons_self ..)
    have h1 : 1 ≤ c.getD k 0 := by
      have := hc k
      have e : cntP k (k :: v) = cntP k v + 1 := by unfold cntP; simp
      omega
    obtain ⟨c', e1, e2⟩ := dec1_some c k h1
    rw [List.length_cons]
    unfold gw
    refine List.mem_flatMap.mpr ⟨k, ?_, ?_⟩
    · obtain rfl | rfl | rfl | rfl | rfl : k = 0 ∨ k = 1 ∨ k = 2 ∨ k = 3 ∨ k = 4 := by omega
      all_goals simp
    · rw [e1]
      refine List.mem_map.mpr ⟨v, mem_gw v c' (fun j hj => h5 j (List.mem_cons_of_mem _ hj)) fun j => ?_, rfl⟩
      have h2 := hc j
      rw [e2]
      unfold cntP at h2 ⊢
      rw [List.filter_cons] at h2
      by_cases e : j = k
      · subst e; simp at h2 ⊢; omega
      · have : ¬ (k == j) = true := by simp; exact fun z => e z.symm
        rw [if_neg this] at h2
        rw [if_neg e]; omega
theorem gw_len : ∀ (n : Nat) (c : List Nat), (gw n c).length ≤ 5 ^ n
  | 0, _ => by simp [gw]
  | n + 1, c => by
    unfold gw
    have := flat_len (N := 5 ^ n) (f := fun k => match dec1 c k with
      | none => []
      | some c' => (gw n c').map (k :: ·)) [0, 1, 2, 3, 4] fun k _ => by
        split
        · simp
        · rw [List.length_map]; exact gw_len n _
    rw [Nat.pow_succ]; exact this
def vecs : Nat → List (List Nat)
  | 0 => [[]]
  | n + 1 => [0, 1, 2, 3].flatMap fun x => (vecs n).map (x :: ·)
theorem mem_vecs : ∀ (l : List Nat), (∀ x ∈ l, x ≤ 3) → l ∈ vecs l.length
  | [], _ => by simp [vecs]
  | x :: l, h => by
    have hx := h x (List.mem_cons_self ..)
    rw [List.length_cons]
    unfold vecs
    refine List.mem_flatMap.mpr ⟨x, ?_, List.mem_map.mpr ⟨l, mem_vecs l fun y hy => h y (List.mem_cons_of_mem _ hy), rfl⟩⟩
    obtain rfl | rfl | rfl | rfl : x = 0 ∨ x = 1 ∨ x = 2 ∨ x = 3 := by omega
    all_goals simp
def isP (c : List Nat) : Bool := (c.filter fun x => x == 1).length == 4
def hasAdj (c : List Nat) : List Nat → Bool
  | x :: y :: r => (c.getD x 0 == 1 && c.getD y 0 == 1) || hasAdj c (y :: r)
  | _ => false
theorem hasAdj_split {c : List Nat} : ∀ (v : List Nat), hasAdj c v = true → ∃ u x y r, v = u ++ x :: y :: r ∧ c.getD x 0 = 1 ∧ c.getD y 0 = 1
  | [], h => by simp [hasAdj] at h
  | [x], h => by simp [hasAdj] at h
  | x :: y :: r, h => by
    unfold hasAdj at h
    rw [Bool.or_eq_true, Bool.and_eq_true] at h
    rcases h with ⟨h1, h2⟩ | h
    · exact ⟨[], x, y, r, rfl, by simpa using h1, by simpa using h2⟩
    · obtain ⟨u, x', y', r', e, h1, h2⟩ := hasAdj_split (y :: r) h
      exact ⟨x :: u, x', y', r', by rw [e]; rfl, h1, h2⟩
def chkA (c : List Nat) : Bool := !(decide (5 ≤ c.sum) && decide (c.sum ≤ 6)) || decide ((gw 4 c).length ≤ 300)
def chkB (c : List Nat) : Bool := !(c.sum == 6) || isP c || decide ((gw 5 c).length ≤ 300)
def chkC (c : List Nat) : Bool := !(c.sum == 6 && isP c) || ((gw 6 c).all (hasAdj c) && [0, 1, 2, 3, 4].all fun p => [0, 1, 2, 3, 4].all fun q => p == q || !(c.getD p 0 == 1) || !(c.getD q 0 == 1) || decide (((gw 5 c).filter fun v => !((v.filter fun k => k == p || k == q) == [q, p])).length ≤ 300))
theorem chkA_all : (vecs 5).all chkA = true := by decide +kernel
theorem chkB_all : (vecs 5).all chkB = true := by decide +kernel
theorem chkC_all : (vecs 5).all chkC = true := by decide +kernel
end HB

set_option Elab.async false
set_option linter.all false
set_option autoImplicit false
namespace HB
open PySem PySem.Spec L2
open En (enc)
section
variable {B : Bk} {w : Wb} {a b : List Int}
theorem way_head {x y b : Int} (h : wayI x b = wayI y b) : x = y := by
  by_cases hx : x = b
  · have h1 := congrArg List.length h
    rw [len_wayI, len_wayI] at h1
    omega
  · by_cases hy : y = b
    · have h1 := congrArg List.length h
      rw [len_wayI, len_wayI] at h1
      omega
    · rw [wayI_cons hx, wayI_cons hy] at h
      exact (List.cons.inj h).1
theorem SR.det (VA : VHts B w a) {l : List Ew} {h h' : List Int} (s : SR B w a b l h) (s' : SR B w a b l h') : h = h' := by
  have V1 := (s.vh VA).len
  have V2 := (s'.vh VA).len
  apply List.ext_getElem (by omega)
  intro i h1 h2
  have e1 := s.pre VA (k := (i : Int)) (by omega) (by omega)
  have e2 := s'.pre VA (k := (i : Int)) (by omega) (by omega)
  rw [e1] at e2
  have := way_head (List.append_cancel_left e2)
  unfold getI at this
  rw [show (i : Int).toNat = i by omega, List.getElem?_eq_getElem h1, List.getElem?_eq_getElem h2] at this
  exact this
def pw (l : List Ew) : List Nat := l.map fun x => x.1.toNat
theorem pw_inj (VA : VHts B w a) {l : List Ew} {h : List Int} (s : SR B w a b l h) : ∀ {l' : List Ew} {h' : List Int}, SR B w a b l' h' → pw l = pw l' → l = l' := by
  induction s with
  | nil =>
    intro l' h' s' e
    have := congrArg List.length e
    unfold pw at this
    rw [List.length_map, List.length_map, List.length_nil] at this
    exact (List.eq_nil_of_length_eq_zero this.symm).symm
  | @snoc l0 h0 d s hd ih =>
    intro l' h' s' e
    cases s' with
    | nil =>
      have := congrArg List.length e
      unfold pw at this
      simp at this
    | @snoc l1 h1 d' s' hd' =>
      unfold pw at e
      rw [List.map_append, List.map_append] at e
      obtain ⟨e1, e2⟩ := List.append_inj' e rfl
      simp only [List.map_cons, List.map_nil, List.cons.injEq, and_true] at e2
      have e3 := ih s' e1
      subst e3
      have e4 := s.det VA s'
      subst e4
      have k0 := (mem_nearL.mp hd).1.1.1
      have k1 := (mem_nearL.mp hd').1.1.1
      have : d.2 = d'.2 := by omega
      rw [this]
theorem pw_cnt {l : List Ew} (hl : ∀ x ∈ l, 0 ≤ x.1) (k : Nat) : cntP k (pw l) = (plc (k : Int) l).length := by
  unfold cntP pw plc
  rw [List.filter_map, List.length_map, List.length_map]
  congr 1
  apply List.filter_congr
  intro x hx
  have := hl x hx
  simp only [Function.comp]
  rw [Bool.eq_iff_iff, beq_iff_eq, decide_eq_true_eq]
  omega
def cOf (a b : List Int) : List Nat := [0, 1, 2, 3, 4].map fun (k : Nat) => (getI a k - getI b k).natAbs
theorem getI_out {l : List Int} {k : Nat} (h : l.length ≤ k) : getI l k = 0 := by
  unfold getI
  rw [show (k : Int).toNat = k by omega, List.getElem?_eq_none h]; rfl
theorem cOf_at (a b : List Int) {k : Nat} (h : k < 5) : (cOf a b).getD k 0 = (getI a k - getI b k).natAbs := by
  obtain rfl | rfl | rfl | rfl | rfl : k = 0 ∨ k = 1 ∨ k = 2 ∨ k = 3 ∨ k = 4 := by omega
  all_goals rfl
theorem cOf_sum (C : Ctx B w a b) (hn5 : w.n ≤ 5) : ((cOf a b).sum : Int) = sumH a b := by
  have h1 := C.VA.len
  have h2 := C.VB.len
  have n0 := C.V.n0
  have hz : ∀ k : Nat, a.length ≤ k → (getI a k - getI b k).natAbs = 0 := fun k hk => by rw [getI_out hk, getI_out (show b.length ≤ k by omega)]; rfl
  unfold cOf sumH
  simp only [List.map_cons, List.map_nil, List.sum_cons, List.sum_nil]
  have z1 := hz 1; have z2 := hz 2; have z3 := hz 3; have z4 := hz 4
  obtain e | e | e | e | e : a.length = 1 ∨ a.length = 2 ∨ a.length = 3 ∨ a.length = 4 ∨ a.length = 5 := by omega
  all_goals (rw [e] at z1 z2 z3 z4 ⊢; simp only [List.range, List.range.loop, List.map_cons, List.map_nil, List.sum_cons, List.sum_nil]; omega)
theorem cOf_mem (C : Ctx B w a b) (hr : B.r ≤ 3) : ∀ x ∈ cOf a b, x ≤ 3 := by
  intro x hx
  unfold cOf at hx
  obtain ⟨k, _, rfl⟩ := List.mem_map.mp hx
  have h1 := C.VA.len
  have h2 := C.VB.len
  by_cases hk : k < a.length
  · have b1 := C.VA.at (i := (k : Int)) (by omega) (by omega)
    have b2 := C.VB.at (i := (k : Int)) (by omega) (by omega)
    omega
  · rw [getI_out (by omega), getI_out (by omega)]; decide
theorem pw_gw (C : Ctx B w a b) (hn5 : w.n ≤ 5) {l : List Ew} {h : List Int} (s : SR B w a b l h) : pw l ∈ gw l.length (cOf a b) := by
  have hent := s.ent
  have hlen : (pw l).length = l.length := List.length_map ..
  rw [← hlen]
  have hlt : ∀ k ∈ pw l, k < 5 ∧ (k : Int) < w.n := fun k hk => by
    unfold pw at hk
    obtain ⟨x, hx, rfl⟩ := List.mem_map.mp hk
    have := hent x hx
    omega
  refine mem_gw _ _ (fun k hk => (hlt k hk).1) fun k => ?_
  by_cases hk : (k : Int) < w.n
  · rw [pw_cnt (fun x hx => (hent x hx).1), cOf_at a b (by omega)]
    have := congrArg List.length (s.pre C.VA (k := (k : Int)) (by omega) hk)
    rw [len_wayI, List.length_append] at this
    omega
  · have : cntP k (pw l) = 0 := by
      unfold cntP
      rw [List.length_eq_zero_iff, List.filter_eq_nil_iff]
      intro j hj z
      have := (hlt j hj).2
      have : j = k := by simpa using z
      omega
    omega
theorem sw_gw (C : Ctx B w a b) (hn5 : w.n ≤ 5) (n : Nat) (F : List (List Nat)) (hF : ∀ x ∈ sw B w a b n, pw x.1 ∈ F) : (sw B w a b n).length ≤ F.length := by
  have h1 := nodup_sub_len (l := (sw B w a b n).map fun x => pw x.1) (l' := F) ?_ fun v hv => by
    obtain ⟨x, hx, rfl⟩ := List.mem_map.mp hv
    exact hF x hx
  · rwa [List.length_map] at h1
  · have hnd := sw_nodup (b := b) C.VA n
    rw [List.nodup_iff_pairwise_ne, List.pairwise_map] at hnd ⊢
    refine List.Pairwise.imp_of_mem ?_ hnd
    intro x y hx hy hne e
    exact hne (pw_inj C.VA ((mem_sw C.VA n x).mp hx).1 ((mem_sw C.VA n y).mp hy).1 e)
theorem prj_pw {e : Int × Int} (h0 : 0 ≤ e.1 ∧ 0 ≤ e.2) : ∀ (l : List Ew), (∀ x ∈ l, 0 ≤ x.1) → prj e l = ((pw l).filter fun k => k == e.1.toNat || k == e.2.toNat).map fun k => if k = e.1.toNat then Pc.z else Pc.o
  | [], _ => rfl
  | x :: l, h => by
    have ih := prj_pw h0 l fun y hy => h y (List.mem_cons_of_mem _ hy)
    have hx := h x (List.mem_cons_self ..)
    rw [prj_cons, ih]
    unfold pw
    rw [List.map_cons, List.filter_cons]
    by_cases h1 : x.1 = e.1
    · have : (x.1.toNat == e.1.toNat || x.1.toNat == e.2.toNat) = true := by rw [h1]; simp
      rw [if_pos h1, if_pos this, List.map_cons, if_pos (by rw [h1])]; rfl
    · have n1 : ¬ x.1.toNat = e.1.toNat := by omega
      by_cases h2 : x.1 = e.2
      · have : (x.1.toNat == e.1.toNat || x.1.toNat == e.2.toNat) = true := by rw [h2]; simp
        rw [if_neg h1, if_pos h2, if_pos this, List.map_cons, if_neg n1]; rfl
      · have n2 : ¬ x.1.toNat = e.2.toNat := by omega
        have : ¬ (x.1.toNat == e.1.toNat || x.1.toNat == e.2.toNat) = true := by simp [n1, n2]
        rw [if_neg h1, if_neg h2, if_neg this]; rfl
/-- a told pair of two single deeds is never turned round -/
theorem never_turned (C : Ctx B w a b) {x y : Ew} (hxy : (x, y) ∈ pairsW B w a b) (hne : x.1 ≠ y.1) (hcx : (getI a x.1 - getI b x.1).natAbs = 1) (hcy : (getI a y.1 - getI b y.1).natAbs = 1) {l : List Ew} {h : List Int} (s : SR B w a b l h) : ((pw l).filter fun k => k == x.1.toNat || k == y.1.toNat) ≠ [y.1.toNat, x.1.toNat] := by
  intro hf
  have hent := fun x hx => (s.ent x hx).1
  rcases mem_pairsW.mp hxy with ⟨i, _, k, _, e⟩ | ⟨e, he, t, ht, e2⟩
  · simp only [Prod.mk.injEq] at e
    obtain ⟨rfl, rfl⟩ := e
    exact hne rfl
  · have ed := C.V.ed e he
    have hrun := s.run C.V C.VA he
    have hpw := prj_pw (e := e) ⟨by omega, by omega⟩ l hent
    obtain ⟨f1, f2, _⟩ := hrun.facts
    have fin : zc (prj e l) = 1 → oc (prj e l) = 1 → (getI a e.1 - getI b e.1).natAbs = 1 → (getI a e.2 - getI b e.2).natAbs = 1 → prj e l ∈ shuf B (pr2 a e) (pr2 b e) := fun z1 z2 z3 z4 => by
      rw [z1] at f1
      rw [z2] at f2
      have g1 : ((pr2 h e).1 - (pr2 b e).1).natAbs = 0 := by
        have : ((pr2 a e).1 - (pr2 b e).1).natAbs = 1 := z3
        omega
      have g2 : ((pr2 h e).2 - (pr2 b e).2).natAbs = 0 := by
        have : ((pr2 a e).2 - (pr2 b e).2).natAbs = 1 := z4
        omega
      have : pr2 h e = pr2 b e := Prod.ext (by omega) (by omega)
      rw [this] at hrun
      exact mem_shuf.mpr hrun
    have hne0 := C.ne he
    obtain ⟨i, hi, ⟨k, ⟨k0, k1⟩, rfl⟩ | ⟨k, ⟨k0, k1⟩, rfl⟩⟩ := mem_told.mp ht
    · simp only [pwE, Prod.mk.injEq, co] at e2
      obtain ⟨rfl, rfl⟩ := e2
      simp only at hcx hcy hf hne
      have hlen1 : (wayI (pr2 a e).1 (pr2 b e).1).length = 1 := by rw [len_wayI]; exact hcy
      have hi0 : i = 0 := by omega
      subst hi0
      have hf2 : ((pw l).filter fun k => k == e.1.toNat || k == e.2.toNat) = [e.1.toNat, e.2.toNat] := by
        rw [← hf]; congr 1; funext k; exact Bool.or_comm _ _
      rw [hf2] at hpw
      have hn2 : ¬ e.2.toNat = e.1.toNat := by omega
      simp only [List.map_cons, List.map_nil, if_true, if_neg hn2] at hpw
      have hs := fin (by rw [hpw]; rfl) (by rw [hpw]; rfl) hcy hcx
      have := (lo_hi hne0 ((0 : Nat) : Int)).2.2 _ hs
      rw [hpw] at this
      have h0 : azi ((0 : Nat) : Int) [Pc.z, Pc.o] = 0 := rfl
      omega
    · simp only [pwE, Prod.mk.injEq, co] at e2
      obtain ⟨rfl, rfl⟩ := e2
      simp only at hcx hcy hf hne
      have hlen1 : (wayI (pr2 a e).1 (pr2 b e).1).length = 1 := by rw [len_wayI]; exact hcx
      have hlen2 : (wayI (pr2 a e).2 (pr2 b e).2).length = 1 := by rw [len_wayI]; exact hcy
      have hi0 : i = 0 := by omega
      subst hi0
      rw [hf] at hpw
      have hn2 : ¬ e.2.toNat = e.1.toNat := by omega
      simp only [List.map_cons, List.map_nil, if_true, if_neg hn2] at hpw
      have hs := fin (by rw [hpw]; rfl) (by rw [hpw]; rfl) hcx hcy
      have := (lo_hi hne0 ((0 : Nat) : Int)).2.2 _ hs
      rw [hpw] at this
      have h0 : azi ((0 : Nat) : Int) [Pc.o, Pc.z] = 1 := rfl
      omega
theorem ORr.swap {S : List Ew} {P : List (Ew × Ew)} {l : List Ew} {x y : Ew} (hxy : (x, y) ∉ P) : ∀ (r : List Ew), ORr S P (l ++ x :: y :: r) → ORr S P (l ++ y :: x :: r) := by
  have key : ∀ (n : Nat) (r : List Ew), r.length = n → ORr S P (l ++ x :: y :: r) → ORr S P (l ++ y :: x :: r) := by
    intro n
    induction n with
    | zero =>
      intro r hr h
      have : r = [] := List.eq_nil_of_length_eq_zero hr
      subst this
      obtain ⟨h1, h2, h3, h4⟩ := h.split (l := l ++ [x]) (d := y) (r := []) (by simp)
      obtain ⟨g1, g2, g3, g4⟩ := h1.last rfl
      have hne : x ≠ y := fun z => h3 (by rw [z]; simp)
      have s1 : ORr S P (l ++ [y]) := .snoc g1 h2 (fun z => h3 (List.mem_append_left _ z)) fun f hf => by
        rcases List.mem_append.mp (h4 f hf) with z | z
        · exact z
        · rw [List.mem_singleton.mp z] at hf; exact absurd hf hxy
      have s2 : ORr S P ((l ++ [y]) ++ [x]) := .snoc s1 g2 (fun z => by
        rcases List.mem_append.mp z with z | z
        · exact g3 z
        · exact hne (List.mem_singleton.mp z)) fun f hf => List.mem_append_left _ (g4 f hf)
      rw [List.append_assoc] at s2; exact s2
    | succ n ih =>
      intro r hr h
      rcases List.eq_nil_or_concat r with rfl | ⟨r', d, rfl⟩
      · simp at hr
      rw [List.concat_eq_append] at hr h ⊢
      obtain ⟨h1, h2, h3, h4⟩ := h.last (l := l ++ x :: y :: r') (d := d) (by simp)
      have hm : ∀ z, z ∈ l ++ y :: x :: r' ↔ z ∈ l ++ x :: y :: r' := fun z => by
        simp only [List.mem_append, List.mem_cons]
        constructor
        · rintro (h | h | h | h)
          · exact .inl h
          · exact .inr (.inr (.inl h))
          · exact .inr (.inl h)
          · exact .inr (.inr (.inr h))
        · rintro (h | h | h | h)
          · exact .inl h
          · exact .inr (.inr (.inl h))
          · exact .inr (.inl h)
          · exact .inr (.inr (.inr h))
      have s1 := ih r' (by simpa using hr) h1
      have s2 := ORr.snoc s1 h2 (fun z => h3 ((hm d).mp z)) fun f hf => (hm f).mpr (h4 f hf)
      have e : l ++ y :: x :: r' ++ [d] = l ++ y :: x :: (r' ++ [d]) := by simp
      rw [e] at s2; exact s2
  exact fun r => key r.length r rfl
/-- more rows than told: more than one word -/
theorem none_many (C : Ctx B w a b) (hr : B.r ≤ 3) (hn5 : w.n ≤ 5) (h6 : sumH a b ≤ 6) (h : ∃ n : Nat, (n : Int) ≤ sumH a b ∧ 300 < (sw B w a b n).length) : 1 < (sw B w a b (singles a b).length).length := by
  obtain ⟨n, hn, h300⟩ := h
  have hT := singles_len a b
  have hsum := cOf_sum C hn5
  have hc5 : (cOf a b).length = 5 := by unfold cOf; simp
  have hv : cOf a b ∈ vecs 5 := by
    have := mem_vecs (cOf a b) (cOf_mem C hr)
    rwa [hc5] at this
  have hgw : ∀ n, (sw B w a b n).length ≤ (gw n (cOf a b)).length := fun n => sw_gw C hn5 n _ fun x hx => by
    obtain ⟨s, e⟩ := (mem_sw C.VA n x).mp hx
    rw [← e]; exact pw_gw C hn5 s
  by_cases hnT : n = (singles a b).length
  · rw [← hnT]; omega
  have hn4 : n = 4 ∨ n = 5 := by
    have h1 := hgw n
    have h2 := gw_len n (cOf a b)
    by_cases h3 : n ≤ 3
    · have : 5 ^ n ≤ 5 ^ 3 := Nat.pow_le_pow_right (by decide) h3
      omega
    · omega
  rcases hn4 with rfl | rfl
  · exfalso
    have := List.all_eq_true.mp chkA_all _ hv
    unfold chkA at this
    have h1 := hgw 4
    have : decide ((gw 4 (cOf a b)).length ≤ 300) = true := by
      rw [decide_eq_true (show 5 ≤ (cOf a b).sum by omega), decide_eq_true (show (cOf a b).sum ≤ 6 by omega)] at this
      simpa using this
    have := of_decide_eq_true this
    omega
  · have hs6 : (cOf a b).sum = 6 := by omega
    have hT6 : (singles a b).length = 6 := by omega
    have hP : isP (cOf a b) = true := by
      have := List.all_eq_true.mp chkB_all _ hv
      unfold chkB at this
      rw [hs6] at this
      cases hp : isP (cOf a b)
      · rw [hp] at this
        have : (gw 5 (cOf a b)).length ≤ 300 := by simpa using this
        have := hgw 5
        omega
      · rfl
    have hC := List.all_eq_true.mp chkC_all _ hv
    unfold chkC at hC
    rw [hs6, hP] at hC
    simp only [BEq.rfl, Bool.and_self, Bool.not_true, Bool.false_or, Bool.and_eq_true] at hC
    obtain ⟨hD, hE⟩ := hC
    by_cases hone : 1 < (sw B w a b (singles a b).length).length
    · exact hone
    exfalso
    have hsome := words_some C
    obtain ⟨X, hX⟩ := List.exists_mem_of_length_pos (show 0 < (sw B w a b (singles a b).length).length by omega)
    obtain ⟨sX, lX⟩ := (mem_sw C.VA _ X).mp hX
    have hadj := List.all_eq_true.mp hD (pw X.1) (by
      have := pw_gw C hn5 sX
      rwa [lX, hT6] at this)
    obtain ⟨u, p, q, r', hv2, cp, cq⟩ := hasAdj_split _ hadj
    unfold pw at hv2
    obtain ⟨l, l2, hXl, hl1, hl2⟩ := List.map_eq_append_iff.mp hv2
    obtain ⟨x, l3, rfl, hx, hl3⟩ := List.map_eq_cons_iff.mp hl2
    obtain ⟨y, r, rfl, hy, hr2⟩ := List.map_eq_cons_iff.mp hl3
    have hentX := sX.ent
    have hxe := hentX x (by rw [hXl]; simp)
    have hye := hentX y (by rw [hXl]; simp)
    have hord : OrW B w a b X.1 := by
      have := sX.end_ C lX
      have h3 : SR B w a b X.1 b := this ▸ sX
      exact SR.order C h3 h3 [] (List.append_nil _).symm
    have hcx : (getI a x.1 - getI b x.1).natAbs = 1 := by
      rw [← hx, cOf_at a b (by omega), show ((x.1.toNat : Nat) : Int) = x.1 by omega] at cp; exact cp
    have hcy : (getI a y.1 - getI b y.1).natAbs = 1 := by
      rw [← hy, cOf_at a b (by omega), show ((y.1.toNat : Nat) : Int) = y.1 by omega] at cq; exact cq
    have hne : x.1 ≠ y.1 := fun z => by
      have h1 := or_pre hord x.1 hxe.1 (by have := C.VA.len; omega)
      have h2 : (plc x.1 X.1).length ≤ 1 := by
        rw [h1, List.length_take, len_wayI]; omega
      rw [hXl, plc_app] at h2
      have h3 : plc x.1 (x :: y :: r) = x.2 :: y.2 :: plc x.1 r := by
        unfold plc; rw [List.filter_cons, if_pos (by simp), List.filter_cons, if_pos (by rw [z]; simp)]; rfl
      rw [h3, List.length_append, List.length_cons, List.length_cons] at h2
      omega
    have hpair : (x, y) ∈ pairsW B w a b := by
      by_cases hin : (x, y) ∈ pairsW B w a b
      · exact hin
      · exfalso
        rw [hXl] at hord
        have hsw := ORr.swap hin r hord
        have hl' : (l ++ y :: x :: r).length = (singles a b).length := by
          rw [← lX, hXl]; simp
        have m1 := (words_orders C (l ++ y :: x :: r)).mpr ((mem_oo _ _).mpr ⟨hsw, hl'⟩)
        have m2 : X.1 ∈ (sw B w a b (singles a b).length).map (·.1) := List.mem_map_of_mem hX
        have := nodup_sub_len (l := [X.1, l ++ y :: x :: r]) (l' := (sw B w a b (singles a b).length).map (·.1)) (by
          rw [List.nodup_cons]
          refine ⟨?_, by simp⟩
          rw [List.mem_singleton, hXl]
          intro z
          have := List.append_cancel_left z
          simp only [List.cons.injEq] at this
          exact hne (by rw [this.1])) fun v hv => by
            rcases List.mem_cons.mp hv with e | hv
            · rw [e]; exact m2
            · rw [List.mem_singleton.mp hv]; exact m1
        rw [List.length_map] at this
        simp only [List.length_cons, List.length_nil] at this
        omega
    have hp5 : p ∈ [0, 1, 2, 3, 4] := by
      have : p < 5 := by omega
      obtain e | e | e | e | e : p = 0 ∨ p = 1 ∨ p = 2 ∨ p = 3 ∨ p = 4 := by omega
      all_goals simp [e]
    have hq5 : q ∈ [0, 1, 2, 3, 4] := by
      have : q < 5 := by omega
      obtain e | e | e | e | e : q = 0 ∨ q = 1 ∨ q = 2 ∨ q = 3 ∨ q = 4 := by omega
      all_goals simp [e]
    have hE2 := List.all_eq_true.mp (List.all_eq_true.mp hE p hp5) q hq5
    have hpq : (p == q) = false := by
      rw [beq_eq_false_iff_ne]; omega
    rw [cp, cq, hpq] at hE2
    simp only [BEq.rfl, Bool.not_true, Bool.false_or, decide_eq_true_eq] at hE2
    have := sw_gw C hn5 5 (F := (gw 5 (cOf a b)).filter fun v => !((v.filter fun k => k == p || k == q) == [q, p])) fun z hz => by
      obtain ⟨s, e⟩ := (mem_sw C.VA 5 z).mp hz
      refine List.mem_filter.mpr ⟨by have := pw_gw C hn5 s; rwa [e] at this, ?_⟩
      have := never_turned C hpair hne hcx hcy s
      rw [hx, hy] at this
      simpa using this
    omega
end
end HB

set_option Elab.async false
set_option linter.all false
set_option maxRecDepth 100000
set_option maxHeartbeats 4000000
set_option autoImplicit false
namespace HB
open PySem PySem.Spec L2
open En (enc)
section
variable {P : Program} {w : World} {K : PySem.W.Frag} {mg : Str → Option Value} {base : Heap}
local macro_rules | `(tactic| walk_at "rd") => `(tactic| simp [-List.any_eq_true, -List.any_eq_false, sSeq, sIf, sRt, sNx, sAs, sOw, sFz, sDo, sNo, sApp, gNm, gTp_t, gC_c, gN_n, xB, xZ, xA, xK, getZ, getA, fzz, x2, xAnd, xOr, xNot, xAndV, xOrV, xNotV, xIf, xChain, xFn, xTup, xLst, xNil, xCons, xCatL, xCatT, xSlL, xSlT, xNoP, xSoP, xThenL, xTupOf, xRngL, xSort, xSortSet, xSortK, xSumV, xDget, xDictOf, xTIndex, xTupF, xCatF, xRevT, xRngL3, xRngT, xRow, gRow, xLen0, xCell, xCallR, xIsi, xIsi2, xCall, xDnew, xDone, xGetD, xInD, xYes, sFor, iL, iT, iR1, iR2, iR3, iEnT, iEnL, iKs, iLn, xLc, kOk_p, any_p, dlk_p, put_p, dne0_p, deq0_p, dne0_i, dne0_w, deq0_w, encM_len, sMix, xMo, xMf, xMn, setS, gSbD, gSb, cut_take, cut_drop, ex2_eq, kOk_kk, put_kk, kOk_k3, dlk_k3, put_k3, itw0, itw1, wb_nt, wb_tu, wb_len, kOk_h, dlk_h, put_h, getD_h, sAugM, rngD_0, wip, dseq_t, dseq_l, deq_il, rngD_rg, dnD_dn, disN_n, dnotN_n, isNo, start', startR, rwAt, rwSet, dint, itb0, itb1, itb2, bk_nt, bk_tu, bk_len, encL_list, list_encL, len_L, len_l, len_t, it2_0, it2_1, it3_0, it3_1, it3_2, il2_0, il2_1, il1_0, it2_v, it2_n, icmp_i, isub_i, iadd_i, din_i, din_iL, deq_i, dne_i, deq_b, dne_b, nd_i, nd_b, nd_s, nd_n, nd_l, nd_t, ik_ii, ik_ib, ik_tt, small, dabs, dmax2, sum_L, enc_i, enc_b, enc_k, enc_p, enc_3, enc_l])
theorem shape_E3 {l : List (Ew × Ew)} (hl : l.length < 100000) : shape 6 (.tuple (l.map enc)) := by
  refine .inr ⟨_, rfl, by rw [List.length_map]; exact hl, fun d hd => ?_⟩
  obtain ⟨p, _, rfl⟩ := List.mem_map.mp hd
  have ev : ∀ e : Ew, shape 4 (enc e) := fun e => by
    refine .inr ⟨[.int e.1, .int e.2], rfl, by simp, fun d hd => ?_⟩
    simp only [List.mem_cons, List.not_mem_nil, or_false] at hd
    rcases hd with rfl | rfl
    · exact .inl ⟨_, rfl⟩
    · exact .inl ⟨_, rfl⟩
  refine .inr ⟨[enc p.1, enc p.2], rfl, by simp, fun d hd => ?_⟩
  simp only [List.mem_cons, List.not_mem_nil, or_false] at hd
  rcases hd with rfl | rfl
  · exact ev _
  · exact ev _
theorem sortOk_W (l : List (List Ew)) (T : Nat) (hl : l.length ≤ 100000) (hT : ∀ x ∈ l, x.length = T) (h1 : T = 0 → l.length < 2) : SortOk (l.map enc) := by
  refine ⟨by rw [List.length_map]; exact hl, plA l, fun d hd d' hd' => ?_, fun d hd => ?_, ?_⟩
  · obtain ⟨a, _, rfl⟩ := List.mem_map.mp hd
    obtain ⟨b, _, rfl⟩ := List.mem_map.mp hd'
    exact En.al a b
  · obtain ⟨a, _, rfl⟩ := List.mem_map.mp hd
    exact Nat.le_trans (En.dp a) (by decide)
  · by_cases h0 : T = 0
    · right
      refine ⟨by rw [List.length_map]; exact h1 h0, fun d hd => ?_⟩
      obtain ⟨a, _, rfl⟩ := List.mem_map.mp hd
      intro z; cases z
    · left; left
      intro d hd
      obtain ⟨a, ha, rfl⟩ := List.mem_map.mp hd
      have := hT a ha
      cases a with
      | nil => simp at this; exact absurd this.symm h0
      | cons x r => exact ⟨enc x, r.map enc, rfl⟩
theorem pairs_len {B : Bk} {w : Wb} {a b : List Int} (C : Ctx B w a b) (hr : B.r ≤ 3) : (pairsW B w a b).length ≤ 10000 := by
  obtain ⟨h1, h2, h3⟩ := ahM_facts C hr
  have := nodup_sub_len (pwRaw_nodup C) fun x hx => (h2 x).mpr hx
  rw [List.length_map] at this
  unfold pairsW
  rw [len_sortE]; omega
def S_law : SpT := fun ds W => ∃ ns : List Int, ds = [.list (ns.map .int)] ∧ W (.bool true)
theorem ln_law {ds : List PyData} {W : PyData → Prop} (h : S_law ds W) : ds.length = 1 := by obtain ⟨_, e, _⟩ := h; rw [e]; rfl
theorem df_law (G_order_pairs : Df P w K mg base "order_pairs" 10 S_order_pairs) (G_ways_count : Df P w K mg base "ways_count" 10 S_ways_count) (G_law_kept : DfR P w K mg base "_law_kept" 15 S_law_kept) (G_law_web : DfR P w K mg base "_law_web" 2 S_law_web) (G_law_heights : DfR P w K mg base "_law_heights" 2 S_law_heights) (G_law_reached : DfR P w K mg base "_law_reached" 3 S_law_reached) (G_law_ahead : Df P w K mg base "_law_ahead" 12 S_law_ahead) (G_law_alike : Df P w K mg base "_law_alike" 7 S_law_alike) (G_law_straight_words : Df P w K mg base "_law_straight_words" 3 S_law_straight_words) (G_law_orders_of : Df P w K mg base "_law_orders_of" 1 S_law_orders_of) (G_law_singles : Df P w K mg base "_law_singles" 2 S_law_singles) (h_len : mg "len" = none) (h_sorted : mg "sorted" = none) (h_tuple : mg "tuple" = none) (Fn_law : Fn K mg "law" "law" 90) : Df P w K mg base "law" 16 S_law := by
  refine mkfn Fn_law sc_law (fun kV doc pm an cdv ct us h => by rcases us with _ | ⟨x0, _ | ⟨x1, r1⟩⟩ <;> first | rfl | (simp at h)) (by intro ds W h; exact ln_law h) fun f cdv A outer s H F E hr => ⟨_, (jbcons (jown (i := 1) sc_law.nd (jlst (jcons (jz 0) (jcons ji (jcons ji (jcons ji jnil))))))
    (jbase 1 rfl (u := fun C => _) fun C hP hw hK => (jbcons (jpar2 (is_ := [2, 3]) sc_law.nd (jmfz (jcallR G_law_kept ⟨hP, hw, hK⟩ hr 1 (pv 1) (jcons ji jnil)) (jmfz (jcallR G_law_web ⟨hP, hw, hK⟩ (hr.mono (by decide)) 1 (pv 1) (jcons ji jnil)) jmnil)))
    (jbcons (jset (i := 4) sc_law.nd (jcallR G_law_heights ⟨hP, hw, hK⟩ (hr.mono (by decide)) 1 (pv 1) (jcons (jix (ja 3) (jc ji)) (jcons (jix (ja 2) (jc ji)) jnil))))
    (jbcons (jset (i := 5) sc_law.nd (jcallR G_law_reached ⟨hP, hw, hK⟩ (hr.mono (by decide)) 1 (pv 1) (jcons (jz 2) (jcons (jz 3) (jcons (jz 4) (jcons ji jnil))))))
    (jbcons (jset (i := 6) sc_law.nd (jcall G_law_ahead ⟨hP, hw⟩ (hr.mono (by decide)) (jcons (jz 2) (jcons (jz 3) (jcons (jz 4) (jcons (jz 5) jnil))))))
    (jbcons (jifs (jnot (jt (jc (jcall G_law_alike ⟨hP, hw⟩ (hr.mono (by decide)) (jcons (jcall G_order_pairs ⟨hP, hw⟩ (hr.mono (by decide)) (jcons (jz 2) (jcons (jz 3) (jcons (jz 4) (jcons (jz 5) jnil))))) (jcons (jtupOf h_tuple (ja 6)) jnil)))))) (jbone (jret jb)) jbnil)
    (jbcons (jset (i := 7) sc_law.nd (jcall G_law_straight_words ⟨hP, hw⟩ (hr.mono (by decide)) (jcons (jz 2) (jcons (jz 3) (jcons (jz 4) (jcons (jz 5) (jcons ji jnil)))))))
    (jbcons (jifs (jcmpT o_isN (ja 7) (jc jn)) (jbone (jret (jcmp o_gt (jc (jcall G_ways_count ⟨hP, hw⟩ (hr.mono (by decide)) (jcons (jz 2) (jcons (jz 3) (jcons (jz 4) (jcons (jz 5) jnil)))))) (jc ji)))) jbnil)
    (jbcons (jifs (jcmpT (o_ne hr.units) (jc_f (jsort rfl hr.u_s h_sorted (ja 7))) (jc_f (jsort rfl hr.u_s h_sorted (jc (jcall G_law_orders_of ⟨hP, hw⟩ (hr.mono (by decide)) (jcons (jcall G_law_singles ⟨hP, hw⟩ (hr.mono (by decide)) (jcons (jz 4) (jcons (jz 5) jnil))) (jcons (jz 6) (jcons ji jnil)))))))) (jbone (jret jb)) jbnil)
    (jbone (jret (jcall G_law_alike ⟨hP, hw⟩ (hr.mono (by decide)) (jcons (jcall G_ways_count ⟨hP, hw⟩ (hr.mono (by decide)) (jcons (jz 2) (jcons (jz 3) (jcons (jz 4) (jcons (jz 5) jnil))))) (jcons (jcallB b_len h_len (jccons (ja 7) jcnil)) jnil))))))))))))))), ?_⟩
  intro ds W h
  obtain ⟨ns, rfl, h⟩ := h
  walk_at "rd"
  refine ⟨ns, 0, 9928, 0, rfl, ?_, fun C' hP hw hK hns => ?_⟩
  · intro j sl e hj
    rcases j with _ | _ | _ | _ | _ | _ | _ | _ | j
    · cases e; exact .inr ⟨_, rfl⟩
    · exact absurd rfl hj
    all_goals first | (cases e; exact .inl rfl) | (simp at e)
  walk_at "rd"
  refine ⟨by decide, rfl, fun B ρ1 KB hr r1 => ?_⟩
  have V0 := KB.va
  have rr := V0.r0
  walk_at "rd"
  refine ⟨r1, rfl, fun w ρ2 V hn5 r2 => ?_⟩
  have n0 := V.n0
  walk_at "rd"
  refine ⟨r2, w.n, B.r, rfl, by omega, by omega, by omega, by omega, fun a ρ3 hal hab r3 => ?_⟩
  have VA : VHts B w a := ⟨hal, hab⟩
  walk_at "rd"
  refine ⟨r3, B, w, a, rfl, V, VA, fun b k ρ4 hC hk r4 => ?_⟩
  have VB := hC.vh VA
  have R := hC.reach V VA
  have h6 : sumH a b ≤ 6 := by have := hC.off VA; omega
  have CX : Ctx B w a b := ⟨KB, V, VA, VB, R⟩
  have hpl := pairs_len CX hr
  walk_at "rd"
  refine ⟨B, w, a, b, rfl, CX, hr, ?_⟩
  walk_at "rd"
  refine ⟨B, w, a, b, rfl, KB, V, VA, VB, R, ?_⟩
  refine ⟨_, rfl, shape_E3 (by omega), .inr ⟨rfl, ?_⟩⟩
  have hT := singles_len a b
  have hTn : (sumH a b).toNat = (singles a b).length := by omega
  have hwc := wc_count CX
  refine ⟨B, w, a, b, rfl, V, VA, VB, hr, hn5, h6, fun hmany => ?_, fun hfew => ?_⟩
  · refine .inr ⟨rfl, B, w, a, b, rfl, hr, hn5, KB, V, VA, VB, R, _, hwc, _, icmp_i _ _ _, ?_⟩
    have h1 := none_many CX hr hn5 h6 hmany
    rw [decide_eq_true (show ((sw B w a b (singles a b).length).length : Int) > 1 by omega)]
    exact h
  · rw [hTn]
    have h300 := hfew (singles a b).length (by omega)
    have hwl := words_len CX
    have hws := words_sorted CX
    have hsome := words_some CX
    have hwT : ∀ x ∈ (sw B w a b (singles a b).length).map (·.1), x.length = (singles a b).length := fun x hx => by
      obtain ⟨y, hy, rfl⟩ := List.mem_map.mp hx
      exact ((mem_sw VA _ y).mp hy).2
    have hoT : ∀ x ∈ oo (singles a b) (pairsW B w a b) (singles a b).length, x.length = (singles a b).length := fun x hx => ((mem_oo _ x).mp hx).2
    have hw0 : (singles a b).length = 0 → (sw B w a b (singles a b).length).length < 2 := fun z => by rw [z]; simp [sw]
    have hml : ((sw B w a b (singles a b).length).map (·.1)).length = (sw B w a b (singles a b).length).length := List.length_map ..
    have hna := VA.len
    have hnb := VB.len
    refine .inl ⟨rfl, ((sw B w a b (singles a b).length).map (·.1)).map enc, rfl, sortOk_W _ _ (by omega) hwT (fun z => by have := hw0 z; omega), ?_⟩
    refine ⟨a, b, rfl, by omega, by omega, fun x hx => by have := VA.bd x hx; omega, fun x hx => by have := VB.bd x hx; omega, ?_⟩
    refine ⟨singles a b, pairsW B w a b, rfl, by omega, hpl, fun n hn => ?_, ?_⟩
    · have := oo_few CX hn; omega
    · refine ⟨(oo (singles a b) (pairsW B w a b) (singles a b).length).map enc, rfl, sortOk_W _ _ (by omega) hoT (fun z => by have := hw0 z; omega), ?_⟩
      rw [sortD_E, sortD_E, ← hws]
      refine ⟨_, dneL (α := List Ew) (by decide) _ _, .inl ⟨by simp, ?_⟩⟩
      refine ⟨B, w, a, b, rfl, hr, hn5, KB, V, VA, VB, R, _, hwc, ?_⟩
      show dlen [encL ((sw B w a b (singles a b).length).map (·.1))] _
      rw [len_L, hml]
      exact ⟨.int _, rfl, .inl ⟨_, rfl⟩, h⟩

end
end HB

set_option Elab.async false
set_option linter.all false
set_option maxRecDepth 100000
set_option maxHeartbeats 4000000
set_option autoImplicit false
namespace HB
open PySem PySem.Spec L2
open En (enc)
section
variable {P : Program} {w : World} {K : PySem.W.Frag} {mg : Str → Option Value} {base : Heap}
local macro_rules | `(tactic| walk_at "rd") => `(tactic| simp [-List.any_eq_true, -List.any_eq_false, sSeq, sIf, sRt, sNx, sAs, sOw, sFz, sDo, sNo, sApp, gNm, gTp_t, gC_c, gN_n, xB, xZ, xA, xK, getZ, getA, fzz, x2, xAnd, xOr, xNot, xAndV, xOrV, xNotV, xIf, xChain, xFn, xTup, xLst, xNil, xCons, xCatL, xCatT, xSlL, xSlT, xNoP, xSoP, xThenL, xTupOf, xRngL, xSort, xSortSet, xSortK, xSumV, xDget, xDictOf, xTIndex, xTupF, xCatF, xRevT, xRngL3, xRngT, xRow, gRow, xLen0, xCell, xCallR, xIsi, xIsi2, xCall, xDnew, xDone, xGetD, xInD, xYes, sFor, iL, iT, iR1, iR2, iR3, iEnT, iEnL, iKs, iLn, xLc, kOk_p, any_p, dlk_p, put_p, dne0_p, deq0_p, dne0_i, dne0_w, deq0_w, encM_len, sMix, xMo, xMf, xMn, setS, gSbD, gSb, cut_take, cut_drop, ex2_eq, kOk_kk, put_kk, kOk_k3, dlk_k3, put_k3, itw0, itw1, wb_nt, wb_tu, wb_len, kOk_h, dlk_h, put_h, getD_h, sAugM, rngD_0, wip, dseq_t, dseq_l, deq_il, rngD_rg, dnD_dn, disN_n, dnotN_n, isNo, start', startR, rwAt, rwSet, dint, itb0, itb1, itb2, bk_nt, bk_tu, bk_len, encL_list, list_encL, len_L, len_l, len_t, it2_0, it2_1, it3_0, it3_1, it3_2, il2_0, il2_1, il1_0, it2_v, it2_n, icmp_i, isub_i, iadd_i, din_i, din_iL, deq_i, dne_i, deq_b, dne_b, nd_i, nd_b, nd_s, nd_n, nd_l, nd_t, ik_ii, ik_ib, ik_tt, small, dabs, dmax2, sum_L, enc_i, enc_b, enc_k, enc_p, enc_3, enc_l])
/-- the law's own spec: the script's list, as it stands -/
def spL (K : PySem.W.Frag) : Sp := fun vs H Q _ => ∃ (a : Addr) (ns : List Int), vs = [.ref a] ∧ SqL K H a (ns.map V.int) ∧ ∀ H', Q (.bl true) H'
def tLstK (K : PySem.W.Frag) (t : TA) : TE := fun σ H Q => t σ H fun xs H1 => xs.length ≤ sizeLine ∧ ∀ p, H1 p = none → K.lookup p = none → Q (.ref p) (upd H1 p (.lst xs))
theorem pe_lstK {X : Cx} {es : List Expr} {t : TA} {pos : Pos} (h : PA X es t) : PE X (.List es pos) (tLstK X.K t) := by
  refine ⟨fun pins s σ H Q I hq => ?_⟩
  refine wpAny_List_spliced (thn (h.run pos pins s σ H _ I hq) fun us s1 ⟨xs, H1, I1, r, z, q⟩ => ⟨by rw [← r.length]; exact z, ?_⟩)
  have hf : H1 s1.heap.objs.size = none := I1.hok.fresh (Nat.le_refl _)
  have hk : X.K.lookup s1.heap.objs.size = none := by
    cases e : X.K.lookup s1.heap.objs.size with
    | none => rfl
    | some o => exact absurd (Heap.lt_size (I1.kIn _ o e)) (Nat.lt_irrefl _)
  refine ⟨.ref s1.heap.objs.size, upd H1 s1.heap.objs.size (.lst xs), I1.laid (t' := s1.toks) (fun b u e => Heap.get?_push_of_some _ e) (Nat.le_refl _) ?_, rfl, q _ hf hk⟩
  exact ⟨z, us, 0, r, Heap.get?_push_size _ rfl⟩
theorem sql_up {K : PySem.W.Frag} {H : Hp} {a r : Addr} {xs : List V} {o : HO} (h : SqL K H a xs) (n : H r = none) : SqL K (upd H r o) a xs := by
  have up : ∀ b u, H b = some u → upd H r o b = some u := fun b u e => by
    unfold upd
    split
    · rename_i z; rw [z, n] at e; cases e
    · exact e
  rcases h with (h | ⟨o', h⟩) | h
  · exact .inl (.inl (up _ _ h))
  · exact .inl (.inr ⟨o', up _ _ h⟩)
  · exact .inr h
theorem okLaw (G_order_pairs : Df P w K mg base "order_pairs" 10 S_order_pairs) (G_ways_count : Df P w K mg base "ways_count" 10 S_ways_count) (G_law_kept : DfR P w K mg base "_law_kept" 15 S_law_kept) (G_law_web : DfR P w K mg base "_law_web" 2 S_law_web) (G_law_heights : DfR P w K mg base "_law_heights" 2 S_law_heights) (G_law_reached : DfR P w K mg base "_law_reached" 3 S_law_reached) (G_law_ahead : Df P w K mg base "_law_ahead" 12 S_law_ahead) (G_law_alike : Df P w K mg base "_law_alike" 7 S_law_alike) (G_law_straight_words : Df P w K mg base "_law_straight_words" 3 S_law_straight_words) (G_law_orders_of : Df P w K mg base "_law_orders_of" 1 S_law_orders_of) (G_law_singles : Df P w K mg base "_law_singles" 2 S_law_singles) (h_len : mg "len" = none) (h_sorted : mg "sorted" = none) (h_tuple : mg "tuple" = none) {f : Addr} {fd : FuncData} (Fd : FunD K "law" "law" (defArgs (top 90)) (defBody (top 90)) (defScope (top 90)) [] [] f fd) : FnOk P w K mg base CX0 16 f fd ["_law_script"] (spL K) := by
  refine Fd.ok sc_law (fun vs H Q E h => by obtain ⟨a, ns, rfl, _⟩ := h; rfl) (fun cdv A outer s H vs Q E hr h => ?_)
  obtain ⟨a, ns, rfl, hS, hQ⟩ := h
  have rest : ∃ u : Cc → PSt, (∀ C : Cc, C.P = P → C.w = w → C.K = K → JB (bX P w K mg base N_law "law" (defScope (top 90)) f cdv A outer s H E) C ((defBody (top 90)).tail) (u C)) ∧ ∀ (W : PyData → Prop), W (.bool true) → ∀ C : Cc, C.ns = ns → u C { nx := fun _ _ => False, rt := fun d _ => W d } [.no, .row, .no, .no, .no, .no, .no, .no] (0, 9928, 0) := by
    refine ⟨fun C => _, fun C hP hw hK => (jbcons (jpar2 (is_ := [2, 3]) sc_law.nd (jmfz (jcallR G_law_kept ⟨hP, hw, hK⟩ hr 1 (pv 1) (jcons ji jnil)) (jmfz (jcallR G_law_web ⟨hP, hw, hK⟩ (hr.mono (by decide)) 1 (pv 1) (jcons ji jnil)) jmnil)))
    (jbcons (jset (i := 4) sc_law.nd (jcallR G_law_heights ⟨hP, hw, hK⟩ (hr.mono (by decide)) 1 (pv 1) (jcons (jix (ja 3) (jc ji)) (jcons (jix (ja 2) (jc ji)) jnil))))
    (jbcons (jset (i := 5) sc_law.nd (jcallR G_law_reached ⟨hP, hw, hK⟩ (hr.mono (by decide)) 1 (pv 1) (jcons (jz 2) (jcons (jz 3) (jcons (jz 4) (jcons ji jnil))))))
    (jbcons (jset (i := 6) sc_law.nd (jcall G_law_ahead ⟨hP, hw⟩ (hr.mono (by decide)) (jcons (jz 2) (jcons (jz 3) (jcons (jz 4) (jcons (jz 5) jnil))))))
    (jbcons (jifs (jnot (jt (jc (jcall G_law_alike ⟨hP, hw⟩ (hr.mono (by decide)) (jcons (jcall G_order_pairs ⟨hP, hw⟩ (hr.mono (by decide)) (jcons (jz 2) (jcons (jz 3) (jcons (jz 4) (jcons (jz 5) jnil))))) (jcons (jtupOf h_tuple (ja 6)) jnil)))))) (jbone (jret jb)) jbnil)
    (jbcons (jset (i := 7) sc_law.nd (jcall G_law_straight_words ⟨hP, hw⟩ (hr.mono (by decide)) (jcons (jz 2) (jcons (jz 3) (jcons (jz 4) (jcons (jz 5) (jcons ji jnil)))))))
    (jbcons (jifs (jcmpT o_isN (ja 7) (jc jn)) (jbone (jret (jcmp o_gt (jc (jcall G_ways_count ⟨hP, hw⟩ (hr.mono (by decide)) (jcons (jz 2) (jcons (jz 3) (jcons (jz 4) (jcons (jz 5) jnil)))))) (jc ji)))) jbnil)
    (jbcons (jifs (jcmpT (o_ne hr.units) (jc_f (jsort rfl hr.u_s h_sorted (ja 7))) (jc_f (jsort rfl hr.u_s h_sorted (jc (jcall G_law_orders_of ⟨hP, hw⟩ (hr.mono (by decide)) (jcons (jcall G_law_singles ⟨hP, hw⟩ (hr.mono (by decide)) (jcons (jz 4) (jcons (jz 5) jnil))) (jcons (jz 6) (jcons ji jnil)))))))) (jbone (jret jb)) jbnil)
    (jbone (jret (jcall G_law_alike ⟨hP, hw⟩ (hr.mono (by decide)) (jcons (jcall G_ways_count ⟨hP, hw⟩ (hr.mono (by decide)) (jcons (jz 2) (jcons (jz 3) (jcons (jz 4) (jcons (jz 5) jnil))))) (jcons (jcallB b_len h_len (jccons (ja 7) jcnil)) jnil))))))))))))), fun W h C' hns => ?_⟩
    walk_at "rd"
    refine ⟨by decide, rfl, fun B ρ1 KB hr r1 => ?_⟩
    have V0 := KB.va
    have rr := V0.r0
    walk_at "rd"
    refine ⟨r1, rfl, fun w ρ2 V hn5 r2 => ?_⟩
    have n0 := V.n0
    walk_at "rd"
    refine ⟨r2, w.n, B.r, rfl, by omega, by omega, by omega, by omega, fun a ρ3 hal hab r3 => ?_⟩
    have VA : VHts B w a := ⟨hal, hab⟩
    walk_at "rd"
    refine ⟨r3, B, w, a, rfl, V, VA, fun b k ρ4 hC hk r4 => ?_⟩
    have VB := hC.vh VA
    have R := hC.reach V VA
    have h6 : sumH a b ≤ 6 := by have := hC.off VA; omega
    have CX : Ctx B w a b := ⟨KB, V, VA, VB, R⟩
    have hpl := pairs_len CX hr
    walk_at "rd"
    refine ⟨B, w, a, b, rfl, CX, hr, ?_⟩
    walk_at "rd"
    refine ⟨B, w, a, b, rfl, KB, V, VA, VB, R, ?_⟩
    refine ⟨_, rfl, shape_E3 (by omega), .inr ⟨rfl, ?_⟩⟩
    have hT := singles_len a b
    have hTn : (sumH a b).toNat = (singles a b).length := by omega
    have hwc := wc_count CX
    refine ⟨B, w, a, b, rfl, V, VA, VB, hr, hn5, h6, fun hmany => ?_, fun hfew => ?_⟩
    · refine .inr ⟨rfl, B, w, a, b, rfl, hr, hn5, KB, V, VA, VB, R, _, hwc, _, icmp_i _ _ _, ?_⟩
      have h1 := none_many CX hr hn5 h6 hmany
      rw [decide_eq_true (show ((sw B w a b (singles a b).length).length : Int) > 1 by omega)]
      exact h
    · rw [hTn]
      have h300 := hfew (singles a b).length (by omega)
      have hwl := words_len CX
      have hws := words_sorted CX
      have hsome := words_some CX
      have hwT : ∀ x ∈ (sw B w a b (singles a b).length).map (·.1), x.length = (singles a b).length := fun x hx => by
        obtain ⟨y, hy, rfl⟩ := List.mem_map.mp hx
        exact ((mem_sw VA _ y).mp hy).2
      have hoT : ∀ x ∈ oo (singles a b) (pairsW B w a b) (singles a b).length, x.length = (singles a b).length := fun x hx => ((mem_oo _ x).mp hx).2
      have hw0 : (singles a b).length = 0 → (sw B w a b (singles a b).length).length < 2 := fun z => by rw [z]; simp [sw]
      have hml : ((sw B w a b (singles a b).length).map (·.1)).length = (sw B w a b (singles a b).length).length := List.length_map ..
      have hna := VA.len
      have hnb := VB.len
      refine .inl ⟨rfl, ((sw B w a b (singles a b).length).map (·.1)).map enc, rfl, sortOk_W _ _ (by omega) hwT (fun z => by have := hw0 z; omega), ?_⟩
      refine ⟨a, b, rfl, by omega, by omega, fun x hx => by have := VA.bd x hx; omega, fun x hx => by have := VB.bd x hx; omega, ?_⟩
      refine ⟨singles a b, pairsW B w a b, rfl, by omega, hpl, fun n hn => ?_, ?_⟩
      · have := oo_few CX hn; omega
      · refine ⟨(oo (singles a b) (pairsW B w a b) (singles a b).length).map enc, rfl, sortOk_W _ _ (by omega) hoT (fun z => by have := hw0 z; omega), ?_⟩
        rw [sortD_E, sortD_E, ← hws]
        refine ⟨_, dneL (α := List Ew) (by decide) _ _, .inl ⟨by simp, ?_⟩⟩
        refine ⟨B, w, a, b, rfl, hr, hn5, KB, V, VA, VB, R, _, hwc, ?_⟩
        show dlen [encL ((sw B w a b (singles a b).length).map (·.1))] _
        rw [len_L, hml]
        exact ⟨.int _, rfl, .inl ⟨_, rfl⟩, h⟩
  obtain ⟨u, hu, hrest⟩ := rest
  have tl : PSs (bX P w K mg base N_law "law" (defScope (top 90)) f cdv A outer s H E) ((defBody (top 90)).tail) fun D σ H1 => ∃ C : Cc, C.P = P ∧ C.w = w ∧ C.K = K ∧ LS C (u C) D σ H1 := ⟨fun pins s σ H1 D I ⟨C, h1, h2, h3, q⟩ => (hu C h1 h2 h3).run pins s σ H1 D I q⟩
  refine ⟨_, PSs.nox (pss_cons (ps_set (i := 1) sc_law.nd rfl (Or.inl rfl) (pe_lstK (pa_cons (pv 0) (pa_cons pe_int (pa_cons pe_int (pa_cons pe_int pa_nil)))))) tl), ?_⟩
  refine ⟨.ref a, rfl, (show 4 ≤ sizeLine by decide), fun r hr0 hk0 => ?_⟩
  have hne : a ≠ r := fun z => by
    subst z
    rcases hS with (h | ⟨o', h⟩) | ⟨o', _, _, h, _⟩
    · rw [hr0] at h; cases h
    · rw [hr0] at h; cases h
    · have hk1 : List.lookup a K = none := hk0
      rw [hk1] at h; cases h
  have hup : upd H r (HO.lst [V.ref a, V.int 0, V.int 9928, V.int 0]) r = some (HO.lst [V.ref a, V.int 0, V.int 9928, V.int 0]) := upd_same
  let C' : Cc := ⟨P, w, K, H, upd H r (HO.lst [V.ref a, V.int 0, V.int 9928, V.int 0]), some r, a, ns⟩
  have R' : Rl C' [.no, .row, .no, .no, .no, .no, .no, .no] (0, 9928, 0) ((L2.start N_law [V.ref a]).set 1 (some (V.ref r))) H (upd H r (HO.lst [V.ref a, V.int 0, V.int 9928, V.int 0])) := {
    len := rfl
    slot := fun j sl e => by
      rcases j with _ | _ | _ | _ | _ | _ | _ | _ | j
      · cases e; trivial
      · cases e; exact ⟨r, rfl, rfl⟩
      all_goals first | (cases e; trivial) | (simp at e)
    apart := fun i j di dj x e1 _ _ _ => by
      exfalso
      rcases i with _ | _ | _ | _ | _ | _ | _ | _ | i
      all_goals first | (cases e1) | (simp at e1)
    same := fun b o _ z => z
    frz := fun b o z => by
      unfold upd
      split
      · rename_i y; rw [y, hr0] at z; cases z
      · exact z
    ext := fun _ _ _ => rfl
    old := Same.refl _
    row := fun r' z => by
      cases z
      exact ⟨by show upd H r _ r ≠ none; rw [hup]; simp, hr0, hup, hne, sql_up hS hr0⟩ }
  refine ⟨C', rfl, rfl, rfl, _, _, H, _, R', hrest (fun d => d = .bool true) rfl C' rfl, ⟨fun δ ρ σ F' H' s' R2 z => z.elim, fun v d δ2 ρ2 σ2 F' H' s' R2 i2 z => ?_, fun _ _ _ _ _ _ _ z => z.elim, fun _ _ _ _ _ _ _ z => z.elim⟩⟩
  have z : d = .bool true := z
  subst z
  have : v = .bl true := by cases i2 with
    | bl => rfl
    | ref _ h => cases h
  rw [this]; exact hQ H'
end
end HB

namespace HBH
open PySem PySem.Spec PyProof.Rows L2 HB
set_option maxHeartbeats 4000000
theorem facts {P : Program} {w : World} {K : PySem.W.Frag} {h : Heap} {mg : Str → Option Value} {f : Addr} (X : K.In h) (G : h.Ns mainGlobals mg) (hfa : mg ("law" : Str) = some (.ref f)) (c : He.SaysD fa fn K) :
    ∃ fd : FuncData, (∀ (s : Shared) (v : Value), BindsTo s fd ⟨[v], []⟩ [("_law_script", v)]) ∧ ∀ base : Heap, K.In base → base.Ns mainGlobals mg → FnOk P w K mg base CX0 16 f fd ["_law_script"] (spL K) := by
  obtain ⟨fd9, F9⟩ := c.def_ 0 (d := d9) rfl
  obtain ⟨fd12, F12⟩ := c.def_ 1 (d := d12) rfl
  obtain ⟨fd13, F13⟩ := c.def_ 2 (d := d13) rfl
  obtain ⟨fd14, F14⟩ := c.def_ 3 (d := d14) rfl
  obtain ⟨fd16, F16⟩ := c.def_ 4 (d := d16) rfl
  obtain ⟨fd17, F17⟩ := c.def_ 5 (d := d17) rfl
  obtain ⟨fd18, F18⟩ := c.def_ 6 (d := d18) rfl
  obtain ⟨fd20, F20⟩ := c.def_ 7 (d := d20) rfl
  obtain ⟨fd21, F21⟩ := c.def_ 8 (d := d21) rfl
  obtain ⟨fd22, F22⟩ := c.def_ 9 (d := d22) rfl
  obtain ⟨fd24, F24⟩ := c.def_ 10 (d := d24) rfl
  obtain ⟨fd25, F25⟩ := c.def_ 11 (d := d25) rfl
  obtain ⟨fd26, F26⟩ := c.def_ 12 (d := d26) rfl
  obtain ⟨fd27, F27⟩ := c.def_ 13 (d := d27) rfl
  obtain ⟨fd28, F28⟩ := c.def_ 14 (d := d28) rfl
  obtain ⟨fd29, F29⟩ := c.def_ 15 (d := d29) rfl
  obtain ⟨fd30, F30⟩ := c.def_ 16 (d := d30) rfl
  obtain ⟨fd31, F31⟩ := c.def_ 17 (d := d31) rfl
  obtain ⟨fd33, F33⟩ := c.def_ 18 (d := d33) rfl
  obtain ⟨fd34, F34⟩ := c.def_ 19 (d := d34) rfl
  obtain ⟨fd35, F35⟩ := c.def_ 20 (d := d35) rfl
  obtain ⟨fd37, F37⟩ := c.def_ 21 (d := d37) rfl
  obtain ⟨fd38, F38⟩ := c.def_ 22 (d := d38) rfl
  obtain ⟨fd41, F41⟩ := c.def_ 23 (d := d41) rfl
  obtain ⟨fd42, F42⟩ := c.def_ 24 (d := d42) rfl
  obtain ⟨fd43, F43⟩ := c.def_ 25 (d := d43) rfl
  obtain ⟨fd44, F44⟩ := c.def_ 26 (d := d44) rfl
  obtain ⟨fd45, F45⟩ := c.def_ 27 (d := d45) rfl
  obtain ⟨fd46, F46⟩ := c.def_ 28 (d := d46) rfl
  obtain ⟨fd48, F48⟩ := c.def_ 29 (d := d48) rfl
  obtain ⟨fd51, F51⟩ := c.def_ 30 (d := d51) rfl
  obtain ⟨fd52, F52⟩ := c.def_ 31 (d := d52) rfl
  obtain ⟨fd53, F53⟩ := c.def_ 32 (d := d53) rfl
  obtain ⟨fd54, F54⟩ := c.def_ 33 (d := d54) rfl
  obtain ⟨fd55, F55⟩ := c.def_ 34 (d := d55) rfl
  obtain ⟨fd56, F56⟩ := c.def_ 35 (d := d56) rfl
  obtain ⟨fd57, F57⟩ := c.def_ 36 (d := d57) rfl
  obtain ⟨fd58, F58⟩ := c.def_ 37 (d := d58) rfl
  obtain ⟨fd60, F60⟩ := c.def_ 38 (d := d60) rfl
  obtain ⟨fd61, F61⟩ := c.def_ 39 (d := d61) rfl
  obtain ⟨fd62, F62⟩ := c.def_ 40 (d := d62) rfl
  obtain ⟨fd63, F63⟩ := c.def_ 41 (d := d63) rfl
  obtain ⟨fd64, F64⟩ := c.def_ 42 (d := d64) rfl
  obtain ⟨fd65, F65⟩ := c.def_ 43 (d := d65) rfl
  obtain ⟨fd66, F66⟩ := c.def_ 44 (d := d66) rfl
  obtain ⟨fd67, F67⟩ := c.def_ 45 (d := d67) rfl
  obtain ⟨fd68, F68⟩ := c.def_ 46 (d := d68) rfl
  obtain ⟨fd69, F69⟩ := c.def_ 47 (d := d69) rfl
  obtain ⟨fd70, F70⟩ := c.def_ 48 (d := d70) rfl
  obtain ⟨fd71, F71⟩ := c.def_ 49 (d := d71) rfl
  obtain ⟨fd72, F72⟩ := c.def_ 50 (d := d72) rfl
  obtain ⟨fd73, F73⟩ := c.def_ 51 (d := d73) rfl
  obtain ⟨fd74, F74⟩ := c.def_ 52 (d := d74) rfl
  obtain ⟨fd75, F75⟩ := c.def_ 53 (d := d75) rfl
  obtain ⟨fd76, F76⟩ := c.def_ 54 (d := d76) rfl
  obtain ⟨fd77, F77⟩ := c.def_ 55 (d := d77) rfl
  obtain ⟨fd78, F78⟩ := c.def_ 56 (d := d78) rfl
  obtain ⟨fd79, F79⟩ := c.def_ 57 (d := d79) rfl
  obtain ⟨fd80, F80⟩ := c.def_ 58 (d := d80) rfl
  obtain ⟨fd81, F81⟩ := c.def_ 59 (d := d81) rfl
  obtain ⟨fd82, F82⟩ := c.def_ 60 (d := d82) rfl
  obtain ⟨fd83, F83⟩ := c.def_ 61 (d := d83) rfl
  obtain ⟨fd84, F84⟩ := c.def_ 62 (d := d84) rfl
  obtain ⟨fd85, F85⟩ := c.def_ 63 (d := d85) rfl
  obtain ⟨fd86, F86⟩ := c.def_ 64 (d := d86) rfl
  obtain ⟨fd87, F87⟩ := c.def_ 65 (d := d87) rfl
  obtain ⟨fd88, F88⟩ := c.def_ 66 (d := d88) rfl
  obtain ⟨fd89, F89⟩ := c.def_ 67 (d := d89) rfl
  obtain ⟨fd90, F90⟩ := c.def_ 68 (d := d90) rfl
  have e := hfa.symm.trans (He.glo_ok X G (c.fact 68 (f := .glo "law") rfl))
  cases e
  have Fn_is_in : Fn K mg "is_in" "is_in" 9 := ⟨_, fd9, F9, He.glo_ok X G (c.fact 0 (f := .glo "is_in") rfl)⟩
  have Fn_is_row : Fn K mg "is_row" "is_row" 12 := ⟨_, fd12, F12, He.glo_ok X G (c.fact 1 (f := .glo "is_row") rfl)⟩
  have Fn_need_book : Fn K mg "need_book" "need_book" 13 := ⟨_, fd13, F13, He.glo_ok X G (c.fact 2 (f := .glo "need_book") rfl)⟩
  have Fn_lets : Fn K mg "lets" "lets" 14 := ⟨_, fd14, F14, He.glo_ok X G (c.fact 3 (f := .glo "lets") rfl)⟩
  have Fn_all_pairs : Fn K mg "all_pairs" "all_pairs" 16 := ⟨_, fd16, F16, He.glo_ok X G (c.fact 4 (f := .glo "all_pairs") rfl)⟩
  have Fn_behind : Fn K mg "behind" "behind" 17 := ⟨_, fd17, F17, He.glo_ok X G (c.fact 5 (f := .glo "behind") rfl)⟩
  have Fn_deeds_in_twos : Fn K mg "deeds_in_twos" "deeds_in" 18 := ⟨_, fd18, F18, He.glo_ok X G (c.fact 6 (f := .glo "deeds_in_twos") rfl)⟩
  have Fn_from_in : Fn K mg "from_in" "from_in" 20 := ⟨_, fd20, F20, He.glo_ok X G (c.fact 7 (f := .glo "from_in") rfl)⟩
  have Fn_off : Fn K mg "off" "off" 21 := ⟨_, fd21, F21, He.glo_ok X G (c.fact 8 (f := .glo "off") rfl)⟩
  have Fn_crooked_in : Fn K mg "crooked_in" "crooked_in" 22 := ⟨_, fd22, F22, He.glo_ok X G (c.fact 9 (f := .glo "crooked_in") rfl)⟩
  have Fn_shuffles_in : Fn K mg "shuffles_in" "shuffles_in" 24 := ⟨_, fd24, F24, He.glo_ok X G (c.fact 10 (f := .glo "shuffles_in") rfl)⟩
  have Fn_way : Fn K mg "way" "way" 25 := ⟨_, fd25, F25, He.glo_ok X G (c.fact 11 (f := .glo "way") rfl)⟩
  have Fn_bounds : Fn K mg "bounds" "bounds" 26 := ⟨_, fd26, F26, He.glo_ok X G (c.fact 12 (f := .glo "bounds") rfl)⟩
  have Fn_told_in : Fn K mg "told_in" "told_in" 27 := ⟨_, fd27, F27, He.glo_ok X G (c.fact 13 (f := .glo "told_in") rfl)⟩
  have Fn_counted : Fn K mg "counted" "counted" 28 := ⟨_, fd28, F28, He.glo_ok X G (c.fact 14 (f := .glo "counted") rfl)⟩
  have Fn_is_told_in : Fn K mg "is_told_in" "is_told_in" 29 := ⟨_, fd29, F29, He.glo_ok X G (c.fact 15 (f := .glo "is_told_in") rfl)⟩
  have Fn_courses_in : Fn K mg "courses_in" "courses_in" 30 := ⟨_, fd30, F30, He.glo_ok X G (c.fact 16 (f := .glo "courses_in") rfl)⟩
  have Fn_untold_in : Fn K mg "untold_in" "untold_in" 31 := ⟨_, fd31, F31, He.glo_ok X G (c.fact 17 (f := .glo "untold_in") rfl)⟩
  have Fn_all_kinds : Fn K mg "all_kinds" "all_kinds" 33 := ⟨_, fd33, F33, He.glo_ok X G (c.fact 18 (f := .glo "all_kinds") rfl)⟩
  have Fn_leads_in : Fn K mg "leads_in" "leads_in" 34 := ⟨_, fd34, F34, He.glo_ok X G (c.fact 19 (f := .glo "leads_in") rfl)⟩
  have Fn_ranks_in : Fn K mg "ranks_in" "ranks_in" 35 := ⟨_, fd35, F35, He.glo_ok X G (c.fact 20 (f := .glo "ranks_in") rfl)⟩
  have Fn_verdict_in : Fn K mg "verdict_in" "verdict_in" 37 := ⟨_, fd37, F37, He.glo_ok X G (c.fact 21 (f := .glo "verdict_in") rfl)⟩
  have Fn_need_kept : Fn K mg "need_kept" "need_kept" 38 := ⟨_, fd38, F38, He.glo_ok X G (c.fact 22 (f := .glo "need_kept") rfl)⟩
  have Fn_is_edge : Fn K mg "is_edge" "is_edge" 41 := ⟨_, fd41, F41, He.glo_ok X G (c.fact 23 (f := .glo "is_edge") rfl)⟩
  have Fn_need_web : Fn K mg "need_web" "need_web" 42 := ⟨_, fd42, F42, He.glo_ok X G (c.fact 24 (f := .glo "need_web") rfl)⟩
  have Fn_need_heights : Fn K mg "need_heights" "need_heights" 43 := ⟨_, fd43, F43, He.glo_ok X G (c.fact 25 (f := .glo "need_heights") rfl)⟩
  have Fn_beside : Fn K mg "beside" "beside" 44 := ⟨_, fd44, F44, He.glo_ok X G (c.fact 26 (f := .glo "beside") rfl)⟩
  have Fn_is_let : Fn K mg "is_let" "is_let" 45 := ⟨_, fd45, F45, He.glo_ok X G (c.fact 27 (f := .glo "is_let") rfl)⟩
  have Fn_deeds_in_webs : Fn K mg "deeds_in_webs" "deeds_in" 46 := ⟨_, fd46, F46, He.glo_ok X G (c.fact 28 (f := .glo "deeds_in_webs") rfl)⟩
  have Fn_changed : Fn K mg "changed" "changed" 48 := ⟨_, fd48, F48, He.glo_ok X G (c.fact 29 (f := .glo "changed") rfl)⟩
  have Fn_bars_in : Fn K mg "bars_in" "bars_in" 51 := ⟨_, fd51, F51, He.glo_ok X G (c.fact 30 (f := .glo "bars_in") rfl)⟩
  have Fn_need_kept_both : Fn K mg "need_kept_both" "need_kept_both" 52 := ⟨_, fd52, F52, He.glo_ok X G (c.fact 31 (f := .glo "need_kept_both") rfl)⟩
  have Fn_sum_of : Fn K mg "sum_of" "sum_of" 53 := ⟨_, fd53, F53, He.glo_ok X G (c.fact 32 (f := .glo "sum_of") rfl)⟩
  have Fn_need_way : Fn K mg "need_way" "need_way" 54 := ⟨_, fd54, F54, He.glo_ok X G (c.fact 33 (f := .glo "need_way") rfl)⟩
  have Fn_pairs_in : Fn K mg "pairs_in" "pairs_in" 55 := ⟨_, fd55, F55, He.glo_ok X G (c.fact 34 (f := .glo "pairs_in") rfl)⟩
  have Fn_order_pairs : Fn K mg "order_pairs" "order_pairs" 56 := ⟨_, fd56, F56, He.glo_ok X G (c.fact 35 (f := .glo "order_pairs") rfl)⟩
  have Fn_nearer : Fn K mg "nearer" "nearer" 57 := ⟨_, fd57, F57, He.glo_ok X G (c.fact 36 (f := .glo "nearer") rfl)⟩
  have Fn_ways_count : Fn K mg "ways_count" "ways_count" 58 := ⟨_, fd58, F58, He.glo_ok X G (c.fact 37 (f := .glo "ways_count") rfl)⟩
  have Fn_law_taken : Fn K mg "_law_taken" "_law_taken" 60 := ⟨_, fd60, F60, He.glo_ok X G (c.fact 38 (f := .glo "_law_taken") rfl)⟩
  have Fn_law_book : Fn K mg "_law_book" "_law_book" 61 := ⟨_, fd61, F61, He.glo_ok X G (c.fact 39 (f := .glo "_law_book") rfl)⟩
  have Fn_law_pairs : Fn K mg "_law_pairs" "_law_pairs" 62 := ⟨_, fd62, F62, He.glo_ok X G (c.fact 40 (f := .glo "_law_pairs") rfl)⟩
  have Fn_law_lets : Fn K mg "_law_lets" "_law_lets" 63 := ⟨_, fd63, F63, He.glo_ok X G (c.fact 41 (f := .glo "_law_lets") rfl)⟩
  have Fn_law_two : Fn K mg "_law_two" "_law_two" 64 := ⟨_, fd64, F64, He.glo_ok X G (c.fact 42 (f := .glo "_law_two") rfl)⟩
  have Fn_law_from : Fn K mg "_law_from" "_law_from" 65 := ⟨_, fd65, F65, He.glo_ok X G (c.fact 43 (f := .glo "_law_from") rfl)⟩
  have Fn_law_off : Fn K mg "_law_off" "_law_off" 66 := ⟨_, fd66, F66, He.glo_ok X G (c.fact 44 (f := .glo "_law_off") rfl)⟩
  have Fn_law_straight : Fn K mg "_law_straight" "_law_straight" 67 := ⟨_, fd67, F67, He.glo_ok X G (c.fact 45 (f := .glo "_law_straight") rfl)⟩
  have Fn_law_shuffles : Fn K mg "_law_shuffles" "_law_shuffles" 68 := ⟨_, fd68, F68, He.glo_ok X G (c.fact 46 (f := .glo "_law_shuffles") rfl)⟩
  have Fn_law_courses : Fn K mg "_law_courses" "_law_courses" 69 := ⟨_, fd69, F69, He.glo_ok X G (c.fact 47 (f := .glo "_law_courses") rfl)⟩
  have Fn_law_way : Fn K mg "_law_way" "_law_way" 70 := ⟨_, fd70, F70, He.glo_ok X G (c.fact 48 (f := .glo "_law_way") rfl)⟩
  have Fn_law_orders : Fn K mg "_law_orders" "_law_orders" 71 := ⟨_, fd71, F71, He.glo_ok X G (c.fact 49 (f := .glo "_law_orders") rfl)⟩
  have Fn_law_lines : Fn K mg "_law_lines" "_law_lines" 72 := ⟨_, fd72, F72, He.glo_ok X G (c.fact 50 (f := .glo "_law_lines") rfl)⟩
  have Fn_law_told : Fn K mg "_law_told" "_law_told" 73 := ⟨_, fd73, F73, He.glo_ok X G (c.fact 51 (f := .glo "_law_told") rfl)⟩
  have Fn_law_is_told : Fn K mg "_law_is_told" "_law_is_told" 74 := ⟨_, fd74, F74, He.glo_ok X G (c.fact 52 (f := .glo "_law_is_told") rfl)⟩
  have Fn_law_kinds : Fn K mg "_law_kinds" "_law_kinds" 75 := ⟨_, fd75, F75, He.glo_ok X G (c.fact 53 (f := .glo "_law_kinds") rfl)⟩
  have Fn_law_leads : Fn K mg "_law_leads" "_law_leads" 76 := ⟨_, fd76, F76, He.glo_ok X G (c.fact 54 (f := .glo "_law_leads") rfl)⟩
  have Fn_law_rises : Fn K mg "_law_rises" "_law_rises" 77 := ⟨_, fd77, F77, He.glo_ok X G (c.fact 55 (f := .glo "_law_rises") rfl)⟩
  have Fn_law_verdict : Fn K mg "_law_verdict" "_law_verdict" 78 := ⟨_, fd78, F78, He.glo_ok X G (c.fact 56 (f := .glo "_law_verdict") rfl)⟩
  have Fn_law_kept : Fn K mg "_law_kept" "_law_kept" 79 := ⟨_, fd79, F79, He.glo_ok X G (c.fact 57 (f := .glo "_law_kept") rfl)⟩
  have Fn_law_web : Fn K mg "_law_web" "_law_web" 80 := ⟨_, fd80, F80, He.glo_ok X G (c.fact 58 (f := .glo "_law_web") rfl)⟩
  have Fn_law_heights : Fn K mg "_law_heights" "_law_heights" 81 := ⟨_, fd81, F81, He.glo_ok X G (c.fact 59 (f := .glo "_law_heights") rfl)⟩
  have Fn_law_after : Fn K mg "_law_after" "_law_after" 82 := ⟨_, fd82, F82, He.glo_ok X G (c.fact 60 (f := .glo "_law_after") rfl)⟩
  have Fn_law_pick : Fn K mg "_law_pick" "_law_pick" 83 := ⟨_, fd83, F83, He.glo_ok X G (c.fact 61 (f := .glo "_law_pick") rfl)⟩
  have Fn_law_reached : Fn K mg "_law_reached" "_law_reached" 84 := ⟨_, fd84, F84, He.glo_ok X G (c.fact 62 (f := .glo "_law_reached") rfl)⟩
  have Fn_law_ahead : Fn K mg "_law_ahead" "_law_ahead" 85 := ⟨_, fd85, F85, He.glo_ok X G (c.fact 63 (f := .glo "_law_ahead") rfl)⟩
  have Fn_law_alike : Fn K mg "_law_alike" "_law_alike" 86 := ⟨_, fd86, F86, He.glo_ok X G (c.fact 64 (f := .glo "_law_alike") rfl)⟩
  have Fn_law_straight_words : Fn K mg "_law_straight_words" "_law_straight_words" 87 := ⟨_, fd87, F87, He.glo_ok X G (c.fact 65 (f := .glo "_law_straight_words") rfl)⟩
  have Fn_law_orders_of : Fn K mg "_law_orders_of" "_law_orders_of" 88 := ⟨_, fd88, F88, He.glo_ok X G (c.fact 66 (f := .glo "_law_orders_of") rfl)⟩
  have Fn_law_singles : Fn K mg "_law_singles" "_law_singles" 89 := ⟨_, fd89, F89, He.glo_ok X G (c.fact 67 (f := .glo "_law_singles") rfl)⟩
  have h_abs : mg "abs" = none := He.free_ok X G (c.fact 69 (f := .free "abs") rfl)
  have h_bool : mg "bool" = none := He.free_ok X G (c.fact 70 (f := .free "bool") rfl)
  have h_dict : mg "dict" = none := He.free_ok X G (c.fact 71 (f := .free "dict") rfl)
  have h_enumerate : mg "enumerate" = none := He.free_ok X G (c.fact 72 (f := .free "enumerate") rfl)
  have h_int : mg "int" = none := He.free_ok X G (c.fact 73 (f := .free "int") rfl)
  have h_isinstance : mg "isinstance" = none := He.free_ok X G (c.fact 74 (f := .free "isinstance") rfl)
  have h_len : mg "len" = none := He.free_ok X G (c.fact 75 (f := .free "len") rfl)
  have h_list : mg "list" = none := He.free_ok X G (c.fact 76 (f := .free "list") rfl)
  have h_max : mg "max" = none := He.free_ok X G (c.fact 77 (f := .free "max") rfl)
  have h_min : mg "min" = none := He.free_ok X G (c.fact 78 (f := .free "min") rfl)
  have h_range : mg "range" = none := He.free_ok X G (c.fact 79 (f := .free "range") rfl)
  have h_set : mg "set" = none := He.free_ok X G (c.fact 80 (f := .free "set") rfl)
  have h_sorted : mg "sorted" = none := He.free_ok X G (c.fact 81 (f := .free "sorted") rfl)
  have h_str : mg "str" = none := He.free_ok X G (c.fact 82 (f := .free "str") rfl)
  have h_sum : mg "sum" = none := He.free_ok X G (c.fact 83 (f := .free "sum") rfl)
  have h_tuple : mg "tuple" = none := He.free_ok X G (c.fact 84 (f := .free "tuple") rfl)
  obtain ⟨tk_MOST_ROOF, h_MOST_ROOF⟩ := He.int_ok X G (c.fact 85 (f := .int "MOST_ROOF" 4) rfl)
  obtain ⟨tk_MOST_PLACES, h_MOST_PLACES⟩ := He.int_ok X G (c.fact 86 (f := .int "MOST_PLACES" 8) rfl)
  obtain ⟨tk_MOST_BOX, h_MOST_BOX⟩ := He.int_ok X G (c.fact 87 (f := .int "MOST_BOX" 3000) rfl)
  have b := FunD.bindsA (ps := ["_law_script"]) F90 fun _ _ _ _ _ _ us hl => match us, hl with | [_], _ => rfl
  refine ⟨fd90, fun s v => b s [v] rfl, fun base _ _ => ?_⟩
  have G_behind := df_behind (P := P) (w := w) (K := K) (mg := mg) (base := base)  (Fn_behind := Fn_behind)
  have G_lets := df_lets (P := P) (w := w) (K := K) (mg := mg) (base := base)  (Fn_lets := Fn_lets)
  have G_deeds_in_twos := df_deeds_in_twos (P := P) (w := w) (K := K) (mg := mg) (base := base) (G_lets := G_lets) (Fn_deeds_in_twos := Fn_deeds_in_twos)
  have G_from_in := df_from_in (P := P) (w := w) (K := K) (mg := mg) (base := base) (G_behind := G_behind) (G_deeds_in_twos := G_deeds_in_twos) (Fn_from_in := Fn_from_in)
  have G_bars_in := df_bars_in (P := P) (w := w) (K := K) (mg := mg) (base := base) (G_from_in := G_from_in) (Fn_bars_in := Fn_bars_in)
  have G_is_in := df_is_in (P := P) (w := w) (K := K) (mg := mg) (base := base) (h_bool := h_bool) (h_int := h_int) (h_isinstance := h_isinstance) (Fn_is_in := Fn_is_in)
  have G_is_row := df_is_row (P := P) (w := w) (K := K) (mg := mg) (base := base) (G_is_in := G_is_in) (h_isinstance := h_isinstance) (h_list := h_list) (h_set := h_set) (h_sorted := h_sorted) (h_tuple := h_tuple) (Fn_is_row := Fn_is_row)
  have G_need_book := df_need_book (P := P) (w := w) (K := K) (mg := mg) (base := base) (G_is_in := G_is_in) (G_is_row := G_is_row) (h_MOST_ROOF := h_MOST_ROOF) (h_isinstance := h_isinstance) (h_len := h_len) (h_tuple := h_tuple) (Fn_need_book := Fn_need_book)
  have G_all_pairs := df_all_pairs (P := P) (w := w) (K := K) (mg := mg) (base := base) (h_range := h_range) (Fn_all_pairs := Fn_all_pairs)
  have G_off := df_off (P := P) (w := w) (K := K) (mg := mg) (base := base) (h_abs := h_abs) (Fn_off := Fn_off)
  have G_crooked_in := df_crooked_in (P := P) (w := w) (K := K) (mg := mg) (base := base) (G_all_pairs := G_all_pairs) (G_from_in := G_from_in) (G_off := G_off) (h_sorted := h_sorted) (Fn_crooked_in := Fn_crooked_in)
  have G_shuffles_in := df_shuffles_in (P := P) (w := w) (K := K) (mg := mg) (base := base) (G_lets := G_lets) (G_behind := G_behind) (h_abs := h_abs) (h_range := h_range) (Fn_shuffles_in := Fn_shuffles_in)
  have G_bounds := df_bounds (P := P) (w := w) (K := K) (mg := mg) (base := base) (h_enumerate := h_enumerate) (h_len := h_len) (h_max := h_max) (h_min := h_min) (h_range := h_range) (Fn_bounds := Fn_bounds)
  have G_counted := df_counted (P := P) (w := w) (K := K) (mg := mg) (base := base) (h_max := h_max) (h_range := h_range) (h_sum := h_sum) (Fn := Fn_counted)
  have G_is_told_in := df_is_told_in (P := P) (w := w) (K := K) (mg := mg) (base := base) (G_shuffles_in := G_shuffles_in) (G_bounds := G_bounds) (G_counted := G_counted) (h_abs := h_abs) (h_len := h_len) (Fn_is_told_in := Fn_is_told_in)
  have G_courses_in := df_courses_in (P := P) (w := w) (K := K) (mg := mg) (base := base) (G_all_pairs := G_all_pairs) (G_shuffles_in := G_shuffles_in) (Fn_courses_in := Fn_courses_in)
  have G_untold_in := df_untold_in (P := P) (w := w) (K := K) (mg := mg) (base := base) (G_is_told_in := G_is_told_in) (G_courses_in := G_courses_in) (Fn_untold_in := Fn_untold_in)
  have G_way := df_way (P := P) (w := w) (K := K) (mg := mg) (base := base) (h_list := h_list) (h_range := h_range) (Fn_way := Fn_way)
  have G_all_kinds := df_all_kinds (P := P) (w := w) (K := K) (mg := mg) (base := base) (G_way := G_way) (h_range := h_range) (h_sorted := h_sorted) (Fn_all_kinds := Fn_all_kinds)
  have G_told_in := df_told_in (P := P) (w := w) (K := K) (mg := mg) (base := base) (G_shuffles_in := G_shuffles_in) (G_way := G_way) (G_bounds := G_bounds) (h_enumerate := h_enumerate) (h_len := h_len) (h_range := h_range) (h_sorted := h_sorted) (Fn_told_in := Fn_told_in)
  have G_leads_in := df_leads_in (P := P) (w := w) (K := K) (mg := mg) (base := base) (G_told_in := G_told_in) (G_courses_in := G_courses_in) (G_all_kinds := G_all_kinds) (h_sorted := h_sorted) (Fn_leads_in := Fn_leads_in)
  have G_ranks_in := df_ranks_in (P := P) (w := w) (K := K) (mg := mg) (base := base) (G_all_kinds := G_all_kinds) (G_leads_in := G_leads_in) (h_dict := h_dict) (h_len := h_len) (h_range := h_range) (Fn_ranks_in := Fn_ranks_in)
  have G_verdict_in := df_verdict_in (P := P) (w := w) (K := K) (mg := mg) (base := base) (G_crooked_in := G_crooked_in) (G_untold_in := G_untold_in) (G_ranks_in := G_ranks_in) (Fn_verdict_in := Fn_verdict_in)
  have G_need_kept := df_need_kept (P := P) (w := w) (K := K) (mg := mg) (base := base) (G_need_book := G_need_book) (G_verdict_in := G_verdict_in) (Fn_need_kept := Fn_need_kept)
  have G_is_edge := df_is_edge (P := P) (w := w) (K := K) (mg := mg) (base := base) (G_is_in := G_is_in) (h_isinstance := h_isinstance) (h_len := h_len) (h_tuple := h_tuple) (Fn_is_edge := Fn_is_edge)
  have G_need_web := df_need_web (P := P) (w := w) (K := K) (mg := mg) (base := base) (G_is_in := G_is_in) (G_is_edge := G_is_edge) (h_MOST_PLACES := h_MOST_PLACES) (h_enumerate := h_enumerate) (h_isinstance := h_isinstance) (h_len := h_len) (h_tuple := h_tuple) (Fn_need_web := Fn_need_web)
  have G_need_heights := df_need_heights (P := P) (w := w) (K := K) (mg := mg) (base := base) (G_is_in := G_is_in) (h_enumerate := h_enumerate) (h_isinstance := h_isinstance) (h_len := h_len) (h_tuple := h_tuple) (Fn_need_heights := Fn_need_heights)
  have G_need_kept_both := df_need_kept_both (P := P) (w := w) (K := K) (mg := mg) (base := base) (G_need_kept := G_need_kept) (G_need_web := G_need_web) (G_need_heights := G_need_heights) (Fn_need_kept_both := Fn_need_kept_both)
  have G_need_way := df_need_way (P := P) (w := w) (K := K) (mg := mg) (base := base) (G_bars_in := G_bars_in) (G_need_kept_both := G_need_kept_both) (Fn_need_way := Fn_need_way)
  have G_pairs_in := df_pairs_in (P := P) (w := w) (K := K) (mg := mg) (base := base) (G_way := G_way) (G_told_in := G_told_in) (h_enumerate := h_enumerate) (h_len := h_len) (h_range := h_range) (h_sorted := h_sorted) (Fn_pairs_in := Fn_pairs_in)
  have G_order_pairs := df_order_pairs (P := P) (w := w) (K := K) (mg := mg) (base := base) (G_need_way := G_need_way) (G_pairs_in := G_pairs_in) (h_tuple := h_tuple) (Fn_order_pairs := Fn_order_pairs)
  have G_changed := df_changed (P := P) (w := w) (K := K) (mg := mg) (base := base)  (Fn_changed := Fn_changed)
  have G_sum_of := df_sum_of (P := P) (w := w) (K := K) (mg := mg) (base := base) (h_abs := h_abs) (h_enumerate := h_enumerate) (h_sum := h_sum) (Fn_sum_of := Fn_sum_of)
  have G_beside := df_beside (P := P) (w := w) (K := K) (mg := mg) (base := base)  (Fn_beside := Fn_beside)
  have G_is_let := df_is_let (P := P) (w := w) (K := K) (mg := mg) (base := base) (G_lets := G_lets) (G_beside := G_beside) (Fn_is_let := Fn_is_let)
  have G_deeds_in_webs := df_deeds_in_webs (P := P) (w := w) (K := K) (mg := mg) (base := base) (G_is_let := G_is_let) (h_range := h_range) (Fn_deeds_in_webs := Fn_deeds_in_webs)
  have G_nearer := df_nearer (P := P) (w := w) (K := K) (mg := mg) (base := base) (G_deeds_in_webs := G_deeds_in_webs) (Fn_nearer := Fn_nearer)
  have G_ways_count := df_ways_count (P := P) (w := w) (K := K) (mg := mg) (base := base) (G_changed := G_changed) (G_sum_of := G_sum_of) (G_need_way := G_need_way) (G_nearer := G_nearer) (h_MOST_BOX := h_MOST_BOX) (h_abs := h_abs) (h_enumerate := h_enumerate) (h_range := h_range) (Fn_ways_count := Fn_ways_count)
  have G_law_taken := df_law_taken (P := P) (w := w) (K := K) (mg := mg) (base := base) (h_int := h_int) (h_len := h_len) (Fn_law_taken := Fn_law_taken)
  have G_law_book := df_law_book (P := P) (w := w) (K := K) (mg := mg) (base := base) (G_law_taken := G_law_taken) (h_len := h_len) (h_list := h_list) (h_range := h_range) (h_tuple := h_tuple) (Fn_law_book := Fn_law_book)
  have G_law_pairs := df_law_pairs (P := P) (w := w) (K := K) (mg := mg) (base := base) (h_range := h_range) (Fn_law_pairs := Fn_law_pairs)
  have G_law_lets := df_law_lets (P := P) (w := w) (K := K) (mg := mg) (base := base)  (Fn_law_lets := Fn_law_lets)
  have G_law_shuffles := df_law_shuffles (P := P) (w := w) (K := K) (mg := mg) (base := base) (G_law_lets := G_law_lets) (h_tuple := h_tuple) (Fn_law_shuffles := Fn_law_shuffles)
  have G_law_courses := df_law_courses (P := P) (w := w) (K := K) (mg := mg) (base := base) (G_law_pairs := G_law_pairs) (G_law_shuffles := G_law_shuffles) (Fn_law_courses := Fn_law_courses)
  have G_law_two := df_law_two (P := P) (w := w) (K := K) (mg := mg) (base := base) (G_law_lets := G_law_lets) (h_tuple := h_tuple) (Fn_law_two := Fn_law_two)
  have G_law_from := df_law_from (P := P) (w := w) (K := K) (mg := mg) (base := base) (G_law_two := G_law_two) (Fn_law_from := Fn_law_from)
  have G_law_off := df_law_off (P := P) (w := w) (K := K) (mg := mg) (base := base) (h_len := h_len) (h_max := h_max) (h_range := h_range) (h_sum := h_sum) (Fn_law_off := Fn_law_off)
  have G_law_straight := df_law_straight (P := P) (w := w) (K := K) (mg := mg) (base := base) (G_law_pairs := G_law_pairs) (G_law_from := G_law_from) (G_law_off := G_law_off) (Fn_law_straight := Fn_law_straight)
  have G_law_way := df_law_way (P := P) (w := w) (K := K) (mg := mg) (base := base) (h_range := h_range) (Fn_law_way := Fn_law_way)
  have G_law_orders := df_law_orders (P := P) (w := w) (K := K) (mg := mg) (base := base) (h_len := h_len) (h_range := h_range) (h_sum := h_sum) (Fn_law_orders := Fn_law_orders)
  have G_law_lines := df_law_lines (P := P) (w := w) (K := K) (mg := mg) (base := base)  (Fn_law_lines := Fn_law_lines)
  have G_law_told := df_law_told (P := P) (w := w) (K := K) (mg := mg) (base := base) (G_law_shuffles := G_law_shuffles) (G_law_lines := G_law_lines) (h_sorted := h_sorted) (Fn_law_told := Fn_law_told)
  have G_law_is_told := df_law_is_told (P := P) (w := w) (K := K) (mg := mg) (base := base) (G_law_shuffles := G_law_shuffles) (G_law_way := G_law_way) (G_law_orders := G_law_orders) (G_law_told := G_law_told) (h_len := h_len) (Fn_law_is_told := Fn_law_is_told)
  have G_law_kinds := df_law_kinds (P := P) (w := w) (K := K) (mg := mg) (base := base) (G_law_way := G_law_way) (h_range := h_range) (h_sorted := h_sorted) (Fn_law_kinds := Fn_law_kinds)
  have G_law_leads := df_law_leads (P := P) (w := w) (K := K) (mg := mg) (base := base) (G_law_courses := G_law_courses) (G_law_told := G_law_told) (G_law_kinds := G_law_kinds) (h_sorted := h_sorted) (Fn_law_leads := Fn_law_leads)
  have G_law_rises := df_law_rises (P := P) (w := w) (K := K) (mg := mg) (base := base) (G_law_kinds := G_law_kinds) (G_law_leads := G_law_leads) (Fn_law_rises := Fn_law_rises)
  have G_law_verdict := df_law_verdict (P := P) (w := w) (K := K) (mg := mg) (base := base) (G_law_straight := G_law_straight) (G_law_courses := G_law_courses) (G_law_is_told := G_law_is_told) (G_law_rises := G_law_rises) (Fn_law_verdict := Fn_law_verdict)
  have G_law_kept := df_law_kept (P := P) (w := w) (K := K) (mg := mg) (base := base) (G_law_taken := G_law_taken) (G_law_book := G_law_book) (G_law_courses := G_law_courses) (G_law_verdict := G_law_verdict) (h_len := h_len) (h_range := h_range) (h_tuple := h_tuple) (Fn_law_kept := Fn_law_kept)
  have G_law_web := df_law_web (P := P) (w := w) (K := K) (mg := mg) (base := base) (G_law_taken := G_law_taken) (h_range := h_range) (h_sorted := h_sorted) (h_tuple := h_tuple) (Fn_law_web := Fn_law_web)
  have G_law_heights := df_law_heights (P := P) (w := w) (K := K) (mg := mg) (base := base) (G_law_taken := G_law_taken) (h_range := h_range) (h_tuple := h_tuple) (Fn_law_heights := Fn_law_heights)
  have G_law_after := df_law_after (P := P) (w := w) (K := K) (mg := mg) (base := base) (G_law_lets := G_law_lets) (h_range := h_range) (Fn_law_after := Fn_law_after)
  have G_law_pick := df_law_pick (P := P) (w := w) (K := K) (mg := mg) (base := base) (G_law_taken := G_law_taken) (h_len := h_len) (Fn_law_pick := Fn_law_pick)
  have G_law_reached := df_law_reached (P := P) (w := w) (K := K) (mg := mg) (base := base) (G_law_taken := G_law_taken) (G_law_after := G_law_after) (G_law_pick := G_law_pick) (h_range := h_range) (Fn_law_reached := Fn_law_reached)
  have G_law_ahead := df_law_ahead (P := P) (w := w) (K := K) (mg := mg) (base := base) (G_law_way := G_law_way) (G_law_told := G_law_told) (h_len := h_len) (h_range := h_range) (h_sorted := h_sorted) (Fn_law_ahead := Fn_law_ahead)
  have G_law_alike := df_law_alike (P := P) (w := w) (K := K) (mg := mg) (base := base) (h_bool := h_bool) (h_int := h_int) (h_isinstance := h_isinstance) (h_len := h_len) (h_list := h_list) (h_range := h_range) (h_str := h_str) (h_tuple := h_tuple) (Fn_law_alike := Fn_law_alike)
  have G_law_straight_words := df_law_straight_words (P := P) (w := w) (K := K) (mg := mg) (base := base) (G_law_off := G_law_off) (G_law_after := G_law_after) (h_len := h_len) (h_range := h_range) (Fn_law_straight_words := Fn_law_straight_words)
  have G_law_orders_of := df_law_orders_of (P := P) (w := w) (K := K) (mg := mg) (base := base) (h_len := h_len) (h_range := h_range) (Fn_law_orders_of := Fn_law_orders_of)
  have G_law_singles := df_law_singles (P := P) (w := w) (K := K) (mg := mg) (base := base) (G_law_way := G_law_way) (h_len := h_len) (h_range := h_range) (Fn_law_singles := Fn_law_singles)
  exact okLaw (P := P) (w := w) (K := K) (mg := mg) (base := base) (G_order_pairs := G_order_pairs) (G_ways_count := G_ways_count) (G_law_kept := G_law_kept) (G_law_web := G_law_web) (G_law_heights := G_law_heights) (G_law_reached := G_law_reached) (G_law_ahead := G_law_ahead) (G_law_alike := G_law_alike) (G_law_straight_words := G_law_straight_words) (G_law_orders_of := G_law_orders_of) (G_law_singles := G_law_singles) (h_len := h_len) (h_sorted := h_sorted) (h_tuple := h_tuple) (Fd := F90)
end HBH
set_option maxHeartbeats 0
open PySem PySem.W PySem.Calls PyProof.Rows
theorem PySem.Challenge.cw_heapbooks_k28_whole_orders_of_deeds_holds : PySem.Challenge.rw_heapbooks_k28_whole_orders_of_deeds.Holds := by
  w_on; o_law
  refine HandSHeadRun.head_any (r := HBH.R) (q := view HBH.R.prog [90]) (H := HBH.hk) (ob := HBH.ob) (M := 4000) (loose := HBH.loose) (d := HandSHeadRun.topDef HBH.R.prog 90) (kwd := []) HBH.ob_eq
    (by kernel_rfl) (fun s => by kernel_rfl) HBH.run (by kernel_rfl) (by kernel_rfl) (by kernel_rfl) (by rfl) (by first | assumption | decide +kernel) (by decide +kernel) ⟨rfl, rfl, rfl, rfl, rfl, by decide +kernel⟩ ?hw ?hc
  case hw => w_witness2
  case hc =>
    refine L2.walk_ofE (l := PySem.Challenge.rw_heapbooks_k28_whole_orders_of_deeds) (n := 63) (k := 16) (x := "_law_script") (CX := L2.CX0) rfl (by decide) (by kernel_rfl) ⟨rfl, by decide, by decide⟩ ?F (fun _ _ _ _ z => z)
    intro w mg fa h Y G hmg0
    obtain ⟨K, KX, c⟩ := Y
    have hmg : mg ("law" : PySem.Str) = some (.ref fa) := by
      have e : (HandSHeadRun.topDef HBH.R.prog 90).name = ("law" : PySem.Str) := by kernel_rfl
      rw [← e]
      exact hmg0
    obtain ⟨fd, hb, hF⟩ := HBH.facts (P := (PySem.Challenge.rw_heapbooks_k28_whole_orders_of_deeds).prog) (w := w) KX G hmg c
    exact ⟨K, fd, HB.spL K, KX, hb, fun H a ns hl _ hS => ⟨a, ns, rfl, hS, fun _ => rfl⟩, hF⟩
