import PyProof.Rows.All
import Wide.All
import OpenK.AllK
import Wide.FinOn
import KE.KStateDown
import KE.KDictKeyed
import KE.SortData
import HandS.ForMost
import HandS.Evl
import HandS.Deep
import HandS.Flow
import HandS.Strs
import HandS.Conv
import HandS.Style
import HandS.Star
import HandS.Zip
import HandS.Walk
import HandS.TupAny
import HandS.IsInst
import HandS.Wide
import HandS.SetFor
import HandS.TupSets
import HandS.Defaults
import HandS.Head0
import HandS.Head1
import HandS.Head2
import HandS.HeadEnd
import HandS.HeadHook1
import HandS.HeadHook2
import PySem.Challenge.RW_undermasters_k78_whole_cuts_named_otherw
import KE.GoesMore
import KE.KDictDisplayH
import HandS.DictComp
import KE.DataMinMax
import HandS.SortKw
import HandS.NoneIn
import KE.KStar
-- part KText
set_option Elab.async false
set_option linter.all false
set_option maxRecDepth 100000
set_option maxHeartbeats 4000000
namespace K78
open PySem PySem.Spec PyProof.Rows L2
def topS (i : Nat) : Stmt := PySem.Challenge.pw_undermasters_k78_whole_cuts_named_otherw.main.body.getD i (.Pass ⟨0, 0, 0, 0⟩)
abbrev s_tupled : Stmt := topS 1
abbrev s_set_of : Stmt := topS 2
abbrev s_product : Stmt := topS 3
abbrev s_common_cuts : Stmt := topS 5
abbrev s_is_free : Stmt := topS 6
abbrev s_free_pins : Stmt := topS 7
abbrev s_row_of : Stmt := topS 8
abbrev s_barring_pin : Stmt := topS 9
abbrev s_opens_room : Stmt := topS 10
abbrev s_openers_of : Stmt := topS 11
abbrev s_opened_by : Stmt := topS 12
abbrev s_whole_box : Stmt := topS 14
abbrev s_meeting : Stmt := topS 15
abbrev s_together : Stmt := topS 16
abbrev s_added : Stmt := topS 17
abbrev s_opening_box : Stmt := topS 18
abbrev s_opened_box : Stmt := topS 19
abbrev s_alike_box : Stmt := topS 20
abbrev s_further_counts : Stmt := topS 21
abbrev s_total : Stmt := topS 22
abbrev s_ranks_in : Stmt := topS 23
abbrev s_ranks_of : Stmt := topS 24
abbrev s_who_bars : Stmt := topS 25
abbrev s_is_further : Stmt := topS 26
abbrev s_how_many_further : Stmt := topS 27
abbrev s_further_ranks : Stmt := topS 28
abbrev s_is_harmless : Stmt := topS 30
abbrev s_harmless_counts : Stmt := topS 31
abbrev s_how_many_harmless : Stmt := topS 32
abbrev s_breach : Stmt := topS 33
abbrev s_is_house_closed : Stmt := topS 34
abbrev s_kept_private : Stmt := topS 35
abbrev s__law_box : Stmt := topS 37
abbrev s__law_take : Stmt := topS 38
abbrev s__law_cells : Stmt := topS 39
abbrev s__law_of : Stmt := topS 40
abbrev s__law_pick : Stmt := topS 41
abbrev s__law_same : Stmt := topS 42
abbrev s__law_deep : Stmt := topS 43
abbrev s__law_tooth : Stmt := topS 44
abbrev s__law_chief : Stmt := topS 45
abbrev s__law_stars : Stmt := topS 46
abbrev s__law_lets : Stmt := topS 47
abbrev s__law_loud : Stmt := topS 48
abbrev s__law_teeth : Stmt := topS 49
abbrev s__law_quiet : Stmt := topS 50
abbrev s__law_named : Stmt := topS 51
abbrev s__law_named_right : Stmt := topS 52
abbrev s__law_pin_right : Stmt := topS 53
abbrev s__law_master_right : Stmt := topS 54
abbrev s__law_whole_right : Stmt := topS 55
abbrev s__law_by_hand_right : Stmt := topS 56
abbrev s__law_case_right : Stmt := topS 57
abbrev s__law_right : Stmt := topS 58
abbrev s_law : Stmt := topS 59
def d_tupled : He.DefD := ⟨("tupled", none), "tupled", "tupled", defArgs s_tupled, defBody s_tupled, defScope s_tupled, [], []⟩
def d_set_of : He.DefD := ⟨("set_of", none), "set_of", "set_of", defArgs s_set_of, defBody s_set_of, defScope s_set_of, [], []⟩
def d_product : He.DefD := ⟨("product", none), "product", "product", defArgs s_product, defBody s_product, defScope s_product, [], []⟩
def d_common_cuts : He.DefD := ⟨("common_cuts", none), "common_cuts", "common_cuts", defArgs s_common_cuts, defBody s_common_cuts, defScope s_common_cuts, [], []⟩
def d_is_free : He.DefD := ⟨("is_free", none), "is_free", "is_free", defArgs s_is_free, defBody s_is_free, defScope s_is_free, [], []⟩
def d_free_pins : He.DefD := ⟨("free_pins", none), "free_pins", "free_pins", defArgs s_free_pins, defBody s_free_pins, defScope s_free_pins, [], []⟩
def d_row_of : He.DefD := ⟨("row_of", none), "row_of", "row_of", defArgs s_row_of, defBody s_row_of, defScope s_row_of, [], []⟩
def d_barring_pin : He.DefD := ⟨("barring_pin", none), "barring_pin", "barring_pin", defArgs s_barring_pin, defBody s_barring_pin, defScope s_barring_pin, [], []⟩
def d_opens_room : He.DefD := ⟨("opens_room", none), "opens_room", "opens_room", defArgs s_opens_room, defBody s_opens_room, defScope s_opens_room, [], []⟩
def d_openers_of : He.DefD := ⟨("openers_of", none), "openers_of", "openers_of", defArgs s_openers_of, defBody s_openers_of, defScope s_openers_of, [], []⟩
def d_opened_by : He.DefD := ⟨("opened_by", none), "opened_by", "opened_by", defArgs s_opened_by, defBody s_opened_by, defScope s_opened_by, [], []⟩
def d_whole_box : He.DefD := ⟨("whole_box", none), "whole_box", "whole_box", defArgs s_whole_box, defBody s_whole_box, defScope s_whole_box, [], []⟩
def d_meeting : He.DefD := ⟨("meeting", none), "meeting", "meeting", defArgs s_meeting, defBody s_meeting, defScope s_meeting, [], []⟩
def d_together : He.DefD := ⟨("together", none), "together", "together", defArgs s_together, defBody s_together, defScope s_together, [], []⟩
def d_added : He.DefD := ⟨("added", none), "added", "added", defArgs s_added, defBody s_added, defScope s_added, [], []⟩
def d_opening_box : He.DefD := ⟨("opening_box", none), "opening_box", "opening_box", defArgs s_opening_box, defBody s_opening_box, defScope s_opening_box, [], []⟩
def d_opened_box : He.DefD := ⟨("opened_box", none), "opened_box", "opened_box", defArgs s_opened_box, defBody s_opened_box, defScope s_opened_box, [], []⟩
def d_alike_box : He.DefD := ⟨("alike_box", none), "alike_box", "alike_box", defArgs s_alike_box, defBody s_alike_box, defScope s_alike_box, [], []⟩
def d_further_counts : He.DefD := ⟨("further_counts", none), "further_counts", "further_counts", defArgs s_further_counts, defBody s_further_counts, defScope s_further_counts, [], []⟩
def d_total : He.DefD := ⟨("total", none), "total", "total", defArgs s_total, defBody s_total, defScope s_total, [], []⟩
def d_ranks_in : He.DefD := ⟨("ranks_in", none), "ranks_in", "ranks_in", defArgs s_ranks_in, defBody s_ranks_in, defScope s_ranks_in, [], []⟩
def d_ranks_of : He.DefD := ⟨("ranks_of", none), "ranks_of", "ranks_of", defArgs s_ranks_of, defBody s_ranks_of, defScope s_ranks_of, [], []⟩
def d_who_bars : He.DefD := ⟨("who_bars", none), "who_bars", "who_bars", defArgs s_who_bars, defBody s_who_bars, defScope s_who_bars, [], []⟩
def d_is_further : He.DefD := ⟨("is_further", none), "is_further", "is_further", defArgs s_is_further, defBody s_is_further, defScope s_is_further, [], []⟩
def d_how_many_further : He.DefD := ⟨("how_many_further", none), "how_many_further", "how_many_further", defArgs s_how_many_further, defBody s_how_many_further, defScope s_how_many_further, [], []⟩
def d_further_ranks : He.DefD := ⟨("further_ranks", none), "further_ranks", "further_ranks", defArgs s_further_ranks, defBody s_further_ranks, defScope s_further_ranks, [], []⟩
def d_is_harmless : He.DefD := ⟨("is_harmless", none), "is_harmless", "is_harmless", defArgs s_is_harmless, defBody s_is_harmless, defScope s_is_harmless, [], []⟩
def d_harmless_counts : He.DefD := ⟨("harmless_counts", none), "harmless_counts", "harmless_counts", defArgs s_harmless_counts, defBody s_harmless_counts, defScope s_harmless_counts, [], []⟩
def d_how_many_harmless : He.DefD := ⟨("how_many_harmless", none), "how_many_harmless", "how_many_harmless", defArgs s_how_many_harmless, defBody s_how_many_harmless, defScope s_how_many_harmless, [], []⟩
def d_breach : He.DefD := ⟨("breach", none), "breach", "breach", defArgs s_breach, defBody s_breach, defScope s_breach, [], []⟩
def d_is_house_closed : He.DefD := ⟨("is_house_closed", none), "is_house_closed", "is_house_closed", defArgs s_is_house_closed, defBody s_is_house_closed, defScope s_is_house_closed, [], []⟩
def d_kept_private : He.DefD := ⟨("kept_private", none), "kept_private", "kept_private", defArgs s_kept_private, defBody s_kept_private, defScope s_kept_private, [], []⟩
def d__law_box : He.DefD := ⟨("_law_box", none), "_law_box", "_law_box", defArgs s__law_box, defBody s__law_box, defScope s__law_box, [], []⟩
def d__law_take : He.DefD := ⟨("_law_take", none), "_law_take", "_law_take", defArgs s__law_take, defBody s__law_take, defScope s__law_take, [], []⟩
def d__law_cells : He.DefD := ⟨("_law_cells", none), "_law_cells", "_law_cells", defArgs s__law_cells, defBody s__law_cells, defScope s__law_cells, [], []⟩
def d__law_of : He.DefD := ⟨("_law_of", none), "_law_of", "_law_of", defArgs s__law_of, defBody s__law_of, defScope s__law_of, [], []⟩
def d__law_pick : He.DefD := ⟨("_law_pick", none), "_law_pick", "_law_pick", defArgs s__law_pick, defBody s__law_pick, defScope s__law_pick, [], []⟩
def d__law_same : He.DefD := ⟨("_law_same", none), "_law_same", "_law_same", defArgs s__law_same, defBody s__law_same, defScope s__law_same, [], []⟩
def d__law_deep : He.DefD := ⟨("_law_deep", none), "_law_deep", "_law_deep", defArgs s__law_deep, defBody s__law_deep, defScope s__law_deep, [], []⟩
def d__law_tooth : He.DefD := ⟨("_law_tooth", none), "_law_tooth", "_law_tooth", defArgs s__law_tooth, defBody s__law_tooth, defScope s__law_tooth, [], []⟩
def d__law_chief : He.DefD := ⟨("_law_chief", none), "_law_chief", "_law_chief", defArgs s__law_chief, defBody s__law_chief, defScope s__law_chief, [], []⟩
def d__law_stars : He.DefD := ⟨("_law_stars", none), "_law_stars", "_law_stars", defArgs s__law_stars, defBody s__law_stars, defScope s__law_stars, [], []⟩
def d__law_lets : He.DefD := ⟨("_law_lets", none), "_law_lets", "_law_lets", defArgs s__law_lets, defBody s__law_lets, defScope s__law_lets, [], []⟩
def d__law_loud : He.DefD := ⟨("_law_loud", none), "_law_loud", "_law_loud", defArgs s__law_loud, defBody s__law_loud, defScope s__law_loud, [], []⟩
def d__law_teeth : He.DefD := ⟨("_law_teeth", none), "_law_teeth", "_law_teeth", defArgs s__law_teeth, defBody s__law_teeth, defScope s__law_teeth, [], []⟩
def d__law_quiet : He.DefD := ⟨("_law_quiet", none), "_law_quiet", "_law_quiet", defArgs s__law_quiet, defBody s__law_quiet, defScope s__law_quiet, [], []⟩
def d__law_named : He.DefD := ⟨("_law_named", none), "_law_named", "_law_named", defArgs s__law_named, defBody s__law_named, defScope s__law_named, [], []⟩
def d__law_named_right : He.DefD := ⟨("_law_named_right", none), "_law_named_right", "_law_named_right", defArgs s__law_named_right, defBody s__law_named_right, defScope s__law_named_right, [], []⟩
def d__law_pin_right : He.DefD := ⟨("_law_pin_right", none), "_law_pin_right", "_law_pin_right", defArgs s__law_pin_right, defBody s__law_pin_right, defScope s__law_pin_right, [], []⟩
def d__law_master_right : He.DefD := ⟨("_law_master_right", none), "_law_master_right", "_law_master_right", defArgs s__law_master_right, defBody s__law_master_right, defScope s__law_master_right, [], []⟩
def d__law_whole_right : He.DefD := ⟨("_law_whole_right", none), "_law_whole_right", "_law_whole_right", defArgs s__law_whole_right, defBody s__law_whole_right, defScope s__law_whole_right, [], []⟩
def d__law_by_hand_right : He.DefD := ⟨("_law_by_hand_right", none), "_law_by_hand_right", "_law_by_hand_right", defArgs s__law_by_hand_right, defBody s__law_by_hand_right, defScope s__law_by_hand_right, [], []⟩
def d__law_case_right : He.DefD := ⟨("_law_case_right", none), "_law_case_right", "_law_case_right", defArgs s__law_case_right, defBody s__law_case_right, defScope s__law_case_right, [], []⟩
def d__law_right : He.DefD := ⟨("_law_right", none), "_law_right", "_law_right", defArgs s__law_right, defBody s__law_right, defScope s__law_right, [], []⟩
def d_law : He.DefD := ⟨("law", none), "law", "law", defArgs s_law, defBody s_law, defScope s_law, [], []⟩
def fn1 : List He.DefD := [d_tupled, d_set_of, d_product, d_common_cuts, d_is_free, d_free_pins, d_row_of, d_barring_pin, d_opens_room, d_openers_of, d_opened_by, d_whole_box, d_meeting, d_together, d_added, d_opening_box, d_opened_box, d_alike_box, d_further_counts, d_total, d_ranks_in, d_ranks_of, d_who_bars, d_is_further, d_how_many_further, d_further_ranks, d_is_harmless]
def fn2 : List He.DefD := [d_harmless_counts, d_how_many_harmless, d_breach, d_is_house_closed, d_kept_private, d__law_box, d__law_take, d__law_cells, d__law_of, d__law_pick, d__law_same, d__law_deep, d__law_tooth, d__law_chief, d__law_stars, d__law_lets, d__law_loud, d__law_teeth, d__law_quiet, d__law_named, d__law_named_right, d__law_pin_right, d__law_master_right, d__law_whole_right, d__law_by_hand_right, d__law_case_right, d__law_right, d_law]
def fn : List He.DefD := fn1 ++ fn2
def fa1 : List He.Fa := [.glo "tupled", .glo "set_of", .glo "product", .glo "common_cuts", .glo "is_free", .glo "free_pins", .glo "row_of", .glo "barring_pin", .glo "opens_room", .glo "openers_of", .glo "opened_by", .glo "whole_box", .glo "meeting", .glo "together", .glo "added", .glo "opening_box", .glo "opened_box", .glo "alike_box", .glo "further_counts", .glo "total", .glo "ranks_in", .glo "ranks_of", .glo "who_bars", .glo "is_further", .glo "how_many_further", .glo "further_ranks", .glo "is_harmless"]
def fa2 : List He.Fa := [.glo "harmless_counts", .glo "how_many_harmless", .glo "breach", .glo "is_house_closed", .glo "kept_private", .glo "_law_box", .glo "_law_take", .glo "_law_cells", .glo "_law_of", .glo "_law_pick", .glo "_law_same", .glo "_law_deep", .glo "_law_tooth", .glo "_law_chief", .glo "_law_stars", .glo "_law_lets", .glo "_law_loud", .glo "_law_teeth", .glo "_law_quiet", .glo "_law_named", .glo "_law_named_right", .glo "_law_pin_right", .glo "_law_master_right", .glo "_law_whole_right", .glo "_law_by_hand_right", .glo "_law_case_right", .glo "_law_right", .glo "law"]
def fa3 : List He.Fa := [.free "tuple", .free "list", .free "sorted", .free "set", .free "zip", .free "all", .free "any", .free "range", .free "len", .free "enumerate", .free "dict", .free "sum", .free "min", .free "isinstance", .free "int", .free "bool", .free "str", .free "abs"]
def fa : List He.Fa := fa1 ++ fa2 ++ fa3
-- law at 59; 55 defs
end K78

-- part KBase
set_option Elab.async false
set_option linter.all false
set_option maxRecDepth 100000
set_option maxHeartbeats 4000000
/-! KBase: data-level evaluation over HandS. A value v stands for a datum d (Dp); an expression is evaluated from any state where G holds; all that was tracked stands (Ex). -/
namespace K78
open PySem PySem.Spec PyProof.Rows L2
open Evl (Ex ex_t ex_l ex_rd fresh_back)

end K78
namespace L2
open PySem PySem.Spec PyProof.Rows
open Evl (Ex ex_t ex_l ex_rd fresh_back)
/-! ### data -/
mutual
theorem Dp.mono {K : PySem.W.Frag} {H H' : Hp} (x : Ex H H') : ∀ (d : PyData) (v : V), Dp K H v d → Dp K H' v d
  | .none, _, h => by cases h; exact .non
  | .bool b, _, h => by cases h; exact .bl b
  | .int i, _, h => by cases h; exact .int i
  | .str z, _, h => by cases h; exact .str z
  | .list ds, _, h => by
    cases h with
    | lst hs ha => exact .lst (ex_l x hs) (DpAll.mono x ds _ ha)
  | .tuple ds, _, h => by
    cases h with
    | tup hs ha => exact .tup (ex_t x hs) (DpAll.mono x ds _ ha)
  | .dict _, _, h => by cases h
theorem DpAll.mono {K : PySem.W.Frag} {H H' : Hp} (x : Ex H H') : ∀ (ds : List PyData) (vs : List V), DpAll K H vs ds → DpAll K H' vs ds
  | [], _, h => by cases h; exact .nil
  | d :: ds, _, h => by
    cases h with
    | cons h1 h2 => exact .cons (Dp.mono x d _ h1) (DpAll.mono x ds _ h2)
end
theorem DpAll.length {K : PySem.W.Frag} {H : Hp} : ∀ {ds : List PyData} {vs : List V}, DpAll K H vs ds → vs.length = ds.length
  | [], _, h => by cases h; rfl
  | d :: ds, _, h => by
    cases h with
    | cons h1 h2 => rw [List.length_cons, List.length_cons, DpAll.length h2]
theorem DpAll.get {K : PySem.W.Frag} {H : Hp} : ∀ {ds : List PyData} {vs : List V}, DpAll K H vs ds → ∀ {i : Nat} {v : V}, vs[i]? = some v → ∃ d, ds[i]? = some d ∧ Dp K H v d
  | [], _, h, i, v, e => by cases h; simp at e
  | d :: ds, _, h, i, v, e => by
    cases h with
    | cons h1 h2 =>
      cases i with
      | zero => simp at e; subst e; exact ⟨d, rfl, h1⟩
      | succ i => exact DpAll.get h2 (by simpa using e)
theorem DpAll.get' {K : PySem.W.Frag} {H : Hp} : ∀ {ds : List PyData} {vs : List V}, DpAll K H vs ds → ∀ {i : Nat} {d : PyData}, ds[i]? = some d → ∃ v, vs[i]? = some v ∧ Dp K H v d
  | [], _, h, i, v, e => by simp at e
  | d :: ds, _, h, i, v, e => by
    cases h with
    | cons h1 h2 =>
      cases i with
      | zero => simp at e; subst e; exact ⟨_, rfl, h1⟩
      | succ i => exact DpAll.get' h2 (by simpa using e)
theorem DpAll.append {K : PySem.W.Frag} {H : Hp} : ∀ {ds es : List PyData} {vs us : List V}, DpAll K H vs ds → DpAll K H us es → DpAll K H (vs ++ us) (ds ++ es)
  | [], _, _, _, h, k => by cases h; exact k
  | d :: ds, _, _, _, h, k => by
    cases h with
    | cons h1 h2 => exact .cons h1 (DpAll.append h2 k)
theorem DpAll.ints {K : PySem.W.Frag} {H : Hp} : ∀ {ns : List Int} {vs : List V}, DpAll K H vs (ns.map PyData.int) → vs = ns.map V.int
  | [], _, h => by cases h; rfl
  | n :: ns, _, h => by
    cases h with
    | cons h1 h2 => cases h1; rw [DpAll.ints h2]; rfl
theorem DpAll.ofInts {K : PySem.W.Frag} {H : Hp} : ∀ (ns : List Int), DpAll K H (ns.map V.int) (ns.map PyData.int)
  | [] => .nil
  | n :: ns => .cons (.int n) (DpAll.ofInts ns)
theorem DpAll.bools {K : PySem.W.Frag} {H : Hp} : ∀ {ns : List Bool} {vs : List V}, DpAll K H vs (ns.map PyData.bool) → vs = ns.map V.bl
  | [], _, h => by cases h; rfl
  | n :: ns, _, h => by
    cases h with
    | cons h1 h2 => cases h1; rw [DpAll.bools h2]; rfl

/-- data without lists: they stand whatever happens to lists -/
def tO : PyData → Bool
  | .none => true
  | .bool _ => true
  | .int _ => true
  | .str _ => true
  | .list _ => false
  | .tuple ds => tOs ds
  | .dict _ => false
where tOs : List PyData → Bool
  | [] => true
  | d :: ds => tO d && tOs ds
def TupSub (H H' : Hp) : Prop := ∀ a xs, Rd H a (.tup xs) → Rd H' a (.tup xs)
theorem TupSub.sq {K : PySem.W.Frag} {H H' : Hp} {a : Addr} {xs : List V} (x : TupSub H H') (h : SqT K H a xs) : SqT K H' a xs := by
  rcases h with h | h
  · exact .inl (x a xs h)
  · exact .inr h
mutual
theorem Dp.tsub {K : PySem.W.Frag} {H H' : Hp} (x : TupSub H H') : ∀ (d : PyData) (v : V), tO d = true → Dp K H v d → Dp K H' v d
  | .none, _, _, h => by cases h; exact .non
  | .bool b, _, _, h => by cases h; exact .bl b
  | .int i, _, _, h => by cases h; exact .int i
  | .str z, _, _, h => by cases h; exact .str z
  | .list ds, _, t, h => by simp [tO] at t
  | .tuple ds, _, t, h => by
    cases h with
    | tup hs ha => exact .tup (x.sq hs) (DpAll.tsub x ds _ (by simpa [tO] using t) ha)
  | .dict _, _, _, h => by cases h
theorem DpAll.tsub {K : PySem.W.Frag} {H H' : Hp} (x : TupSub H H') : ∀ (ds : List PyData) (vs : List V), tO.tOs ds = true → DpAll K H vs ds → DpAll K H' vs ds
  | [], _, _, h => by cases h; exact .nil
  | d :: ds, _, t, h => by
    cases h with
    | cons h1 h2 =>
      have t' : tO d = true ∧ tO.tOs ds = true := by simpa [tO.tOs] using t
      exact .cons (Dp.tsub x d _ t'.1 h1) (DpAll.tsub x ds _ t'.2 h2)
end
theorem tOs_all : ∀ {ds : List PyData}, tO.tOs ds = true ↔ ∀ d ∈ ds, tO d = true
  | [] => by simp [tO.tOs]
  | d :: ds => by simp [tO.tOs, tOs_all (ds := ds)]
theorem TupSub.ofEx {H H' : Hp} (x : Ex H H') : TupSub H H' := fun a xs h => Evl.ex_rd x h
theorem TupSub.trans {H H1 H2 : Hp} (x : TupSub H H1) (y : TupSub H1 H2) : TupSub H H2 := fun a xs h => y a xs (x a xs h)
/-- an object that is no tuple is changed -/
theorem TupSub.put {H : Hp} {p : Addr} {o u : HO} (h : H p = some u) (n : ∀ xs, u ≠ .tup xs) (n2 : ∀ ob xs, u ≠ .frz ob (.tup xs)) : TupSub H (upd H p o) := fun a xs r => by
  have ne : a ≠ p := by
    rintro rfl
    rcases r with r | ⟨ob, r⟩
    · rw [h] at r; exact n xs (Option.some.inj r)
    · rw [h] at r; exact n2 ob xs (Option.some.inj r)
  rcases r with r | ⟨ob, r⟩
  · exact .inl (by rw [upd_ne ne]; exact r)
  · exact .inr ⟨ob, by rw [upd_ne ne]; exact r⟩
theorem TupSub.lst {H : Hp} {p : Addr} {o : HO} {us : List V} (h : H p = some (.lst us)) : TupSub H (upd H p o) := TupSub.put h (fun _ e => nomatch e) (fun _ _ e => nomatch e)
end L2
namespace K78
open PySem PySem.Spec PyProof.Rows L2
open Evl (Ex ex_t ex_l ex_rd fresh_back)
/-! ### what a value stands for -/
structure MP where
  P : V → Hp → Prop
  mono : ∀ {v H H'}, Ex H H' → P v H → P v H'
def MP.d (K : PySem.W.Frag) (d : PyData) : MP := ⟨fun v H => Dp K H v d, fun x h => Dp.mono x d _ h⟩
/-- values for data, one by one -/
inductive AllP : List MP → List V → Hp → Prop
  | nil {H} : AllP [] [] H
  | cons {M Ms v vs H} : M.P v H → AllP Ms vs H → AllP (M :: Ms) (v :: vs) H
theorem AllP.mono {H H' : Hp} (x : Ex H H') : ∀ {Ms : List MP} {vs : List V}, AllP Ms vs H → AllP Ms vs H'
  | [], _, .nil => .nil
  | M :: Ms, _, .cons h1 h2 => .cons (M.mono x h1) (AllP.mono x h2)
theorem AllP.length {H : Hp} : ∀ {Ms : List MP} {vs : List V}, AllP Ms vs H → vs.length = Ms.length
  | [], _, .nil => rfl
  | _ :: _, _, .cons _ h2 => by rw [List.length_cons, List.length_cons, AllP.length h2]
theorem AllP.get {H : Hp} : ∀ {Ms : List MP} {vs : List V}, AllP Ms vs H → ∀ {i : Nat} {M : MP}, Ms[i]? = some M → ∃ v, vs[i]? = some v ∧ M.P v H
  | [], _, .nil, i, M, e => by simp at e
  | _ :: _, _, .cons h1 h2, i, M, e => by
    cases i with
    | zero => simp at e; subst e; exact ⟨_, rfl, h1⟩
    | succ i => exact AllP.get h2 (by simpa using e)
theorem AllP.datas {K : PySem.W.Frag} {H : Hp} : ∀ {ds : List PyData} {vs : List V}, AllP (ds.map (MP.d K)) vs H → DpAll K H vs ds
  | [], _, h => by cases h; exact .nil
  | d :: ds, _, h => by
    cases h with
    | cons h1 h2 => exact .cons h1 (AllP.datas h2)

/-! ### where one stands -/
abbrev GP := L2.St → Hp → Prop
class MG (G : GP) : Prop where
  mono : ∀ {σ H H'}, Ex H H' → G σ H → G σ H'
abbrev En := List (Option MP)
/-- the slots stand for data -/
structure EnvOk (Γ : En) (σ : L2.St) (H : Hp) : Prop where
  len : σ.length = Γ.length
  get : ∀ (i : Nat) (M : MP), Γ[i]? = some (some M) → ∃ v, σ[i]? = some (some v) ∧ M.P v H
instance (Γ : En) : MG (EnvOk Γ) where
  mono := fun x h => ⟨h.len, fun i M e => let ⟨v, e1, p⟩ := h.get i M e; ⟨v, e1, M.mono x p⟩⟩
theorem EnvOk.set {Γ : En} {σ : L2.St} {H : Hp} (h : EnvOk Γ σ H) (i : Nat) {M : MP} {v : V} (p : M.P v H) : EnvOk (Γ.set i (some M)) (σ.set i (some v)) H := by
  refine ⟨by rw [List.length_set, List.length_set, h.len], fun j N e => ?_⟩
  by_cases hj : i = j
  · subst hj
    by_cases hi : i < Γ.length
    · rw [List.getElem?_set_self hi] at e
      cases e
      exact ⟨v, by rw [List.getElem?_set_self (by rw [h.len]; exact hi)], p⟩
    · rw [List.getElem?_eq_none (by rw [List.length_set]; omega)] at e
      cases e
  · rw [List.getElem?_set_ne hj] at e
    obtain ⟨u, e1, q⟩ := h.get j N e
    exact ⟨u, by rw [List.getElem?_set_ne hj]; exact e1, q⟩
def wipeG (Γ : En) : List Nat → En
  | [] => Γ
  | v :: vs => (wipeG Γ vs).set v none
theorem EnvOk.none {Γ : En} {σ : L2.St} {H : Hp} (h : EnvOk Γ σ H) (i : Nat) (x : Option V) : EnvOk (Γ.set i Option.none) (σ.set i x) H := by
  refine ⟨by rw [List.length_set, List.length_set, h.len], fun j N e => ?_⟩
  by_cases hj : i = j
  · subst hj
    by_cases hi : i < Γ.length
    · rw [List.getElem?_set_self hi] at e
      cases e
    · rw [List.getElem?_eq_none (by rw [List.length_set]; omega)] at e
      cases e
  · rw [List.getElem?_set_ne hj] at e
    obtain ⟨u, e1, q⟩ := h.get j N e
    exact ⟨u, by rw [List.getElem?_set_ne hj]; exact e1, q⟩
theorem EnvOk.wipe {Γ : En} {σ : L2.St} {H : Hp} (h : EnvOk Γ σ H) : ∀ vs : List Nat, EnvOk (wipeG Γ vs) (L2.wipe σ vs) H
  | [] => h
  | v :: vs => (EnvOk.wipe h vs).none v Option.none
def startG (N : List Str) (Ms : List MP) : En := Ms.map some ++ List.replicate (N.length - Ms.length) none
theorem EnvOk.start {N : List Str} {Ms : List MP} {vs : List V} {H : Hp} (h : AllP Ms vs H) : EnvOk (startG N Ms) (L2.start N vs) H := by
  have hl := h.length
  refine ⟨by unfold L2.start startG; rw [List.length_append, List.length_append, List.length_map, List.length_map, List.length_replicate, List.length_replicate, hl], fun i M e => ?_⟩
  unfold startG at e
  by_cases hi : i < Ms.length
  · rw [List.getElem?_append_left (by rw [List.length_map]; exact hi), List.getElem?_map] at e
    obtain ⟨M', e1, e2⟩ := Option.map_eq_some_iff.mp e
    cases e2
    obtain ⟨v, e3, p⟩ := h.get e1
    refine ⟨v, ?_, p⟩
    unfold L2.start
    rw [List.getElem?_append_left (by rw [List.length_map, hl]; exact hi), List.getElem?_map, e3]
    rfl
  · rw [List.getElem?_append_right (by rw [List.length_map]; omega), List.getElem?_replicate] at e
    split at e <;> cases e

/-! ### the judgements' readings -/
def tP (G : GP) (M : MP) : TE := fun σ H Q => G σ H ∧ ∀ v H', Ex H H' → M.P v H' → Q v H'
def tT (G : GP) (b : Bool) : TT := fun σ H Q => G σ H ∧ ∀ H', Ex H H' → Q b H'
def tAs (G : GP) (Ms : List MP) : TA := fun σ H Q => G σ H ∧ ∀ vs H', Ex H H' → AllP Ms vs H' → Q vs H'
/-- statements: N behind, R of what is returned -/
def tSt (G : GP) (N : GP) (R : V → Hp → Prop) : TS := fun D σ H => G σ H ∧ (∀ σ' H', Ex H H' → N σ' H' → D.nx σ' H') ∧ (∀ v H', Ex H H' → R v H' → D.rt v H')
abbrev DE (X : Cx) (G : GP) (e : Expr) (M : MP) : Prop := PE X e (tP G M)
abbrev DT (X : Cx) (G : GP) (e : Expr) (b : Bool) : Prop := PT X e (tT G b)
abbrev DA (X : Cx) (G : GP) (es : List Expr) (Ms : List MP) : Prop := PA X es (tAs G Ms)
abbrev DS (X : Cx) (G : GP) (st : List Stmt) (N : GP) (R : V → Hp → Prop) : Prop := PSs X st (tSt G N R)
abbrev D1 (X : Cx) (G : GP) (st : Stmt) (N : GP) (R : V → Hp → Prop) : Prop := PS X st (tSt G N R)
section
variable {X : Cx} {G : GP} {M M' : MP} {e : Expr} {b : Bool}
theorem pe_imp {t t' : TE} (h : PE X e t) (k : ∀ σ H Q, t' σ H Q → t σ H Q) : PE X e t' := ⟨fun pins s σ H Q I q => h.run pins s σ H Q I (k σ H Q q)⟩
theorem pt_imp {t t' : TT} (h : PT X e t) (k : ∀ σ H Q, t' σ H Q → t σ H Q) : PT X e t' := ⟨fun pins s σ H Q I q => h.run pins s σ H Q I (k σ H Q q)⟩
theorem pa_imp {es : List Expr} {t t' : TA} (h : PA X es t) (k : ∀ σ H Q, t' σ H Q → t σ H Q) : PA X es t' := ⟨fun pos pins s σ H Q I q => h.run pos pins s σ H Q I (k σ H Q q)⟩
theorem ps_imp {st : Stmt} {t t' : TS} (h : PS X st t) (k : ∀ D σ H, t' D σ H → t D σ H) : PS X st t' := ⟨fun pins s σ H D I q => h.run pins s σ H D I (k D σ H q)⟩
theorem pss_imp {st : List Stmt} {t t' : TS} (h : PSs X st t) (k : ∀ D σ H, t' D σ H → t D σ H) : PSs X st t' := ⟨fun pins s σ H D I q => h.run pins s σ H D I (k D σ H q)⟩
theorem pe_ex {α : Type} {t : α → TE} (h : ∀ a, PE X e (t a)) : PE X e (fun σ H Q => ∃ a, t a σ H Q) := ⟨fun pins s σ H Q I ⟨a, q⟩ => (h a).run pins s σ H Q I q⟩
theorem pt_ex {α : Type} {t : α → TT} (h : ∀ a, PT X e (t a)) : PT X e (fun σ H Q => ∃ a, t a σ H Q) := ⟨fun pins s σ H Q I ⟨a, q⟩ => (h a).run pins s σ H Q I q⟩
theorem pss_ex {α : Type} {st : List Stmt} {t : α → TS} (h : ∀ a, PSs X st (t a)) : PSs X st (fun D σ H => ∃ a, t a D σ H) := ⟨fun pins s σ H D I ⟨a, q⟩ => (h a).run pins s σ H D I q⟩
theorem pg_ex {α : Type} {tg : Expr} {t : α → TG} (h : ∀ a, PG X tg (t a)) : PG X tg (fun v σ H Q => ∃ a, t a v σ H Q) := ⟨fun pins s σ H v u Q I r ⟨a, q⟩ => (h a).run pins s σ H v u Q I r q⟩
theorem DE.cast (h : DE X G e M) (k : ∀ v H, M.P v H → M'.P v H) : DE X G e M' := pe_imp h fun σ H Q q => ⟨q.1, fun v H' x p => q.2 v H' x (k v H' p)⟩
theorem DE.to {K : PySem.W.Frag} {d d' : PyData} (h : DE X G e (MP.d K d)) (k : d = d') : DE X G e (MP.d K d') := k ▸ h
theorem DE.pre {G' : GP} (h : DE X G e M) (k : ∀ σ H, G' σ H → G σ H) : DE X G' e M := pe_imp h fun σ H Q q => ⟨k σ H q.1, q.2⟩
theorem DT.to {b' : Bool} (h : DT X G e b) (k : b = b') : DT X G e b' := k ▸ h
end
end K78

-- part KEnc
set_option Elab.async false
set_option linter.all false
set_option maxRecDepth 100000
set_option maxHeartbeats 4000000
/-! KEnc: what stands for a datum of Lean. -/
namespace K78
open PySem PySem.Spec PyProof.Rows L2
open Evl (Ex ex_t ex_l ex_rd fresh_back)

/-- data without bools, texts and dicts: == is equality -/
class Enc (α : Type) where
  enc : α → PyData
  inj : ∀ {a b : α}, enc a = enc b → a = b
  lv : Nat
  lay : ∀ a, (enc a).canLay0 = true
  dp : ∀ a, (enc a).depth ≤ lv
  eq : ∀ a b, PyData.eqv (enc a) (enc b) = true ↔ a = b
  to : ∀ a, tO (enc a) = true
open Enc (enc)
instance : Enc Int where
  enc := .int
  inj := fun e => by injection e
  lv := 0
  lay := fun a => by simp [PyData.canLay0]
  dp := fun a => by simp [PyData.depth]
  eq := fun a b => by simp [PyData.eqv]
  to := fun a => by simp [tO]
instance : Enc (Option Int) where
  enc | none => .none | some i => .int i
  inj := fun {a b} e => by
    cases a <;> cases b <;> first | rfl | (injection e with e; rw [e]) | exact nomatch e
  lv := 0
  lay := fun a => by cases a <;> simp [PyData.canLay0]
  dp := fun a => by cases a <;> simp [PyData.depth]
  eq := fun a b => by cases a <;> cases b <;> simp [PyData.eqv]
  to := fun a => by cases a <;> simp [tO]
section
variable {α : Type} [Enc α]
theorem encs_inj : ∀ {a b : List α}, a.map enc = b.map enc → a = b
  | [], [], _ => rfl
  | [], _ :: _, e => by simp at e
  | _ :: _, [], e => by simp at e
  | x :: a, y :: b, e => by
    rw [List.map_cons, List.map_cons] at e
    injection e with e1 e2
    rw [Enc.inj e1, encs_inj e2]
theorem encs_lay : ∀ a : List α, PyData.canLayAll0 (a.map enc) = true
  | [] => by simp [PyData.canLayAll0]
  | x :: a => by simp [PyData.canLayAll0, Enc.lay x, encs_lay a]
theorem encs_dp : ∀ a : List α, PyData.depthAll (a.map enc) ≤ Enc.lv α
  | [] => by simp [PyData.depthAll]
  | x :: a => by
    have h1 := encs_dp a
    have h2 := Enc.dp x
    simp only [List.map_cons, PyData.depthAll]
    omega
theorem encs_eq : ∀ a b : List α, PyData.eqvAll (a.map enc) (b.map enc) = true ↔ a = b
  | [], [] => by simp [PyData.eqvAll]
  | [], _ :: _ => by simp [PyData.eqvAll]
  | _ :: _, [] => by simp [PyData.eqvAll]
  | x :: a, y :: b => by
    simp only [List.map_cons, PyData.eqvAll, Bool.and_eq_true, Enc.eq x y, encs_eq a b, List.cons.injEq]
theorem encs_to : ∀ a : List α, tO.tOs (a.map enc) = true
  | [] => by simp [tO.tOs]
  | x :: a => by simp [tO.tOs, Enc.to x, encs_to a]
/-- a tuple -/
instance : Enc (List α) where
  enc l := .tuple (l.map enc)
  inj := fun e => by injection e with e; exact encs_inj e
  lv := Enc.lv α + 1
  lay := fun a => by simp only [PyData.canLay0]; exact encs_lay a
  dp := fun a => by
    have := encs_dp a
    simp only [PyData.depth]
    omega
  eq := fun a b => by simp only [PyData.eqv]; exact encs_eq a b
  to := fun a => by simp only [tO]; exact encs_to a
/-- a pair -/
instance {β : Type} [Enc β] : Enc (α × β) where
  enc p := .tuple [enc p.1, enc p.2]
  inj := fun {a b} e => by
    injection e with e
    injection e with e1 e2
    injection e2 with e2
    exact Prod.ext (Enc.inj e1) (Enc.inj e2)
  lv := max (Enc.lv α) (Enc.lv β) + 1
  lay := fun a => by simp [PyData.canLay0, PyData.canLayAll0, Enc.lay]
  dp := fun a => by
    have h1 := Enc.dp a.1
    have h2 := Enc.dp a.2
    simp only [PyData.depth, PyData.depthAll]
    omega
  eq := fun a b => by
    simp only [PyData.eqv, PyData.eqvAll, Bool.and_true, Bool.and_eq_true, Enc.eq]
    exact ⟨fun h => Prod.ext h.1 h.2, fun h => by rw [h]; exact ⟨rfl, rfl⟩⟩
  to := fun a => by simp [tO, tO.tOs, Enc.to]
theorem shaped_enc (a : α) (h : Enc.lv α ≤ 60 := by decide) : SeqAt.shaped (enc a) = true := by
  have := Enc.dp a
  show ((enc a).canLay0 && decide ((enc a).depth ≤ 64)) = true
  rw [Bool.and_eq_true]
  exact ⟨Enc.lay a, decide_eq_true (by omega)⟩
theorem shaped_list (a : List α) (h : Enc.lv α ≤ 60 := by decide) : SeqAt.shaped (.list (a.map enc)) = true := by
  have := encs_dp a
  show (PyData.canLay0 (.list (a.map enc)) && decide (PyData.depth (.list (a.map enc)) ≤ 64)) = true
  rw [Bool.and_eq_true]
  refine ⟨by simp only [PyData.canLay0]; exact encs_lay a, decide_eq_true ?_⟩
  simp only [PyData.depth]
  omega
theorem enc_eqv [DecidableEq α] (a b : α) : PyData.eqv (enc a) (enc b) = decide (a = b) := by
  have h := Enc.eq a b
  by_cases e : a = b
  · rw [decide_eq_true e]
    exact h.mpr e
  · rw [decide_eq_false e]
    cases q : PyData.eqv (enc a) (enc b) with
    | false => rfl
    | true => exact absurd (h.mp q) e
theorem list_eqv [DecidableEq α] (a b : List α) : PyData.eqv (.list (a.map enc)) (.list (b.map enc)) = decide (a = b) := by
  have h := encs_eq a b
  have e0 : PyData.eqv (.list (a.map enc)) (.list (b.map enc)) = PyData.eqvAll (a.map enc) (b.map enc) := by simp only [PyData.eqv]
  rw [e0]
  by_cases e : a = b
  · rw [decide_eq_true e]
    exact h.mpr e
  · rw [decide_eq_false e]
    cases q : PyData.eqvAll (a.map enc) (b.map enc) with
    | false => rfl
    | true => exact absurd (h.mp q) e
theorem enc_any [DecidableEq α] (a : α) : ∀ l : List α, ((l.map enc).any fun z => PyData.eqv z (enc a)) = decide (a ∈ l)
  | [] => by simp
  | x :: l => by
    rw [List.map_cons, List.any_cons, enc_any a l, enc_eqv]
    by_cases e : x = a
    · subst e; simp
    · have e' : ¬ a = x := fun h => e h.symm
      simp [e, e']
end
/-- a datum as a tuple, number, None; a list of data -/
abbrev ME (K : PySem.W.Frag) {α : Type} [Enc α] (a : α) : MP := MP.d K (enc a)
abbrev ML (K : PySem.W.Frag) {α : Type} [Enc α] (a : List α) : MP := MP.d K (.list (a.map enc))
abbrev MI (K : PySem.W.Frag) (i : Int) : MP := MP.d K (.int i)
abbrev MB (K : PySem.W.Frag) (b : Bool) : MP := MP.d K (.bool b)
abbrev MN (K : PySem.W.Frag) : MP := MP.d K .none
/-- any bool, any value -/
def MAny : MP := ⟨fun _ _ => True, fun _ _ => trivial⟩

end K78

-- part KExpr
set_option Elab.async false
set_option linter.all false
set_option maxRecDepth 100000
set_option maxHeartbeats 4000000
/-! KExpr: rules for expressions over data. -/
namespace K78
open PySem PySem.Spec PyProof.Rows L2
open Evl (Ex ex_t ex_l ex_rd fresh_back)
open Enc (enc)

theorem dp_tup {K : PySem.W.Frag} {H : Hp} {v : V} {ds : List PyData} (h : Dp K H v (.tuple ds)) : ∃ a vs, v = .ref a ∧ SqT K H a vs ∧ DpAll K H vs ds := by
  cases h with
  | tup h1 h2 => exact ⟨_, _, rfl, h1, h2⟩
theorem dp_lst {K : PySem.W.Frag} {H : Hp} {v : V} {ds : List PyData} (h : Dp K H v (.list ds)) : ∃ a vs, v = .ref a ∧ SqL K H a vs ∧ DpAll K H vs ds := by
  cases h with
  | lst h1 h2 => exact ⟨_, _, rfl, h1, h2⟩
theorem dp_int {K : PySem.W.Frag} {H : Hp} {v : V} {i : Int} (h : Dp K H v (.int i)) : v = .int i := by cases h; rfl
theorem dp_bl {K : PySem.W.Frag} {H : Hp} {v : V} {i : Bool} (h : Dp K H v (.bool i)) : v = .bl i := by cases h; rfl
theorem dp_non {K : PySem.W.Frag} {H : Hp} {v : V} (h : Dp K H v .none) : v = .non := by cases h; rfl
/-- a new tuple, a new list -/
theorem dp_newT {K : PySem.W.Frag} {H : Hp} {p : Addr} {vs : List V} {ds : List PyData} (hp : H p = none) (h : DpAll K H vs ds) : Dp K (upd H p (.tup vs)) (.ref p) (.tuple ds) :=
  .tup (SqT.of upd_same) (DpAll.mono (Ex.new hp) _ _ h)
theorem dp_newL {K : PySem.W.Frag} {H : Hp} {p : Addr} {vs : List V} {ds : List PyData} (hp : H p = none) (h : DpAll K H vs ds) : Dp K (upd H p (.lst vs)) (.ref p) (.list ds) :=
  .lst (SqL.of upd_same) (DpAll.mono (Ex.new hp) _ _ h)
theorem dpAll_of {K : PySem.W.Frag} {H : Hp} : ∀ {vs : List V} {ds : List PyData}, vs.length = ds.length → (∀ (i : Nat) v d, vs[i]? = some v → ds[i]? = some d → Dp K H v d) → DpAll K H vs ds
  | [], [], _, _ => .nil
  | [], _ :: _, e, _ => by simp at e
  | _ :: _, [], e, _ => by simp at e
  | v :: vs, d :: ds, e, h => .cons (h 0 v d rfl rfl) (dpAll_of (by simpa using e) fun i u c e1 e2 => h (i + 1) u c (by simpa using e1) (by simpa using e2))

/-- a def at its place, its promise -/
structure DefOk (P : Program) (w : World) (K : PySem.W.Frag) (mg : Str → Option Value) (base : Heap) (x : Str) (k : Nat) (sp : Sp) : Prop where
  ex : ∃ f fd ps, FnOk P w K mg base CX0 k f fd ps sp ∧ mg x = some (.ref f) ∧ PySem.W.keepIn K (.ref f) = true ∧ Binds K fd ps []
/-- the promise of a def that changes nothing: for data args a with pre a it hands back res a -/
def spM {α : Type} (pre : α → Prop) (args : α → List MP) (res : α → MP) : Sp := fun vs H Q _ => ∃ a, pre a ∧ AllP (args a) vs H ∧ ∀ v H', Ex H H' → (res a).P v H' → Q v H'

section
variable {X : Cx} {G : GP} {pos p : Pos} {M M1 M2 M3 : MP} {e a b c : Expr} {es : List Expr} {Ms : List MP}

theorem de_of {te : TE} (h : PE X e te) (k : ∀ σ H Q, G σ H → (∀ v H', Ex H H' → M.P v H' → Q v H') → te σ H Q) : DE X G e M := pe_imp h fun σ H Q q => k σ H Q q.1 q.2
theorem dt_of {te : TT} {k : Bool} (h : PT X e te) (kk : ∀ σ H Q, G σ H → (∀ H', Ex H H' → Q k H') → te σ H Q) : DT X G e k := pt_imp h fun σ H Q q => kk σ H Q q.1 q.2
theorem da_of {te : TA} (h : PA X es te) (k : ∀ σ H Q, G σ H → (∀ v H', Ex H H' → AllP Ms v H' → Q v H') → te σ H Q) : DA X G es Ms := pa_imp h fun σ H Q q => k σ H Q q.1 q.2
theorem de_int {i j} : DE X G (.Constant (.int i) j pos) (MI X.K i) := de_of pe_int fun σ H Q g q => q _ H (Ex.refl H) (.int i)
theorem de_bl {i j} : DE X G (.Constant (.bool i) j pos) (MB X.K i) := de_of pe_bl fun σ H Q g q => q _ H (Ex.refl H) (.bl i)
theorem de_non {j} : DE X G (.Constant .none j pos) (MN X.K) := de_of pe_non fun σ H Q g q => q _ H (Ex.refl H) .non
/-- a name, by what the state says of its slot -/
theorem de_var (i : Nat) {x : Str} (h : ∀ σ H, G σ H → ∃ v, σ[i]? = some (some v) ∧ M.P v H) (hN : X.N[i]? = some x := by rfl) (hv : Vis X.env.scope x := by first | exact Or.inl rfl | exact Or.inr (Or.inl rfl) | exact Or.inr (Or.inr rfl)) (hd : (x == ("__debug__" : Str)) = false := by decide)
    (hcd : (x == ("__classdict__" : Str)) = false := by decide) : DE X G (.Name x pos) M := de_of (pe_var hN hv hd hcd) fun σ H Q g q => by
  obtain ⟨v, e, p⟩ := h σ H g
  exact ⟨v, e, q v H (Ex.refl H) p⟩
/-- a name of the list of data -/
theorem de_v (i : Nat) {Γ : En} {x : Str} (h : Γ[i]? = some (some M) := by rfl) (hN : X.N[i]? = some x := by rfl) (hv : Vis X.env.scope x := by first | exact Or.inl rfl | exact Or.inr (Or.inl rfl) | exact Or.inr (Or.inr rfl)) (hd : (x == ("__debug__" : Str)) = false := by decide)
    (hcd : (x == ("__classdict__" : Str)) = false := by decide) : DE X (EnvOk Γ) (.Name x pos) M := de_var i (fun σ H g => g.get i M h) hN hv hd hcd
variable [MG G]
theorem da_nil : DA X G [] [] := da_of pa_nil fun σ H Q g q => q [] H (Ex.refl H) .nil
theorem da_cons (he : DE X G e M) (hr : DA X G es Ms) (hs : starEach (e :: es) X.env = (false, eval e X.env) :: starEach es X.env := by rfl) : DA X G (e :: es) (M :: Ms) :=
  da_of (pa_cons he hr hs) fun σ H Q g q => ⟨g, fun v H1 x1 p1 => ⟨MG.mono x1 g, fun vs H2 x2 p2 => q _ H2 (x1.trans x2) (.cons (M.mono x2 p1) p2)⟩⟩
theorem de_call {α : Type} {pre : α → Prop} {args : α → List MP} {res : α → MP} {x : Str} {k : Nat} (D : DefOk X.prog X.w X.K X.mg X.base x k (spM pre args res)) (hr : Room k X.A) (y : α) (ha : DA X G (e :: es) (args y)) (hp : pre y) (hM : res y = M := by rfl)
    (hg : Gl X x := by rfl) (hdb : (x == ("__debug__" : Str)) = false := by decide) (he : starEach (e :: es) X.env = (false, eval e X.env) :: starEach es X.env := by rfl) (hpl : (backTo pos (starEach es X.env)).any (·.1) = false := by rfl) :
    DE X G (.Call (.Name x p) (e :: es) [] pos) M := by
  subst hM
  obtain ⟨f, fd, ps, F, hm, hk, hb⟩ := D.ex
  refine de_of (pe_call (E := E0) F hr hg hm hk hb .nil pass0 ha hdb he hpl) fun σ H Q g q => ⟨g, fun vs H1 x1 p1 => ?_⟩
  show spM pre args res (vs ++ []) H1 Q E0
  rw [List.append_nil]
  exact ⟨y, hp, p1, fun v H2 x2 p2 => q v H2 (x1.trans x2) p2⟩

/-! ### operators -/
def RVal (r : R2) (M1 M2 M3 : MP) : Prop := ∀ x y H (Q : VK), M1.P x H → M2.P y H → (∀ z H', Ex H H' → M3.P z H' → Q z H') → r x y H Q
theorem de_bin {op : Operator} {r : R2} (ho : OpR X (binaryOp op) r) (hv : RVal r M1 M2 M3) (ha : DE X G a M1) (hb : DE X G b M2) : DE X G (.BinOp a op b pos) M3 :=
  de_of (pe_op ho ha hb) fun σ H Q g q => ⟨g, fun v H1 x1 p1 => ⟨MG.mono x1 g, fun u H2 x2 p2 => hv v u H2 Q (M1.mono x2 p1) p2 fun z H3 x3 p3 => q z H3 ((x1.trans x2).trans x3) p3⟩⟩
theorem de_cmp {op : CmpOp} {r : R2} (ho : OpR X (compareOp op) r) (hv : RVal r M1 M2 M3) (ha : DE X G a M1) (hb : DE X G b M2) (hm : behindInMarks op b = false) : DE X G (.Compare a [op] [b] pos) M3 :=
  de_of (pe_cmpR ho ha hb hm) fun σ H Q g q => ⟨g, fun v H1 x1 p1 => ⟨MG.mono x1 g, fun u H2 x2 p2 => hv v u H2 Q (M1.mono x2 p1) p2 fun z H3 x3 p3 => q z H3 ((x1.trans x2).trans x3) p3⟩⟩
theorem dt_cmp {op : CmpOp} {r : R2} {k : Bool} (ho : OpR X (compareOp op) r) (hv : RVal r M1 M2 (MB X.K k)) (ha : DE X G a M1) (hb : DE X G b M2) (hm : behindInMarks op b = false) : DT X G (.Compare a [op] [b] pos) k :=
  dt_of (pt_cmpR ho ha hb hm) fun σ H Q g q => ⟨g, fun v H1 x1 p1 => ⟨MG.mono x1 g, fun u H2 x2 p2 => hv v u H2 _ (M1.mono x2 p1) p2 fun z H3 x3 p3 => ⟨k, dp_bl p3, q H3 ((x1.trans x2).trans x3)⟩⟩⟩
/-- an expression whose value is a bool, as a test -/
theorem dt_val {k : Bool} (h : DE X G e (MB X.K k)) (he : ∀ whole, isTrue e X.env whole = (do let v ← whole; standAt e.pos; holding [v] (truthy v)) := by intro _; rfl) : DT X G e k :=
  dt_of (pt_val h he) fun σ H Q g q => ⟨g, fun v H1 x1 p1 => ⟨k, dp_bl p1, q H1 x1⟩⟩
theorem dt_not {k : Bool} (h : DT X G e k) : DT X G (.UnaryOp .Not e pos) (!k) := dt_of (pt_not h) fun σ H Q g q => ⟨g, fun H1 x1 => q H1 x1⟩
theorem de_not {k : Bool} (h : DE X G e (MB X.K k)) : DE X G (.UnaryOp .Not e pos) (MB X.K (!k)) := de_of (pe_not h) fun σ H Q g q => ⟨g, fun v H1 x1 p1 => ⟨k, dp_bl p1, q _ H1 x1 (.bl _)⟩⟩
theorem de_ifExp {k : Bool} (hc : DT X G c k) (ha : k = true → DE X G a M) (hb : k = false → DE X G b M) : DE X G (.IfExp c a b pos) M := by
  cases k with
  | true =>
    refine ⟨fun pins s σ H Q I h => ?_⟩
    exact (pe_ifExp (tb := fun _ _ _ => False) hc (ha rfl) ⟨fun _ _ _ _ _ _ h => h.elim⟩).run pins s σ H Q I ⟨h.1, fun H1 x1 => by
      show tP G M σ H1 Q
      exact ⟨MG.mono x1 h.1, fun v H2 x2 p => h.2 v H2 (x1.trans x2) p⟩⟩
  | false =>
    refine ⟨fun pins s σ H Q I h => ?_⟩
    exact (pe_ifExp (ta := fun _ _ _ => False) hc ⟨fun _ _ _ _ _ _ h => h.elim⟩ (hb rfl)).run pins s σ H Q I ⟨h.1, fun H1 x1 => by
      show tP G M σ H1 Q
      exact ⟨MG.mono x1 h.1, fun v H2 x2 p => h.2 v H2 (x1.trans x2) p⟩⟩
/-- and, or as values of bools -/
theorem de_one {op} (h : DE X G e M) : DE X G (.BoolOp op [e] pos) M := pe_one h
theorem de_and {k l : Bool} {rest : List Expr} (ha : DE X G a (MB X.K k)) (hb : k = true → DE X G (.BoolOp .And (b :: rest) pos) (MB X.K l)) : DE X G (.BoolOp .And (a :: b :: rest) pos) (MB X.K (k && l)) := by
  cases k with
  | true => exact de_of (pe_and ha (hb rfl)) fun σ H Q g q => ⟨g, fun v H1 x1 p1 => ⟨true, dp_bl p1, ⟨MG.mono x1 g, fun u H2 x2 p2 => q u H2 (x1.trans x2) p2⟩⟩⟩
  | false => exact de_of (pe_and (tb := fun _ _ _ => False) ha ⟨fun _ _ _ _ _ _ h => h.elim⟩) fun σ H Q g q => ⟨g, fun v H1 x1 p1 => ⟨false, dp_bl p1, q (.bl false) H1 x1 (.bl false)⟩⟩
theorem de_or {k l : Bool} {rest : List Expr} (ha : DE X G a (MB X.K k)) (hb : k = false → DE X G (.BoolOp .Or (b :: rest) pos) (MB X.K l)) : DE X G (.BoolOp .Or (a :: b :: rest) pos) (MB X.K (k || l)) := by
  cases k with
  | false => exact de_of (pe_or ha (hb rfl)) fun σ H Q g q => ⟨g, fun v H1 x1 p1 => ⟨false, dp_bl p1, ⟨MG.mono x1 g, fun u H2 x2 p2 => q u H2 (x1.trans x2) p2⟩⟩⟩
  | true => exact de_of (pe_or (tb := fun _ _ _ => False) ha ⟨fun _ _ _ _ _ _ h => h.elim⟩) fun σ H Q g q => ⟨g, fun v H1 x1 p1 => ⟨true, dp_bl p1, q (.bl true) H1 x1 (.bl true)⟩⟩
/-- .. as tests -/
abbrev DW (X : Cx) (G : GP) (e : Expr) (b : Bool) : Prop := PW X e (tT G b)
theorem DW.t {k : Bool} (h : DW X G e k) : DT X G e k := PW.pt h
theorem dw_and1 {k : Bool} (ha : DT X G a k) : DW X G (.BoolOp .And [a] pos) k := pw_and1 ha
theorem dw_or1 {k : Bool} (ha : DT X G a k) : DW X G (.BoolOp .Or [a] pos) k := pw_or1 ha
theorem dw_and {k l : Bool} {rest : List Expr} (ha : DT X G a k) (hb : k = true → DW X G (.BoolOp .And (b :: rest) pos) l) : DW X G (.BoolOp .And (a :: b :: rest) pos) (k && l) := by
  cases k with
  | true =>
    exact ⟨fun wh pins s σ H Q I h => (pw_and ha (hb rfl)).run wh pins s σ H Q I ⟨h.1, fun H1 x1 => by
      show tT G l σ H1 Q
      exact ⟨MG.mono x1 h.1, fun H2 x2 => h.2 H2 (x1.trans x2)⟩⟩⟩
  | false => exact ⟨fun wh pins s σ H Q I h => (pw_and (tB' := fun _ _ _ => False) ha ⟨fun _ _ _ _ _ _ _ h => h.elim⟩).run wh pins s σ H Q I ⟨h.1, fun H1 x1 => h.2 H1 x1⟩⟩
theorem dw_or {k l : Bool} {rest : List Expr} (ha : DT X G a k) (hb : k = false → DW X G (.BoolOp .Or (b :: rest) pos) l) : DW X G (.BoolOp .Or (a :: b :: rest) pos) (k || l) := by
  cases k with
  | false =>
    exact ⟨fun wh pins s σ H Q I h => (pw_or ha (hb rfl)).run wh pins s σ H Q I ⟨h.1, fun H1 x1 => by
      show tT G l σ H1 Q
      exact ⟨MG.mono x1 h.1, fun H2 x2 => h.2 H2 (x1.trans x2)⟩⟩⟩
  | true => exact ⟨fun wh pins s σ H Q I h => (pw_or (tB' := fun _ _ _ => False) ha ⟨fun _ _ _ _ _ _ _ h => h.elim⟩).run wh pins s σ H Q I ⟨h.1, fun H1 x1 => h.2 H1 x1⟩⟩

/-! ### ints -/
theorem rv_I0 {K : PySem.W.Frag} {g : Int → Int → V} {h : PyData} {i j : Int} (hg : ∀ H, Dp K H (g i j) h) : RVal (rI0 g) (MI K i) (MI K j) (MP.d K h) := fun x y H Q p1 p2 q => ⟨i, j, dp_int p1, dp_int p2, q _ H (Ex.refl H) (hg H)⟩
theorem rv_I {K : PySem.W.Frag} {C : Int → Int → Prop} {g : Int → Int → V} {h : PyData} {i j : Int} (hc : C i j) (hg : ∀ H, Dp K H (g i j) h) : RVal (rI C g) (MI K i) (MI K j) (MP.d K h) := fun x y H Q p1 p2 q => ⟨i, j, dp_int p1, dp_int p2, hc, q _ H (Ex.refl H) (hg H)⟩
theorem de_add {i j : Int} (ha : DE X G a (MI X.K i)) (hb : DE X G b (MI X.K j)) : DE X G (.BinOp a .Add b pos) (MI X.K (i + j)) := de_bin op_add (rv_I0 fun _ => .int _) ha hb
theorem de_sub {i j : Int} (ha : DE X G a (MI X.K i)) (hb : DE X G b (MI X.K j)) : DE X G (.BinOp a .Sub b pos) (MI X.K (i - j)) := de_bin op_sub (rv_I0 fun _ => .int _) ha hb
theorem de_mul {i j : Int} (ha : DE X G a (MI X.K i)) (hb : DE X G b (MI X.K j)) (h : CMul i j) : DE X G (.BinOp a .Mult b pos) (MI X.K (i * j)) := de_bin op_mul (rv_I h fun _ => .int _) ha hb
theorem de_mod {i j : Int} (ha : DE X G a (MI X.K i)) (hb : DE X G b (MI X.K j)) (h : 0 < j) : DE X G (.BinOp a .Mod b pos) (MI X.K (i % j)) := de_bin op_mod (rv_I h fun _ => .int _) ha hb
theorem de_fdiv {i j : Int} (ha : DE X G a (MI X.K i)) (hb : DE X G b (MI X.K j)) (h : CDiv i j) : DE X G (.BinOp a .FloorDiv b pos) (MI X.K (i / j)) := de_bin op_fdiv (rv_I h fun _ => .int _) ha hb
theorem de_pow {i j : Int} (ha : DE X G a (MI X.K i)) (hb : DE X G b (MI X.K j)) (h : CPow i j) : DE X G (.BinOp a .Pow b pos) (MI X.K (i ^ j.toNat)) := de_bin op_pow (rv_I h fun _ => .int _) ha hb
theorem de_neg {i : Int} (ha : DE X G a (MI X.K i)) : DE X G (.UnaryOp .USub a pos) (MI X.K (-i)) := de_of (pe_un un_neg ha) fun σ H Q g q => ⟨g, fun v H1 x1 p1 => ⟨i, dp_int p1, q _ H1 x1 (.int _)⟩⟩
theorem dt_lt {i j : Int} (ha : DE X G a (MI X.K i)) (hb : DE X G b (MI X.K j)) : DT X G (.Compare a [.Lt] [b] pos) (decide (i < j)) := dt_cmp op_lt (rv_I0 fun _ => .bl _) ha hb (nomark _)
theorem dt_gt {i j : Int} (ha : DE X G a (MI X.K i)) (hb : DE X G b (MI X.K j)) : DT X G (.Compare a [.Gt] [b] pos) (decide (j < i)) := dt_cmp op_gt (rv_I0 fun _ => .bl _) ha hb (nomark _)
theorem de_ge {i j : Int} (ha : DE X G a (MI X.K i)) (hb : DE X G b (MI X.K j)) : DE X G (.Compare a [.GtE] [b] pos) (MB X.K (decide (j ≤ i))) := de_cmp op_ge (rv_I0 fun _ => .bl _) ha hb (nomark _)

/-! ### == and in, of data -/
theorem rv_eqD {K : PySem.W.Frag} {d d' : PyData} (h : SeqAt.shaped d = true) (h' : SeqAt.shaped d' = true) : RVal (rEqD K) (MP.d K d) (MP.d K d') (MB K (PyData.eqv d d')) := fun x y H Q p1 p2 q => ⟨d, d', p1, p2, h, h', q _ H (Ex.refl H) (.bl _)⟩
theorem rv_neD {K : PySem.W.Frag} {d d' : PyData} (h : SeqAt.shaped d = true) (h' : SeqAt.shaped d' = true) : RVal (rNeD K) (MP.d K d) (MP.d K d') (MB K (!PyData.eqv d d')) := fun x y H Q p1 p2 q => ⟨d, d', p1, p2, h, h', q _ H (Ex.refl H) (.bl _)⟩
end

/-- x in t, t a tuple of data -/
def rInT (K : PySem.W.Frag) : R2 := fun x y H Q => ∃ d ds, Dp K H x d ∧ Dp K H y (.tuple ds) ∧ SeqAt.shaped d = true ∧ SeqAt.shaped (.tuple ds) = true ∧ Q (.bl (ds.any fun z => PyData.eqv z d)) H
def rNotInT (K : PySem.W.Frag) : R2 := fun x y H Q => ∃ d ds, Dp K H x d ∧ Dp K H y (.tuple ds) ∧ SeqAt.shaped d = true ∧ SeqAt.shaped (.tuple ds) = true ∧ Q (.bl (!ds.any fun z => PyData.eqv z d)) H
theorem lay_tup {ds : List PyData} (h : SeqAt.shaped (.tuple ds) = true) : PyData.canLayAll0 ds = true := by
  have := SeqAt.canLay_of_shaped h
  simpa only [PyData.canLay0] using this
theorem room_in {A : Around} {d : PyData} (h : SeqAt.shaped d = true) (hu : A.units + 65 < cLine) (n : Nat) : A.units + 1 + min n d.depth < cLine := by
  have := SeqAt.depth_of_shaped h
  omega
section
variable {X : Cx}
theorem op_inT (hu : X.A.units + 65 < cLine) : OpR X (compareOp .In) (rInT X.K) := by
  intro pins s σ H x y v u Q I rx ry h
  obtain ⟨d, ds, hd, he, sd, se, q⟩ := h
  obtain ⟨as, r1⟩ := Dp.reads I d x v hd rx
  obtain ⟨bs, r2⟩ := Dp.reads I (.tuple ds) y u he ry
  exact SeqAt.in_tuple_reads r2 r1 (lay_tup se) (SeqAt.canLay_of_shaped sd) (room_in sd hu _) ⟨.bl _, H, I, rfl, q⟩
theorem op_notInT (hu : X.A.units + 65 < cLine) : OpR X (compareOp .NotIn) (rNotInT X.K) := by
  intro pins s σ H x y v u Q I rx ry h
  obtain ⟨d, ds, hd, he, sd, se, q⟩ := h
  obtain ⟨as, r1⟩ := Dp.reads I d x v hd rx
  obtain ⟨bs, r2⟩ := Dp.reads I (.tuple ds) y u he ry
  exact SeqAt.notIn_tuple_reads r2 r1 (lay_tup se) (SeqAt.canLay_of_shaped sd) (room_in sd hu _) ⟨.bl _, H, I, rfl, q⟩
end
section
variable {X : Cx} {G : GP} {pos p : Pos} {M M1 M2 M3 : MP} {e a b c : Expr} {es : List Expr} {Ms : List MP} [MG G] {k : Nat} {α : Type} [Enc α] [DecidableEq α]
/-- x is in y -/
def memE (x : α) (y : List α) : Bool := decide (x ∈ y)
omit [Enc α] in
theorem memE_iff {x : α} {y : List α} : memE x y = true ↔ x ∈ y := decide_eq_true_iff
theorem un65 (hr : Room k X.A) : X.A.units + 65 < cLine := by have := hr.un; omega
theorem rv_eqE {K : PySem.W.Frag} {x y : α} (h : Enc.lv α ≤ 60 := by decide) : RVal (rEqD K) (ME K x) (ME K y) (MB K (decide (x = y))) := by
  have := rv_eqD (K := K) (shaped_enc x h) (shaped_enc y h)
  rw [enc_eqv] at this
  exact this
theorem rv_neE {K : PySem.W.Frag} {x y : α} (h : Enc.lv α ≤ 60 := by decide) : RVal (rNeD K) (ME K x) (ME K y) (MB K (!decide (x = y))) := by
  have := rv_neD (K := K) (shaped_enc x h) (shaped_enc y h)
  rw [enc_eqv] at this
  exact this
theorem rv_eqL {K : PySem.W.Frag} {x y : List α} (h : Enc.lv α ≤ 60 := by decide) : RVal (rEqD K) (ML K x) (ML K y) (MB K (decide (x = y))) := by
  have := rv_eqD (K := K) (shaped_list x h) (shaped_list y h)
  rw [list_eqv] at this
  exact this
theorem rv_inT {K : PySem.W.Frag} {x : α} {y : List α} (h : Enc.lv α ≤ 59 := by decide) : RVal (rInT K) (ME K x) (ME K y) (MB K (memE x y)) := fun u v H Q p1 p2 q => by
  refine ⟨enc x, y.map enc, p1, p2, shaped_enc x (by omega), shaped_enc y (by show Enc.lv α + 1 ≤ 60; omega), ?_⟩
  rw [enc_any]
  exact q _ H (Ex.refl H) (.bl _)
theorem rv_notInT {K : PySem.W.Frag} {x : α} {y : List α} (h : Enc.lv α ≤ 59 := by decide) : RVal (rNotInT K) (ME K x) (ME K y) (MB K (!memE x y)) := fun u v H Q p1 p2 q => by
  refine ⟨enc x, y.map enc, p1, p2, shaped_enc x (by omega), shaped_enc y (by show Enc.lv α + 1 ≤ 60; omega), ?_⟩
  rw [enc_any]
  exact q _ H (Ex.refl H) (.bl _)
theorem rv_inL {K : PySem.W.Frag} {x : α} {y : List α} (h : Enc.lv α ≤ 59 := by decide) : RVal (rInD K) (ME K x) (ML K y) (MB K (memE x y)) := fun u v H Q p1 p2 q => by
  refine ⟨enc x, y.map enc, p1, p2, shaped_enc x (by omega), shaped_list y (by omega), ?_⟩
  rw [enc_any]
  exact q _ H (Ex.refl H) (.bl _)
theorem rv_notInL {K : PySem.W.Frag} {x : α} {y : List α} (h : Enc.lv α ≤ 59 := by decide) : RVal (rNotInD K) (ME K x) (ML K y) (MB K (!memE x y)) := fun u v H Q p1 p2 q => by
  refine ⟨enc x, y.map enc, p1, p2, shaped_enc x (by omega), shaped_list y (by omega), ?_⟩
  rw [enc_any]
  exact q _ H (Ex.refl H) (.bl _)
theorem de_eqE (hr : Room k X.A) {x y : α} (ha : DE X G a (ME X.K x)) (hb : DE X G b (ME X.K y)) (h : Enc.lv α ≤ 60 := by decide) : DE X G (.Compare a [.Eq] [b] pos) (MB X.K (decide (x = y))) := de_cmp (op_eqD hr.units) (rv_eqE h) ha hb (nomark _)
theorem dt_eqE (hr : Room k X.A) {x y : α} (ha : DE X G a (ME X.K x)) (hb : DE X G b (ME X.K y)) (h : Enc.lv α ≤ 60 := by decide) : DT X G (.Compare a [.Eq] [b] pos) (decide (x = y)) := dt_cmp (op_eqD hr.units) (rv_eqE h) ha hb (nomark _)
theorem de_neE (hr : Room k X.A) {x y : α} (ha : DE X G a (ME X.K x)) (hb : DE X G b (ME X.K y)) (h : Enc.lv α ≤ 60 := by decide) : DE X G (.Compare a [.NotEq] [b] pos) (MB X.K (!decide (x = y))) := de_cmp (op_neD hr.units) (rv_neE h) ha hb (nomark _)
theorem dt_neE (hr : Room k X.A) {x y : α} (ha : DE X G a (ME X.K x)) (hb : DE X G b (ME X.K y)) (h : Enc.lv α ≤ 60 := by decide) : DT X G (.Compare a [.NotEq] [b] pos) (!decide (x = y)) := dt_cmp (op_neD hr.units) (rv_neE h) ha hb (nomark _)
theorem dt_eqL (hr : Room k X.A) {x y : List α} (ha : DE X G a (ML X.K x)) (hb : DE X G b (ML X.K y)) (h : Enc.lv α ≤ 60 := by decide) : DT X G (.Compare a [.Eq] [b] pos) (decide (x = y)) := dt_cmp (op_eqD hr.units) (rv_eqL h) ha hb (nomark _)
theorem de_eqL (hr : Room k X.A) {x y : List α} (ha : DE X G a (ML X.K x)) (hb : DE X G b (ML X.K y)) (h : Enc.lv α ≤ 60 := by decide) : DE X G (.Compare a [.Eq] [b] pos) (MB X.K (decide (x = y))) := de_cmp (op_eqD hr.units) (rv_eqL h) ha hb (nomark _)
theorem dt_inT (hr : Room k X.A) {x : α} {y : List α} (ha : DE X G a (ME X.K x)) (hb : DE X G b (ME X.K y)) (h : Enc.lv α ≤ 59 := by decide) (hm : behindInMarks .In b = false := by rfl) : DT X G (.Compare a [.In] [b] pos) (memE x y) := dt_cmp (op_inT (un65 hr)) (rv_inT h) ha hb hm
theorem de_inT (hr : Room k X.A) {x : α} {y : List α} (ha : DE X G a (ME X.K x)) (hb : DE X G b (ME X.K y)) (h : Enc.lv α ≤ 59 := by decide) (hm : behindInMarks .In b = false := by rfl) : DE X G (.Compare a [.In] [b] pos) (MB X.K (memE x y)) := de_cmp (op_inT (un65 hr)) (rv_inT h) ha hb hm
theorem de_notInT (hr : Room k X.A) {x : α} {y : List α} (ha : DE X G a (ME X.K x)) (hb : DE X G b (ME X.K y)) (h : Enc.lv α ≤ 59 := by decide) (hm : behindInMarks .NotIn b = false := by rfl) : DE X G (.Compare a [.NotIn] [b] pos) (MB X.K (!memE x y)) := de_cmp (op_notInT (un65 hr)) (rv_notInT h) ha hb hm
theorem dt_inL (hr : Room k X.A) {x : α} {y : List α} (ha : DE X G a (ME X.K x)) (hb : DE X G b (ML X.K y)) (h : Enc.lv α ≤ 59 := by decide) (hm : behindInMarks .In b = false := by rfl) : DT X G (.Compare a [.In] [b] pos) (memE x y) := dt_cmp (op_inD (un65 hr)) (rv_inL h) ha hb hm
theorem dt_notInL (hr : Room k X.A) {x : α} {y : List α} (ha : DE X G a (ME X.K x)) (hb : DE X G b (ML X.K y)) (h : Enc.lv α ≤ 59 := by decide) (hm : behindInMarks .NotIn b = false := by rfl) : DT X G (.Compare a [.NotIn] [b] pos) (!memE x y) := dt_cmp (op_notInD (un65 hr)) (rv_notInL h) ha hb hm
/-- is None -/
def isNone : PyData → Bool
  | .none => true
  | _ => false
theorem dp_isNone {K : PySem.W.Frag} {H : Hp} {v : V} {d : PyData} (h : Dp K H v d) : decide (v = .non) = isNone d := by
  cases h <;> first | rfl | exact decide_eq_false (fun e => nomatch e)
theorem de_isN {d : PyData} {j} {p' : Pos} (ha : DE X G a (MP.d X.K d)) : DE X G (.Compare a [.Is] [.Constant .none j p'] pos) (MB X.K (isNone d)) :=
  de_of (pe_cmp (pc_isN ha) rfl) fun σ H Q g q => ⟨g, fun v H1 x1 p1 => q _ H1 x1 (by rw [dp_isNone p1]; exact .bl _)⟩
theorem dt_isN {d : PyData} {j} {p' : Pos} (ha : DE X G a (MP.d X.K d)) : DT X G (.Compare a [.Is] [.Constant .none j p'] pos) (isNone d) :=
  dt_of (pt_cmp (pc_isN ha) rfl) fun σ H Q g q => ⟨g, fun v H1 x1 p1 => ⟨_, by rw [dp_isNone p1], q H1 x1⟩⟩
theorem dt_notN {d : PyData} {j} {p' : Pos} (ha : DE X G a (MP.d X.K d)) : DT X G (.Compare a [.IsNot] [.Constant .none j p'] pos) (!isNone d) :=
  dt_of (pt_cmp (pc_notN ha) rfl) fun σ H Q g q => ⟨g, fun v H1 x1 p1 => ⟨_, by rw [dp_isNone p1], q H1 x1⟩⟩
end
end K78

-- part KComp
set_option Elab.async false
set_option linter.all false
set_option maxRecDepth 100000
set_option maxHeartbeats 4000000
/-! KComp: what is walked, comprehensions, loops, statements, a def's promise; over data. -/
namespace K78
open PySem PySem.Spec PyProof.Rows L2
open Evl (Ex ex_t ex_l ex_rd fresh_back)
open Enc (enc)

/-! ### what is walked -/
def iD (K : PySem.W.Frag) (G : GP) (ds : List PyData) : TI := fun σ H R => G σ H ∧ ∀ (J : It) (H' : Hp) (Gs : Hp → Prop) (Y : Nat → Hp → V → Hp → Prop), Ex H H' → (∀ H1 H2, Ex H1 H2 → Gs H1 → Gs H2) → Gs H' → L2.Walk J ds.length Gs Y →
  (∀ i H1 x H2, Gs H1 → Y i H1 x H2 → ∃ d, ds[i]? = some d ∧ Ex H1 H2 ∧ Dp K H2 x d) → R J H'
abbrev DI (X : Cx) (G : GP) (tg iter : Expr) (ds : List PyData) : Prop := PI X tg iter (iD X.K G ds)
section
variable {X : Cx} {G : GP} {tg e e2 : Expr} {ds es : List PyData} {pos p tpos : Pos}
theorem pi_imp {t t' : TI} (h : PI X tg e t) (k : ∀ σ H R, t' σ H R → t σ H R) : PI X tg e t' := ⟨fun pins s σ H R I q => h.run pins s σ H R I (k σ H R q)⟩
theorem di_list (h : DE X G e (MP.d X.K (.list ds))) : DI X G tg e ds := pi_imp (pi_list h) fun σ H R q => ⟨q.1, fun v H1 x1 p1 => by
  obtain ⟨a, vs, rfl, hq, hd⟩ := dp_lst p1
  refine ⟨a, rfl, ⟨vs, hq⟩, ?_⟩
  have hl := hd.length
  refine q.2 _ H1 (fun H => SqL X.K H a vs ∧ DpAll X.K H vs ds) _ x1 (fun H1 H2 x z => ⟨ex_l x z.1, DpAll.mono x _ _ z.2⟩) ⟨hq, hd⟩ ((show Walk (Itl X.K a) ds.length (fun H => SqL X.K H a vs ∧ DpAll X.K H vs ds) (YAt vs) by rw [← hl]; exact walk_list.mono (fun H z => z.1) (fun i H x H' _ _ y => y))) fun i H1 x H2 z y => ?_
  obtain ⟨rfl, hx⟩ := y
  obtain ⟨d, e1, p⟩ := z.2.get hx
  exact ⟨d, e1, Ex.refl _, p⟩⟩
theorem di_tup (h : DE X G e (MP.d X.K (.tuple ds))) : DI X G tg e ds := pi_imp (pi_tup h) fun σ H R q => ⟨q.1, fun v H1 x1 p1 => by
  obtain ⟨a, vs, rfl, hq, hd⟩ := dp_tup p1
  refine ⟨a, rfl, ⟨vs, hq⟩, ?_⟩
  have hl := hd.length
  refine q.2 _ H1 (fun H => SqT X.K H a vs ∧ DpAll X.K H vs ds) _ x1 (fun H1 H2 x z => ⟨ex_t x z.1, DpAll.mono x _ _ z.2⟩) ⟨hq, hd⟩ ((show Walk (Itt X.K a) ds.length (fun H => SqT X.K H a vs ∧ DpAll X.K H vs ds) (YAt vs) by rw [← hl]; exact walk_tup.mono (fun H z => z.1) (fun i H x H' _ _ y => y))) fun i H1 x H2 z y => ?_
  obtain ⟨rfl, hx⟩ := y
  obtain ⟨d, e1, p⟩ := z.2.get hx
  exact ⟨d, e1, Ex.refl _, p⟩⟩
/-- range(n) -/
def rangeD (n : Nat) : List PyData := (List.range n).map fun (i : Nat) => PyData.int (i : Int)
theorem rangeD_get {n i : Nat} (h : i < n) : (rangeD n)[i]? = some (.int (i : Int)) := by
  unfold rangeD
  rw [List.getElem?_map, List.getElem?_range h]
  rfl
theorem di_range {n : Int} (hm : X.mg "range" = none) [MG G] (h : DE X G e (MI X.K n)) (h0 : 0 ≤ n) (h1 : n < 2 ^ 62) (hg : Gl X "range" := by rfl) (hs : starEach [e] X.env = [(false, eval e X.env)] := by rfl)
    (hs2 : starEach [e] X.env = (false, eval e X.env) :: starEach [] X.env := by rfl) : DI X G tg (.Call (.Name "range" p) [e] [] pos) (rangeD n.toNat) :=
  pi_imp (pi_range1 hg hm (da_cons h da_nil hs2) hs) fun σ H R q => ⟨q.1, fun vs H1 x1 p1 => by
    cases p1 with
    | cons p1 p2 =>
      cases p2
      have e := dp_int p1
      subst e
      have hl : (rangeD n.toNat).length = n.toNat := by unfold rangeD; rw [List.length_map, List.length_range]
      refine ⟨n, rfl, by omega, h1, ?_⟩
      refine q.2 _ H1 (fun _ => True) (fun i H x H' => i < n.toNat ∧ H' = H ∧ x = .int (i : Int)) x1 (fun _ _ _ z => z) trivial (by rw [hl]; exact walk_range.mono (fun H z => z) (fun i H x H' hi _ y => ⟨hi, y.1, y.2.trans (by show V.int (0 + (i : Int)) = V.int (i : Int); rw [Int.zero_add])⟩)) fun i H1 x H2 _ y => ?_
      obtain ⟨hi, rfl, rfl⟩ := y
      exact ⟨_, rangeD_get hi, Ex.refl _, .int _⟩⟩
/-- zip of two -/
def zipD (ds es : List PyData) : List PyData := (ds.zip es).map fun p => .tuple [p.1, p.2]
theorem zipD_get {ds es : List PyData} {i : Nat} {d e : PyData} (h1 : ds[i]? = some d) (h2 : es[i]? = some e) : (zipD ds es)[i]? = some (.tuple [d, e]) := by
  unfold zipD
  rw [List.getElem?_map, (List.getElem?_zip_eq_some (z := (d, e))).mpr ⟨h1, h2⟩]
  rfl
theorem zipD_length (ds es : List PyData) : (zipD ds es).length = min ds.length es.length := by
  unfold zipD
  rw [List.length_map, List.length_zip]
theorem pairY {K : PySem.W.Frag} {xs ys : List V} {ds es : List PyData} {i : Nat} {H1 H2 : Hp} {x : V} (z1 : DpAll K H1 xs ds) (z2 : DpAll K H1 ys es) (y : YPair (fun i => xs[i]?) (fun i => ys[i]?) i H1 x H2) : ∃ d, (zipD ds es)[i]? = some d ∧ Ex H1 H2 ∧ Dp K H2 x d := by
  obtain ⟨T, u, v, rfl, hT, rfl, h1, h2⟩ := y
  obtain ⟨d, e1, p1⟩ := z1.get h1
  obtain ⟨d2, e2, p2⟩ := z2.get h2
  exact ⟨_, zipD_get e1 e2, Ex.new hT, dp_newT hT (.cons p1 (.cons p2 .nil))⟩
theorem walk_zipT {K : PySem.W.Frag} {a b : Addr} {xs ys : List V} {n : Nat} (hn : n = min xs.length ys.length) : Walk (RZ.ItzT K a b) n (fun H => SqT K H a xs ∧ SqT K H b ys) (YPair (fun i => xs[i]?) (fun i => ys[i]?)) := by
  subst hn
  refine ⟨fun i _ hi q => ?_, fun _ q => ⟨xs, ys, q.1, q.2, by omega⟩, fun i H v H' _ q y => ?_⟩
  · have h1 : i < xs.length := by omega
    have h2 : i < ys.length := by omega
    exact ⟨xs, ys, xs[i], ys[i], q.1, q.2, by simp [h1], by simp [h2]⟩
  · obtain ⟨T, x, z, h1, h2, h3, h4, h5⟩ := y
    exact ⟨T, x, z, h1, h2, h3, h4 xs q.1, h5 ys q.2⟩
theorem di_zipT {elts : List Expr} {kk : Nat} (hm : X.mg "zip" = none) [MG G] (h1 : DE X G e (MP.d X.K (.tuple ds))) (h2 : DE X G e2 (MP.d X.K (.tuple es))) (hg : Gl X "zip" := by rfl)
    (hs : starEach [e, e2] X.env = (false, eval e X.env) :: starEach [e2] X.env := by rfl) (hs2 : starEach [e2] X.env = (false, eval e2 X.env) :: starEach [] X.env := by rfl) (hpl : (backTo pos (starEach [e2] X.env)).any (·.1) = false := by rfl) :
    DI X G (.Tuple elts kk tpos) (.Call (.Name "zip" p) [e, e2] [] pos) (zipD ds es) :=
  pi_imp (RZ.pi_zipA hg hm (da_cons h1 (da_cons h2 da_nil hs2) hs) hs hpl) fun σ H R q => ⟨q.1, fun vs H1 x1 p1 => by
    cases p1 with
    | cons p1 p2 =>
      cases p2 with
      | cons p2 p3 =>
        cases p3
        obtain ⟨a, xs, rfl, hq, hd⟩ := dp_tup p1
        obtain ⟨b, ys, rfl, hq2, hd2⟩ := dp_tup p2
        refine ⟨a, b, xs, ys, rfl, .inr ⟨hq, hq2, ?_⟩⟩
        refine q.2 _ H1 (fun H => (SqT X.K H a xs ∧ SqT X.K H b ys) ∧ DpAll X.K H xs ds ∧ DpAll X.K H ys es) _ x1 (fun H1 H2 x z => ⟨⟨ex_t x z.1.1, ex_t x z.1.2⟩, DpAll.mono x _ _ z.2.1, DpAll.mono x _ _ z.2.2⟩) ⟨⟨hq, hq2⟩, hd, hd2⟩
          ((walk_zipT (by rw [zipD_length, hd.length, hd2.length])).mono (fun H z => z.1) (fun i H x H' _ _ y => y)) fun i H1 x H2 z y => pairY z.2.1 z.2.2 y⟩
theorem di_zipL {elts : List Expr} {kk : Nat} (hm : X.mg "zip" = none) [MG G] (h1 : DE X G e (MP.d X.K (.list ds))) (h2 : DE X G e2 (MP.d X.K (.list es))) (hg : Gl X "zip" := by rfl)
    (hs : starEach [e, e2] X.env = (false, eval e X.env) :: starEach [e2] X.env := by rfl) (hs2 : starEach [e2] X.env = (false, eval e2 X.env) :: starEach [] X.env := by rfl) (hpl : (backTo pos (starEach [e2] X.env)).any (·.1) = false := by rfl) :
    DI X G (.Tuple elts kk tpos) (.Call (.Name "zip" p) [e, e2] [] pos) (zipD ds es) :=
  pi_imp (RZ.pi_zipA hg hm (da_cons h1 (da_cons h2 da_nil hs2) hs) hs hpl) fun σ H R q => ⟨q.1, fun vs H1 x1 p1 => by
    cases p1 with
    | cons p1 p2 =>
      cases p2 with
      | cons p2 p3 =>
        cases p3
        obtain ⟨a, xs, rfl, hq, hd⟩ := dp_lst p1
        obtain ⟨b, ys, rfl, hq2, hd2⟩ := dp_lst p2
        refine ⟨a, b, xs, ys, rfl, .inl ⟨hq, hq2, ?_⟩⟩
        refine q.2 _ H1 (fun H => (SqL X.K H a xs ∧ SqL X.K H b ys) ∧ DpAll X.K H xs ds ∧ DpAll X.K H ys es) _ x1 (fun H1 H2 x z => ⟨⟨ex_l x z.1.1, ex_l x z.1.2⟩, DpAll.mono x _ _ z.2.1, DpAll.mono x _ _ z.2.2⟩) ⟨⟨hq, hq2⟩, hd, hd2⟩
          ((walk_zip (by rw [zipD_length, hd.length, hd2.length])).mono (fun H z => z.1) (fun i H x H' _ _ y => y)) fun i H1 x H2 z y => pairY z.2.1 z.2.2 y⟩
/-- enumerate(list) -/
def enumD (ds : List PyData) : List PyData := zipD (rangeD ds.length) ds
theorem enumD_get {ds : List PyData} {i : Nat} {d : PyData} (h : ds[i]? = some d) : (enumD ds)[i]? = some (.tuple [.int (i : Int), d]) :=
  zipD_get (rangeD_get (List.getElem?_eq_some_iff.mp h).1) h
theorem enumD_length (ds : List PyData) : (enumD ds).length = ds.length := by
  unfold enumD
  rw [zipD_length]
  unfold rangeD
  rw [List.length_map, List.length_range, Nat.min_self]
theorem di_enumL {elts : List Expr} {kk : Nat} (hm : X.mg "enumerate" = none) [MG G] (h1 : DE X G e (MP.d X.K (.list ds))) (hg : Gl X "enumerate" := by rfl) (hs : starEach [e] X.env = [(false, eval e X.env)] := by rfl)
    (hs2 : starEach [e] X.env = (false, eval e X.env) :: starEach [] X.env := by rfl) :
    DI X G (.Tuple elts kk tpos) (.Call (.Name "enumerate" p) [e] [] pos) (enumD ds) :=
  pi_imp (pi_enum hg hm (da_cons h1 da_nil hs2) hs) fun σ H R q => ⟨q.1, fun vs H1 x1 p1 => by
    cases p1 with
    | cons p1 p2 =>
      cases p2
      obtain ⟨a, xs, rfl, hq, hd⟩ := dp_lst p1
      refine ⟨a, xs, rfl, hq, ?_⟩
      refine q.2 _ H1 (fun H => SqL X.K H a xs ∧ DpAll X.K H xs ds) _ x1 (fun H1 H2 x z => ⟨ex_l x z.1, DpAll.mono x _ _ z.2⟩) ⟨hq, hd⟩
        (by rw [enumD_length, ← hd.length]; exact walk_enum.mono (fun H z => z.1) (fun i H x H' _ _ y => y)) fun i H1 x H2 z y => ?_
      obtain ⟨T, u, v, rfl, hT, rfl, h1, h2⟩ := y
      obtain ⟨d2, e2, p2⟩ := z.2.get h2
      cases h1
      exact ⟨_, enumD_get e2, Ex.new hT, dp_newT hT (.cons (.int _) (.cons p2 .nil))⟩⟩
end

/-! ### targets -/
def Tg (K : PySem.W.Frag) (g : TG) (vs : List Nat) (d : PyData) (G G' : GP) : Prop := ∀ v σ H (Q : L2.St → Hp → Prop), Dp K H v d → G σ H → (∀ σ', G' σ' H → wipe σ' vs = wipe σ vs → Q σ' H) → g v σ H Q
def gNs : List Nat → TGs
  | [] => gNil
  | j :: js => gCons (gName j) (gNs js)
def setAll (K : PySem.W.Frag) (Γ : En) : List Nat → List PyData → En
  | j :: js, d :: ds => setAll K (Γ.set j (some (MP.d K d))) js ds
  | _, _ => Γ
theorem wipe_set {σ : L2.St} {j : Nat} {x : Option V} : ∀ {vs : List Nat}, j ∈ vs → wipe (σ.set j x) vs = wipe σ vs
  | [], h => by simp at h
  | v :: vs, h => by
    unfold wipe
    by_cases e : j ∈ vs
    · rw [wipe_set e]
    · rcases List.mem_cons.mp h with rfl | h
      · have : ∀ (vs : List Nat) (σ : L2.St), j ∉ vs → wipe (σ.set j x) vs = (wipe σ vs).set j x := by
          intro vs
          induction vs with
          | nil => intro σ _; rfl
          | cons u us ih =>
            intro σ hu
            unfold wipe
            rw [ih σ (fun q => hu (List.mem_cons_of_mem _ q)), List.set_comm _ _ (fun q => hu (by rw [q]; exact List.mem_cons_self))]
        rw [this vs σ e, List.set_set]
      · exact absurd h e
section
variable {K : PySem.W.Frag} {vs : List Nat} {Γ : En}
theorem tg_name {j : Nat} {d : PyData} (hj : j ∈ vs := by decide) : Tg K (gName j) vs d (EnvOk Γ) (EnvOk (Γ.set j (some (MP.d K d)))) := fun v σ H Q p g q => q _ (g.set j (M := MP.d K d) p) (wipe_set hj)
theorem gNs_ok : ∀ {js : List Nat} {ds : List PyData} {Γ : En} {σ : L2.St} {H : Hp} {us : List V} {Q : L2.St → Hp → Prop}, (∀ j ∈ js, j ∈ vs) → ds.length = js.length → DpAll K H us ds → EnvOk Γ σ H →
    (∀ σ', EnvOk (setAll K Γ js ds) σ' H → wipe σ' vs = wipe σ vs → Q σ' H) → gNs js us σ H Q
  | [], [], Γ, σ, H, us, Q, _, _, h, g, q => by
    cases h
    exact ⟨rfl, q σ g rfl⟩
  | j :: js, d :: ds, Γ, σ, H, us, Q, hj, hl, h, g, q => by
    cases h with
    | cons h1 h2 =>
      refine ⟨_, _, rfl, ?_⟩
      exact gNs_ok (fun i hi => hj i (List.mem_cons_of_mem _ hi)) (by simpa using hl) h2 (g.set j (M := MP.d K d) h1) fun σ' g' w' => q σ' g' (by rw [w', wipe_set (hj j List.mem_cons_self)])
  | [], _ :: _, _, _, _, _, _, _, hl, _, _, _ => by simp at hl
  | _ :: _, [], _, _, _, _, _, _, hl, _, _, _ => by simp at hl
theorem tg_tup {js : List Nat} {ds : List PyData} (hl : ds.length = js.length) (hj : ∀ j ∈ js, j ∈ vs := by decide) : Tg K (gTup K js.length (gNs js)) vs (.tuple ds) (EnvOk Γ) (EnvOk (setAll K Γ js ds)) := fun v σ H Q p g q => by
  obtain ⟨a, us, rfl, hq, hd⟩ := dp_tup p
  exact ⟨a, us, rfl, hq, by rw [hd.length, hl], gNs_ok hj hl hd g q⟩
end

/-! ### comprehensions -/
section
variable {X : Cx} {pos : Pos}
abbrev AllB (X : Cx) (scope : Scope) (φ : Cx → Prop) : Prop := ∀ (s : Shared) (H : Hp) (C : Addr) (cl : List (Str × Addr)) (fp : List Addr), φ (X.blk s H scope (compEnvC scope cl C X.env) fp)
theorem pts_imp {ifs : List Expr} {t t' : TT} (h : PTs X ifs t) (k : ∀ σ H Q, t' σ H Q → t σ H Q) : PTs X ifs t' := ⟨fun pins s σ H Q I q => h.run pins s σ H Q I (k σ H Q q)⟩
abbrev DTs (X : Cx) (G : GP) (ifs : List Expr) (b : Bool) : Prop := PTs X ifs (tT G b)
theorem dts_nil {G : GP} : DTs X G [] true := pts_imp pts_nil fun σ H Q q => q.2 H (Ex.refl H)
theorem dts_one {G : GP} {c : Expr} {b : Bool} (h : DT X G c b) : DTs X G [c] b := pts_one h
theorem wipe_wipe (vs : List Nat) (σ : L2.St) : wipe (wipe σ vs) vs = wipe σ vs := by
  have key : ∀ (us : List Nat) (τ : L2.St), (∀ u ∈ us, ∀ o, τ[u]? = some o → o = none) → wipe τ us = τ := by
    intro us
    induction us with
    | nil => intro τ _; rfl
    | cons u us ih =>
      intro τ h
      unfold wipe
      rw [ih τ (fun v hv => h v (List.mem_cons_of_mem _ hv))]
      by_cases hu : u < τ.length
      · have e := h u List.mem_cons_self τ[u] (by simp [hu])
        have e2 : τ.set u none = τ.set u τ[u] := by rw [e]
        rw [e2]
        exact List.set_getElem_self hu
      · exact List.set_eq_of_length_le (by omega)
  refine key vs _ fun u hu o ho => ?_
  cases o with
  | none => rfl
  | some v => exact absurd hu (wipe_some ho).2
theorem take_filter {β : Type} {zs : List β} {i : Nat} {z : β} (cond : β → Bool) (h : zs[i]? = some z) : (zs.take (i + 1)).filter cond = (zs.take i).filter cond ++ (if cond z = true then [z] else []) := by
  rw [List.take_add_one, h]
  show List.filter cond (zs.take i ++ [z]) = _
  rw [List.filter_append]
  cases hcz : cond z <;> simp [hcz]
/-- a comprehension: as a value, and as what a local name gets at once -/
structure CompOk (X : Cx) (e : Expr) (te : TE) : Prop where
  val : PE X e te
  asg : ∀ (i : Nat) (y : Str) (py spos : Pos), X.N[i]? = some y → X.env.scope.names.lookup y = some .local → swapsWith e (some (.Name y py)) spos.line X.env = pure true → PS X (.Assign [.Name y py] e spos) (tAsg te (gName i))
def DC (X : Cx) (G : GP) (e : Expr) (M : MP) : Prop := ∃ te, CompOk X e te ∧ ∀ σ H Q, G σ H → (∀ v H', Ex H H' → M.P v H' → Q v H') → te σ H Q
theorem DC.de {G : GP} {e : Expr} {M : MP} (h : DC X G e M) : DE X G e M := let ⟨_, c, k⟩ := h; de_of c.val k
theorem DC.to {G : GP} {e : Expr} {K : PySem.W.Frag} {d d' : PyData} (h : DC X G e (MP.d K d)) (k : d = d') : DC X G e (MP.d K d') := k ▸ h
theorem DC.cast {G : GP} {e : Expr} {M M' : MP} (h : DC X G e M) (k : ∀ v H, M.P v H → M'.P v H) : DC X G e M' := let ⟨te, c, q⟩ := h; ⟨te, c, fun σ H Q g qq => q σ H Q g fun v H' x p => qq v H' x (k v H' p)⟩
/-- [elt for tg in iter if ..] over data zs (told by hd) -/
theorem dc_lcX {β : Type} {Γ : En} (zs : List β) (hd : β → PyData) (cond : β → Bool) (f : β → PyData) (Γ' : β → En) {elt tg iter : Expr} {ifs : List Expr} {scope : Scope} {g : TG} (own : List (Str × Nat)) (hc : X.calm = true) (hN : X.N.Nodup)
    (hi : DI X (EnvOk Γ) tg iter (zs.map hd)) (ok : BlkOk X.N X.env.scope scope own) (hg : AllB X scope fun Y => PG Y tg g)
    (htg : ∀ z ∈ zs, Tg X.K g (own.map (·.2)) (hd z) (EnvOk (wipeG Γ (own.map (·.2)))) (EnvOk (Γ' z)))
    (ht : ∀ z ∈ zs, AllB X scope fun Y => DTs Y (EnvOk (Γ' z)) ifs (cond z))
    (he : ∀ z ∈ zs, cond z = true → AllB X scope fun Y => DE Y (EnvOk (Γ' z)) elt (MP.d X.K (f z)))
    (hto : ∀ z ∈ zs, tO (f z) = true) (hz : zs.length ≤ 100000) (hs : ∀ x, foldedSetIterable iter X.env x = pure x := by intro _; rfl) :
    ∃ te, CompOk X (.ListComp elt [⟨tg, iter, ifs, 0⟩] scope pos) te ∧ ∀ σ H Q, EnvOk Γ σ H → (∀ L us H1 H', Ex H H1 → H1 L = none → Ex H H' → H' L = some (.lst us) → DpAll X.K H' us ((zs.filter cond).map f) → Q (.ref L) H') → te σ H Q := by
  have HT : AllB X scope fun Y => PTs Y ifs (fun σ H Q => ∃ z, ∃ _ : z ∈ zs, tT (EnvOk (Γ' z)) (cond z) σ H Q) := fun s H C cl fp => ⟨fun pins s' σ H' Q I ⟨z, hz, q⟩ => (ht z hz s H C cl fp).run pins s' σ H' Q I q⟩
  have HE : AllB X scope fun Y => PE Y elt (fun σ H Q => ∃ z, ∃ h : z ∈ zs ∧ cond z = true, tP (EnvOk (Γ' z)) (MP.d X.K (f z)) σ H Q) := fun s H C cl fp => ⟨fun pins s' σ H' Q I ⟨z, hz, q⟩ => (he z hz.1 hz.2 s H C cl fp).run pins s' σ H' Q I q⟩
  refine ⟨_, ⟨pe_lc (own := own) hc hN hi ok hg HT HE hs, fun i y py spos hy hl hsw => ps_setLc (own := own) hc hN hy hl hsw hi ok hg HT HE hs⟩, fun σ H Q g0 q => ⟨g0, fun J H1 Gs Y x1 mono g1 W yd => ?_⟩⟩
  intro D hD
  rw [List.length_map] at W
  refine lc_it (Qd := fun H => Q (.ref D) H) (g := g) (tt := fun σ H Q => ∃ z, ∃ _ : z ∈ zs, tT (EnvOk (Γ' z)) (cond z) σ H Q) (te := fun σ H Q => ∃ z, ∃ h : z ∈ zs ∧ cond z = true, tP (EnvOk (Γ' z)) (MP.d X.K (f z)) σ H Q) (vs := own.map (·.2)) (σ := σ) W
    (fun i H' => Ex H1 H' ∧ ∃ us, H' D = some (.lst us) ∧ us.length ≤ i ∧ DpAll X.K H' us (((zs.take i).filter cond).map f)) ⟨Ex.new hD, [], upd_same, Nat.le_refl _, .nil⟩ (fun i H' _ p => mono _ _ p.1 g1) (fun i x H2 H3 hi p y => ?_) fun H' p => ?_
  · obtain ⟨x2, us, hu, hul, hda⟩ := p
    obtain ⟨d, e1, x3, p3⟩ := yd i H2 x H3 (mono _ _ x2 g1) y
    rw [List.getElem?_map] at e1
    obtain ⟨z, e4, e2⟩ := Option.map_eq_some_iff.mp e1
    subst e2
    clear e1
    have e1 := e4
    have hzm : z ∈ zs := List.mem_of_getElem? e1
    have hstep := take_filter cond e1
    refine htg z hzm x (wipe σ (own.map (·.2))) H3 _ p3 ((MG.mono (((x1.trans x2).trans x3)) g0).wipe _) ?_
    intro σ' g' w'
    refine ⟨w'.trans (wipe_wipe _ _), ⟨z, hzm, g', fun H4 x4 => ?_⟩⟩
    cases hcz : cond z with
    | false =>
      show Ex H1 H4 ∧ ∃ us, H4 D = some (.lst us) ∧ us.length ≤ i + 1 ∧ DpAll X.K H4 us (((zs.take (i + 1)).filter cond).map f)
      refine ⟨(x2.trans x3).trans x4, us, x4 _ _ (x3 _ _ hu), by omega, ?_⟩
      rw [hstep, hcz]
      show DpAll X.K H4 us ((List.filter cond (zs.take i) ++ []).map f)
      rw [List.append_nil]
      exact DpAll.mono (x3.trans x4) _ _ hda
    | true =>
      show ∃ z', ∃ h : z' ∈ zs ∧ cond z' = true, tP (EnvOk (Γ' z')) (MP.d X.K (f z')) σ' H4 _
      refine ⟨z, ⟨hzm, hcz⟩, MG.mono x4 g', fun v H5 x5 p5 => ?_⟩
      have hu5 : H5 D = some (.lst us) := x5 _ _ (x4 _ _ (x3 _ _ hu))
      refine ⟨us, hu5, Nat.lt_of_le_of_lt (Nat.le_trans hul (Nat.le_of_lt hi)) (Nat.lt_of_le_of_lt hz (by decide)), ?_⟩
      refine ⟨Ex.mut (((x2.trans x3).trans x4).trans x5) hD, us ++ [v], upd_same, by rw [List.length_append]; show us.length + 1 ≤ i + 1; omega, ?_⟩
      rw [hstep, hcz, if_pos rfl, List.map_append]
      have ts : TupSub H5 (upd H5 D (.lst (us ++ [v]))) := TupSub.lst hu5
      refine DpAll.append (DpAll.tsub ts _ _ (tOs_all.mpr fun d hd => ?_) (DpAll.mono ((x3.trans x4).trans x5) _ _ hda)) (.cons (Dp.tsub ts _ _ (hto z hzm) p5) .nil)
      obtain ⟨z', hz', e⟩ := List.mem_map.mp hd
      rw [← e]
      exact hto z' (List.mem_of_mem_take ((List.mem_filter.mp hz').1))
  · obtain ⟨x2, us, hu, _, hda⟩ := p
    rw [List.take_length] at hda
    exact q D us H1 H' x1 hD (x1.trans x2) hu hda
theorem dc_lc {β : Type} {Γ : En} (zs : List β) (hd : β → PyData) (cond : β → Bool) (f : β → PyData) (Γ' : β → En) {elt tg iter : Expr} {ifs : List Expr} {scope : Scope} {g : TG} (own : List (Str × Nat)) (hc : X.calm = true) (hN : X.N.Nodup)
    (hi : DI X (EnvOk Γ) tg iter (zs.map hd)) (ok : BlkOk X.N X.env.scope scope own) (hg : AllB X scope fun Y => PG Y tg g)
    (htg : ∀ z ∈ zs, Tg X.K g (own.map (·.2)) (hd z) (EnvOk (wipeG Γ (own.map (·.2)))) (EnvOk (Γ' z)))
    (ht : ∀ z ∈ zs, AllB X scope fun Y => DTs Y (EnvOk (Γ' z)) ifs (cond z))
    (he : ∀ z ∈ zs, cond z = true → AllB X scope fun Y => DE Y (EnvOk (Γ' z)) elt (MP.d X.K (f z)))
    (hto : ∀ z ∈ zs, tO (f z) = true) (hz : zs.length ≤ 100000) (hs : ∀ x, foldedSetIterable iter X.env x = pure x := by intro _; rfl) :
    DC X (EnvOk Γ) (.ListComp elt [⟨tg, iter, ifs, 0⟩] scope pos) (MP.d X.K (.list ((zs.filter cond).map f))) := by
  obtain ⟨te, c, k⟩ := dc_lcX zs hd cond f Γ' own hc hN hi ok hg htg ht he hto hz hs (pos := pos)
  exact ⟨te, c, fun σ H Q g q => k σ H Q g fun L us H1 H' _ _ x hL hda => q _ H' x (.lst (SqL.of hL) hda)⟩
theorem de_lc {β : Type} {Γ : En} (zs : List β) (hd : β → PyData) (cond : β → Bool) (f : β → PyData) (Γ' : β → En) {elt tg iter : Expr} {ifs : List Expr} {scope : Scope} {g : TG} (own : List (Str × Nat)) (hc : X.calm = true) (hN : X.N.Nodup)
    (hi : DI X (EnvOk Γ) tg iter (zs.map hd)) (ok : BlkOk X.N X.env.scope scope own) (hg : AllB X scope fun Y => PG Y tg g)
    (htg : ∀ z ∈ zs, Tg X.K g (own.map (·.2)) (hd z) (EnvOk (wipeG Γ (own.map (·.2)))) (EnvOk (Γ' z)))
    (ht : ∀ z ∈ zs, AllB X scope fun Y => DTs Y (EnvOk (Γ' z)) ifs (cond z))
    (he : ∀ z ∈ zs, cond z = true → AllB X scope fun Y => DE Y (EnvOk (Γ' z)) elt (MP.d X.K (f z)))
    (hto : ∀ z ∈ zs, tO (f z) = true) (hz : zs.length ≤ 100000) (hs : ∀ x, foldedSetIterable iter X.env x = pure x := by intro _; rfl) :
    DE X (EnvOk Γ) (.ListComp elt [⟨tg, iter, ifs, 0⟩] scope pos) (MP.d X.K (.list ((zs.filter cond).map f))) := (dc_lc zs hd cond f Γ' own hc hN hi ok hg htg ht he hto hz hs).de
/-- .. without a test, over data of Lean -/
theorem filter_true {β : Type} (l : List β) : l.filter (fun _ => true) = l := by
  induction l with
  | nil => rfl
  | cons x r ih => rw [List.filter_cons, if_pos rfl, ih]
theorem dc_lc0 {β : Type} {Γ : En} (zs : List β) (hd : β → PyData) (f : β → PyData) (Γ' : β → En) {elt tg iter : Expr} {scope : Scope} {g : TG} (own : List (Str × Nat)) (hc : X.calm = true) (hN : X.N.Nodup)
    (hi : DI X (EnvOk Γ) tg iter (zs.map hd)) (ok : BlkOk X.N X.env.scope scope own) (hg : AllB X scope fun Y => PG Y tg g)
    (htg : ∀ z ∈ zs, Tg X.K g (own.map (·.2)) (hd z) (EnvOk (wipeG Γ (own.map (·.2)))) (EnvOk (Γ' z)))
    (he : ∀ z ∈ zs, AllB X scope fun Y => DE Y (EnvOk (Γ' z)) elt (MP.d X.K (f z)))
    (hto : ∀ z ∈ zs, tO (f z) = true) (hz : zs.length ≤ 100000) (hs : ∀ x, foldedSetIterable iter X.env x = pure x := by intro _; rfl) :
    DC X (EnvOk Γ) (.ListComp elt [⟨tg, iter, [], 0⟩] scope pos) (MP.d X.K (.list (zs.map f))) := by
  have h := dc_lc zs hd (fun _ => true) f Γ' own hc hN hi ok hg htg (fun z hz s H C cl fp => dts_nil) (fun z hz _ => he z hz) hto hz hs (pos := pos)
  rw [filter_true] at h
  exact h
theorem de_lc0 {β : Type} {Γ : En} (zs : List β) (hd : β → PyData) (f : β → PyData) (Γ' : β → En) {elt tg iter : Expr} {scope : Scope} {g : TG} (own : List (Str × Nat)) (hc : X.calm = true) (hN : X.N.Nodup)
    (hi : DI X (EnvOk Γ) tg iter (zs.map hd)) (ok : BlkOk X.N X.env.scope scope own) (hg : AllB X scope fun Y => PG Y tg g)
    (htg : ∀ z ∈ zs, Tg X.K g (own.map (·.2)) (hd z) (EnvOk (wipeG Γ (own.map (·.2)))) (EnvOk (Γ' z)))
    (he : ∀ z ∈ zs, AllB X scope fun Y => DE Y (EnvOk (Γ' z)) elt (MP.d X.K (f z)))
    (hto : ∀ z ∈ zs, tO (f z) = true) (hz : zs.length ≤ 100000) (hs : ∀ x, foldedSetIterable iter X.env x = pure x := by intro _; rfl) :
    DE X (EnvOk Γ) (.ListComp elt [⟨tg, iter, [], 0⟩] scope pos) (MP.d X.K (.list (zs.map f))) := (dc_lc0 zs hd f Γ' own hc hN hi ok hg htg he hto hz hs).de
end

/-! ### statements -/
section
variable {X : Cx} {G N N' : GP} {R : V → Hp → Prop} {e c : Expr} {st : Stmt} {sts a b : List Stmt} {M : MP} {pos : Pos}
theorem ds_nil (h : ∀ σ H, G σ H → N σ H) : DS X G [] N R := pss_imp pss_nil fun D σ H q => q.2.1 σ H (Ex.refl H) (h σ H q.1)
theorem ds_cons (h1 : D1 X G st N' R) (h2 : DS X N' sts N R) : DS X G (st :: sts) N R := pss_imp (pss_cons h1 h2) fun D σ H q =>
  ⟨q.1, fun σ' H' x n => ⟨n, fun σ2 H2 x2 n2 => q.2.1 σ2 H2 (x.trans x2) n2, fun v H2 x2 r => q.2.2 v H2 (x.trans x2) r⟩, q.2.2⟩
theorem ds_one (h1 : D1 X G st N R) : DS X G [st] N R := pss_imp (pss_one h1) fun D σ H q => q
theorem d1_ret (h : DE X G e M) (k : ∀ v H, M.P v H → R v H) : D1 X G (.Return (some e) pos) N R := ps_imp (ps_ret h) fun D σ H q => ⟨q.1, fun v H' x p => q.2.2 v H' x (k v H' p)⟩
theorem ds_ret (h : DE X G e M) : DS X G [.Return (some e) pos] N M.P := ds_one (d1_ret h fun _ _ p => p)
theorem d1_set {Γ : En} (i : Nat) {x : Str} {pos' : Pos} (hN : X.N.Nodup) (he : DE X (EnvOk Γ) e M) (hi : X.N[i]? = some x := by rfl) (hx : Loc X.env.scope x := by first | exact Or.inl rfl | exact Or.inr rfl)
    (hs : swapsWith e (some (.Name x pos')) pos.line X.env = pure false := by rfl) (hf : X.fn x = true ∨ X.env.scope.names.lookup x = some .local := by first | exact .inl rfl | exact .inr rfl | assumption) :
    D1 X (EnvOk Γ) (.Assign [.Name x pos'] e pos) (EnvOk (Γ.set i (some M))) R := ps_imp (ps_set hN hi hx he hs hf) fun D σ H q =>
  ⟨q.1, fun v H' x p => q.2.1 _ H' x ((MG.mono x q.1).set i p)⟩
theorem d1_setC {Γ : En} (i : Nat) {x : Str} {pos' : Pos} (he : DC X (EnvOk Γ) e M) (hi : X.N[i]? = some x := by rfl) (hx : X.env.scope.names.lookup x = some .local := by rfl) (hs : swapsWith e (some (.Name x pos')) pos.line X.env = pure true := by rfl) :
    D1 X (EnvOk Γ) (.Assign [.Name x pos'] e pos) (EnvOk (Γ.set i (some M))) R := let ⟨_, c, k⟩ := he; ps_imp (c.asg i x pos' pos hi hx hs) fun D σ H q =>
  k σ H _ q.1 fun v H' x p => q.2.1 _ H' x ((MG.mono x q.1).set i p)
theorem d1_if {k : Bool} (hc : DT X G c k) (ha : k = true → DS X G a N R) (hb : k = false → DS X G b N R) [MG G] : D1 X G (.If c a b pos) N R := by
  cases k with
  | true => exact ps_imp (ps_if (u := tNever) hc (ha rfl) pss_never) fun D σ H q => ⟨q.1, fun H1 x1 => ⟨MG.mono x1 q.1, fun σ' H' x n => q.2.1 σ' H' (x1.trans x) n, fun v H' x r => q.2.2 v H' (x1.trans x) r⟩⟩
  | false => exact ps_imp (ps_if (t := tNever) hc pss_never (hb rfl)) fun D σ H q => ⟨q.1, fun H1 x1 => ⟨MG.mono x1 q.1, fun σ' H' x n => q.2.1 σ' H' (x1.trans x) n, fun v H' x r => q.2.2 v H' (x1.trans x) r⟩⟩
theorem ds_imp (h : DS X G sts N R) {R' : V → Hp → Prop} (k : ∀ v H, R v H → R' v H) : DS X G sts N R' := pss_imp h fun D σ H q => ⟨q.1, q.2.1, fun v H' x r => q.2.2 v H' x (k v H' r)⟩
theorem ds_pre {G' : GP} (h : DS X G sts N R) (k : ∀ σ H, G' σ H → G σ H) : DS X G' sts N R := pss_imp h fun D σ H q => ⟨k σ H q.1, q.2⟩
theorem ds_post (h : DS X G sts N R) (k : ∀ σ H, N σ H → N' σ H) : DS X G sts N' R := pss_imp h fun D σ H q => ⟨q.1, fun σ' H' x n => q.2.1 σ' H' x (k σ' H' n), q.2.2⟩
/-- for tg in iter: data ds; Gi at each turn ahead of the target, G' behind it -/
theorem d1_for [MG G] {ds : List PyData} {tg iter : Expr} {body : List Stmt} {g : TG} {vs : List Nat} (Gi : Nat → GP) (hc : X.calm = true) (hp : PassesOwn (model X.prog X.w) X.A X.env X.xe) (hi : DI X G tg iter ds) (hg : PG X tg g)
    (h0 : ∀ σ H, G σ H → Gi 0 σ H) (mono : ∀ i σ H H', Ex H H' → Gi i σ H → Gi i σ H')
    (hb : ∀ i d, ds[i]? = some d → ∃ G', Tg X.K g vs d (Gi i) G' ∧ DS X G' body (Gi (i + 1)) R) (hd : ∀ σ H, Gi ds.length σ H → N σ H)
    (hs : ∀ x, foldedSetIterable iter X.env x = pure x := by intro _; rfl) : D1 X G (.For tg iter body [] pos) N R := by
  refine ps_imp (ps_for (tb := fun D σ H => ∃ i, ∃ d, ∃ G', ∃ _ : ds[i]? = some d ∧ Tg X.K g vs d (Gi i) G' ∧ DS X G' body (Gi (i + 1)) R, tSt G' (Gi (i + 1)) R D σ H) hp hc hi hg ⟨fun pins s σ H D I ⟨i, d, G', h, q⟩ => h.2.2.run pins s σ H D I q⟩ hs) fun D σ H q => ⟨q.1, fun J H1 Gs Y x1 mg g1 W yd => ?_⟩
  refine for_it (D := D) (g := g) (tb := fun D σ H => ∃ i, ∃ d, ∃ G', ∃ _ : ds[i]? = some d ∧ Tg X.K g vs d (Gi i) G' ∧ DS X G' body (Gi (i + 1)) R, tSt G' (Gi (i + 1)) R D σ H) (σ := σ) W (fun i σ' H' => Ex H1 H' ∧ Gi i σ' H') ⟨Ex.refl _, mono _ _ _ _ x1 (h0 σ H q.1)⟩ (fun i σ' H' _ p => mg _ _ p.1 g1) (fun i x σ' H2 H3 hi p y => ?_) fun σ' H' p => q.2.1 σ' H' (x1.trans p.1) (hd σ' H' p.2)
  obtain ⟨d, e1, x3, p3⟩ := yd i H2 x H3 (mg _ _ p.1 g1) y
  obtain ⟨G', h1, h2⟩ := hb i d e1
  refine h1 x σ' H3 _ p3 (mono _ _ _ _ x3 p.2) fun σ2 g2 _ => ⟨i, d, G', ⟨e1, h1, h2⟩, g2, fun σ4 H4 x4 n4 => ⟨(p.1.trans x3).trans x4, n4⟩, fun v H4 x4 r => q.2.2 v H4 (((x1.trans p.1).trans x3).trans x4) r⟩
end

/-! ### a def that changes nothing -/
abbrev FnP (K : PySem.W.Frag) (x : Str) (st : Stmt) (f : Addr) (fd : FuncData) : Prop := FunD K x x (defArgs st) (defBody st) (defScope st) [] [] f fd
section
variable {P : Program} {w : World} {K : PySem.W.Frag} {mg : Str → Option Value} {base : Heap}
/-- the context of a def's body -/
def CxOk (P : Program) (w : World) (K : PySem.W.Frag) (mg : Str → Option Value) (base : Heap) (N : List Str) (qual : Str) (scope : Scope) (k : Nat) (X : Cx) : Prop :=
  ∃ (f : Addr) (cdv : Value) (A : Around) (outer : List Env) (s : Shared) (H : Hp) (E : XK), X = (cxOf CX0 P w K mg base N qual scope f cdv A outer s H E).nox ∧ Room k X.A
theorem fn_raw {x : Str} {st : Stmt} {f : Addr} {fd : FuncData} {N ps : List Str} {k : Nat} {sp : Sp} (F : FnP K x st f fd) (S : FnScope N ps (defScope st)) (hg : mg x = some (.ref f)) (len : ∀ vs H Q E, sp vs H Q E → vs.length = ps.length)
    (hb : ∀ (kV doc pm : Value) (an : Option Addr) (cdv ct : Value) (us : List Value), us.length = ps.length → bindArgs (PySem.W.fnOf x x (defArgs st) (defBody st) (defScope st) .none kV doc pm an cdv ct) ⟨us, []⟩ = pure (ps.zip us))
    (body : ∀ (f : Addr) (cdv : Value) (A : Around) (outer : List Env) (s : Shared) (H : Hp) (E : XK) (vs : List V) (Q : VK), Room k (A.deeper (envOfC x (defScope st) s.heap.objs.size f cdv)) → sp vs H Q E →
      ∃ t, PSs (cxOf CX0 P w K mg base N x (defScope st) f cdv A outer s H E).nox (defBody st) t ∧ t { nx := fun _ H' => Q .non H', rt := Q } (start N vs) H) : DefOk P w K mg base x (k + 1) sp :=
  ⟨f, fd, ps, F.ok S len fun cdv A outer s H vs Q E hr h => let ⟨t, h1, h2⟩ := body f cdv A outer s H E vs Q hr h; ⟨t, h1.nox, h2⟩, hg, F.kp, F.bindsN hb⟩
theorem fn_pure {x : Str} {st : Stmt} {f : Addr} {fd : FuncData} {N ps : List Str} {k : Nat} {α : Type} {pre : α → Prop} {args : α → List MP} {res : α → MP} (F : FnP K x st f fd) (S : FnScope N ps (defScope st)) (hg : mg x = some (.ref f)) (len : ∀ a, (args a).length = ps.length)
    (hb : ∀ (kV doc pm : Value) (an : Option Addr) (cdv ct : Value) (us : List Value), us.length = ps.length → bindArgs (PySem.W.fnOf x x (defArgs st) (defBody st) (defScope st) .none kV doc pm an cdv ct) ⟨us, []⟩ = pure (ps.zip us))
    (body : ∀ (f : Addr) (cdv : Value) (A : Around) (outer : List Env) (s : Shared) (H : Hp) (E : XK) (a : α), Room k (A.deeper (envOfC x (defScope st) s.heap.objs.size f cdv)) → pre a →
      DS (cxOf CX0 P w K mg base N x (defScope st) f cdv A outer s H E).nox (EnvOk (startG N (args a))) (defBody st) (fun _ _ => False) (res a).P) : DefOk P w K mg base x (k + 1) (spM pre args res) :=
  fn_raw F S hg (fun vs H Q E ⟨a, _, p, _⟩ => by rw [p.length, len a]) hb fun f cdv A outer s H E vs Q hr ⟨a, hp, p, q⟩ =>
    ⟨_, body f cdv A outer s H E a hr hp, EnvOk.start p, fun _ _ _ z => z.elim, fun v H' x r => q v H' x r⟩
end
end K78

-- part KCall
set_option Elab.async false
set_option linter.all false
set_option maxRecDepth 100000
set_option maxHeartbeats 4000000
/-! KCall: built-ins, displays, places; over data. -/
namespace K78
open PySem PySem.Spec PyProof.Rows L2
open Evl (Ex ex_t ex_l ex_rd fresh_back)
open Enc (enc)

/-- the built-ins' names are the module's no more -/
structure Bl (mg : Str → Option Value) : Prop where
  tuple : mg "tuple" = none
  list : mg "list" = none
  sorted : mg "sorted" = none
  set : mg "set" = none
  zip : mg "zip" = none
  all : mg "all" = none
  any : mg "any" = none
  range : mg "range" = none
  len : mg "len" = none
  enumerate : mg "enumerate" = none
  dict : mg "dict" = none
  sum : mg "sum" = none
  min : mg "min" = none
  isinstance : mg "isinstance" = none
  int : mg "int" = none
  bool : mg "bool" = none
  str : mg "str" = none
  abs : mg "abs" = none
theorem bt_all : bootBuiltins "all" = some (.builtin "all") := by decide +kernel
theorem bt_any : bootBuiltins "any" = some (.builtin "any") := by decide +kernel
theorem bt_len : bootBuiltins "len" = some (.builtin "len") := by decide +kernel
theorem bt_sum : bootBuiltins "sum" = some (.builtin "sum") := by decide +kernel
theorem bt_sorted : bootBuiltins "sorted" = some (.builtin "sorted") := by decide +kernel
theorem bt_abs : bootBuiltins "abs" = some (.builtin "abs") := by decide +kernel
theorem bt_min : bootBuiltins "min" = some (.builtin "min") := by decide +kernel
theorem bt_isi : bootBuiltins "isinstance" = some (.builtin "isinstance") := by decide +kernel
theorem bt_tuple : bootBuiltins "tuple" = some (.type "tuple") := by decide +kernel
theorem bt_list : bootBuiltins "list" = some (.type "list") := by decide +kernel
theorem bt_int : bootBuiltins "int" = some (.type "int") := by decide +kernel
theorem bt_set : bootBuiltins "set" = some (.type "set") := by decide +kernel
theorem bt_dict : bootBuiltins "dict" = some (.type "dict") := by decide +kernel
theorem bt_bool : bootBuiltins "bool" = some (.type "bool") := by decide +kernel
theorem bt_str : bootBuiltins "str" = some (.type "str") := by decide +kernel
theorem sz3 {n : Nat} (h : n ≤ 100000) : n ≤ sizeLine := Nat.le_trans h (by decide)

/-- list + list -/
def rCatS (K : PySem.W.Frag) : R2 := fun x y H Q => ∃ l b xs zs, x = .ref l ∧ y = .ref b ∧ SqL K H l xs ∧ SqL K H b zs ∧ xs.length + zs.length ≤ sizeLine ∧ ∀ p, H p = none → Q (.ref p) (upd H p (.lst (xs ++ zs)))
theorem op_catS {X : Cx} : OpR X (binaryOp .Add) (rCatS X.K) := by
  intro pins s σ H x y v u Q I rx ry h
  obtain ⟨l, b, xs, zs, rfl, rfl, hH, hB, hz, q⟩ := h
  cases rx
  cases ry
  obtain ⟨its, r, p, _⟩ := I.list hH
  obtain ⟨its2, r2, p2, _⟩ := I.list hB
  obtain ⟨⟨cls, dd, data, sl⟩, ho, hc, n, hd⟩ := p.isList
  obtain ⟨⟨cls2, dd2, data2, sl2⟩, ho2, hc2, n2, hd2⟩ := p2.isList
  simp only at hc hd hc2 hd2
  subst hc hd hc2 hd2
  have e : its.toArray ++ its2.toArray = (its ++ its2).toArray := by simp
  have hlen := r.length
  have hlen2 := r2.length
  refine concat_meets ⟨_, ho, rfl⟩ ⟨_, ho2, rfl⟩ noFill_list_add seq_list_add PySem.F.slot_list_add PySem.F.entry_list_add (PySem.F.args_list_add_2 _ _) (list_addW l b its.toArray its2.toArray n n2 dd dd2 sl sl2 (by simp only [List.size_toArray]; omega)) ⟨ho, ho2, ?_⟩
  rw [e]
  exact ⟨.ref _, _, I.lnew (t' := s.toks) (r.append r2) (by rw [List.length_append]; omega), rfl, q _ I.fresh⟩
def CVal (r : List V → Hp → VK → Prop) (Ms : List MP) (M : MP) : Prop := ∀ vs H (Q : VK), AllP Ms vs H → (∀ z H', Ex H H' → M.P z H' → Q z H') → r vs H Q
section
variable {X : Cx} {G : GP} [MG G] {pos p : Pos} {M M1 M2 M3 : MP} {e a b c : Expr} {es : List Expr} {Ms : List MP} {K : PySem.W.Frag}
theorem de_callB {id : String} {x : Str} {r : List V → Hp → VK → Prop} (hc : CallR X (.builtin id) r) (hv : CVal r Ms M) (hm : X.mg x = none) (hb : bootBuiltins x = some (.builtin id)) (ha : DA X G (e :: es) Ms) (hg : Gl X x := by rfl) (hn : x ≠ "__name__" := by decide) (hdb : (x == ("__debug__" : Str)) = false := by decide)
    (he : starEach (e :: es) X.env = (false, eval e X.env) :: starEach es X.env := by rfl) (hpl : (backTo pos (starEach es X.env)).any (·.1) = false := by rfl) : DE X G (.Call (.Name x p) (e :: es) [] pos) M :=
  de_of (pe_callB hc hg hm hb ha hn hdb he hpl) fun σ H Q g q => ⟨g, fun vs H1 x1 p1 => hv vs H1 Q p1 fun z H2 x2 p2 => q z H2 (x1.trans x2) p2⟩
theorem de_callTy {T : String} {x : Str} {r : List V → Hp → VK → Prop} (hc : CallR X (.type T) r) (hv : CVal r Ms M) (hm : X.mg x = none) (hb : bootBuiltins x = some (.type T)) (ha : DA X G (e :: es) Ms) (hg : Gl X x := by rfl) (hn : x ≠ "__name__" := by decide) (hdb : (x == ("__debug__" : Str)) = false := by decide)
    (he : starEach (e :: es) X.env = (false, eval e X.env) :: starEach es X.env := by rfl) (hpl : (backTo pos (starEach es X.env)).any (·.1) = false := by rfl) : DE X G (.Call (.Name x p) (e :: es) [] pos) M :=
  de_of (pe_callTy hc hg hm hb ha hn hdb he hpl) fun σ H Q g q => ⟨g, fun vs H1 x1 p1 => hv vs H1 Q p1 fun z H2 x2 p2 => q z H2 (x1.trans x2) p2⟩
theorem allP1 {vs : List V} {H : Hp} (h : AllP [M] vs H) : ∃ v, vs = [v] ∧ M.P v H := by
  cases h with
  | cons h1 h2 => cases h2; exact ⟨_, rfl, h1⟩
theorem allP2 {vs : List V} {H : Hp} (h : AllP [M1, M2] vs H) : ∃ v u, vs = [v, u] ∧ M1.P v H ∧ M2.P u H := by
  cases h with
  | cons h1 h2 =>
    obtain ⟨u, rfl, h3⟩ := allP1 h2
    exact ⟨_, u, rfl, h1, h3⟩
theorem cv_all {bs : List Bool} : CVal (rAll K) [MP.d K (.list (bs.map .bool))] (MB K (bs.all id)) := fun vs H Q p q => by
  obtain ⟨v, rfl, h⟩ := allP1 p
  obtain ⟨a, us, rfl, hq, hd⟩ := dp_lst h
  have e := DpAll.bools hd
  subst e
  exact ⟨a, bs, rfl, hq, q _ H (Ex.refl H) (.bl _)⟩
theorem cv_any {bs : List Bool} : CVal (rAny K) [MP.d K (.list (bs.map .bool))] (MB K (bs.any id)) := fun vs H Q p q => by
  obtain ⟨v, rfl, h⟩ := allP1 p
  obtain ⟨a, us, rfl, hq, hd⟩ := dp_lst h
  have e := DpAll.bools hd
  subst e
  exact ⟨a, bs, rfl, hq, q _ H (Ex.refl H) (.bl _)⟩
theorem cv_sum {ns : List Int} : CVal (rSum K) [MP.d K (.list (ns.map .int))] (MI K ns.sum) := fun vs H Q p q => by
  obtain ⟨v, rfl, h⟩ := allP1 p
  obtain ⟨a, us, rfl, hq, hd⟩ := dp_lst h
  have e := DpAll.ints hd
  subst e
  exact ⟨a, ns, rfl, hq, q _ H (Ex.refl H) (.int _)⟩
theorem de_all {β : Type} (zs : List β) (f : β → Bool) (hc : X.calm = true) (hm : X.mg "all" = none) (h : DE X G e (MP.d X.K (.list (zs.map fun z => .bool (f z))))) (hg : Gl X "all" := by rfl)
    (hs2 : starEach [e] X.env = (false, eval e X.env) :: starEach [] X.env := by rfl) : DE X G (.Call (.Name "all" p) [e] [] pos) (MB X.K (zs.all f)) := by
  have h1 : zs.map (fun z => PyData.bool (f z)) = (zs.map f).map PyData.bool := by rw [List.map_map] <;> rfl
  rw [h1] at h
  have := de_callB (pos := pos) (p := p) (cr_all hc) (cv_all (K := X.K)) hm bt_all (da_cons h da_nil hs2) hg (by decide) (by decide) hs2
  rw [List.all_map] at this
  exact this
theorem de_any {β : Type} (zs : List β) (f : β → Bool) (hc : X.calm = true) (hm : X.mg "any" = none) (h : DE X G e (MP.d X.K (.list (zs.map fun z => .bool (f z))))) (hg : Gl X "any" := by rfl)
    (hs2 : starEach [e] X.env = (false, eval e X.env) :: starEach [] X.env := by rfl) : DE X G (.Call (.Name "any" p) [e] [] pos) (MB X.K (zs.any f)) := by
  have h1 : zs.map (fun z => PyData.bool (f z)) = (zs.map f).map PyData.bool := by rw [List.map_map] <;> rfl
  rw [h1] at h
  have := de_callB (pos := pos) (p := p) (cr_any hc) (cv_any (K := X.K)) hm bt_any (da_cons h da_nil hs2) hg (by decide) (by decide) hs2
  rw [List.any_map] at this
  exact this
theorem de_sum {β : Type} (zs : List β) (f : β → Int) (hc : X.calm = true) (hm : X.mg "sum" = none) (h : DE X G e (MP.d X.K (.list (zs.map fun z => .int (f z))))) (hg : Gl X "sum" := by rfl)
    (hs2 : starEach [e] X.env = (false, eval e X.env) :: starEach [] X.env := by rfl) : DE X G (.Call (.Name "sum" p) [e] [] pos) (MI X.K (zs.map f).sum) := by
  have h1 : zs.map (fun z => PyData.int (f z)) = (zs.map f).map PyData.int := by rw [List.map_map] <;> rfl
  rw [h1] at h
  exact de_callB (cr_sum hc) (cv_sum (K := X.K)) hm bt_sum (da_cons h da_nil hs2) hg (by decide) (by decide) hs2
/-- len of a tuple, of a list -/
theorem de_lenT {ds : List PyData} (hm : X.mg "len" = none) (h : DE X G e (MP.d X.K (.tuple ds))) (hg : Gl X "len" := by rfl)
    (hs2 : starEach [e] X.env = (false, eval e X.env) :: starEach [] X.env := by rfl) : DE X G (.Call (.Name "len" p) [e] [] pos) (MI X.K (ds.length : Nat)) :=
  de_callB call_len_seq (fun vs H Q p q => by
    obtain ⟨v, rfl, h⟩ := allP1 p
    obtain ⟨a, us, rfl, hq, hd⟩ := dp_tup h
    exact ⟨a, us, rfl, .inr hq, q _ H (Ex.refl H) (by rw [hd.length]; exact .int _)⟩) hm bt_len (da_cons h da_nil hs2) hg (by decide) (by decide) hs2
theorem de_lenL {ds : List PyData} (hm : X.mg "len" = none) (h : DE X G e (MP.d X.K (.list ds))) (hg : Gl X "len" := by rfl)
    (hs2 : starEach [e] X.env = (false, eval e X.env) :: starEach [] X.env := by rfl) : DE X G (.Call (.Name "len" p) [e] [] pos) (MI X.K (ds.length : Nat)) :=
  de_callB call_len_seq (fun vs H Q p q => by
    obtain ⟨v, rfl, h⟩ := allP1 p
    obtain ⟨a, us, rfl, hq, hd⟩ := dp_lst h
    exact ⟨a, us, rfl, .inl hq, q _ H (Ex.refl H) (by rw [hd.length]; exact .int _)⟩) hm bt_len (da_cons h da_nil hs2) hg (by decide) (by decide) hs2
/-- tuple of a list; list of a list, a tuple -/
theorem de_tupleL {ds : List PyData} (hm : X.mg "tuple" = none) (h : DE X G e (MP.d X.K (.list ds))) (hg : Gl X "tuple" := by rfl)
    (hs2 : starEach [e] X.env = (false, eval e X.env) :: starEach [] X.env := by rfl) : DE X G (.Call (.Name "tuple" p) [e] [] pos) (MP.d X.K (.tuple ds)) :=
  de_callTy call_tuple_of (fun vs H Q p q => by
    obtain ⟨v, rfl, h⟩ := allP1 p
    obtain ⟨a, us, rfl, hq, hd⟩ := dp_lst h
    exact ⟨a, us, rfl, .inl ⟨hq, fun l hl => q _ _ (Ex.new hl) (dp_newT hl hd)⟩⟩) hm bt_tuple (da_cons h da_nil hs2) hg (by decide) (by decide) hs2
theorem de_listL {ds : List PyData} (hm : X.mg "list" = none) (h : DE X G e (MP.d X.K (.list ds))) (hg : Gl X "list" := by rfl)
    (hs2 : starEach [e] X.env = (false, eval e X.env) :: starEach [] X.env := by rfl) : DE X G (.Call (.Name "list" p) [e] [] pos) (MP.d X.K (.list ds)) :=
  de_callTy call_list_of (fun vs H Q p q => by
    obtain ⟨v, rfl, h⟩ := allP1 p
    obtain ⟨a, us, rfl, hq, hd⟩ := dp_lst h
    exact ⟨a, us, rfl, .inl hq, fun l hl => q _ _ (Ex.new hl) (dp_newL hl hd)⟩) hm bt_list (da_cons h da_nil hs2) hg (by decide) (by decide) hs2
theorem de_abs {i : Int} (hm : X.mg "abs" = none) (h : DE X G e (MI X.K i)) (hg : Gl X "abs" := by rfl)
    (hs2 : starEach [e] X.env = (false, eval e X.env) :: starEach [] X.env := by rfl) : DE X G (.Call (.Name "abs" p) [e] [] pos) (MI X.K (if i < 0 then -i else i)) :=
  de_callB call_abs (fun vs H Q p q => by
    obtain ⟨v, rfl, h⟩ := allP1 p
    exact ⟨i, by rw [dp_int h], q _ H (Ex.refl H) (.int _)⟩) hm bt_abs (da_cons h da_nil hs2) hg (by decide) (by decide) hs2
theorem de_intI {i : Int} (hm : X.mg "int" = none) (h : DE X G e (MI X.K i)) (hg : Gl X "int" := by rfl)
    (hs2 : starEach [e] X.env = (false, eval e X.env) :: starEach [] X.env := by rfl) : DE X G (.Call (.Name "int" p) [e] [] pos) (MI X.K i) :=
  de_callTy call_int1 (fun vs H Q p q => by
    obtain ⟨v, rfl, h⟩ := allP1 p
    exact .inl ⟨i, by rw [dp_int h], q _ H (Ex.refl H) (.int _)⟩) hm bt_int (da_cons h da_nil hs2) hg (by decide) (by decide) hs2
theorem de_intB {k : Bool} (hm : X.mg "int" = none) (h : DE X G e (MB X.K k)) (hg : Gl X "int" := by rfl)
    (hs2 : starEach [e] X.env = (false, eval e X.env) :: starEach [] X.env := by rfl) : DE X G (.Call (.Name "int" p) [e] [] pos) (MI X.K (if k then 1 else 0)) :=
  de_callTy call_int1 (fun vs H Q p q => by
    obtain ⟨v, rfl, h⟩ := allP1 p
    exact .inr ⟨k, by rw [dp_bl h], q _ H (Ex.refl H) (.int _)⟩) hm bt_int (da_cons h da_nil hs2) hg (by decide) (by decide) hs2
theorem de_min2 {i j : Int} (hc : X.calm = true) (hm : X.mg "min" = none) (h : DE X G e (MI X.K i)) (h2 : DE X G a (MI X.K j)) (hg : Gl X "min" := by rfl)
    (hs : starEach [e, a] X.env = (false, eval e X.env) :: starEach [a] X.env := by rfl) (hs2 : starEach [a] X.env = (false, eval a X.env) :: starEach [] X.env := by rfl) (hpl : (backTo pos (starEach [a] X.env)).any (·.1) = false := by rfl) : DE X G (.Call (.Name "min" p) [e, a] [] pos) (MI X.K (if j < i then j else i)) :=
  de_callB (call_min2 hc) (fun vs H Q p q => by
    obtain ⟨v, u, rfl, h, h2⟩ := allP2 p
    exact ⟨i, j, by rw [dp_int h, dp_int h2], q _ H (Ex.refl H) (.int _)⟩) hm bt_min (da_cons h (da_cons h2 da_nil hs2) hs) hg (by decide) (by decide) hs hpl
/-- tuple(range(n)), list(range(n)) -/
theorem dp_rg {H : Hp} {n : Int} : DpAll K H (rgV 0 n) (rangeD n.toNat) := by
  refine dpAll_of ?_ fun i v d e1 e2 => ?_
  · rw [rgV_length]
    unfold rangeD
    rw [List.length_map, List.length_range, Int.sub_zero]
  · unfold rgV at e1
    rw [Int.sub_zero, List.getElem?_map] at e1
    obtain ⟨j, ej, e1⟩ := Option.map_eq_some_iff.mp e1
    have hj : i < n.toNat ∧ j = i := by
      rw [List.getElem?_eq_some_iff] at ej
      obtain ⟨h, h2⟩ := ej
      rw [List.length_range] at h
      exact ⟨h, by simpa using h2.symm⟩
    rw [rangeD_get hj.1] at e2
    cases e2
    subst e1
    rw [hj.2]
    show Dp K H (.int (0 + (i : Int))) _
    rw [Int.zero_add]
    exact .int _
omit [MG G] in
theorem prg_of {n : Int} (hm : X.mg "range" = none) (h : DE X G a (MI X.K n)) (hg : Gl X "range" := by rfl) (na : starEach [a] X.env = (false, eval a X.env) :: starEach [] X.env := by rfl) : PRg X (.Call (.Name "range" p) [a] [] pos) (fun σ H Q => G σ H ∧ ∀ H', Ex H H' → Q 0 n H') := fun pins s σ H Q I q =>
  prg_1 hg hm h na pins s σ H Q I ⟨q.1, fun v H1 x1 p1 => ⟨n, dp_int p1, q.2 H1 x1⟩⟩
theorem de_tupRange {n : Int} (hc : X.calm = true) (B : Bl X.mg) (h : DE X G a (MI X.K n)) (h0 : 0 ≤ n) (h1 : n ≤ 100000) {p2 pos2 : Pos} (hg : Gl X "range" := by rfl) (hg2 : Gl X "tuple" := by rfl) (na : starEach [a] X.env = (false, eval a X.env) :: starEach [] X.env := by rfl)
    (na2 : starEach [.Call (.Name "range" p2) [a] [] pos2] X.env = (false, eval (.Call (.Name "range" p2) [a] [] pos2) X.env) :: starEach [] X.env := by rfl) : DE X G (.Call (.Name "tuple" p) [.Call (.Name "range" p2) [a] [] pos2] [] pos) (MP.d X.K (.tuple (rangeD n.toNat))) :=
  de_of (pe_tupRg hc hg2 B.tuple (prg_of B.range h hg na) na2) fun σ H Q g q => ⟨g, fun H1 x1 => ⟨RgOk.of_le (by omega) (by omega) (by omega) h0, fun r hr => q _ _ (x1.trans (Ex.new hr)) (dp_newT hr dp_rg)⟩⟩
theorem de_listRange {n : Int} (hc : X.calm = true) (B : Bl X.mg) (h : DE X G a (MI X.K n)) (h0 : 0 ≤ n) (h1 : n ≤ 100000) {p2 pos2 : Pos} (hg : Gl X "range" := by rfl) (hg2 : Gl X "list" := by rfl) (na : starEach [a] X.env = (false, eval a X.env) :: starEach [] X.env := by rfl)
    (na2 : starEach [.Call (.Name "range" p2) [a] [] pos2] X.env = (false, eval (.Call (.Name "range" p2) [a] [] pos2) X.env) :: starEach [] X.env := by rfl) : DE X G (.Call (.Name "list" p) [.Call (.Name "range" p2) [a] [] pos2] [] pos) (MP.d X.K (.list (rangeD n.toNat))) :=
  de_of (pe_listRg hc hg2 B.list (prg_of B.range h hg na) na2) fun σ H Q g q => ⟨g, fun H1 x1 => ⟨RgOk.of_le (by omega) (by omega) (by omega) h0, fun r hr => q _ _ (x1.trans (Ex.new hr)) (dp_newL hr dp_rg)⟩⟩

/-! ### displays -/
theorem de_tup (ds : List PyData) {k : Nat} (h : DA X G es (ds.map (MP.d X.K))) (hz : ds.length ≤ 100000 := by decide) : DE X G (.Tuple es k pos) (MP.d X.K (.tuple ds)) :=
  de_of (pe_tup h) fun σ H Q g q => ⟨g, fun vs H1 x1 p1 => by
    have hd := AllP.datas p1
    exact ⟨sz3 (by rw [hd.length]; exact hz), fun l hl => q _ _ (x1.trans (Ex.new hl)) (dp_newT hl hd)⟩⟩
theorem de_lst (ds : List PyData) (h : DA X G es (ds.map (MP.d X.K))) (hz : ds.length ≤ 100000 := by decide) : DE X G (.List es pos) (MP.d X.K (.list ds)) :=
  de_of (pe_lst h) fun σ H Q g q => ⟨g, fun vs H1 x1 p1 => by
    have hd := AllP.datas p1
    exact ⟨sz3 (by rw [hd.length]; exact hz), fun l hl => q _ _ (x1.trans (Ex.new hl)) (dp_newL hl hd)⟩⟩
theorem AllP.append {H : Hp} : ∀ {Ms Ns : List MP} {vs us : List V}, AllP Ms vs H → AllP Ns us H → AllP (Ms ++ Ns) (vs ++ us) H
  | [], _, _, _, .nil, h => h
  | _ :: _, _, _, _, .cons h1 h2, h => .cons h1 (AllP.append h2 h)
theorem AllP.ofDatas {H : Hp} : ∀ {ds : List PyData} {vs : List V}, DpAll K H vs ds → AllP (ds.map (MP.d K)) vs H
  | [], _, h => by cases h; exact .nil
  | d :: ds, _, h => by
    cases h with
    | cons h1 h2 => exact .cons h1 (AllP.ofDatas h2)
/-- *e in a display -/
theorem da_starT {ds : List PyData} (he : DE X G e (MP.d X.K (.tuple ds))) (hr : DA X G es Ms) (hs : starEach (.Starred e p :: es) X.env = (true, eval e X.env) :: starEach es X.env := by rfl) : DA X G (.Starred e p :: es) (ds.map (MP.d X.K) ++ Ms) :=
  da_of (StX.pa_star he hr hs) fun σ H Q g q => ⟨g, fun v H1 x1 p1 => by
    obtain ⟨a, us, rfl, hq, hd⟩ := dp_tup p1
    exact ⟨a, us, rfl, .inl hq, MG.mono x1 g, fun ys H2 x2 p2 => q _ H2 (x1.trans x2) ((AllP.ofDatas (DpAll.mono x2 _ _ hd)).append p2)⟩⟩
theorem da_starL {ds : List PyData} (he : DE X G e (MP.d X.K (.list ds))) (hr : DA X G es Ms) (hs : starEach (.Starred e p :: es) X.env = (true, eval e X.env) :: starEach es X.env := by rfl) : DA X G (.Starred e p :: es) (ds.map (MP.d X.K) ++ Ms) :=
  da_of (StX.pa_star he hr hs) fun σ H Q g q => ⟨g, fun v H1 x1 p1 => by
    obtain ⟨a, us, rfl, hq, hd⟩ := dp_lst p1
    exact ⟨a, us, rfl, .inr hq, MG.mono x1 g, fun ys H2 x2 p2 => q _ H2 (x1.trans x2) ((AllP.ofDatas (DpAll.mono x2 _ _ hd)).append p2)⟩⟩
omit [MG G] in
theorem DA.to {Ms Ns : List MP} (h : DA X G es Ms) (e : Ms = Ns) : DA X G es Ns := e ▸ h

/-! ### places -/
theorem de_ixT {ds : List PyData} {d : PyData} {i : Int} (j : Nat) (ha : DE X G a (MP.d X.K (.tuple ds))) (hb : DE X G b (MI X.K i)) (hj : i = (j : Int)) (hd : ds[j]? = some d) (hs : PlainIx b := by exact fun _ _ => rfl) : DE X G (.Subscript a b pos) (MP.d X.K d) :=
  de_of (pe_ix ix_tup ha hb hs) fun σ H Q g q => ⟨g, fun v H1 x1 p1 => ⟨MG.mono x1 g, fun u H2 x2 p2 => by
    obtain ⟨l, us, rfl, hq, ha⟩ := dp_tup (Dp.mono x2 _ _ p1)
    obtain ⟨y, e1, p⟩ := ha.get' hd
    exact ⟨l, us, i, y, rfl, dp_int p2, hq, by rw [hj]; exact atI_nat e1, q _ H2 (x1.trans x2) p⟩⟩⟩
theorem de_ixL {ds : List PyData} {d : PyData} {i : Int} (j : Nat) (ha : DE X G a (MP.d X.K (.list ds))) (hb : DE X G b (MI X.K i)) (hj : i = (j : Int)) (hd : ds[j]? = some d) (hs : PlainIx b := by exact fun _ _ => rfl) : DE X G (.Subscript a b pos) (MP.d X.K d) :=
  de_of (pe_ix ix_list ha hb hs) fun σ H Q g q => ⟨g, fun v H1 x1 p1 => ⟨MG.mono x1 g, fun u H2 x2 p2 => by
    obtain ⟨l, us, rfl, hq, ha⟩ := dp_lst (Dp.mono x2 _ _ p1)
    obtain ⟨y, e1, p⟩ := ha.get' hd
    exact ⟨l, us, i, y, rfl, dp_int p2, hq, by rw [hj]; exact atI_nat e1, q _ H2 (x1.trans x2) p⟩⟩⟩
/-! ### sums of sequences -/
theorem de_catL {ds ds' : List PyData} (ha : DE X G a (MP.d X.K (.list ds))) (hb : DE X G b (MP.d X.K (.list ds'))) (hz : ds.length + ds'.length ≤ 100000) : DE X G (.BinOp a .Add b pos) (MP.d X.K (.list (ds ++ ds'))) :=
  de_bin op_catS (fun x y H Q p1 p2 q => by
    obtain ⟨l, us, rfl, hq, hd⟩ := dp_lst p1
    obtain ⟨l2, us2, rfl, hq2, hd2⟩ := dp_lst p2
    exact ⟨l, l2, us, us2, rfl, rfl, hq, hq2, sz3 (by rw [hd.length, hd2.length]; exact hz), fun r hr => q _ _ (Ex.new hr) (dp_newL hr (hd.append hd2))⟩) ha hb
theorem DpAll.nil_of {H : Hp} {us : List V} {ds : List PyData} (h : DpAll K H us ds) : us = [] ↔ ds = [] := by
  have := L2.DpAll.length h
  constructor
  · rintro rfl; exact List.length_eq_zero_iff.mp this.symm
  · rintro rfl; exact List.length_eq_zero_iff.mp this
theorem de_catT {ds ds' : List PyData} (ha : DE X G a (MP.d X.K (.tuple ds))) (hb : DE X G b (MP.d X.K (.tuple ds'))) (hz : ds.length + ds'.length ≤ 100000) : DE X G (.BinOp a .Add b pos) (MP.d X.K (.tuple (ds ++ ds'))) :=
  de_bin op_catA (fun x y H Q p1 p2 q => by
    obtain ⟨l, us, rfl, hq, hd⟩ := dp_tup p1
    obtain ⟨l2, us2, rfl, hq2, hd2⟩ := dp_tup p2
    refine ⟨l, l2, us, us2, rfl, rfl, hq, hq2, sz3 (by rw [hd.length, hd2.length]; exact hz), fun z => ?_, fun _ z => ?_, fun _ _ r hr => q _ _ (Ex.new hr) (dp_newT hr (hd.append hd2))⟩
    · refine q _ H (Ex.refl H) ?_
      rw [(DpAll.nil_of hd).mp z]
      exact p2
    · refine q _ H (Ex.refl H) ?_
      rw [(DpAll.nil_of hd2).mp z, List.append_nil]
      exact p1) ha hb
end
end K78

-- part KP0
set_option Elab.async false
set_option linter.all false
set_option maxRecDepth 100000
set_option maxHeartbeats 4000000
/-! KP0: the text's defs as they stand. -/
namespace K78
open PySem PySem.Spec PyProof.Rows L2
open Evl (Ex ex_t ex_l ex_rd fresh_back)
open Enc (enc)
/-- what the top has left -/
structure Tx (K : PySem.W.Frag) (mg : Str → Option Value) : Prop where
  c : He.SaysD fa fn K
  gl : ∀ (i : Nat) x, fa[i]? = some (He.Fa.glo x) → mg x = some (.ref (He.ga K x))
  fr : ∀ (i : Nat) x, fa[i]? = some (He.Fa.free x) → mg x = none
section
variable {K : PySem.W.Frag} {mg : Str → Option Value}
theorem Tx.bl (T : Tx K mg) : Bl mg where
  tuple := T.fr 55 _ rfl
  list := T.fr 56 _ rfl
  sorted := T.fr 57 _ rfl
  set := T.fr 58 _ rfl
  zip := T.fr 59 _ rfl
  all := T.fr 60 _ rfl
  any := T.fr 61 _ rfl
  range := T.fr 62 _ rfl
  len := T.fr 63 _ rfl
  enumerate := T.fr 64 _ rfl
  dict := T.fr 65 _ rfl
  sum := T.fr 66 _ rfl
  min := T.fr 67 _ rfl
  isinstance := T.fr 68 _ rfl
  int := T.fr 69 _ rfl
  bool := T.fr 70 _ rfl
  str := T.fr 71 _ rfl
  abs := T.fr 72 _ rfl
def At (K : PySem.W.Frag) (mg : Str → Option Value) (x : Str) (st : Stmt) : Prop := ∃ f fd, FnP K x st f fd ∧ mg x = some (.ref f)
theorem at_tupled (T : Tx K mg) : At K mg "tupled" s_tupled := let ⟨fd, F⟩ := T.c.def_ 0 (d := d_tupled) rfl; ⟨_, fd, F, T.gl 0 _ rfl⟩
theorem at_set_of (T : Tx K mg) : At K mg "set_of" s_set_of := let ⟨fd, F⟩ := T.c.def_ 1 (d := d_set_of) rfl; ⟨_, fd, F, T.gl 1 _ rfl⟩
theorem at_product (T : Tx K mg) : At K mg "product" s_product := let ⟨fd, F⟩ := T.c.def_ 2 (d := d_product) rfl; ⟨_, fd, F, T.gl 2 _ rfl⟩
theorem at_common_cuts (T : Tx K mg) : At K mg "common_cuts" s_common_cuts := let ⟨fd, F⟩ := T.c.def_ 3 (d := d_common_cuts) rfl; ⟨_, fd, F, T.gl 3 _ rfl⟩
theorem at_is_free (T : Tx K mg) : At K mg "is_free" s_is_free := let ⟨fd, F⟩ := T.c.def_ 4 (d := d_is_free) rfl; ⟨_, fd, F, T.gl 4 _ rfl⟩
theorem at_free_pins (T : Tx K mg) : At K mg "free_pins" s_free_pins := let ⟨fd, F⟩ := T.c.def_ 5 (d := d_free_pins) rfl; ⟨_, fd, F, T.gl 5 _ rfl⟩
theorem at_row_of (T : Tx K mg) : At K mg "row_of" s_row_of := let ⟨fd, F⟩ := T.c.def_ 6 (d := d_row_of) rfl; ⟨_, fd, F, T.gl 6 _ rfl⟩
theorem at_barring_pin (T : Tx K mg) : At K mg "barring_pin" s_barring_pin := let ⟨fd, F⟩ := T.c.def_ 7 (d := d_barring_pin) rfl; ⟨_, fd, F, T.gl 7 _ rfl⟩
theorem at_opens_room (T : Tx K mg) : At K mg "opens_room" s_opens_room := let ⟨fd, F⟩ := T.c.def_ 8 (d := d_opens_room) rfl; ⟨_, fd, F, T.gl 8 _ rfl⟩
theorem at_openers_of (T : Tx K mg) : At K mg "openers_of" s_openers_of := let ⟨fd, F⟩ := T.c.def_ 9 (d := d_openers_of) rfl; ⟨_, fd, F, T.gl 9 _ rfl⟩
theorem at_opened_by (T : Tx K mg) : At K mg "opened_by" s_opened_by := let ⟨fd, F⟩ := T.c.def_ 10 (d := d_opened_by) rfl; ⟨_, fd, F, T.gl 10 _ rfl⟩
theorem at_whole_box (T : Tx K mg) : At K mg "whole_box" s_whole_box := let ⟨fd, F⟩ := T.c.def_ 11 (d := d_whole_box) rfl; ⟨_, fd, F, T.gl 11 _ rfl⟩
theorem at_meeting (T : Tx K mg) : At K mg "meeting" s_meeting := let ⟨fd, F⟩ := T.c.def_ 12 (d := d_meeting) rfl; ⟨_, fd, F, T.gl 12 _ rfl⟩
theorem at_together (T : Tx K mg) : At K mg "together" s_together := let ⟨fd, F⟩ := T.c.def_ 13 (d := d_together) rfl; ⟨_, fd, F, T.gl 13 _ rfl⟩
theorem at_added (T : Tx K mg) : At K mg "added" s_added := let ⟨fd, F⟩ := T.c.def_ 14 (d := d_added) rfl; ⟨_, fd, F, T.gl 14 _ rfl⟩
theorem at_opening_box (T : Tx K mg) : At K mg "opening_box" s_opening_box := let ⟨fd, F⟩ := T.c.def_ 15 (d := d_opening_box) rfl; ⟨_, fd, F, T.gl 15 _ rfl⟩
theorem at_opened_box (T : Tx K mg) : At K mg "opened_box" s_opened_box := let ⟨fd, F⟩ := T.c.def_ 16 (d := d_opened_box) rfl; ⟨_, fd, F, T.gl 16 _ rfl⟩
theorem at_alike_box (T : Tx K mg) : At K mg "alike_box" s_alike_box := let ⟨fd, F⟩ := T.c.def_ 17 (d := d_alike_box) rfl; ⟨_, fd, F, T.gl 17 _ rfl⟩
theorem at_further_counts (T : Tx K mg) : At K mg "further_counts" s_further_counts := let ⟨fd, F⟩ := T.c.def_ 18 (d := d_further_counts) rfl; ⟨_, fd, F, T.gl 18 _ rfl⟩
theorem at_total (T : Tx K mg) : At K mg "total" s_total := let ⟨fd, F⟩ := T.c.def_ 19 (d := d_total) rfl; ⟨_, fd, F, T.gl 19 _ rfl⟩
theorem at_ranks_in (T : Tx K mg) : At K mg "ranks_in" s_ranks_in := let ⟨fd, F⟩ := T.c.def_ 20 (d := d_ranks_in) rfl; ⟨_, fd, F, T.gl 20 _ rfl⟩
theorem at_ranks_of (T : Tx K mg) : At K mg "ranks_of" s_ranks_of := let ⟨fd, F⟩ := T.c.def_ 21 (d := d_ranks_of) rfl; ⟨_, fd, F, T.gl 21 _ rfl⟩
theorem at_who_bars (T : Tx K mg) : At K mg "who_bars" s_who_bars := let ⟨fd, F⟩ := T.c.def_ 22 (d := d_who_bars) rfl; ⟨_, fd, F, T.gl 22 _ rfl⟩
theorem at_is_further (T : Tx K mg) : At K mg "is_further" s_is_further := let ⟨fd, F⟩ := T.c.def_ 23 (d := d_is_further) rfl; ⟨_, fd, F, T.gl 23 _ rfl⟩
theorem at_how_many_further (T : Tx K mg) : At K mg "how_many_further" s_how_many_further := let ⟨fd, F⟩ := T.c.def_ 24 (d := d_how_many_further) rfl; ⟨_, fd, F, T.gl 24 _ rfl⟩
theorem at_further_ranks (T : Tx K mg) : At K mg "further_ranks" s_further_ranks := let ⟨fd, F⟩ := T.c.def_ 25 (d := d_further_ranks) rfl; ⟨_, fd, F, T.gl 25 _ rfl⟩
theorem at_is_harmless (T : Tx K mg) : At K mg "is_harmless" s_is_harmless := let ⟨fd, F⟩ := T.c.def_ 26 (d := d_is_harmless) rfl; ⟨_, fd, F, T.gl 26 _ rfl⟩
theorem at_harmless_counts (T : Tx K mg) : At K mg "harmless_counts" s_harmless_counts := let ⟨fd, F⟩ := T.c.def_ 27 (d := d_harmless_counts) rfl; ⟨_, fd, F, T.gl 27 _ rfl⟩
theorem at_how_many_harmless (T : Tx K mg) : At K mg "how_many_harmless" s_how_many_harmless := let ⟨fd, F⟩ := T.c.def_ 28 (d := d_how_many_harmless) rfl; ⟨_, fd, F, T.gl 28 _ rfl⟩
theorem at_breach (T : Tx K mg) : At K mg "breach" s_breach := let ⟨fd, F⟩ := T.c.def_ 29 (d := d_breach) rfl; ⟨_, fd, F, T.gl 29 _ rfl⟩
theorem at_is_house_closed (T : Tx K mg) : At K mg "is_house_closed" s_is_house_closed := let ⟨fd, F⟩ := T.c.def_ 30 (d := d_is_house_closed) rfl; ⟨_, fd, F, T.gl 30 _ rfl⟩
theorem at_kept_private (T : Tx K mg) : At K mg "kept_private" s_kept_private := let ⟨fd, F⟩ := T.c.def_ 31 (d := d_kept_private) rfl; ⟨_, fd, F, T.gl 31 _ rfl⟩
theorem at__law_box (T : Tx K mg) : At K mg "_law_box" s__law_box := let ⟨fd, F⟩ := T.c.def_ 32 (d := d__law_box) rfl; ⟨_, fd, F, T.gl 32 _ rfl⟩
theorem at__law_take (T : Tx K mg) : At K mg "_law_take" s__law_take := let ⟨fd, F⟩ := T.c.def_ 33 (d := d__law_take) rfl; ⟨_, fd, F, T.gl 33 _ rfl⟩
theorem at__law_cells (T : Tx K mg) : At K mg "_law_cells" s__law_cells := let ⟨fd, F⟩ := T.c.def_ 34 (d := d__law_cells) rfl; ⟨_, fd, F, T.gl 34 _ rfl⟩
theorem at__law_of (T : Tx K mg) : At K mg "_law_of" s__law_of := let ⟨fd, F⟩ := T.c.def_ 35 (d := d__law_of) rfl; ⟨_, fd, F, T.gl 35 _ rfl⟩
theorem at__law_pick (T : Tx K mg) : At K mg "_law_pick" s__law_pick := let ⟨fd, F⟩ := T.c.def_ 36 (d := d__law_pick) rfl; ⟨_, fd, F, T.gl 36 _ rfl⟩
theorem at__law_same (T : Tx K mg) : At K mg "_law_same" s__law_same := let ⟨fd, F⟩ := T.c.def_ 37 (d := d__law_same) rfl; ⟨_, fd, F, T.gl 37 _ rfl⟩
theorem at__law_deep (T : Tx K mg) : At K mg "_law_deep" s__law_deep := let ⟨fd, F⟩ := T.c.def_ 38 (d := d__law_deep) rfl; ⟨_, fd, F, T.gl 38 _ rfl⟩
theorem at__law_tooth (T : Tx K mg) : At K mg "_law_tooth" s__law_tooth := let ⟨fd, F⟩ := T.c.def_ 39 (d := d__law_tooth) rfl; ⟨_, fd, F, T.gl 39 _ rfl⟩
theorem at__law_chief (T : Tx K mg) : At K mg "_law_chief" s__law_chief := let ⟨fd, F⟩ := T.c.def_ 40 (d := d__law_chief) rfl; ⟨_, fd, F, T.gl 40 _ rfl⟩
theorem at__law_stars (T : Tx K mg) : At K mg "_law_stars" s__law_stars := let ⟨fd, F⟩ := T.c.def_ 41 (d := d__law_stars) rfl; ⟨_, fd, F, T.gl 41 _ rfl⟩
theorem at__law_lets (T : Tx K mg) : At K mg "_law_lets" s__law_lets := let ⟨fd, F⟩ := T.c.def_ 42 (d := d__law_lets) rfl; ⟨_, fd, F, T.gl 42 _ rfl⟩
theorem at__law_loud (T : Tx K mg) : At K mg "_law_loud" s__law_loud := let ⟨fd, F⟩ := T.c.def_ 43 (d := d__law_loud) rfl; ⟨_, fd, F, T.gl 43 _ rfl⟩
theorem at__law_teeth (T : Tx K mg) : At K mg "_law_teeth" s__law_teeth := let ⟨fd, F⟩ := T.c.def_ 44 (d := d__law_teeth) rfl; ⟨_, fd, F, T.gl 44 _ rfl⟩
theorem at__law_quiet (T : Tx K mg) : At K mg "_law_quiet" s__law_quiet := let ⟨fd, F⟩ := T.c.def_ 45 (d := d__law_quiet) rfl; ⟨_, fd, F, T.gl 45 _ rfl⟩
theorem at__law_named (T : Tx K mg) : At K mg "_law_named" s__law_named := let ⟨fd, F⟩ := T.c.def_ 46 (d := d__law_named) rfl; ⟨_, fd, F, T.gl 46 _ rfl⟩
theorem at__law_named_right (T : Tx K mg) : At K mg "_law_named_right" s__law_named_right := let ⟨fd, F⟩ := T.c.def_ 47 (d := d__law_named_right) rfl; ⟨_, fd, F, T.gl 47 _ rfl⟩
theorem at__law_pin_right (T : Tx K mg) : At K mg "_law_pin_right" s__law_pin_right := let ⟨fd, F⟩ := T.c.def_ 48 (d := d__law_pin_right) rfl; ⟨_, fd, F, T.gl 48 _ rfl⟩
theorem at__law_master_right (T : Tx K mg) : At K mg "_law_master_right" s__law_master_right := let ⟨fd, F⟩ := T.c.def_ 49 (d := d__law_master_right) rfl; ⟨_, fd, F, T.gl 49 _ rfl⟩
theorem at__law_whole_right (T : Tx K mg) : At K mg "_law_whole_right" s__law_whole_right := let ⟨fd, F⟩ := T.c.def_ 50 (d := d__law_whole_right) rfl; ⟨_, fd, F, T.gl 50 _ rfl⟩
theorem at__law_by_hand_right (T : Tx K mg) : At K mg "_law_by_hand_right" s__law_by_hand_right := let ⟨fd, F⟩ := T.c.def_ 51 (d := d__law_by_hand_right) rfl; ⟨_, fd, F, T.gl 51 _ rfl⟩
theorem at__law_case_right (T : Tx K mg) : At K mg "_law_case_right" s__law_case_right := let ⟨fd, F⟩ := T.c.def_ 52 (d := d__law_case_right) rfl; ⟨_, fd, F, T.gl 52 _ rfl⟩
theorem at__law_right (T : Tx K mg) : At K mg "_law_right" s__law_right := let ⟨fd, F⟩ := T.c.def_ 53 (d := d__law_right) rfl; ⟨_, fd, F, T.gl 53 _ rfl⟩
theorem at_law (T : Tx K mg) : At K mg "law" s_law := let ⟨fd, F⟩ := T.c.def_ 54 (d := d_law) rfl; ⟨_, fd, F, T.gl 54 _ rfl⟩
end
theorem EnvOk.drop {Γ : En} {σ : L2.St} {H : Hp} (h : EnvOk Γ σ H) (i : Nat) : EnvOk (Γ.set i Option.none) σ H := by
  refine ⟨by rw [List.length_set, h.len], fun j N e => ?_⟩
  by_cases hj : i = j
  · subst hj
    by_cases hi : i < Γ.length
    · rw [List.getElem?_set_self hi] at e
      cases e
    · rw [List.getElem?_eq_none (by rw [List.length_set]; omega)] at e
      cases e
  · rw [List.getElem?_set_ne hj] at e
    exact h.get j N e
end K78

-- part KSc
set_option Elab.async false
set_option linter.all false
set_option maxRecDepth 100000
set_option maxHeartbeats 4000000
/-! KSc: the defs' names by slots. -/
namespace K78
open PySem PySem.Spec PyProof.Rows L2
theorem sc_tupled : FnScope ["thing", "part"] ["thing"] (defScope s_tupled) := ⟨rfl, rfl, rfl, by decide +kernel, rfl, by decide +kernel, by decide +kernel⟩
theorem sc_set_of : FnScope ["things"] ["things"] (defScope s_set_of) := ⟨rfl, rfl, rfl, by decide +kernel, rfl, by decide +kernel, by decide +kernel⟩
theorem sc_product : FnScope ["numbers", "found", "number"] ["numbers"] (defScope s_product) := ⟨rfl, rfl, rfl, by decide +kernel, rfl, by decide +kernel, by decide +kernel⟩
theorem sc_common_cuts : FnScope ["common", "cuts"] ["common"] (defScope s_common_cuts) := ⟨rfl, rfl, rfl, by decide +kernel, rfl, by decide +kernel, by decide +kernel⟩
theorem sc_is_free : FnScope ["common", "key", "pin", "other"] ["common", "key", "pin"] (defScope s_is_free) := ⟨rfl, rfl, rfl, by decide +kernel, rfl, by decide +kernel, by decide +kernel⟩
theorem sc_free_pins : FnScope ["common", "key", "pin"] ["common", "key"] (defScope s_free_pins) := ⟨rfl, rfl, rfl, by decide +kernel, rfl, by decide +kernel, by decide +kernel⟩
theorem sc_row_of : FnScope ["common", "key", "pin", "cut"] ["common", "key"] (defScope s_row_of) := ⟨rfl, rfl, rfl, by decide +kernel, rfl, by decide +kernel, by decide +kernel⟩
theorem sc_barring_pin : FnScope ["common", "one", "other", "pin"] ["common", "one", "other"] (defScope s_barring_pin) := ⟨rfl, rfl, rfl, by decide +kernel, rfl, by decide +kernel, by decide +kernel⟩
theorem sc_opens_room : FnScope ["common", "one", "other"] ["common", "one", "other"] (defScope s_opens_room) := ⟨rfl, rfl, rfl, by decide +kernel, rfl, by decide +kernel, by decide +kernel⟩
theorem sc_openers_of : FnScope ["common", "keys", "key", "one"] ["common", "keys", "key"] (defScope s_openers_of) := ⟨rfl, rfl, rfl, by decide +kernel, rfl, by decide +kernel, by decide +kernel⟩
theorem sc_opened_by : FnScope ["common", "keys", "key", "other"] ["common", "keys", "key"] (defScope s_opened_by) := ⟨rfl, rfl, rfl, by decide +kernel, rfl, by decide +kernel, by decide +kernel⟩
theorem sc_whole_box : FnScope ["depths", "depth"] ["depths"] (defScope s_whole_box) := ⟨rfl, rfl, rfl, by decide +kernel, rfl, by decide +kernel, by decide +kernel⟩
theorem sc_meeting : FnScope ["one", "other", "found", "mine", "its", "cut"] ["one", "other"] (defScope s_meeting) := ⟨rfl, rfl, rfl, by decide +kernel, rfl, by decide +kernel, by decide +kernel⟩
theorem sc_together : FnScope ["boxes", "found", "box", "fresh", "other", "often", "both", "part"] ["boxes"] (defScope s_together) := ⟨rfl, rfl, rfl, by decide +kernel, rfl, by decide +kernel, by decide +kernel⟩
theorem sc_added : FnScope ["counts", "others", "times", "found", "box", "often"] ["counts", "others", "times"] (defScope s_added) := ⟨rfl, rfl, rfl, by decide +kernel, rfl, by decide +kernel, by decide +kernel⟩
theorem sc_opening_box : FnScope ["common", "key", "cuts", "cut"] ["common", "key"] (defScope s_opening_box) := ⟨rfl, rfl, rfl, by decide +kernel, rfl, by decide +kernel, by decide +kernel⟩
theorem sc_opened_box : FnScope ["depths", "common", "key", "depth", "cut"] ["depths", "common", "key"] (defScope s_opened_box) := ⟨rfl, rfl, rfl, by decide +kernel, rfl, by decide +kernel, by decide +kernel⟩
theorem sc_alike_box : FnScope ["common", "key", "cuts", "cut"] ["common", "key"] (defScope s_alike_box) := ⟨rfl, rfl, rfl, by decide +kernel, rfl, by decide +kernel, by decide +kernel⟩
theorem sc_further_counts : FnScope ["depths", "common", "own", "keys", "found", "key"] ["depths", "common", "own"] (defScope s_further_counts) := ⟨rfl, rfl, rfl, by decide +kernel, rfl, by decide +kernel, by decide +kernel⟩
theorem sc_total : FnScope ["counts", "cuts", "box", "often"] ["counts"] (defScope s_total) := ⟨rfl, rfl, rfl, by decide +kernel, rfl, by decide +kernel, by decide +kernel⟩
theorem sc_ranks_in : FnScope ["box", "shared", "found", "cuts", "ours", "many", "cut", "free", "one", "other"] ["box", "shared"] (defScope s_ranks_in) := ⟨rfl, rfl, rfl, by decide +kernel, rfl, by decide +kernel, by decide +kernel⟩
theorem sc_ranks_of : FnScope ["counts", "common", "shared", "found", "box", "often", "one", "other"] ["counts", "common"] (defScope s_ranks_of) := ⟨rfl, rfl, rfl, by decide +kernel, rfl, by decide +kernel, by decide +kernel⟩
theorem sc_who_bars : FnScope ["depths", "common", "own", "key"] ["depths", "common", "own", "key"] (defScope s_who_bars) := ⟨rfl, rfl, rfl, by decide +kernel, rfl, by decide +kernel, by decide +kernel⟩
theorem sc_is_further : FnScope ["depths", "common", "own", "key"] ["depths", "common", "own", "key"] (defScope s_is_further) := ⟨rfl, rfl, rfl, by decide +kernel, rfl, by decide +kernel, by decide +kernel⟩
theorem sc_how_many_further : FnScope ["depths", "common", "own"] ["depths", "common", "own"] (defScope s_how_many_further) := ⟨rfl, rfl, rfl, by decide +kernel, rfl, by decide +kernel, by decide +kernel⟩
theorem sc_further_ranks : FnScope ["depths", "common", "own"] ["depths", "common", "own"] (defScope s_further_ranks) := ⟨rfl, rfl, rfl, by decide +kernel, rfl, by decide +kernel, by decide +kernel⟩
theorem sc_is_harmless : FnScope ["depths", "common", "own", "key", "mine", "one"] ["depths", "common", "own", "key"] (defScope s_is_harmless) := ⟨rfl, rfl, rfl, by decide +kernel, rfl, by decide +kernel, by decide +kernel⟩
theorem sc_harmless_counts : FnScope ["depths", "common", "own", "boxes", "key", "cut"] ["depths", "common", "own"] (defScope s_harmless_counts) := ⟨rfl, rfl, rfl, by decide +kernel, rfl, by decide +kernel, by decide +kernel⟩
theorem sc_how_many_harmless : FnScope ["depths", "common", "own"] ["depths", "common", "own"] (defScope s_how_many_harmless) := ⟨rfl, rfl, rfl, by decide +kernel, rfl, by decide +kernel, by decide +kernel⟩
theorem sc_breach : FnScope ["depths", "common", "own", "private", "homes", "lone", "masters", "found", "one", "other"] ["depths", "common", "own", "private"] (defScope s_breach) := ⟨rfl, rfl, rfl, by decide +kernel, rfl, by decide +kernel, by decide +kernel⟩
theorem sc_is_house_closed : FnScope ["depths", "common", "own", "private"] ["depths", "common", "own", "private"] (defScope s_is_house_closed) := ⟨rfl, rfl, rfl, by decide +kernel, rfl, by decide +kernel, by decide +kernel⟩
theorem sc_kept_private : FnScope ["depths", "common", "private", "key", "one"] ["depths", "common", "private", "key"] (defScope s_kept_private) := ⟨rfl, rfl, rfl, by decide +kernel, rfl, by decide +kernel, by decide +kernel⟩
theorem sc__law_box : FnScope ["_law_script", "_law_k", "_law_great_so"] ["_law_script", "_law_k"] (defScope s__law_box) := ⟨rfl, rfl, rfl, by decide +kernel, rfl, by decide +kernel, by decide +kernel⟩
theorem sc__law_take : FnScope ["_law_box_here", "_law_top_so", "_law_digit_so", "_law_once", "_law_far", "_law_twice"] ["_law_box_here", "_law_top_so"] (defScope s__law_take) := ⟨rfl, rfl, rfl, by decide +kernel, rfl, by decide +kernel, by decide +kernel⟩
theorem sc__law_cells : FnScope ["_law_script", "_law_most", "_law_cells_here", "_law_k", "_law_great_so", "_law_at_so"] ["_law_script", "_law_most"] (defScope s__law_cells) := ⟨rfl, rfl, rfl, by decide +kernel, rfl, by decide +kernel, by decide +kernel⟩
theorem sc__law_of : FnScope ["_law_box_here", "_law_some"] ["_law_box_here", "_law_some"] (defScope s__law_of) := ⟨rfl, rfl, rfl, by decide +kernel, rfl, by decide +kernel, by decide +kernel⟩
theorem sc__law_pick : FnScope ["_law_box_here", "_law_pool", "_law_size_so", "_law_rest", "_law_some", "_law_turn"] ["_law_box_here", "_law_pool", "_law_size_so"] (defScope s__law_pick) := ⟨rfl, rfl, rfl, by decide +kernel, rfl, by decide +kernel, by decide +kernel⟩
theorem sc__law_same : FnScope ["_law_got", "_law_due", "_law_mine", "_law_its", "_law_lot_so"] ["_law_got", "_law_due"] (defScope s__law_same) := ⟨rfl, rfl, rfl, by decide +kernel, rfl, by decide +kernel, by decide +kernel⟩
theorem sc__law_deep : FnScope ["_law_box_here", "_law_pins", "_law_most", "_law_lap"] ["_law_box_here", "_law_pins", "_law_most"] (defScope s__law_deep) := ⟨rfl, rfl, rfl, by decide +kernel, rfl, by decide +kernel, by decide +kernel⟩
theorem sc__law_tooth : FnScope ["_law_box_here", "_law_deep_here", "_law_high_so"] ["_law_box_here", "_law_deep_here"] (defScope s__law_tooth) := ⟨rfl, rfl, rfl, by decide +kernel, rfl, by decide +kernel, by decide +kernel⟩
theorem sc__law_chief : FnScope ["_law_box_here", "_law_deep_here", "_law_most", "_law_lap"] ["_law_box_here", "_law_deep_here", "_law_most"] (defScope s__law_chief) := ⟨rfl, rfl, rfl, by decide +kernel, rfl, by decide +kernel, by decide +kernel⟩
theorem sc__law_stars : FnScope ["_law_chief_here", "_law_tooth_here", "_law_k", "_law_cut", "_law_mate"] ["_law_chief_here", "_law_tooth_here"] (defScope s__law_stars) := ⟨rfl, rfl, rfl, by decide +kernel, rfl, by decide +kernel, by decide +kernel⟩
theorem sc__law_lets : FnScope ["_law_chief_here", "_law_one_so", "_law_two_so", "_law_bit"] ["_law_chief_here", "_law_one_so", "_law_two_so"] (defScope s__law_lets) := ⟨rfl, rfl, rfl, by decide +kernel, rfl, by decide +kernel, by decide +kernel⟩
theorem sc__law_loud : FnScope ["_law_chief_here", "_law_bunch", "_law_found", "_law_tooth_here", "_law_mate"] ["_law_chief_here", "_law_bunch"] (defScope s__law_loud) := ⟨rfl, rfl, rfl, by decide +kernel, rfl, by decide +kernel, by decide +kernel⟩
theorem sc__law_teeth : FnScope ["_law_deep_here", "_law_found", "_law_high_so", "_law_rows_so", "_law_tooth_here", "_law_cut"] ["_law_deep_here"] (defScope s__law_teeth) := ⟨rfl, rfl, rfl, by decide +kernel, rfl, by decide +kernel, by decide +kernel⟩
theorem sc__law_quiet : FnScope ["_law_box_here", "_law_deep_here", "_law_chief_here", "_law_most", "_law_found", "_law_lap", "_law_tooth_here"] ["_law_box_here", "_law_deep_here", "_law_chief_here", "_law_most"] (defScope s__law_quiet) := ⟨rfl, rfl, rfl, by decide +kernel, rfl, by decide +kernel, by decide +kernel⟩
theorem sc__law_named : FnScope ["_law_names_so", "_law_bunch", "_law_k", "_law_cut", "_law_tooth_here"] ["_law_names_so", "_law_bunch"] (defScope s__law_named) := ⟨rfl, rfl, rfl, by decide +kernel, rfl, by decide +kernel, by decide +kernel⟩
theorem sc__law_named_right : FnScope ["_law_box_here", "_law_deep_here", "_law_chief_here", "_law_bunch", "_law_lone_so", "_law_names_so", "_law_high_so", "_law_masters", "_law_homes", "_law_alone_so", "_law_some", "_law_got", "_law_due", "_law_tooth_here", "_law_mate"] ["_law_box_here", "_law_deep_here", "_law_chief_here", "_law_bunch", "_law_lone_so"] (defScope s__law_named_right) := ⟨rfl, rfl, rfl, by decide +kernel, rfl, by decide +kernel, by decide +kernel⟩
theorem sc__law_pin_right : FnScope ["_law_deep_here", "_law_chief_here", "_law_bunch", "_law_masters", "_law_tooth_here", "_law_homes", "_law_got", "_law_due", "_law_own_so"] ["_law_deep_here", "_law_chief_here", "_law_bunch"] (defScope s__law_pin_right) := ⟨rfl, rfl, rfl, by decide +kernel, rfl, by decide +kernel, by decide +kernel⟩
theorem sc__law_master_right : FnScope ["_law_box_here", "_law_deep_here", "_law_chief_here", "_law_bunch", "_law_mate", "_law_k", "_law_wider", "_law_got", "_law_due"] ["_law_box_here", "_law_deep_here", "_law_chief_here", "_law_bunch"] (defScope s__law_master_right) := ⟨rfl, rfl, rfl, by decide +kernel, rfl, by decide +kernel, by decide +kernel⟩
theorem sc__law_whole_right : FnScope ["_law_box_here", "_law_deep_here", "_law_chief_here", "_law_bunch", "_law_lone_so"] ["_law_box_here", "_law_deep_here", "_law_chief_here", "_law_bunch", "_law_lone_so"] (defScope s__law_whole_right) := ⟨rfl, rfl, rfl, by decide +kernel, rfl, by decide +kernel, by decide +kernel⟩
theorem sc__law_by_hand_right : FnScope ["_law_box_here", "_law_pair_so", "_law_cases_so", "_law_deep_here", "_law_chief_here", "_law_bunch", "_law_lone_so", "_law_got"] [] (defScope s__law_by_hand_right) := ⟨rfl, rfl, rfl, by decide +kernel, rfl, by decide +kernel, by decide +kernel⟩
theorem sc__law_case_right : FnScope ["_law_box_here", "_law_deep_here", "_law_chief_here", "_law_bunch", "_law_every"] ["_law_box_here"] (defScope s__law_case_right) := ⟨rfl, rfl, rfl, by decide +kernel, rfl, by decide +kernel, by decide +kernel⟩
theorem sc__law_right : FnScope ["_law_box_here", "_law_turn"] ["_law_box_here"] (defScope s__law_right) := ⟨rfl, rfl, rfl, by decide +kernel, rfl, by decide +kernel, by decide +kernel⟩
theorem sc_law : FnScope ["_law_script", "_law_lots_so", "_law_k"] ["_law_script"] (defScope s_law) := ⟨rfl, rfl, rfl, by decide +kernel, rfl, by decide +kernel, by decide +kernel⟩
end K78

-- part KP1
set_option Elab.async false
set_option linter.all false
set_option maxRecDepth 100000
set_option maxHeartbeats 4000000
/-! KP1: product, is_free .. opened_by. -/
namespace K78
open PySem PySem.Spec PyProof.Rows L2
open Evl (Ex ex_t ex_l ex_rd fresh_back)
open Enc (enc)
/-! ### mirrors -/
def prodI (ns : List Int) : Int := ns.foldl (· * ·) 1
theorem prodI_take {ns : List Int} {i : Nat} {n : Int} (h : ns[i]? = some n) : prodI (ns.take (i + 1)) = prodI (ns.take i) * n := by
  unfold prodI
  rw [List.take_add_one, h]
  show List.foldl _ 1 (ns.take i ++ [n]) = _
  rw [List.foldl_append]
  rfl
abbrev KEY := List Int
abbrev KEYS := List (List Int)
def isFree (common : KEYS) (key : KEY) (pin : Nat) : Bool := common.all fun o => !decide (o.getD pin 0 = key.getD pin 0)
def freePins (common : KEYS) (key : KEY) : List Nat := (List.range key.length).filter (isFree common key)
def rowOf (common : KEYS) (key : KEY) : List (Option Int) := (List.range key.length).map fun p => if isFree common key p = true then some (key.getD p 0) else none
def opens (common : KEYS) (one other : KEY) : Bool := (freePins common one).all fun p => decide (one.getD p 0 = other.getD p 0)
/-- keys of n pins -/
def Wf (n : Nat) (ks : KEYS) : Prop := (∀ k ∈ ks, k.length = n) ∧ ks.length ≤ 2000 ∧ n ≤ 100
theorem get_enc {α : Type} [Enc α] {l : List α} {p : Nat} (h : p < l.length) (d : α) : (l.map enc)[p]? = some (enc (l.getD p d)) := by
  rw [List.getElem?_map, List.getD_eq_getElem?_getD, List.getElem?_eq_getElem h]
  rfl
theorem map_enc_idx {α : Type} (l : List α) (d : α) : l = (List.range l.length).map fun i => l.getD i d := by
  refine List.ext_getElem (by simp) fun i h1 h2 => ?_
  simp [List.getElem?_eq_getElem h1]
section
variable {P : Program} {w : World} {K : PySem.W.Frag} {mg : Str → Option Value} {base : Heap}
def sp_product (K : PySem.W.Frag) : Sp := spM (fun ns : List Int => ∀ n ∈ ns, -1000 ≤ n ∧ n ≤ 1000) (fun ns => [MP.d K (.list (ns.map .int))]) (fun ns => MI K (prodI ns))
theorem ok_product (T : Tx K mg) : DefOk P w K mg base "product" 1 (sp_product K) := by
  obtain ⟨f, fd, F, hg⟩ := at_product T
  refine fn_pure F sc_product hg (fun _ => rfl) (fun _ _ _ _ _ _ us hl => match us, hl with | [_], _ => rfl) fun f cdv A outer s H E ns hr hp => ?_
  refine ds_cons (d1_set 1 sc_product.nd de_int) ?_
  refine ds_cons (d1_for (vs := [2]) (g := gName 2) (Gi := fun i => EnvOk [some (MP.d K (.list (ns.map .int))), some (MI K (prodI (ns.take i))), none]) (N := EnvOk [some (MP.d K (.list (ns.map .int))), some (MI K (prodI ns)), none]) rfl PassesOwn.never (di_list (de_v 0)) (pg_name sc_product.nd rfl (.inl rfl)) (fun _ _ h => h) (fun i σ H H' x h => MG.mono x h) (fun i d hd => ?_) (fun σ H h => ?_)) ?_
  · rw [List.getElem?_map] at hd
    obtain ⟨n, hn, rfl⟩ := Option.map_eq_some_iff.mp hd
    have hb := hp n (List.mem_of_getElem? hn)
    refine ⟨_, tg_name, ds_post (ds_one (d1_set 1 sc_product.nd (de_mul (de_v 1) (de_v 2) (.inr ⟨by omega, by omega⟩)))) fun σ H h => ?_⟩
    rw [prodI_take hn]
    exact h.drop 2
  · rw [List.length_map, List.take_length] at h
    exact h
  · exact ds_ret (de_v 1)
structure A_is_free where
  common : KEYS
  key : KEY
  pin : Nat
def sp_is_free (K : PySem.W.Frag) : Sp := spM (fun a : A_is_free => (∃ n, Wf n (a.key :: a.common)) ∧ a.pin < a.key.length) (fun a => [ME K a.common, ME K a.key, MI K a.pin]) (fun a => MB K (isFree a.common a.key a.pin))
theorem ok_is_free (T : Tx K mg) : DefOk P w K mg base "is_free" 1 (sp_is_free K) := by
  obtain ⟨f, fd, F, hg⟩ := at_is_free T
  have B := T.bl
  refine fn_pure F sc_is_free hg (fun _ => rfl) (fun _ _ _ _ _ _ us hl => match us, hl with | [_, _, _], _ => rfl) fun f cdv A outer s H E a hr hp => ?_
  obtain ⟨common, key, pin⟩ := a
  obtain ⟨⟨n, hw, hz, hn⟩, hpin⟩ := hp
  have hlen : ∀ o ∈ common, pin < o.length := fun o ho => by
    have h1 := hw o (List.mem_cons_of_mem _ ho)
    have h2 := hw key List.mem_cons_self
    have hpin : pin < key.length := hpin
    omega
  refine ds_ret (de_all common _ rfl B.all (de_lc0 common enc _ _ [("other", 3)] rfl sc_is_free.nd (di_tup (de_v 0)) (blkOk_by (N := ["common", "key", "pin", "other"]) (sc := defScope s_is_free) (by decide +kernel)) (fun _ _ _ _ _ => pg_name (i := 3) sc_is_free.nd rfl (Or.inl rfl)) (fun o ho => tg_name)
    (fun o ho _ _ _ _ _ => de_neE hr (de_ixT pin (de_v 3) (de_v 2) rfl (get_enc (hlen o ho) 0)) (de_ixT pin (de_v 1) (de_v 2) rfl (get_enc hpin 0))) (fun _ _ => rfl) (by simp at hz; omega)))
end
end K78

-- part KIsi
set_option Elab.async false
set_option linter.all false
set_option maxRecDepth 100000
set_option maxHeartbeats 4000000
/-! KIsi: isinstance of data; tupled. -/
namespace K78
open PySem PySem.Spec PyProof.Rows L2
open Evl (Ex ex_t ex_l ex_rd fresh_back)
open Enc (enc)
def tyD : PyData → String
  | .none => "NoneType"
  | .bool _ => "bool"
  | .int _ => "int"
  | .str _ => "str"
  | .list _ => "list"
  | .tuple _ => "tuple"
  | .dict _ => "dict"
theorem dp_ty {K : PySem.W.Frag} {H : Hp} {v : V} {d : PyData} (h : Dp K H v d) : TyX K H v (.type (tyD d)) := by
  cases h with
  | non => exact .base .non
  | bl b => exact .base (.bl b)
  | int i => exact .base (.int i)
  | str z => exact .base (.str z)
  | lst hs _ =>
    rcases hs with (h | ⟨o, h⟩) | ⟨o, its, n, h, c, _⟩
    · exact .base (.lst h)
    · exact .base (.frz h)
    · exact .kList h c
  | tup hs _ =>
    rcases hs with (h | ⟨o, h⟩) | ⟨o, its, n, h, c, _⟩
    · exact .base (.tup h)
    · exact .fTuple h
    · exact .kTuple h c
def MTy (n : String) : MP := ⟨fun v _ => v = .ty n, fun _ h => h⟩
def MTys (ns : List String) : MP := ⟨fun v H => ∃ a, v = .ref a ∧ H a = some (.tup (ns.map V.ty)), fun x ⟨a, e, h⟩ => ⟨a, e, x _ _ h⟩⟩
theorem kit_il : kitB "int" "list" = some false := by decide +kernel
theorem kit_it : kitB "int" "tuple" = some false := by decide +kernel
theorem kit_tl : kitB "tuple" "list" = some false := by decide +kernel
theorem kit_tt : kitB "tuple" "tuple" = some true := by decide +kernel
section
variable {X : Cx} {G : GP} [MG G] {pos p tpos : Pos} {e : Expr} {d : PyData} {K : PySem.W.Frag}
omit [MG G] in
theorem de_ty {n : String} {x : Str} (hm : X.mg x = none) (hv : bootBuiltins x = some (.type n)) (hg : Gl X x := by rfl) (hn : x ≠ "__name__" := by decide) (hd : (x == ("__debug__" : Str)) = false := by decide) : DE X G (.Name x p) (MTy n) :=
  de_of (pe_bltn (v := .ty n) hg hm hv rfl hn hd) fun σ H Q g q => q _ H (Ex.refl H) rfl
theorem de_tys (ns : List String) {es : List Expr} {k : Nat} (h : DA X G es (ns.map MTy)) (hz : ns.length ≤ 100 := by decide) : DE X G (.Tuple es k pos) (MTys ns) :=
  de_of (pe_tup h) fun σ H Q g q => ⟨g, fun vs H1 x1 p1 => by
    have e : ∀ (ns : List String) (vs : List V), AllP (ns.map MTy) vs H1 → vs = ns.map V.ty := by
      intro ns
      induction ns with
      | nil => intro vs h; cases h; rfl
      | cons n ns ih =>
        intro vs h
        cases h with
        | cons h1 h2 =>
          have h1' : _ = V.ty n := h1
          rw [h1', ih _ h2]; rfl
    have e1 := e ns vs p1
    subst e1
    refine ⟨sz3 (by rw [List.length_map]; omega), fun l hl => q _ _ (x1.trans (Ex.new hl)) ⟨l, rfl, upd_same⟩⟩⟩
theorem de_isi1 {n : String} {x : Str} {b : Bool} (hm : X.mg "isinstance" = none) (he : DE X G e (MP.d X.K d)) (hx : X.mg x = none) (hv : bootBuiltins x = some (.type n)) (hk : kitB (tyD d) n = some b) (hg : Gl X "isinstance" := by rfl) (hgx : Gl X x := by rfl) (hn : x ≠ "__name__" := by decide) (hd : (x == ("__debug__" : Str)) = false := by decide)
    (hs : starEach [e, .Name x tpos] X.env = (false, eval e X.env) :: starEach [.Name x tpos] X.env := by rfl) (hs2 : starEach [.Name x tpos] X.env = (false, eval (.Name x tpos) X.env) :: starEach [] X.env := by rfl) (hpl : (backTo pos (starEach [.Name x tpos] X.env)).any (·.1) = false := by rfl) :
    DE X G (.Call (.Name "isinstance" p) [e, .Name x tpos] [] pos) (MB X.K b) :=
  de_callB (r := rIsi X.K) call_isi (fun vs H Q pp q => by
    obtain ⟨v, u, rfl, h1, h2⟩ := allP2 (M1 := MP.d X.K d) (M2 := MTy n) pp
    have h2' : u = V.ty n := h2
    subst h2'
    exact ⟨v, .ty n, .type (tyD d), .type n, b, rfl, .ty n, dp_ty h1, kit_ty hk, q _ H (Ex.refl H) (.bl _)⟩) hm bt_isi (da_cons he (da_cons (de_ty hx hv hgx hn hd) da_nil hs2) hs) hg (by decide) (by decide) hs hpl
theorem de_isi2 {n1 n2 : String} {x1 x2 : Str} {b1 b2 : Bool} {p1 p2 : Pos} {kk : Nat} (hm : X.mg "isinstance" = none) (he : DE X G e (MP.d X.K d)) (hx1 : X.mg x1 = none) (hx2 : X.mg x2 = none) (hv1 : bootBuiltins x1 = some (.type n1)) (hv2 : bootBuiltins x2 = some (.type n2)) (hk1 : kitB (tyD d) n1 = some b1) (hk2 : kitB (tyD d) n2 = some b2)
    (hg : Gl X "isinstance" := by rfl) (hgx1 : Gl X x1 := by rfl) (hgx2 : Gl X x2 := by rfl) (hn1 : x1 ≠ "__name__" := by decide) (hd1 : (x1 == ("__debug__" : Str)) = false := by decide) (hn2 : x2 ≠ "__name__" := by decide) (hd2 : (x2 == ("__debug__" : Str)) = false := by decide)
    (hs : starEach [e, .Tuple [.Name x1 p1, .Name x2 p2] kk tpos] X.env = (false, eval e X.env) :: starEach [.Tuple [.Name x1 p1, .Name x2 p2] kk tpos] X.env := by rfl) (hs2 : starEach [.Tuple [.Name x1 p1, .Name x2 p2] kk tpos] X.env = (false, eval (.Tuple [.Name x1 p1, .Name x2 p2] kk tpos) X.env) :: starEach [] X.env := by rfl) (hpl : (backTo pos (starEach [.Tuple [.Name x1 p1, .Name x2 p2] kk tpos] X.env)).any (·.1) = false := by rfl)
    (ht1 : starEach [.Name x1 p1, .Name x2 p2] X.env = (false, eval (.Name x1 p1) X.env) :: starEach [.Name x2 p2] X.env := by rfl) (ht2 : starEach [.Name x2 p2] X.env = (false, eval (.Name x2 p2) X.env) :: starEach [] X.env := by rfl) :
    DE X G (.Call (.Name "isinstance" p) [e, .Tuple [.Name x1 p1, .Name x2 p2] kk tpos] [] pos) (MB X.K (b1 || b2)) :=
  de_callB (r := rIsiT X.K) call_isiT (fun vs H Q pp q => by
    obtain ⟨v, u, rfl, h1, h2⟩ := allP2 (M1 := MP.d X.K d) (M2 := MTys [n1, n2]) pp
    obtain ⟨a, rfl, hH⟩ := h2
    refine ⟨v, a, [.ty n1, .ty n2], .type (tyD d), [.type n1, .type n2], b1 || b2, rfl, hH, .cons (.ty n1) (.cons (.ty n2) .nil), dp_ty h1, ?_, q _ H (Ex.refl H) (.bl _)⟩
    refine kitAny_cons (kit_ty hk1) (fun e1 => ?_) (fun e1 => by rw [e1]; rfl)
    rw [e1]
    refine kitAny_cons (kit_ty hk2) (fun e2 => by rw [e2]; exact kitAny_nil) (fun e2 => by rw [e2]; rfl)) hm bt_isi
    (da_cons he (da_cons (de_tys [n1, n2] (hz := by show 2 ≤ 100; omega) (da_cons (de_ty hx1 hv1 hgx1 hn1 hd1) (da_cons (de_ty hx2 hv2 hgx2 hn2 hd2) da_nil ht2) ht1)) da_nil hs2) hs) hg (by decide) (by decide) hs hpl
end
theorem DefOk.mono {P : Program} {w : World} {K : PySem.W.Frag} {mg : Str → Option Value} {base : Heap} {x : Str} {j k : Nat} {sp : Sp} (D : DefOk P w K mg base x j sp) (h : j ≤ k) : DefOk P w K mg base x k sp := by
  obtain ⟨f, fd, ps, F, r⟩ := D.ex
  exact ⟨f, fd, ps, F.mono h, r⟩
section
variable {P : Program} {w : World} {K : PySem.W.Frag} {mg : Str → Option Value} {base : Heap}
def sp_tupI (K : PySem.W.Frag) : Sp := spM (fun _ : Int => True) (fun i => [MI K i]) (fun i => MI K i)
theorem ok_tupI (T : Tx K mg) : DefOk P w K mg base "tupled" 1 (sp_tupI K) := by
  obtain ⟨f, fd, F, hg⟩ := at_tupled T
  have B := T.bl
  refine fn_pure F sc_tupled hg (fun _ => rfl) (fun _ _ _ _ _ _ us hl => match us, hl with | [_], _ => rfl) fun f cdv A outer s H E i hr hp => ?_
  refine ds_ret (de_ifExp (k := false) (dt_val (de_isi2 (d := .int i) B.isinstance (de_v 0) B.list B.tuple bt_list bt_tuple kit_il kit_it)) (fun e => nomatch e) fun _ => de_v 0)
def sp_tupE (K : PySem.W.Frag) (α : Type) [Enc α] : Sp := spM (fun a : α => True) (fun i => [ME K i]) (fun i => ME K i)
theorem ok_tupE' (T : Tx K mg) {α : Type} [Enc α] {k : Nat} {φ : α → Prop} (D : DefOk P w K mg base "tupled" (k + 1) (spM φ (fun i => [ME K i]) (fun i => ME K i))) : DefOk P w K mg base "tupled" (k + 2) (spM (fun a : List α => a.length ≤ 100000 ∧ ∀ x ∈ a, φ x) (fun i => [ME K i]) (fun i => ME K i)) := by
  obtain ⟨f, fd, F, hg⟩ := at_tupled T
  have B := T.bl
  refine fn_pure F sc_tupled hg (fun _ => rfl) (fun _ _ _ _ _ _ us hl => match us, hl with | [_], _ => rfl) fun f cdv A outer s H E l hr hp => ?_
  refine ds_ret (de_ifExp (k := true) (dt_val (de_isi2 (d := .tuple (l.map enc)) B.isinstance (de_v 0) B.list B.tuple bt_list bt_tuple kit_tl kit_tt)) (fun _ => ?_) fun e => nomatch e)
  exact de_tupleL B.tuple (de_lc0 l enc _ _ [("part", 1)] rfl sc_tupled.nd (di_tup (de_v 0)) (blkOk_by (N := ["thing", "part"]) (sc := defScope s_tupled) (by decide +kernel)) (fun _ _ _ _ _ => pg_name (i := 1) sc_tupled.nd rfl (Or.inl rfl)) (fun o ho => tg_name)
    (fun o ho _ _ _ _ _ => de_call D hr o (da_cons (de_v 1) da_nil) (hp.2 o ho)) (fun _ _ => Enc.to _) hp.1)
theorem ok_tupE (T : Tx K mg) {α : Type} [Enc α] {k : Nat} (D : DefOk P w K mg base "tupled" (k + 1) (sp_tupE K α)) : DefOk P w K mg base "tupled" (k + 2) (spM (fun a : List α => a.length ≤ 100000) (fun i => [ME K i]) (fun i => ME K i)) := by
  obtain ⟨f, fd, ps, F, r⟩ := (ok_tupE' (φ := fun _ => True) T D).ex
  exact ⟨f, fd, ps, F.imp fun vs H Q E ⟨a, p, q⟩ => ⟨a, ⟨p, fun _ _ => trivial⟩, q⟩, r⟩
end
end K78

-- part KEnum
set_option Elab.async false
set_option linter.all false
set_option maxRecDepth 100000
set_option maxHeartbeats 4000000
/-! KEnum: for i, x in enumerate(t), t a tuple. -/
namespace K78
open PySem PySem.Spec PyProof.Rows L2
open PySem.AutoSeq1 (wpAny_loadPart')
open Evl (Ex ex_t ex_l ex_rd fresh_back)

theorem meets_enumerate_newT (l : Addr) (items : Array Value) (n : Nat) (dct : Option Addr) (sl : Array (Option Value)) :
    Meets (Builtin.«enumerate.__new__» ⟨[.type "enumerate", .ref l], []⟩) (fun _ R s => s.heap.get? l = some { cls := .type "tuple", dict := dct, data := .seq items n, slots := sl } ∧
      R (.ok (.ret (.ref (s.heap.push { cls := .type "tuple_iterator", data := .fields #[.ref l, .int 0 0] }).objs.size)))
        { s with heap := (s.heap.push { cls := .type "tuple_iterator", data := .fields #[.ref l, .int 0 0] }).push { cls := .type "enumerate", data := .fields #[.none, .bool false, .ref s.heap.objs.size, rawInt 0, .none, .none] } }) :=
  .of_wp fun prog w A R s h => by
    obtain ⟨hp, g, d, tk, os⟩ := s; obtain ⟨hl, h⟩ := h
    have hsub := sub_enumerate
    have hL : Heap.IsTuple (Shared.heap ⟨hp, g, d, tk, os⟩) l items := ⟨_, hl, rfl, n, rfl⟩
    wp_walk using wpAny_loadPart' hl
    refine wpAny_stack_any fun st => wpAny_pure ?_
    split
    · rename_i c _ _ _ _ _
      cases (c == Value.type "enumerate")
      · wp_walk using wpAny_loadPart' hl, wpAny_pyIter_tuple hL
        exact ⟨_, rfl, h⟩
      · wp_walk using wpAny_loadPart' hl, wpAny_pyIter_tuple hL
        exact ⟨_, rfl, h⟩
    · wp_walk using wpAny_loadPart' hl, wpAny_pyIter_tuple hL
      exact ⟨_, rfl, h⟩
section
variable {prog : Program} {w : World} {A : Around} {E : Value → Shared → Prop} {s : Shared}
theorem call_enumerate_tuple {l : Addr} {items : Array Value} {Q : Value → Shared → Prop} (hL : s.heap.IsTuple l items)
    (h : ∀ h', IsEnum h' (s.heap.objs.size + 1) s.heap.objs.size 0 .none → h'.IsTupleIter s.heap.objs.size l 0 → h'.objs.size = s.heap.objs.size + 2 →
      (∀ b o, s.heap.get? b = some o → h'.get? b = some o) → Q (.ref (s.heap.objs.size + 1)) { s with heap := h' }) :
    wpAny (model prog w) A (call (.type "enumerate") [.ref l]) Q E s := by
  obtain ⟨⟨c, dct, dt, sl⟩, hl, hc, n, hd⟩ := hL
  replace hc : c = .type "tuple" := hc
  replace hd : dt = .seq items n := hd
  subst hc hd
  refine callType_new F.called_enumerate (by decide) (F.typeCall_enumerate_1 _) (F.newCall_enumerate_1 _) (fun obj => F.args_object_init_2 obj _) F.entry_enumerate_new
    (meets_enumerate_newT l items n dct sl) ⟨hl, ?_⟩
  have hz : (s.heap.push { cls := .type "tuple_iterator", data := .fields #[.ref l, .int 0 0] }).objs.size = s.heap.objs.size + 1 := Heap.size_push ..
  show _ ∧ _
  rw [hz]
  have he : IsEnum ((s.heap.push { cls := .type "tuple_iterator", data := .fields #[.ref l, .int 0 0] }).push
      { cls := .type "enumerate", data := .fields #[.none, .bool false, .ref s.heap.objs.size, rawInt 0, .none, .none] }) (s.heap.objs.size + 1) s.heap.objs.size 0 .none := by
    have := Heap.get?_push_size (s.heap.push { cls := .type "tuple_iterator", data := .fields #[.ref l, .int 0 0] })
      (o := { cls := .type "enumerate", data := .fields #[.none, .bool false, .ref s.heap.objs.size, rawInt 0, .none, .none] }) rfl
    rw [hz] at this; exact this
  refine ⟨⟨_, he, rfl⟩, h _ he ⟨_, Heap.get?_push_of_some _ (Heap.get?_push_size _ rfl), rfl, rfl⟩ (by rw [Heap.size_push, hz]) fun b o x => Heap.get?_push_of_some _ (Heap.get?_push_of_some _ x)⟩
end

def IteT (K : PySem.W.Frag) (a : Addr) : It :=
  ⟨fun i H => ∃ (xs : List V) (x : V), SqT K H a xs ∧ xs[i]? = some x, fun i H v H' => ∃ T x, v = .ref T ∧ H T = none ∧ H' = upd H T (.tup [.int (i : Nat), x]) ∧ ∀ xs, SqT K H a xs → xs[i]? = some x, fun i H => ∃ xs : List V, SqT K H a xs ∧ xs.length = i⟩
theorem turn_enumT {P : Program} {w : World} {K : PySem.W.Frag} {elts : List Expr} {kk : Nat} {tpos : Pos} (a e it : Addr) :
    Turn P w K (.Tuple elts kk tpos) (IteT K a) [e, it] e (fun i h => (∃ old, IsEnum h e it ((i : Nat) : Int) old) ∧ h.IsTupleIter it a i ∧ e ≠ it ∧ a ≠ it ∧ a ≠ e) where
  mem := by simp
  obj := fun i h st b hb => by
    obtain ⟨⟨old, he⟩, ⟨o, ho, hc, hd⟩, _⟩ := st
    have e' : b = e ∨ b = it := by simpa using hb
    rcases e' with z | z
    · rw [z]; exact ⟨_, he, fun v q => nomatch q⟩
    · rw [z]; exact ⟨o, ho, fun v q => by rw [hd] at q; cases q⟩
  keep := fun i h h' st k => let ⟨⟨old, he⟩, hi, hne⟩ := st; ⟨⟨old, k e (by simp) _ he⟩, hi.at fun o q => k it (by simp) o q, hne⟩
  item := by
    intro X hP hw hK hc i pins s σ H E I hf st hg
    subst hP hw hK
    obtain ⟨⟨old, he⟩, hit, hne, hat, hae⟩ := st
    obtain ⟨xs, x, hq, hx⟩ := hg
    obtain ⟨its, rv, p, hz⟩ := I.tuple hq
    obtain ⟨u, hu, ru⟩ := rv.get hx
    have hel : e < s.heap.objs.size := Heap.lt_size he
    have hil : it < s.heap.objs.size := by obtain ⟨_, q, _⟩ := hit; exact Heap.lt_size q
    have hil2 : i < its.toArray.size := by
      have := (List.getElem?_eq_some_iff.mp hu).1
      simpa using this
    refine wpAny_pyNext_enum_itemD (Draws.tuple (A := X.A.in1) (I.ok.hd hc) it a hat its.toArray) he ⟨hit, p⟩ hil2 hne (by simp only [List.mem_cons, List.not_mem_nil, or_false, not_or]; exact ⟨hne, Ne.symm hae⟩) fun y h' tk hy ho hit' hT hsz hk => ?_
    have ey : y = u := by
      have : its.toArray[i]? = some u := by simpa using hu
      rw [this] at hy
      exact (Option.some.inj hy).symm
    subst ey
    refine ⟨_, rfl, wpAny_letOwnedTupleGo_enum (s := { s with heap := h', toks := tk + 1 }) ho fun h'' he' sb => ?_⟩
    have hT2 : h''.get? s.heap.objs.size = some { cls := .type "tuple", data := .seq #[.int i tk, y] } := (sb.2 _ (Nat.ne_of_gt hel)).trans hT
    have new : ObjOk X.prog X.w (upd H s.heap.objs.size (.tup [.int (i : Nat), x])) h'' s.heap.objs.size (.tup [.int (i : Nat), x]) :=
      ⟨by show 2 ≤ sizeLine; decide, [.int i tk, y], .cons ⟨_, rfl⟩ (.cons ru .nil), ⟨_, hT2, rfl, _, rfl⟩⟩
    have I1 : Inv X pins σ (upd H s.heap.objs.size (.tup [.int (i : Nat), x])) { s with heap := h'', toks := tk + 1 } :=
      I.turnedNew (ch := [e, it]) (fun b ob hb q => (sb.2 b (fun z => hb (by simp [z]))).trans (hk b ob (fun z => hb (by simp [z])) (fun z => hb (by simp [z])) q)) hf (Nat.le_refl _) new
    refine ⟨.ref s.heap.objs.size, _, I1, rfl, ⟨_, x, rfl, I.hok.fresh (Nat.le_refl _), rfl, fun ys hy => by rw [I.tuple_inj hy hq]; exact hx⟩, ⟨⟨y, ?_⟩, hit'.1.at fun o q => (sb.2 it (Ne.symm hne)).trans q, hne, hat, hae⟩, fun b hb => ?_⟩
    · have e1 : ((i + 1 : Nat) : Int) = (i : Int) + 1 := by omega
      rw [e1]; exact he'
    · have hb' : b < s.heap.objs.size := by
        have e' : b = e ∨ b = it := by simpa using hb
        rcases e' with z | z
        · rw [z]; exact hel
        · rw [z]; exact hil
      rw [upd_ne (Nat.ne_of_lt hb')]
      exact (hf b hb).1
  done := by
    intro X hP hw hK hc i pins s σ H E I hf st hg
    subst hP hw hK
    obtain ⟨⟨old, he⟩, hit, hne, hat, hae⟩ := st
    obtain ⟨xs, hq, hx⟩ := hg
    obtain ⟨its, rv, p, hz⟩ := I.tuple hq
    obtain ⟨f0, f1, f2, f3, f4, f5⟩ := hf it (by simp)
    have hl := rv.length
    have hs : its.toArray.size = i := by rw [List.size_toArray, ← hl, hx]
    subst hs
    exact wpAny_pyNext_enum_endD (Draws.tuple (A := X.A.in1) (I.ok.hd hc) it a hat its.toArray) he ⟨hit, p⟩ fun h' eb => ⟨rfl, I.turned (t' := s.toks) (fun b o hb q => eb b o hb q) f0 f1 f3 f4 f5⟩
  self := fun A i s Q E st h => let ⟨⟨_, he⟩, _⟩ := st; wpAny_pyIter_enum he h
def iEnumT (K : PySem.W.Frag) (ta : TA) : TI := fun σ H R => ta σ H fun vs H1 => ∃ a xs, vs = [.ref a] ∧ SqT K H1 a xs ∧ R (IteT K a) H1
theorem pi_enumT {X : Cx} {e : Expr} {ta : TA} {p pos tpos : Pos} {elts : List Expr} {kk : Nat} (hg : Gl X "enumerate") (hm : X.mg "enumerate" = none) (ha : PA X [e] ta) (hs : starEach [e] X.env = [(false, eval e X.env)] := by rfl) :
    PI X (.Tuple elts kk tpos) (.Call (.Name "enumerate" p) [e] [] pos) (iEnumT X.K ta) := by
  refine ⟨fun pins s σ H R I h => ?_⟩
  refine Call_ (ld_blt I hg hm boot_enumerate (PyProof.Rows.callWith_type1 (thn (ha.run pos pins s σ H _ I h) fun us s1 ⟨vs, H1, I1, r1, q1⟩ => ?_) hs rfl))
  obtain ⟨a, xs, ex, hq, q⟩ := q1
  subst ex
  cases r1 with
  | cons r rr =>
    cases rr
    cases r
    obtain ⟨its, rv, p', hz⟩ := I1.tuple hq
    have hal : a < s1.heap.objs.size := by obtain ⟨o, ho, _⟩ := id p'; exact Heap.lt_size ho
    refine call_enumerate_tuple p' fun h' he hit hsz hk => wpAny_pyIter_enum he ?_
    have I2 : Inv X pins σ H1 { s1 with heap := h' } := I1.kept (t' := s1.toks) hk
    refine ⟨s1.heap.objs.size + 1, [s1.heap.objs.size + 1, s1.heap.objs.size], _, _, H1, rfl, I2, turn_enumT a (s1.heap.objs.size + 1) s1.heap.objs.size, ⟨⟨.none, he⟩, hit, Nat.succ_ne_self _, Nat.ne_of_lt hal, Nat.ne_of_lt (Nat.lt_succ_of_lt hal)⟩, fun b hb => ?_, q⟩
    have e' : b = s1.heap.objs.size + 1 ∨ b = s1.heap.objs.size := by simpa using hb
    have hle : s1.heap.objs.size ≤ b := by
      rcases e' with z | z
      · rw [z]; exact Nat.le_add_right _ _
      · rw [z]; exact Nat.le_refl _
    exact I1.fpOk hle (I1.hok.fresh hle)
theorem walk_enumT {K : PySem.W.Frag} {a : Addr} {xs : List V} : Walk (IteT K a) xs.length (fun H => SqT K H a xs) (YPair (fun i => some (.int (i : Nat))) (fun i => xs[i]?)) := by
  refine ⟨fun i _ hi q => ⟨xs, xs[i], q, by simp [hi]⟩, fun _ q => ⟨xs, q, rfl⟩, fun i H v H' _ q y => ?_⟩
  obtain ⟨T, x, h1, h2, h3, h4⟩ := y
  exact ⟨T, .int (i : Nat), x, h1, h2, h3, rfl, h4 xs q⟩
theorem di_enumT {X : Cx} {G : GP} {e : Expr} {ds : List PyData} {p pos tpos : Pos} {elts : List Expr} {kk : Nat} (hm : X.mg "enumerate" = none) [MG G] (h1 : DE X G e (MP.d X.K (.tuple ds))) (hg : Gl X "enumerate" := by rfl) (hs : starEach [e] X.env = [(false, eval e X.env)] := by rfl)
    (hs2 : starEach [e] X.env = (false, eval e X.env) :: starEach [] X.env := by rfl) :
    DI X G (.Tuple elts kk tpos) (.Call (.Name "enumerate" p) [e] [] pos) (enumD ds) :=
  pi_imp (pi_enumT hg hm (da_cons h1 da_nil hs2) hs) fun σ H R q => ⟨q.1, fun vs H1 x1 p1 => by
    cases p1 with
    | cons p1 p2 =>
      cases p2
      obtain ⟨a, xs, rfl, hq, hd⟩ := dp_tup p1
      refine ⟨a, xs, rfl, hq, ?_⟩
      refine q.2 _ H1 (fun H => SqT X.K H a xs ∧ DpAll X.K H xs ds) _ x1 (fun H1 H2 x z => ⟨ex_t x z.1, DpAll.mono x _ _ z.2⟩) ⟨hq, hd⟩
        (by rw [enumD_length, ← hd.length]; exact walk_enumT.mono (fun H z => z.1) (fun i H x H' _ _ y => y)) fun i H1 x H2 z y => ?_
      obtain ⟨T, u, v, rfl, hT, rfl, h1, h2⟩ := y
      obtain ⟨d2, e2, p2⟩ := z.2.get h2
      cases h1
      exact ⟨_, enumD_get e2, Ex.new hT, dp_newT hT (.cons (.int _) (.cons p2 .nil))⟩⟩
end K78

-- part KP2
set_option Elab.async false
set_option linter.all false
set_option maxRecDepth 100000
set_option maxHeartbeats 4000000
/-! KP2: free_pins .. opened_by, whole_box. -/
namespace K78
open PySem PySem.Spec PyProof.Rows L2
open Evl (Ex ex_t ex_l ex_rd fresh_back)
open Enc (enc)
instance : Enc Nat where
  enc n := .int (n : Int)
  inj := fun e => by injection e with e; exact Int.ofNat.inj e
  lv := 0
  lay := fun a => by simp [PyData.canLay0]
  dp := fun a => by simp [PyData.depth]
  eq := fun a b => by simp [PyData.eqv]; omega
  to := fun a => by simp [tO]
instance : Enc (Option Nat) where
  enc | none => .none | some i => .int (i : Int)
  inj := fun {a b} e => by
    cases a <;> cases b <;> first | rfl | (injection e with e; rw [Int.ofNat.inj e]) | exact nomatch e
  lv := 0
  lay := fun a => by cases a <;> simp [PyData.canLay0]
  dp := fun a => by cases a <;> simp [PyData.depth]
  eq := fun a b => by cases a <;> cases b <;> simp [PyData.eqv] <;> omega
  to := fun a => by cases a <;> simp [tO]
section
variable {X : Cx} {G : GP} {pos p : Pos} {e a b tg : Expr} {α : Type} [Enc α]
theorem de_lenE [MG G] {l : List α} (hm : X.mg "len" = none) (h : DE X G e (ME X.K l)) (hg : Gl X "len" := by rfl)
    (hs2 : starEach [e] X.env = (false, eval e X.env) :: starEach [] X.env := by rfl) : DE X G (.Call (.Name "len" p) [e] [] pos) (ME X.K l.length) := by
  have := de_lenT (p := p) (pos := pos) hm h hg hs2
  rw [List.length_map] at this
  exact this
theorem de_lenLE [MG G] {l : List α} (hm : X.mg "len" = none) (h : DE X G e (ML X.K l)) (hg : Gl X "len" := by rfl)
    (hs2 : starEach [e] X.env = (false, eval e X.env) :: starEach [] X.env := by rfl) : DE X G (.Call (.Name "len" p) [e] [] pos) (ME X.K l.length) := by
  have := de_lenL (p := p) (pos := pos) hm h hg hs2
  rw [List.length_map] at this
  exact this
theorem di_rangeN {n : Nat} (hm : X.mg "range" = none) [MG G] (h : DE X G e (ME X.K n)) (h1 : n < 2 ^ 60 := by omega) (hg : Gl X "range" := by rfl) (hs : starEach [e] X.env = [(false, eval e X.env)] := by rfl)
    (hs2 : starEach [e] X.env = (false, eval e X.env) :: starEach [] X.env := by rfl) : DI X G tg (.Call (.Name "range" p) [e] [] pos) ((List.range n).map enc) :=
  di_range (n := (n : Int)) hm h (by omega) (by omega) hg hs hs2
theorem de_ixE [MG G] {l : List α} {i : Nat} (d : α) (ha : DE X G a (ME X.K l)) (hb : DE X G b (ME X.K i)) (hi : i < l.length) (hs : PlainIx b := by exact fun _ _ => rfl) : DE X G (.Subscript a b pos) (ME X.K (l.getD i d)) :=
  de_ixT i ha hb rfl (get_enc hi d) hs
/-- pure facts -/
theorem ds_pure {sts : List Stmt} {N : GP} {R : V → Hp → Prop} {φ : Prop} (h : φ → DS X G sts N R) : DS X (fun σ H => G σ H ∧ φ) sts N R := ⟨fun pins s σ H D I q => (h q.1.2).run pins s σ H D I ⟨q.1.1, q.2⟩⟩
theorem ds_nil' {N : GP} {R : V → Hp → Prop} {φ : Prop} (hp : φ) (h : ∀ σ H, G σ H → N σ H) : DS X G [] (fun σ H => N σ H ∧ φ) R := ds_nil fun σ H g => ⟨h σ H g, hp⟩
theorem d1_forP [MG G] {N : GP} {R : V → Hp → Prop} {ds : List PyData} {iter : Expr} {body : List Stmt} {g : TG} {vs : List Nat} (Gi : Nat → GP) (φ : Nat → Prop) (hc : X.calm = true) (hp : PassesOwn (model X.prog X.w) X.A X.env X.xe) (hi : DI X G tg iter ds) (hg : PG X tg g)
    (h0 : ∀ σ H, G σ H → Gi 0 σ H) (p0 : φ 0) (mono : ∀ i σ H H', Ex H H' → Gi i σ H → Gi i σ H')
    (hb : ∀ i d, ds[i]? = some d → φ i → ∃ G', Tg X.K g vs d (Gi i) G' ∧ DS X G' body (fun σ H => Gi (i + 1) σ H ∧ φ (i + 1)) R) (hd : ∀ σ H, Gi ds.length σ H → φ ds.length → N σ H)
    (hs : ∀ x, foldedSetIterable iter X.env x = pure x := by intro _; rfl) : D1 X G (.For tg iter body [] pos) N R := by
  refine ps_imp (ps_for (tb := fun D σ H => ∃ i, ∃ d, ∃ G', ∃ _ : ds[i]? = some d ∧ Tg X.K g vs d (Gi i) G' ∧ DS X G' body (fun σ H => Gi (i + 1) σ H ∧ φ (i + 1)) R, tSt G' (fun σ H => Gi (i + 1) σ H ∧ φ (i + 1)) R D σ H) hp hc hi hg ⟨fun pins s σ H D I ⟨i, d, G', h, q⟩ => h.2.2.run pins s σ H D I q⟩ hs) fun D σ H q => ⟨q.1, fun J H1 Gs Y x1 mg g1 W yd => ?_⟩
  refine for_it (D := D) (g := g) (tb := fun D σ H => ∃ i, ∃ d, ∃ G', ∃ _ : ds[i]? = some d ∧ Tg X.K g vs d (Gi i) G' ∧ DS X G' body (fun σ H => Gi (i + 1) σ H ∧ φ (i + 1)) R, tSt G' (fun σ H => Gi (i + 1) σ H ∧ φ (i + 1)) R D σ H) (σ := σ) W (fun i σ' H' => Ex H1 H' ∧ Gi i σ' H' ∧ φ i) ⟨Ex.refl _, mono _ _ _ _ x1 (h0 σ H q.1), p0⟩ (fun i σ' H' _ p => mg _ _ p.1 g1) (fun i x σ' H2 H3 hi p y => ?_) fun σ' H' p => q.2.1 σ' H' (x1.trans p.1) (hd σ' H' p.2.1 p.2.2)
  obtain ⟨d, e1, x3, p3⟩ := yd i H2 x H3 (mg _ _ p.1 g1) y
  obtain ⟨G', h1, h2⟩ := hb i d e1 p.2.2
  refine h1 x σ' H3 _ p3 (mono _ _ _ _ x3 p.2.1) fun σ2 g2 _ => ⟨i, d, G', ⟨e1, h1, h2⟩, g2, fun σ4 H4 x4 n4 => ⟨(p.1.trans x3).trans x4, n4.1, n4.2⟩, fun v H4 x4 r => q.2.2 v H4 (((x1.trans p.1).trans x3).trans x4) r⟩
end
def barring (common : KEYS) (one other : KEY) : Option Nat := (freePins common one).find? fun p => !decide (one.getD p 0 = other.getD p 0)
theorem barring_none (common : KEYS) (one other : KEY) : isNone (enc (barring common one other)) = opens common one other := by
  unfold barring opens
  cases h : (freePins common one).find? fun p => !decide (one.getD p 0 = other.getD p 0) with
  | none =>
    have h2 := List.find?_eq_none.mp h
    symm
    show _ = true
    rw [List.all_eq_true]
    intro p hp
    have := h2 p hp
    simpa using this
  | some p =>
    have h1 := List.mem_of_find?_eq_some h
    have h2 := List.find?_some h
    symm
    show _ = false
    rw [List.all_eq_false]
    exact ⟨p, h1, by simpa using h2⟩
theorem free_lt {common : KEYS} {key : KEY} {p : Nat} (h : p ∈ freePins common key) : p < key.length := List.mem_range.mp (List.mem_filter.mp h).1
section
variable {P : Program} {w : World} {K : PySem.W.Frag} {mg : Str → Option Value} {base : Heap}
structure A_ck where
  common : KEYS
  key : KEY
def sp_free_pins (K : PySem.W.Frag) : Sp := spM (fun a : A_ck => ∃ n, Wf n (a.key :: a.common)) (fun a => [ME K a.common, ME K a.key]) (fun a => ME K (freePins a.common a.key))
theorem ok_free_pins (T : Tx K mg) : DefOk P w K mg base "free_pins" 2 (sp_free_pins K) := by
  obtain ⟨f, fd, F, hg⟩ := at_free_pins T
  have B := T.bl
  have D := ok_is_free (P := P) (w := w) (base := base) T
  refine fn_pure F sc_free_pins hg (fun _ => rfl) (fun _ _ _ _ _ _ us hl => match us, hl with | [_, _], _ => rfl) fun f cdv A outer s H E a hr hp => ?_
  obtain ⟨common, key⟩ := a
  have hw := hp
  obtain ⟨n, hw1, hw2, hw3⟩ := hp
  have hkl : key.length = n := hw1 key List.mem_cons_self
  refine ds_ret (de_tupleL B.tuple (de_lc (List.range key.length) enc (isFree common key) enc (fun p => [some (ME K common), some (ME K key), some (ME K p)]) [("pin", 2)] rfl sc_free_pins.nd (di_rangeN B.range (de_lenE B.len (de_v 1))) (blkOk_by (N := ["common", "key", "pin"]) (sc := defScope s_free_pins) (by decide +kernel)) (fun _ _ _ _ _ => pg_name (i := 2) sc_free_pins.nd rfl (Or.inl rfl)) (fun o ho => tg_name)
    (fun p hp _ _ _ _ _ => dts_one (dt_val (de_call D hr (⟨common, key, p⟩ : A_is_free) (da_cons (de_v 0) (da_cons (de_v 1) (da_cons (de_v 2) da_nil))) ⟨hw, List.mem_range.mp hp⟩))) (fun p hp _ _ _ _ _ _ => de_v 2) (fun _ _ => rfl) (by rw [List.length_range]; omega)))
def sp_row_of (K : PySem.W.Frag) : Sp := spM (fun a : A_ck => ∃ n, Wf n (a.key :: a.common)) (fun a => [ME K a.common, ME K a.key]) (fun a => ME K (rowOf a.common a.key))
theorem enumD_enc {α : Type} [Enc α] (l : List α) (d : α) : enumD (l.map enc) = (List.range l.length).map fun p => .tuple [.int (p : Int), enc (l.getD p d)] := by
  refine List.ext_getElem? fun i => ?_
  by_cases h : i < l.length
  · rw [enumD_get (get_enc h d), List.getElem?_map, List.getElem?_range h] <;> rfl
  · rw [List.getElem?_eq_none (by rw [enumD_length, List.length_map]; omega), List.getElem?_eq_none (by rw [List.length_map, List.length_range]; omega)]
theorem DI.to {X : Cx} {G : GP} {tg e : Expr} {ds es : List PyData} (h : DI X G tg e ds) (k : ds = es) : DI X G tg e es := k ▸ h
theorem ok_row_of (T : Tx K mg) : DefOk P w K mg base "row_of" 2 (sp_row_of K) := by
  obtain ⟨f, fd, F, hg⟩ := at_row_of T
  have B := T.bl
  have D := ok_is_free (P := P) (w := w) (base := base) T
  refine fn_pure F sc_row_of hg (fun _ => rfl) (fun _ _ _ _ _ _ us hl => match us, hl with | [_, _], _ => rfl) fun f cdv A outer s H E a hr hp => ?_
  obtain ⟨common, key⟩ := a
  have hw := hp
  obtain ⟨n, hw1, hw2, hw3⟩ := hp
  have hkl : key.length = n := hw1 key List.mem_cons_self
  have hI : ∀ {X : Cx} {G : GP} {tg e : Expr} {M : MP}, DE X G e M → True := fun _ => trivial
  refine ds_ret (DE.to (de_tupleL B.tuple (de_lc0 (List.range key.length) (fun p => .tuple [.int (p : Int), enc (key.getD p 0)]) (fun p => enc (if isFree common key p = true then some (key.getD p 0) else none)) (fun p => [some (ME K common), some (ME K key), some (ME K p), some (ME K (key.getD p 0))]) [("pin", 2), ("cut", 3)] rfl sc_row_of.nd
    ((di_enumT B.enumerate (de_v 1)).to (enumD_enc key 0)) (blkOk_by (N := ["common", "key", "pin", "cut"]) (sc := defScope s_row_of) (by decide +kernel)) (fun _ _ _ _ _ => pg_tup rfl (pgs_cons (pg_name (i := 2) sc_row_of.nd rfl (Or.inl rfl)) (pgs_cons (pg_name (i := 3) sc_row_of.nd rfl (Or.inl rfl)) pgs_nil))) (fun o ho => tg_tup (js := [2, 3]) rfl)
    (fun p hp _ _ _ _ _ => de_ifExp (dt_val (de_call D hr (⟨common, key, p⟩ : A_is_free) (da_cons (de_v 0) (da_cons (de_v 1) (da_cons (de_v 2) da_nil))) ⟨hw, List.mem_range.mp hp⟩)) (fun e => (de_v 3).to (by have e' : isFree common key p = true := e; rw [if_pos e']; rfl)) (fun e => de_non.to (by have e' : isFree common key p = false := e; rw [if_neg (by rw [e']; decide)]; rfl))) (fun _ _ => Enc.to _) (by rw [List.length_range]; omega))) ?_)
  show PyData.tuple _ = PyData.tuple ((rowOf common key).map enc)
  unfold rowOf
  rw [List.map_map]
  rfl
structure A_coo where
  common : KEYS
  one : KEY
  other : KEY
def sp_barring_pin (K : PySem.W.Frag) : Sp := spM (fun a : A_coo => ∃ n, Wf n (a.one :: a.common) ∧ a.other.length = n) (fun a => [ME K a.common, ME K a.one, ME K a.other]) (fun a => ME K (barring a.common a.one a.other))
theorem ok_barring_pin (T : Tx K mg) : DefOk P w K mg base "barring_pin" 3 (sp_barring_pin K) := by
  obtain ⟨f, fd, F, hg⟩ := at_barring_pin T
  have B := T.bl
  have D := ok_free_pins (P := P) (w := w) (base := base) T
  refine fn_pure F sc_barring_pin hg (fun _ => rfl) (fun _ _ _ _ _ _ us hl => match us, hl with | [_, _, _], _ => rfl) fun f cdv A outer s H E a hr hp => ?_
  obtain ⟨common, one, other⟩ := a
  obtain ⟨n, hw, ho⟩ := hp
  have ho : other.length = n := ho
  have h1 : one.length = n := hw.1 one List.mem_cons_self
  have Gm : MG (EnvOk [some (ME K common), some (ME K one), some (ME K other), none]) := inferInstance
  refine ds_cons (d1_forP (vs := [3]) (g := gName 3) (fun _ => EnvOk [some (ME K common), some (ME K one), some (ME K other), none]) (fun i => ∀ p ∈ (freePins common one).take i, one.getD p 0 = other.getD p 0) (N := fun σ H => EnvOk [some (ME K common), some (ME K one), some (ME K other), none] σ H ∧ barring common one other = none) rfl PassesOwn.never
    (di_tup (ds := (freePins common one).map enc) (de_call D hr (⟨common, one⟩ : A_ck) (da_cons (de_v 0) (da_cons (de_v 1) da_nil)) ⟨n, hw⟩)) (pg_name sc_barring_pin.nd rfl (.inl rfl)) (fun _ _ h => h) (fun p hp => by simp at hp) (fun i σ H H' x h => MG.mono x h) (fun i d hd hf => ?_) (fun σ H g hf => ⟨g, ?_⟩)) (ds_pure fun hn => ds_ret (de_non.to (by rw [hn]; rfl)))
  · rw [List.getElem?_map] at hd
    obtain ⟨p, hpi, rfl⟩ := Option.map_eq_some_iff.mp hd
    have hpm : p ∈ freePins common one := List.mem_of_getElem? hpi
    have hpl := free_lt hpm
    refine ⟨EnvOk [some (ME K common), some (ME K one), some (ME K other), some (ME K p)], tg_name, ds_one (d1_if (dt_neE hr (de_ixE 0 (de_v 1) (de_v 3) hpl) (de_ixE 0 (de_v 2) (de_v 3) (by omega))) (fun e => ?_) (fun e => ?_))⟩
    · refine ds_ret ((de_v 3).to ?_)
      have hb : barring common one other = some p := by
        unfold barring
        have e0 : freePins common one = (freePins common one).take i ++ p :: (freePins common one).drop (i + 1) := by
          have hlt := (List.getElem?_eq_some_iff.mp hpi).1
          have e1 := (List.getElem?_eq_some_iff.mp hpi).2
          rw [← e1, List.getElem_cons_drop, List.take_append_drop]
        rw [e0, List.find?_append, List.find?_eq_none.mpr (fun q hq => by rw [hf q hq]; simp), List.find?_cons_of_pos (by exact e)]
        rfl
      rw [hb]
      rfl
    · refine ds_nil' ?_ (fun σ H h => h.drop 3)
      intro q hq
      rw [List.take_add_one, hpi, List.mem_append] at hq
      rcases hq with hq | hq
      · exact hf q hq
      · have hq : q = p := by simpa using hq
        rw [hq]
        simpa using e
  · rw [List.length_map, List.take_length] at hf
    unfold barring
    rw [List.find?_eq_none]
    intro p hp
    rw [hf p hp]
    simp
end
end K78

-- part KHoare
set_option Elab.async false
set_option linter.all false
set_option maxRecDepth 100000
set_option maxHeartbeats 4000000
/-! KHoare: statements that change an object of their own: a base heap B stands throughout; what B does not hold may change. -/
namespace K78
open PySem PySem.Spec PyProof.Rows L2
open Evl (Ex ex_t ex_l ex_rd fresh_back)
open Enc (enc)
def MP.at (M : MP) (B : Hp) : MP := ⟨fun v H => Ex B H ∧ M.P v B, fun x h => ⟨h.1.trans x, h.2⟩⟩
theorem MP.at_to {M : MP} {B : Hp} {v : V} {H : Hp} (h : (M.at B).P v H) : M.P v H := M.mono h.1 h.2
def GB (B : Hp) (Γ : En) : GP := fun σ H => Ex B H ∧ EnvOk Γ σ H
instance (B : Hp) (Γ : En) : MG (GB B Γ) where
  mono := fun x h => ⟨h.1.trans x, MG.mono x h.2⟩
def tH (G N : GP) (R : V → Hp → Prop) : TS := fun D σ H => G σ H ∧ (∀ σ' H', N σ' H' → D.nx σ' H') ∧ (∀ v H', R v H' → D.rt v H')
abbrev HS (X : Cx) (G : GP) (st : List Stmt) (N : GP) (R : V → Hp → Prop) : Prop := PSs X st (tH G N R)
abbrev H1 (X : Cx) (G : GP) (st : Stmt) (N : GP) (R : V → Hp → Prop) : Prop := PS X st (tH G N R)
/-- nothing but D changes -/
def Kp (D : Addr) (H H' : Hp) : Prop := ∀ a u, a ≠ D → H a = some u → H' a = some u
theorem Kp.ex {D : Addr} {H H' : Hp} (x : Ex H H') : Kp D H H' := fun a u _ e => x a u e
theorem Kp.trans {D : Addr} {H H1 H2 : Hp} (x : Kp D H H1) (y : Kp D H1 H2) : Kp D H H2 := fun a u h e => y a u h (x a u h e)
theorem Kp.upd {D : Addr} {H : Hp} {o : HO} : Kp D H (upd H D o) := fun a u h e => by rw [upd_ne h]; exact e
/-- at D stands no tuple -/
def NT (H : Hp) (D : Addr) : Prop := ∀ xs, ¬ Rd H D (.tup xs)
theorem NT.lst {H : Hp} {D : Addr} {us : List V} (h : H D = some (.lst us)) : NT H D := fun xs r => by
  rcases r with r | ⟨o, r⟩ <;> (rw [h] at r; cases r)
theorem Kp.sub {D : Addr} {H H' : Hp} (k : Kp D H H') (n : NT H D) : TupSub H H' := fun a xs r => by
  have ne : a ≠ D := fun e => n xs (e ▸ r)
  rcases r with r | ⟨o, r⟩
  · exact .inl (k a _ ne r)
  · exact .inr ⟨o, k a _ ne r⟩
/-- M stands whatever happens at D -/
def Stb (B : Hp) (D : Addr) (M : MP) : Prop := ∀ v H H', Ex B H → NT H D → Kp D H H' → M.P v H → M.P v H'
def AllS (φ : MP → Prop) : En → Prop
  | [] => True
  | none :: Γ => AllS φ Γ
  | some M :: Γ => φ M ∧ AllS φ Γ
theorem AllS.nil {φ : MP → Prop} : AllS φ [] := trivial
theorem AllS.cons {φ : MP → Prop} {M : MP} {Γ : En} (h : φ M) (t : AllS φ Γ) : AllS φ (some M :: Γ) := ⟨h, t⟩
theorem AllS.skip {φ : MP → Prop} {Γ : En} (t : AllS φ Γ) : AllS φ (none :: Γ) := t
theorem AllS.get {φ : MP → Prop} : ∀ {Γ : En} {i : Nat} {M : MP}, AllS φ Γ → Γ[i]? = some (some M) → φ M
  | [], i, M, _, e => by simp at e
  | none :: Γ, 0, M, h, e => by simp at e
  | none :: Γ, i + 1, M, h, e => AllS.get (Γ := Γ) h (by simpa using e)
  | some N :: Γ, 0, M, h, e => by
    simp at e
    subst e
    exact h.1
  | some N :: Γ, i + 1, M, h, e => AllS.get h.2 (by simpa using e)
theorem EnvOk.kp {Γ : En} {B : Hp} {D : Addr} {σ : L2.St} {H H' : Hp} (h : EnvOk Γ σ H) (hs : AllS (Stb B D) Γ) (xb : Ex B H) (n : NT H D) (k : Kp D H H') : EnvOk Γ σ H' :=
  ⟨h.len, fun i M e => let ⟨v, e1, p⟩ := h.get i M e; ⟨v, e1, (hs.get e) v H H' xb n k p⟩⟩
theorem ex_kp {B : Hp} {D : Addr} {H H' : Hp} (x : Ex B H) (hD : B D = none) (k : Kp D H H') : Ex B H' := fun a u e => k a u (fun z => by subst z; rw [hD] at e; cases e) (x a u e)
section
variable {B : Hp} {D : Addr} {K : PySem.W.Frag}
theorem stb_at {B' : Hp} {M : MP} (hD : B D = none) : Stb B' D (M.at B) := fun v H H' xb n k p => ⟨ex_kp p.1 hD k, p.2⟩
theorem stb_d {d : PyData} (ht : tO d = true) : Stb B D (MP.d K d) := fun v H H' xb n k p => Dp.tsub (k.sub n) _ _ ht p
theorem stb_e {α : Type} [Enc α] {x : α} : Stb B D (ME K x) := stb_d (Enc.to x)
/-- a list at L, of data without lists -/
def MLat (K : PySem.W.Frag) (L : Addr) (ds : List PyData) : MP := ⟨fun v H => v = .ref L ∧ ∃ us, H L = some (.lst us) ∧ DpAll K H us ds, fun x ⟨e, us, h, d⟩ => ⟨e, us, x _ _ h, DpAll.mono x _ _ d⟩⟩
theorem MLat.dp {L : Addr} {ds : List PyData} {v : V} {H : Hp} (h : (MLat K L ds).P v H) : Dp K H v (.list ds) := by
  obtain ⟨rfl, us, h1, h2⟩ := h
  exact .lst (SqL.of h1) h2
theorem stb_l {L : Addr} {ds : List PyData} (hne : L ≠ D) (ht : tO.tOs ds = true) : Stb B D (MLat K L ds) := fun v H H' xb n k ⟨e, us, h, d⟩ => ⟨e, us, k _ _ hne h, DpAll.tsub (k.sub n) _ _ ht d⟩
end
section
variable {X : Cx} {G G' N N' : GP} {R : V → Hp → Prop} {e c : Expr} {st : Stmt} {sts a b : List Stmt} {M : MP} {pos : Pos} {B : Hp} {Γ : En}
theorem hs_nil (h : ∀ σ H, G σ H → N σ H) : HS X G [] N R := pss_imp pss_nil fun D σ H q => q.2.1 σ H (h σ H q.1)
theorem hs_cons (h1 : H1 X G st N' R) (h2 : HS X N' sts N R) : HS X G (st :: sts) N R := pss_imp (pss_cons h1 h2) fun D σ H q => ⟨q.1, fun σ' H' n => ⟨n, q.2.1, q.2.2⟩, q.2.2⟩
theorem hs_one (h1 : H1 X G st N R) : HS X G [st] N R := pss_imp (pss_one h1) fun D σ H q => q
theorem hs_pre (h : HS X G sts N R) (k : ∀ σ H, G' σ H → G σ H) : HS X G' sts N R := pss_imp h fun D σ H q => ⟨k σ H q.1, q.2⟩
theorem hs_post (h : HS X G sts N R) (k : ∀ σ H, N σ H → N' σ H) : HS X G sts N' R := pss_imp h fun D σ H q => ⟨q.1, fun σ' H' n => q.2.1 σ' H' (k σ' H' n), q.2.2⟩
theorem hs_imp {R' : V → Hp → Prop} (h : HS X G sts N R) (k : ∀ v H, R v H → R' v H) : HS X G sts N R' := pss_imp h fun D σ H q => ⟨q.1, q.2.1, fun v H' r => q.2.2 v H' (k v H' r)⟩
theorem hs_ex {α : Type} {Ga : α → GP} (h : ∀ a, HS X (Ga a) sts N R) : HS X (fun σ H => ∃ a, Ga a σ H) sts N R := ⟨fun pins s σ H D I ⟨⟨a, g⟩, q⟩ => (h a).run pins s σ H D I ⟨g, q⟩⟩
theorem hs_pure {φ : Prop} (h : φ → HS X G sts N R) : HS X (fun σ H => φ ∧ G σ H) sts N R := ⟨fun pins s σ H D I q => (h q.1.1).run pins s σ H D I ⟨q.1.2, q.2⟩⟩
theorem h1_pre (h : H1 X G st N R) (k : ∀ σ H, G' σ H → G σ H) : H1 X G' st N R := ps_imp h fun D σ H q => ⟨k σ H q.1, q.2⟩
theorem h1_post (h : H1 X G st N R) (k : ∀ σ H, N σ H → N' σ H) : H1 X G st N' R := ps_imp h fun D σ H q => ⟨q.1, fun σ' H' n => q.2.1 σ' H' (k σ' H' n), q.2.2⟩
/-- a statement that changes nothing -/
theorem h1_of {Γ' : En} (h : D1 X (EnvOk Γ) st (EnvOk Γ') (fun _ _ => False)) : H1 X (GB B Γ) st (GB B Γ') R := ps_imp h fun D σ H q => ⟨q.1.2, fun σ' H' x n => q.2.1 σ' H' ⟨q.1.1.trans x, n⟩, fun v H' x r => r.elim⟩
theorem h1_ret (h : DE X G e M) (k : ∀ v σ H H', G σ H → Ex H H' → M.P v H' → R v H') : H1 X G (.Return (some e) pos) N R := ps_imp (ps_ret h) fun D σ H q => ⟨q.1, fun v H' x p => q.2.2 v H' (k v σ H H' q.1 x p)⟩
theorem h1_if {k : Bool} [MG G] (hc : DT X G c k) (ha : k = true → HS X G a N R) (hb : k = false → HS X G b N R) : H1 X G (.If c a b pos) N R := by
  cases k with
  | true => exact ps_imp (ps_if (u := tNever) hc (ha rfl) pss_never) fun D σ H q => ⟨q.1, fun H1 x1 => ⟨MG.mono x1 q.1, q.2⟩⟩
  | false => exact ps_imp (ps_if (t := tNever) hc pss_never (hb rfl)) fun D σ H q => ⟨q.1, fun H1 x1 => ⟨MG.mono x1 q.1, q.2⟩⟩
/-- x = [] / x = an expression that makes a new list -/
theorem h1_set (i : Nat) {x : Str} {pos' : Pos} (hN : X.N.Nodup) (he : DE X (GB B Γ) e M) (hi : X.N[i]? = some x := by rfl) (hx : Loc X.env.scope x := by first | exact Or.inl rfl | exact Or.inr rfl)
    (hs : swapsWith e (some (.Name x pos')) pos.line X.env = pure false := by rfl) (hf : X.fn x = true ∨ X.env.scope.names.lookup x = some .local := by first | exact .inl rfl | exact .inr rfl | assumption) :
    H1 X (GB B Γ) (.Assign [.Name x pos'] e pos) (GB B (Γ.set i (some M))) R := ps_imp (ps_set hN hi hx he hs hf) fun D σ H q =>
  ⟨q.1, fun v H' x p => q.2.1 _ H' ⟨q.1.1.trans x, (MG.mono x q.1.2).set i p⟩⟩
/-- from the def's own heap -/
theorem ds_base {Γ' : Hp → En} (hΓ : ∀ σ H, EnvOk Γ σ H → EnvOk (Γ' H) σ H) (h : ∀ B, HS X (GB B (Γ' B)) sts (fun σ H => Ex B H ∧ N σ H) (fun v H => Ex B H ∧ R v H)) : DS X (EnvOk Γ) sts N R :=
  ⟨fun pins s σ H D I q => (h H).run pins s σ H D I ⟨⟨Ex.refl H, hΓ σ H q.1⟩, fun σ' H' n => q.2.1 σ' H' n.1 n.2, fun v H' r => q.2.2 v H' r.1 r.2⟩⟩
def atB (B : Hp) (Γ : En) : En := Γ.map (Option.map fun M => M.at B)
theorem EnvOk.atB {σ : L2.St} {H : Hp} (h : EnvOk Γ σ H) : EnvOk (K78.atB H Γ) σ H := by
  refine ⟨by unfold K78.atB; rw [List.length_map]; exact h.len, fun i M e => ?_⟩
  unfold K78.atB at e
  rw [List.getElem?_map] at e
  obtain ⟨o, e1, e2⟩ := Option.map_eq_some_iff.mp e
  obtain ⟨M', e3, rfl⟩ := Option.map_eq_some_iff.mp e2
  subst e3
  obtain ⟨v, ev, p⟩ := h.get i M' e1
  exact ⟨v, ev, Ex.refl H, p⟩
theorem ds_body (h : ∀ B, HS X (GB B (atB B Γ)) sts (fun σ H => Ex B H ∧ N σ H) (fun v H => Ex B H ∧ R v H)) : DS X (EnvOk Γ) sts N R := ds_base (Γ' := fun B => atB B Γ) (fun σ H e => e.atB) h
/-- a name whose slot is of the base -/
theorem de_v0 (i : Nat) {x : Str} (h : Γ[i]? = some (some (M.at B)) := by rfl) (hN : X.N[i]? = some x := by rfl) (hv : Vis X.env.scope x := by first | exact Or.inl rfl | exact Or.inr (Or.inl rfl) | exact Or.inr (Or.inr rfl)) (hd : (x == ("__debug__" : Str)) = false := by decide)
    (hcd : (x == ("__classdict__" : Str)) = false := by decide) : DE X (EnvOk Γ) (.Name x pos) M := (de_v (M := M.at B) i h hN hv hd hcd).cast fun v H p => MP.at_to p
theorem de_gb (h : DE X (EnvOk Γ) e M) : DE X (GB B Γ) e M := h.pre fun σ H g => g.2
theorem dt_gb {k : Bool} (h : DT X (EnvOk Γ) e k) : DT X (GB B Γ) e k := pt_imp h fun σ H Q q => ⟨q.1.2, q.2⟩
/-- a new list: B does not hold it -/
def MNewL (K : PySem.W.Frag) (B : Hp) (ds : List PyData) : MP := ⟨fun v H => ∃ L, B L = none ∧ (MLat K L ds).P v H, fun x ⟨L, h, p⟩ => ⟨L, h, (MLat K L ds).mono x p⟩⟩
theorem de_newL {es : List Expr} (ds : List PyData) (h : DA X (GB B Γ) es (ds.map (MP.d X.K))) (hz : ds.length ≤ 100000 := by decide) : DE X (GB B Γ) (.List es pos) (MNewL X.K B ds) :=
  de_of (pe_lst h) fun σ H Q g q => ⟨g, fun vs H1 x1 p1 => by
    have hd := AllP.datas p1
    have xb : Ex B H1 := g.1.trans x1
    refine ⟨sz3 (by rw [hd.length]; exact hz), fun l hl => q _ _ (x1.trans (Ex.new hl)) ⟨l, ?_, rfl, vs, upd_same, DpAll.mono (Ex.new hl) _ _ hd⟩⟩
    cases e : B l with
    | none => rfl
    | some u => rw [xb l u e] at hl; cases hl⟩
theorem gb_newL {i : Nat} {ds : List PyData} {σ : L2.St} {H : Hp} (hi : i < Γ.length) (g : GB B (Γ.set i (some (MNewL X.K B ds))) σ H) : ∃ L, B L = none ∧ GB B (Γ.set i (some (MLat X.K L ds))) σ H := by
  obtain ⟨xb, g⟩ := g
  obtain ⟨v, e, L, hL, p⟩ := g.get i _ (List.getElem?_set_self hi)
  refine ⟨L, hL, xb, ⟨by rw [g.len, List.length_set, List.length_set], fun j M h => ?_⟩⟩
  by_cases hj : i = j
  · subst hj
    rw [List.getElem?_set_self hi] at h
    cases h
    exact ⟨v, e, p⟩
  · rw [List.getElem?_set_ne hj] at h
    exact g.get j M (by rw [List.getElem?_set_ne hj]; exact h)
/-- x.append(e) -/
theorem tOs_app {ds es : List PyData} : tO.tOs (ds ++ es) = true ↔ tO.tOs ds = true ∧ tO.tOs es = true := by
  rw [tOs_all, tOs_all, tOs_all]
  constructor
  · intro h
    exact ⟨fun d hd => h d (List.mem_append_left _ hd), fun d hd => h d (List.mem_append_right _ hd)⟩
  · rintro ⟨h1, h2⟩ d hd
    rcases List.mem_append.mp hd with hd | hd
    · exact h1 d hd
    · exact h2 d hd
theorem MLat.put {K : PySem.W.Frag} {L : Addr} {ds ds' : List PyData} {us' : List V} {H : Hp} (h : (MLat K L ds).P (.ref L) H) (ht : tO.tOs ds' = true) (hd : DpAll K H us' ds') : (MLat K L ds').P (.ref L) (upd H L (.lst us')) := by
  obtain ⟨_, us, h1, h2⟩ := h
  exact ⟨rfl, us', upd_same, DpAll.tsub (Kp.upd.sub (NT.lst h1)) _ _ ht hd⟩
theorem h1_append (i : Nat) {L : Addr} {ds : List PyData} {d : PyData} {x : Str} {apos cpos npos : Pos} (hi : Γ[i]? = some (some (MLat X.K L ds))) (hL : B L = none) (hx : DE X (EnvOk Γ) (.Name x npos) (MLat X.K L ds)) (he : DE X (GB B Γ) e (MP.d X.K d)) (ht : tO.tOs ds = true) (htd : tO d = true) (hz : ds.length < 100000) (hs : AllS (Stb B L) (Γ.set i none))
    (hbase : attributeBase (.Name x npos) "append" X.env (eval (.Name x npos) X.env) = eval (.Name x npos) X.env := by rfl)
    (hfew : ((backTo cpos (starEach [e] X.env)).all (fun x => !x.1) && (backToKw cpos (keywordEach [] X.env)).all (fun x => x.1.isSome)
      && decide ([e].length + ([] : List Keyword).length + (if ([] : List Keyword).isEmpty then 0 else 1) < 30)) = true := by rfl)
    (hline : (apos.endLine == cpos.line) = true := by rfl) (hss : starEach [e] X.env = (false, eval e X.env) :: starEach [] X.env := by rfl) (hsw : swapsWith (.Call (.Attribute (.Name x npos) "append" apos) [e] [] cpos) none pos.line X.env = pure false := by rfl) :
    H1 X (GB B Γ) (.Expr (.Call (.Attribute (.Name x npos) "append" apos) [e] [] cpos) pos) (GB B (Γ.set i (some (MLat X.K L (ds ++ [d]))))) R := by
  refine ps_imp (ps_expr (pe_bm F.plainAttrs_list F.slot_list_append F.type_list_append mt_append (de_gb (B := B) hx) (da_cons he da_nil hss) hbase hfew hline hss) hsw) fun D σ H q => ?_
  refine ⟨q.1, fun v H1 x1 p1 => ?_⟩
  obtain ⟨rfl, us, h1, h2⟩ := p1
  refine ⟨.inl ⟨rfl, us, SqL.of h1⟩, MG.mono x1 q.1, fun vs H2 x2 p2 => ?_⟩
  obtain ⟨y, rfl, py⟩ := allP1 p2
  have h3 := x2 _ _ h1
  have hda := DpAll.mono x2 _ _ h2
  refine ⟨L, us, y, rfl, rfl, h3, Nat.lt_of_lt_of_le (by rw [DpAll.length hda]; exact hz) (by decide), ?_⟩
  have g2 : GB B Γ σ H2 := MG.mono (x1.trans x2) q.1
  obtain ⟨xb, g3⟩ := g2
  obtain ⟨v0, ev, pv⟩ := g3.get i _ hi
  obtain ⟨rfl, _⟩ := pv
  have il : i < Γ.length := (List.getElem?_eq_some_iff.mp hi).1
  refine q.2.1 σ _ ⟨ex_kp xb hL Kp.upd, ?_⟩
  have g4 : EnvOk (Γ.set i none) σ (upd H2 L (.lst (us ++ [y]))) := (g3.drop i).kp hs xb (NT.lst h3) Kp.upd
  have g5 := g4.set i (M := MLat X.K L (ds ++ [d])) (v := .ref L) (MLat.put (ds := ds) ⟨rfl, us, h3, hda⟩ (tOs_app.mpr ⟨ht, by simp [tO.tOs, htd]⟩) (hda.append (.cons py .nil)))
  rw [List.set_set] at g5
  have e1 : σ.set i (some (.ref L)) = σ := by
    have := (List.getElem?_eq_some_iff.mp ev)
    obtain ⟨hlt, e2⟩ := this
    rw [← e2]
    exact List.set_getElem_self hlt
  rw [e1] at g5
  exact g5
end
end K78

-- part KDict
set_option Elab.async false
set_option linter.all false
set_option maxRecDepth 100000
set_option maxHeartbeats 4000000
/-! KDict: dicts whose keys are boxes (tuples of tuples of ints) and whose values are ints. -/
namespace K78
open PySem PySem.Spec PyProof.Rows L2
open Evl (Ex ex_t ex_l ex_rd fresh_back)
open Enc (enc)

/-! ### keys -/
abbrev Box := List (List Int)
def nkS (c : List Int) : NestedKey := .tup (c.map .num)
def nk (b : Box) : NestedKey := .tup (b.map nkS)
theorem map_num_inj : ∀ {a b : List Int}, a.map NestedKey.num = b.map NestedKey.num → a = b
  | [], [], _ => rfl
  | [], _ :: _, e => by simp at e
  | _ :: _, [], e => by simp at e
  | x :: a, y :: b, e => by
    rw [List.map_cons, List.map_cons] at e
    injection e with e1 e2
    injection e1 with e1
    rw [e1, map_num_inj e2]
theorem nkS_inj {a b : List Int} (e : nkS a = nkS b) : a = b := by
  injection e with e
  exact map_num_inj e
theorem map_nkS_inj : ∀ {a b : Box}, a.map nkS = b.map nkS → a = b
  | [], [], _ => rfl
  | [], _ :: _, e => by simp at e
  | _ :: _, [], e => by simp at e
  | x :: a, y :: b, e => by
    rw [List.map_cons, List.map_cons] at e
    injection e with e1 e2
    rw [nkS_inj e1, map_nkS_inj e2]
theorem nk_inj {a b : Box} (e : nk a = nk b) : a = b := by
  injection e with e
  exact map_nkS_inj e
theorem nkS_depth (c : List Int) : (nkS c).depth ≤ 1 := by
  have : ∀ c : List Int, NestedKey.depthAll (c.map .num) = 0 := by
    intro c
    induction c with
    | nil => rfl
    | cons x c ih => rw [List.map_cons, NestedKey.depthAll, ih]; rfl
  unfold nkS
  rw [NestedKey.depth, this]
  exact Nat.le_refl _
theorem nk_depth (b : Box) : (nk b).depth ≤ 2 := by
  have : ∀ b : Box, NestedKey.depthAll (b.map nkS) ≤ 1 := by
    intro b
    induction b with
    | nil => exact Nat.zero_le _
    | cons x b ih =>
      rw [List.map_cons, NestedKey.depthAll]
      have := nkS_depth x
      omega
  unfold nk
  rw [NestedKey.depth]
  have := this b
  omega
section
variable {X : Cx} {pins : List (Addr × Obj)} {σ : L2.St} {H : Hp} {s : Shared}
theorem nested_ints : ∀ {c : List Int} {us : List Value}, Vals (c.map V.int) us → NestedAll s.heap (c.map .num) us
  | [], _, .nil => .nil
  | n :: c, _, .cons r t => by
    obtain ⟨tk, rfl⟩ := r
    exact .cons (.int _ _) (nested_ints t)
theorem nested_set (I : Inv X pins σ H s) {c : List Int} {v : V} {u : Value} (h : Dp X.K H v (enc c)) (r : RelV v u) : NestedIs s.heap (nkS c) u := by
  obtain ⟨a, vs, rfl, hq, hd⟩ := dp_tup h
  cases r
  have e := DpAll.ints hd
  subst e
  obtain ⟨its, rv, ⟨o, ho, hc, n, hdt⟩, _⟩ := I.tuple hq
  exact .tup ho hc hdt (by simpa using nested_ints rv)
theorem nested_sets (I : Inv X pins σ H s) : ∀ {b : Box} {vs : List V} {us : List Value}, DpAll X.K H vs (b.map enc) → Vals vs us → NestedAll s.heap (b.map nkS) us
  | [], _, _, h, r => by
    cases h
    cases r
    exact .nil
  | c :: b, _, _, h, r => by
    cases h with
    | cons h1 h2 =>
      cases r with
      | cons r1 r2 => exact .cons (nested_set I h1 r1) (nested_sets I h2 r2)
theorem nk_is (I : Inv X pins σ H s) {b : Box} {a : Addr} (h : Dp X.K H (.ref a) (enc b)) : (nestedKind X.prog X.w).is s.heap (nk b) a := by
  refine ⟨?_, Nat.le_trans (nk_depth b) (by decide)⟩
  obtain ⟨a', vs, e, hq, hd⟩ := dp_tup h
  cases e
  obtain ⟨its, rv, ⟨o, ho, hc, n, hdt⟩, _⟩ := I.tuple hq
  exact .tup ho hc hdt (by simpa using nested_sets I hd rv)
end

/-! ### counts -/
abbrev Cnt := List (Box × Int)
def getC (l : Cnt) (b : Box) : Int := ((l.find? fun p => decide (p.1 = b)).map (·.2)).getD 0
def putC (l : Cnt) (b : Box) (n : Int) : Cnt := if b ∈ l.map (·.1) then l.map (fun p => if p.1 = b then (p.1, n) else p) else l ++ [(b, n)]
theorem putC_keys (l : Cnt) (b : Box) (n : Int) : (putC l b n).map (·.1) = if b ∈ l.map (·.1) then l.map (·.1) else l.map (·.1) ++ [b] := by
  unfold putC
  split
  · rw [List.map_map]
    refine List.map_congr_left fun p _ => ?_
    show (if p.1 = b then (p.1, n) else p).1 = p.1
    split <;> rfl
  · rw [List.map_append] <;> rfl
theorem putC_nodup {l : Cnt} (h : (l.map (·.1)).Nodup) (b : Box) (n : Int) : ((putC l b n).map (·.1)).Nodup := by
  rw [putC_keys]
  split
  · exact h
  · rename_i hb
    refine List.nodup_append.mpr ⟨h, List.nodup_cons.mpr ⟨by simp, List.nodup_nil⟩, fun x hx y hy e => ?_⟩
    rw [List.mem_singleton.mp hy] at e
    exact hb (e ▸ hx)
theorem putC_length (l : Cnt) (b : Box) (n : Int) : (putC l b n).length ≤ l.length + 1 := by
  unfold putC
  split
  · rw [List.length_map]; omega
  · rw [List.length_append]; exact Nat.le_refl _

/-! ### the dict as an object -/
abbrev XL := List (NestedKey × Addr × Value)
def dicR (P : Program) (w : World) (h : Heap) (d : Addr) (xs : XL) (ep : Nat) : Prop := ∃ o es, h.get? d = some o ∧ o.ExactDict ∧ o.data = .dict es ep ∧ es.toList = xs.map (entryOfKey (nestedKind P w))
def dicO (P : Program) (w : World) (d : Addr) (xs : XL) (ep : Nat) : HO := .ext fun h => dicR P w h d xs ep
theorem dicO_ok {P : Program} {w : World} {H : Hp} {h : Heap} {d : Addr} {xs : XL} {ep : Nat} (r : dicR P w h d xs ep) : ObjOk P w H h d (dicO P w d xs ep) := by
  refine ⟨r, ?_, fun h1 h2 p k => ?_⟩
  · obtain ⟨o, _, ho, _⟩ := r
    exact ⟨o, ho⟩
  · have p' : dicR P w h1 d xs ep := p
    obtain ⟨o, es, ho, q⟩ := p'
    exact ⟨o, es, k o ho, q⟩
abbrev RX (K : PySem.W.Frag) (H : Hp) : NestedKey × Addr × Value → Box × Int → Prop := fun (x : NestedKey × Addr × Value) (p : Box × Int) => x.1 = nk p.1 ∧ Dp K H (.ref x.2.1) (enc p.1) ∧ ∃ t, x.2.2 = Value.int p.2 t
/-- the entries xs are the counts l -/
structure DX (K : PySem.W.Frag) (H : Hp) (d : Addr) (xs : XL) (l : Cnt) : Prop where
  sys : (d == sysModules) = false
  rel : Paired (RX K H) xs l
  nd : (l.map (·.1)).Nodup
  sz : l.length ≤ 100000
theorem DX.tsub {K : PySem.W.Frag} {H H' : Hp} {d : Addr} {xs : XL} {l : Cnt} (x : TupSub H H') (h : DX K H d xs l) : DX K H' d xs l :=
  ⟨h.sys, Paired.mapP h.rel fun a b r => ⟨r.1, Dp.tsub x _ _ (Enc.to _) r.2.1, r.2.2⟩, h.nd, h.sz⟩
theorem rel_keys {K : PySem.W.Frag} {H : Hp} : ∀ {xs : XL} {l : Cnt}, Paired (RX K H) xs l → xs.map (·.1) = l.map fun p => nk p.1
  | _, _, .nil => rfl
  | _, _, .cons r t => by rw [List.map_cons, List.map_cons, r.1, rel_keys t]
theorem DX.keys_nd {K : PySem.W.Frag} {H : Hp} {d : Addr} {xs : XL} {l : Cnt} (h : DX K H d xs l) : (xs.map (·.1)).Nodup := by
  rw [rel_keys h.rel]
  have e : (l.map fun p => nk p.1) = (l.map (·.1)).map nk := by rw [List.map_map] <;> rfl
  rw [e]
  exact List.pairwise_map.mpr (List.Pairwise.imp (fun hne e => hne (nk_inj e)) h.nd)
def MP.dic (K : PySem.W.Frag) (P : Program) (w : World) (l : Cnt) : MP := ⟨fun v H => ∃ d xs ep, v = .ref d ∧ H d = some (dicO P w d xs ep) ∧ DX K H d xs l, fun x ⟨d, xs, ep, e, h, r⟩ => ⟨d, xs, ep, e, x d _ h, r.tsub (TupSub.ofEx x)⟩⟩
section
variable {X : Cx} {pins : List (Addr × Obj)} {σ : L2.St} {H : Hp} {s : Shared}
theorem dic_raw (I : Inv X pins σ H s) {d : Addr} {xs : XL} {ep : Nat} (h : H d = some (dicO X.prog X.w d xs ep)) : dicR X.prog X.w s.heap d xs ep := (I.hok d _ h).1
theorem rel_is (I : Inv X pins σ H s) : ∀ {xs : XL} {l : Cnt}, Paired (RX X.K H) xs l → ∀ x ∈ xs, (nestedKind X.prog X.w).is s.heap x.1 x.2.1
  | _, _, .nil, x, hx => by cases hx
  | _, _, .cons r t, x, hx => by
    rcases List.mem_cons.mp hx with rfl | hx
    · rw [r.1]
      exact nk_is I r.2.1
    · exact rel_is I t x hx
theorem dic_of (I : Inv X pins σ H s) {d : Addr} {xs : XL} {ep : Nat} {l : Cnt} (h : H d = some (dicO X.prog X.w d xs ep)) (r : DX X.K H d xs l) : s.heap.DictOfH (nestedKind X.prog X.w) d xs := by
  obtain ⟨o, es, ho, hx, hd, he⟩ := dic_raw I h
  exact ⟨o, es, ep, ho, hx, hd, he, rel_is I r.rel, r.keys_nd⟩
theorem dicR_of {h : Heap} {d : Addr} {xs : XL} (x : h.DictOfH (nestedKind X.prog X.w) d xs) : ∃ ep, dicR X.prog X.w h d xs ep := by
  obtain ⟨o, es, ep, ho, hx, hd, he, _⟩ := x
  exact ⟨ep, o, es, ho, hx, hd, he⟩
/-- a store: the entries behind it -/
theorem rel_none {K : PySem.W.Frag} {b : Box} : ∀ {xs : XL} {l : Cnt}, Paired (RX K H) xs l → (atKey xs (nk b)).isSome = decide (b ∈ l.map (·.1))
  | _, _, .nil => by simp [atKey]
  | x :: xs, p :: l, .cons r t => by
    have ih := rel_none (b := b) t
    unfold atKey at ih ⊢
    rw [List.find?_cons]
    by_cases e : p.1 = b
    · have e2 : x.1 = nk b := by rw [r.1, e]
      simp [e2, e]
    · have e2 : ¬ x.1 = nk b := fun z => e (nk_inj (r.1.symm.trans z))
      simp only [e2, decide_false]
      rw [ih]
      have e3 : ¬ b = p.1 := fun z => e z.symm
      simp [e3]
theorem rel_get {K : PySem.W.Frag} {b : Box} : ∀ {xs : XL} {l : Cnt}, Paired (RX K H) xs l → ∀ t0, ∃ t, (((atKey xs (nk b)).map (·.2)).getD (.int 0 t0)) = .int (getC l b) t
  | _, _, .nil, t0 => ⟨t0, rfl⟩
  | x :: xs, p :: l, .cons r t, t0 => by
    obtain ⟨t1, ih⟩ := rel_get (b := b) t t0
    unfold atKey at ih ⊢
    unfold getC at ih ⊢
    rw [List.find?_cons, List.find?_cons]
    by_cases e : p.1 = b
    · have e2 : x.1 = nk b := by rw [r.1, e]
      obtain ⟨t2, e3⟩ := r.2.2
      exact ⟨t2, by simp [e2, e, e3]⟩
    · have e2 : ¬ x.1 = nk b := fun z => e (nk_inj (r.1.symm.trans z))
      exact ⟨t1, by simp only [e2, e, decide_false]; exact ih⟩
theorem rel_put {K : PySem.W.Frag} {b : Box} {a : Addr} {n : Int} {t : Tok} {xs : XL} {l : Cnt} (h : Paired (RX K H) xs l) (ha : Dp K H (.ref a) (enc b)) :
    Paired (RX K H) (storedH xs (nk b) a (.int n t)) (putC l b n) := by
  unfold storedH putC
  rw [rel_none h]
  by_cases hb : b ∈ l.map (·.1)
  · rw [if_pos (decide_eq_true hb), if_pos hb]
    clear hb
    induction h with
    | nil => exact .nil
    | @cons x p xs l r _ ih =>
      refine .cons ?_ ih
      unfold putAt
      by_cases e : p.1 = b
      · have e2 : x.1 = nk b := by rw [r.1, e]
        dsimp only
        rw [if_pos e2, if_pos e]
        exact ⟨r.1, r.2.1, t, rfl⟩
      · have e2 : ¬ x.1 = nk b := fun z => e (nk_inj (r.1.symm.trans z))
        dsimp only
        rw [if_neg e2, if_neg e]
        exact r
  · rw [if_neg (by rw [decide_eq_false hb]; exact Bool.false_ne_true), if_neg hb]
    clear hb
    induction h with
    | nil => exact .cons ⟨rfl, ha, t, rfl⟩ .nil
    | cons r _ ih => exact .cons r ih
theorem DX.put {K : PySem.W.Frag} {b : Box} {a d : Addr} {n : Int} {t : Tok} {xs : XL} {l : Cnt} (h : DX K H d xs l) (ha : Dp K H (.ref a) (enc b)) (hz : l.length < 100000) : DX K H d (storedH xs (nk b) a (.int n t)) (putC l b n) :=
  ⟨h.sys, rel_put h.rel ha, putC_nodup h.nd b n, by have := putC_length l b n; omega⟩
end

/-! ### rules -/
section
variable {X : Cx} {pos : Pos}
/-- {} -/
def tDNewB (P : Program) (w : World) : TE := fun _ H Q => ∀ p, H p = none → (p == sysModules) = false → Q (.ref p) (upd H p (dicO P w p [] 0))
theorem pe_dnewB : PE X (.Dict [] [] pos) (tDNewB X.prog X.w) := ⟨fun pins s σ H Q I h => by
  have hn := I.hok.fresh (Nat.le_refl s.heap.objs.size)
  refine wpAny_Dict_empty ⟨.ref s.heap.objs.size, _, I.laid (a := s.heap.objs.size) (o := dicO X.prog X.w s.heap.objs.size [] 0) (t' := s.toks) (fun _ _ q => Heap.get?_push_of_some _ q) (Nat.le_refl _) (dicO_ok ⟨_, #[], Heap.get?_push_size _ rfl, ⟨rfl, rfl, rfl⟩, rfl, rfl⟩), rfl, h _ hn ?_⟩
  obtain ⟨h1, h2, _⟩ := dk_empty (P := X.prog) (w := X.w) (H := upd H s.heap.objs.size (.dK [])) s.heap I.big
  exact h2⟩
theorem dicR_new {P : Program} {w : World} (h : Heap) : dicR P w (h.push { cls := .type "dict", data := .dict #[] }) h.objs.size [] 0 := ⟨_, #[], Heap.get?_push_size _ rfl, ⟨rfl, rfl, rfl⟩, rfl, rfl⟩
theorem sys_new {pins : List (Addr × Obj)} {σ : L2.St} {H : Hp} {s : Shared} (I : Inv X pins σ H s) : (s.heap.objs.size == sysModules) = false := by
  obtain ⟨h1, h2, _⟩ := dk_empty (P := X.prog) (w := X.w) (H := upd H s.heap.objs.size (.dK [])) s.heap I.big
  exact h2
/-- d.get(b, 0) -/
def tGetB (K : PySem.W.Frag) (P : Program) (w : World) (to : TE) (t : TA) : TE := fun σ H Q => to σ H fun x H1 => ∃ d xs ep, x = V.ref d ∧ H1 d = some (dicO P w d xs ep) ∧ t σ H1 fun vs H2 => ∃ l b k, H2 d = some (dicO P w d xs ep) ∧ DX K H2 d xs l ∧ vs = [k, .int 0] ∧ Dp K H2 k (enc b) ∧ Q (.int (getC l b)) H2
theorem pe_getB {o e : Expr} {es : List Expr} {to : TE} {t : TA} {apos cpos : Pos} (hu : X.A.units + 65 < cLine) (ho : PE X o to) (ha : PA X (e :: es) t)
    (hbase : attributeBase o "get" X.env (eval o X.env) = eval o X.env := by rfl)
    (hfew : ((backTo cpos (starEach (e :: es) X.env)).all (fun x => !x.1) && (backToKw cpos (keywordEach [] X.env)).all (fun x => x.1.isSome)
      && decide ((e :: es).length + ([] : List Keyword).length + (if ([] : List Keyword).isEmpty then 0 else 1) < 30)) = true := by rfl)
    (hline : (apos.endLine == cpos.line) = true := by rfl) (hs : starEach (e :: es) X.env = (false, eval e X.env) :: starEach es X.env := by rfl) (hplain : (backTo cpos (starEach es X.env)).any (·.1) = false := by rfl) :
    PE X (.Call (.Attribute o "get" apos) (e :: es) [] cpos) (tGetB X.K X.prog X.w to t) := by
  refine ⟨fun pins s σ H Q I h => ?_⟩
  refine wpAny_Call_method_late hbase hfew hline rfl (thn (ho.run pins s σ H _ I h) fun v s1 ⟨x, H1, I1, r1, d, xs, ep, ex, hd1, q1⟩ => ?_)
  subst ex
  cases r1
  obtain ⟨od, es0, ho1, hx1, hdd1, _⟩ := dic_raw I1 hd1
  refine ⟨"dict", "dict.get", F.plainAttrs_dict, F.slot_dict_get, F.type_dict_get, ⟨od, ho1, hx1.1⟩, fun a e => ?_, ?_⟩
  · cases e
    exact ⟨od, ho1, hx1.2.1⟩
  have hA := ha.run cpos pins s1 σ H1 _ I1 q1
  rw [hs] at hA ⊢
  refine Calls.callWith_builtin (by show (false || (backTo cpos (starEach es X.env)).any (·.1)) = false; rw [hplain] <;> rfl) (Calls.evalArgs_plain ?_)
  refine thn hA fun us s2 ⟨vs, H2, I2, r2, l, b, k, hd2, dx, ev, pk, q2⟩ => ?_
  subst ev
  obtain ⟨u1, u2, rfl, ra, rb⟩ := vals2 r2
  obtain ⟨t0, rfl⟩ := rb
  obtain ⟨a, _, rfl, _, _⟩ := dp_tup pk
  cases ra
  have hx := dic_of I2 hd2 dx
  have hr : (nestedKind X.prog X.w).room X.A.in1 := by show X.A.units + 1 + 8 < cLine; omega
  refine call_meetsIn F.slot_dict_get hx.typeIs F.entry_dict_get (F.args_dict_get_3 _ _ _) (meetsH_dict_get_default (nestedKind X.prog X.w) d a dx.sys (.int 0 t0)) ⟨hr, nk b, xs, nk_is I2 pk, hx, ?_⟩
  obtain ⟨t1, e1⟩ := rel_get (b := b) dx.rel t0
  rw [e1]
  exact ⟨.int (getC l b), H2, I2.tok _, ⟨_, rfl⟩, q2⟩
/-- d[b] = n -/
def rSetB (K : PySem.W.Frag) (P : Program) (w : World) : TSet := fun o i v H Q => ∃ d xs ep l b n, o = .ref d ∧ H d = some (dicO P w d xs ep) ∧ DX K H d xs l ∧ l.length < 100000 ∧ Dp K H i (enc b) ∧ v = .int n ∧
  ∀ xs' ep', DX K H d xs' (putC l b n) → Q (upd H d (dicO P w d xs' ep'))
theorem dic_write {pins : List (Addr × Obj)} {σ : L2.St} {H : Hp} {s : Shared} {d : Addr} {xs xs' : XL} {ep ep' tk : Nat} {h' : Heap} (I : Inv X pins σ H s) (hd : H d = some (dicO X.prog X.w d xs ep)) (hs : Heap.SameBut d s.heap h') (r : dicR X.prog X.w h' d xs' ep') :
    Inv X pins σ (upd H d (dicO X.prog X.w d xs' ep')) { s with heap := h', toks := tk } := by
  obtain ⟨o, es, ho, q⟩ := id r
  exact I.write (e := d) (by rw [hd]; trivial) (.inl rfl) (fun b u hb hu => (hs.2 b hb).trans hu) ⟨o, ho⟩ (dicO_ok r)
theorem set_dicB (hu : X.A.units + 65 < cLine) : PSet X (rSetB X.K X.prog X.w) := by
  intro pins s σ H o i v ov iv u Q I ro ri rv h
  obtain ⟨d, xs, ep, l, b, n, rfl, hd, dx, hz, pi, rfl, q⟩ := h
  cases ro
  obtain ⟨t, rfl⟩ := rv
  obtain ⟨a, _, rfl, _, _⟩ := dp_tup pi
  cases ri
  have hx := dic_of I hd dx
  have hr : (nestedKind X.prog X.w).room X.A.in1 := by show X.A.units + 1 + 8 < cLine; omega
  have hxl : xs.length ≤ sizeLine := by
    have : xs.length = l.length := Paired.length dx.rel
    rw [this]
    exact sz3 dx.sz
  refine wpAny_setItem_heap (hsz := hxl) hr (nk_is I pi) hx fun h' hm' hs => ?_
  obtain ⟨ep', r'⟩ := dicR_of hm'
  exact ⟨_, dic_write I hd hs r', q _ ep' (dx.put pi hz)⟩
/-- d.items(), walked -/
def ItiB (K : PySem.W.Frag) (P : Program) (w : World) (d : Addr) (xs : XL) (ep : Nat) (l : Cnt) : It :=
  ⟨fun i H => (H d = some (dicO P w d xs ep) ∧ DX K H d xs l) ∧ i < l.length, fun i H x H' => ∃ T y b n, l[i]? = some (b, n) ∧ x = .ref T ∧ H T = none ∧ H' = upd H T (.tup [y, .int n]) ∧ Dp K H y (enc b), fun i H => (H d = some (dicO P w d xs ep) ∧ DX K H d xs l) ∧ l.length ≤ i⟩
theorem rel_at {K : PySem.W.Frag} {H : Hp} : ∀ {xs : XL} {l : Cnt} {i : Nat} {p : Box × Int}, Paired (RX K H) xs l → l[i]? = some p → ∃ x, xs[i]? = some x ∧ RX K H x p
  | _, _, i, p, .nil, e => by simp at e
  | _, _, 0, p, .cons r _, e => by simp at e; subst e; exact ⟨_, rfl, r⟩
  | _, _, i + 1, p, .cons _ t, e => by
    obtain ⟨x, h1, h2⟩ := rel_at (i := i) t (by simpa using e)
    exact ⟨x, by simpa using h1, h2⟩
theorem turn_itemsB {P : Program} {w : World} {K : PySem.W.Frag} {d : Addr} {xs : XL} {ep : Nat} {l : Cnt} {elts : List Expr} {kk : Nat} {tpos : Pos} (it : Addr) :
    Turn P w K (.Tuple elts kk tpos) (ItiB K P w d xs ep l) [it] it (fun i h => ∃ ok ov, IsItemIter h it d i l.length ep ok ov) where
  mem := by simp
  obj := fun i h st b hb => by
    have e : b = it := by simpa using hb
    subst e
    obtain ⟨ok, ov, e⟩ := st
    exact ⟨_, e, fun v z => nomatch z⟩
  keep := fun i h h' st k => let ⟨ok, ov, e⟩ := st; ⟨ok, ov, k it (by simp) _ e⟩
  item := by
    intro X hP hw hK hc i pins s σ H E I hf st hg
    subst hP hw hK
    obtain ⟨⟨hd, dx⟩, hi⟩ := hg
    obtain ⟨o, es, ho, hx, hdt, he⟩ := dic_raw I hd
    have hxl : xs.length = l.length := Paired.length dx.rel
    have hes : es.size = l.length := by rw [size_of_entries he, hxl]
    obtain ⟨⟨b, n⟩, hbn⟩ : ∃ p, l[i]? = some p := ⟨l[i], List.getElem?_eq_getElem hi⟩
    obtain ⟨x, hxi, r1, r2, t, r3⟩ := rel_at dx.rel hbn
    have hi' : i < es.size := by omega
    have hent : es[i] = entryOfKey (nestedKind X.prog X.w) x := by
      have e1 := entry_at he i
      rw [hxi] at e1
      rw [Array.getElem?_eq_getElem hi'] at e1
      exact Option.some.inj e1
    obtain ⟨ok, ov, hit⟩ := st
    rw [← hes] at hit
    have hlt : it < s.heap.objs.size := Heap.lt_size hit
    refine wpAny_pyNext_items_item_raw hit ⟨o, ho, hx, hdt⟩ hi' fun h' ho' hT hz hk => ?_
    rw [hent] at ho' hT
    refine ⟨_, rfl, wpAny_letOwnedTupleGo_items (s := { s with heap := h' }) ho' fun h'' he' sb => ?_⟩
    have hT2 := (sb.2 _ (Nat.ne_of_gt hlt)).trans hT
    have new : ObjOk X.prog X.w (upd H s.heap.objs.size (.tup [.ref x.2.1, .int n])) h'' s.heap.objs.size (.tup [.ref x.2.1, .int n]) :=
      ⟨by show 2 ≤ sizeLine; decide, [.ref x.2.1, x.2.2], .cons rfl (.cons ⟨t, r3⟩ .nil), ⟨_, hT2, rfl, _, rfl⟩⟩
    have I1 : Inv X pins σ (upd H s.heap.objs.size (.tup [.ref x.2.1, .int n])) { s with heap := h'' } :=
      I.turnedNew (t' := s.toks) (ch := [it]) (fun b ob hb e => (sb.2 b (by simpa using hb)).trans (hk b ob (by simpa using hb) e)) hf (Nat.le_refl _) new
    refine ⟨.ref s.heap.objs.size, _, I1, rfl, ⟨_, .ref x.2.1, b, n, hbn, rfl, I.hok.fresh (Nat.le_refl _), rfl, r2⟩, ⟨(entryOfKey (nestedKind X.prog X.w) x).key, (entryOfKey (nestedKind X.prog X.w) x).val, ?_⟩, fun c hc => ?_⟩
    · rw [hes] at he'
      exact he'
    · have e : c = it := by simpa using hc
      rw [e, upd_ne (Nat.ne_of_lt hlt)]
      exact (hf it (by simp)).1
  done := by
    intro X hP hw hK hc i pins s σ H E I hf st hg
    subst hP hw hK
    obtain ⟨⟨hd, dx⟩, hi⟩ := hg
    obtain ⟨f0, f1, f2, f3, f4, f5⟩ := hf it (by simp)
    obtain ⟨o, es, ho, hx, hdt, he⟩ := dic_raw I hd
    have hes : es.size = l.length := by rw [size_of_entries he]; exact Paired.length dx.rel
    obtain ⟨ok, ov, hit⟩ := st
    rw [← hes] at hit
    exact wpAny_pyNext_items_end_raw (I.ok.hd hc) hit ⟨o, ho, hx, hdt⟩ (by omega) fun h' eb => ⟨rfl, I.turned (t' := s.toks) (fun b ob hb e => eb b ob hb e) f0 f1 f3 f4 f5⟩
  self := fun A i s Q E st h => let ⟨_, _, e⟩ := st; PySem.W.kcp_self e h
def iItemsB (K : PySem.W.Frag) (P : Program) (w : World) (td : TE) : TI := fun σ H R => td σ H fun x H1 => ∃ d xs ep l, x = .ref d ∧ H1 d = some (dicO P w d xs ep) ∧ DX K H1 d xs l ∧ R (ItiB K P w d xs ep l) H1
theorem pi_itemsB {e : Expr} {td : TE} {apos cpos tpos : Pos} {elts : List Expr} {kk : Nat} (he : PE X e td) (hbase : attributeBase e "items" X.env (eval e X.env) = eval e X.env := by rfl) (hline : (apos.endLine == cpos.line) = true := by rfl) :
    PI X (.Tuple elts kk tpos) (.Call (.Attribute e "items" apos) [] [] cpos) (iItemsB X.K X.prog X.w td) := by
  refine ⟨fun pins s σ H R I h => ?_⟩
  refine wpAny_Call_method (T := "dict") (id := "dict.items") hbase rfl hline F.plainAttrs_dict F.slot_dict_items F.type_dict_items (thn (he.run pins s σ H _ I h) fun u s1 ⟨x, H1, I1, rx, d, xs, ep, l, ex, hd, dx, q⟩ => ?_)
  subst ex
  obtain rfl : u = Value.ref d := rx
  obtain ⟨o, es, ho, hx, hdt, hes⟩ := dic_raw I1 hd
  have hsz : es.size = l.length := by rw [size_of_entries hes]; exact Paired.length dx.rel
  have hm : s1.heap.DictRaw d es ep := ⟨o, ho, hx, hdt⟩
  refine ⟨hm.typeIs, fun a e => ?_, ?_⟩
  · cases e
    exact ⟨o, ho, hx.2.1⟩
  have I2 : Inv X pins σ H1 { s1 with heap := s1.heap.push { cls := .type "dict_items", data := .fields #[.ref d] } } := I1.kept (t' := s1.toks) fun b ob q => Heap.get?_push_of_some _ q
  have fin : wpAny (model X.prog X.w) X.A (pyIter (.ref s1.heap.objs.size)) (PIE X pins σ (.Tuple elts kk tpos) R) X.xe { s1 with heap := s1.heap.push { cls := .type "dict_items", data := .fields #[.ref d] } } := by
    refine wpAny_pyIter_items_raw (d := d) ⟨_, Heap.get?_push_size _ rfl, rfl, rfl⟩ (hm.at fun o e => Heap.get?_push_of_some _ e) (pi_one (tk := s1.toks) I2 _ (turn_itemsB _) ⟨.none, .none, ?_⟩ q)
    rw [← hsz]
    exact Heap.get?_push_size _ rfl
  show wpAny _ _ (callWith cpos (.builtin "dict.items") [.ref d] [] []) _ X.xe s1
  exact method_meetsIn F.slot_dict_items F.entry_dict_items rfl (PySem.evalArgs_none ⟨rfl, hm.typeIs, F.args_dict_items_1 _, _, meets_dict_items_raw d dx.sys, ⟨es, ep, hm⟩, fin⟩)
def cntD (l : Cnt) : List PyData := l.map fun p => .tuple [enc p.1, .int p.2]
theorem walk_itemsB {K : PySem.W.Frag} {P : Program} {w : World} {d : Addr} {xs : XL} {ep : Nat} {l : Cnt} : Walk (ItiB K P w d xs ep l) l.length (fun H => H d = some (dicO P w d xs ep) ∧ DX K H d xs l) (fun i H x H' => ∃ dd, (cntD l)[i]? = some dd ∧ Ex H H' ∧ Dp K H' x dd) := by
  refine ⟨fun _ _ hi q => ⟨q, hi⟩, fun _ q => ⟨q, Nat.le_refl _⟩, fun i H x H' _ _ y => ?_⟩
  obtain ⟨T, v, b, n, h1, rfl, hT, rfl, h5⟩ := y
  refine ⟨.tuple [enc b, .int n], ?_, Ex.new hT, dp_newT hT (.cons h5 (.cons (.int _) .nil))⟩
  unfold cntD
  rw [List.getElem?_map, h1]
  rfl
theorem cntD_length (l : Cnt) : (cntD l).length = l.length := by unfold cntD; rw [List.length_map]
theorem di_items {G : GP} {e : Expr} {apos cpos tpos : Pos} {elts : List Expr} {kk : Nat} {l : Cnt} (he : DE X G e (MP.dic X.K X.prog X.w l)) (hbase : attributeBase e "items" X.env (eval e X.env) = eval e X.env := by rfl) (hline : (apos.endLine == cpos.line) = true := by rfl) :
    DI X G (.Tuple elts kk tpos) (.Call (.Attribute e "items" apos) [] [] cpos) (cntD l) := pi_imp (pi_itemsB he hbase hline) fun σ H R q => ⟨q.1, fun v H1 x1 p1 => by
  obtain ⟨d, xs, ep, rfl, hd, dx⟩ := p1
  refine ⟨d, xs, ep, l, rfl, hd, dx, ?_⟩
  exact q.2 _ H1 (fun H => H d = some (dicO X.prog X.w d xs ep) ∧ DX X.K H d xs l) _ x1 (fun H1 H2 x z => ⟨x _ _ z.1, z.2.tsub (TupSub.ofEx x)⟩) ⟨hd, dx⟩ (by rw [cntD_length]; exact walk_itemsB) fun i H2 x H3 _ y => y⟩
/-- dict(d) -/
def rDictB (K : PySem.W.Frag) (P : Program) (w : World) : List V → Hp → VK → Prop := fun vs H Q => ∃ d xs ep l, vs = [.ref d] ∧ H d = some (dicO P w d xs ep) ∧ DX K H d xs l ∧ (xs.map fun x => (nestedKind P w).hash x.1).Nodup ∧ ∀ p ep', H p = none → DX K H p xs l → Q (.ref p) (upd H p (dicO P w p xs ep'))
theorem cr_dictB (hu : X.A.units + 65 < cLine) : CallR X (.type "dict") (rDictB X.K X.prog X.w) := by
  intro pins s σ H vs us Q I r h
  obtain ⟨d, xs, ep, l, rfl, hd, dx, hap, q⟩ := h
  obtain ⟨u, rfl, ru⟩ := vals1 r
  cases ru
  have hx := dic_of I hd dx
  have hxl : xs.length ≤ sizeLine := by
    have : xs.length = l.length := Paired.length dx.rel
    rw [this]
    exact sz3 dx.sz
  have hn := I.hok.fresh (Nat.le_refl s.heap.objs.size)
  have hlt : d < s.heap.objs.size := by
    obtain ⟨o, _, _, ho, _⟩ := hx
    exact Heap.lt_size ho
  refine callType_codes (Q₁ := fun obj s₁ => obj = .ref s.heap.objs.size ∧ s₁ = { s with heap := s.heap.push { cls := .type "dict", data := .dict #[] } }) F.kt_called_dict (F.kt_typeCall_dict_1 _) F.entry_dict_init (kt_code_dict_new _ ⟨rfl, rfl⟩) ?_
  rintro obj s₁ ⟨rfl, rfl⟩
  have hT : Shared.TypeIs { s with heap := s.heap.push { cls := .type "dict", data := .dict #[] } } (.ref s.heap.objs.size) "dict" := ⟨_, Heap.get?_push_size _ rfl, rfl⟩
  refine ⟨hT, F.args_dict_init_2 _ _, ?_⟩
  unfold Builtin.«dict.__init__»
  refine wpAny_bind ?_
  unfold Builtin.Dict.selfAndRest
  refine wpAny_bind (wpAny_notOrdered_dict hT ?_)
  show wpAny _ _ (pure (s.heap.objs.size, [Value.ref d])) _ _ _
  refine wpAny_pure ?_
  have kp : ∀ b o, s.heap.get? b = some o → (s.heap.push { cls := .type "dict", data := .dict #[] }).get? b = some o := fun b o e => Heap.get?_push_of_some _ e
  have hx2 : (s.heap.push { cls := .type "dict", data := .dict #[] }).DictOfH (nestedKind X.prog X.w) d xs := by
    obtain ⟨o, es, ep, ho, a1, a2, a3, a4, a5⟩ := hx
    exact ⟨o, es, ep, kp _ _ ho, a1, a2, a3, fun y hy => nestedKind_stays.stays (fun b o _ _ e _ => kp b o e) (a4 y hy), a5⟩
  have hty : ∀ x ∈ xs, Shared.TypeIs { s with heap := s.heap.push { cls := .type "dict", data := .dict #[] } } (.ref x.2.1) "tuple" := by
    obtain ⟨_, _, _, _, _, _, _, a4, _⟩ := hx2
    exact fun x hm => nestedKind_stays.tuple (s := { s with heap := s.heap.push { cls := .type "dict", data := .dict #[] } }) (a4 x hm)
  refine updateFrom_dictH (A := X.A.in1) (knd := nestedKind X.prog X.w) (kvs := []) (more := xs) .none (by show X.A.units + 1 + 1 + 8 < cLine; omega) (Nat.ne_of_gt hlt) dx.sys (Heap.DictOfH.new s.heap) hx2 (.inr ⟨hty, hap⟩) (by rw [List.length_nil, Nat.zero_add]; exact hxl) fun h' hd' ho' hs' => ?_
  rw [storedAllH_nil_of_nodup xs dx.keys_nd] at hd'
  obtain ⟨ep', r'⟩ := dicR_of hd'
  refine ⟨rfl, .ref s.heap.objs.size, upd H s.heap.objs.size (dicO X.prog X.w s.heap.objs.size xs ep'), I.laid (t' := s.toks) (fun b o e => (hs'.2 b (Nat.ne_of_lt (Heap.lt_size e))).trans (kp b o e)) (Nat.le_refl _) (dicO_ok r'), rfl, q _ ep' hn ⟨sys_new I, dx.rel, dx.nd, dx.sz⟩⟩
end

/-! ### over data -/
section
variable {X : Cx} {G : GP} [MG G] {pos p : Pos} {e o : Expr} {es : List Expr} {l : Cnt}
omit [MG G] in
theorem de_dnew : DE X G (.Dict [] [] pos) (MP.dic X.K X.prog X.w []) := de_of pe_dnewB fun σ H Q g q r hr hs => q _ _ (Ex.new hr) ⟨r, [], 0, rfl, upd_same, hs, .nil, List.nodup_nil, Nat.zero_le _⟩
theorem de_get {k : Nat} {b : Box} {apos cpos p2 : Pos} {j} (hr : Room k X.A) (ho : DE X G o (MP.dic X.K X.prog X.w l)) (hb : DE X G e (ME X.K b))
    (hs2 : starEach [.Constant (.int 0) j p2] X.env = (false, eval (.Constant (.int 0) j p2) X.env) :: starEach [] X.env := by rfl)
    (hbase : attributeBase o "get" X.env (eval o X.env) = eval o X.env := by rfl)
    (hfew : ((backTo cpos (starEach [e, .Constant (.int 0) j p2] X.env)).all (fun x => !x.1) && (backToKw cpos (keywordEach [] X.env)).all (fun x => x.1.isSome)
      && decide ([e, .Constant (.int 0) j p2].length + ([] : List Keyword).length + (if ([] : List Keyword).isEmpty then 0 else 1) < 30)) = true := by rfl)
    (hline : (apos.endLine == cpos.line) = true := by rfl) (hs : starEach [e, .Constant (.int 0) j p2] X.env = (false, eval e X.env) :: starEach [.Constant (.int 0) j p2] X.env := by rfl) (hplain : (backTo cpos (starEach [.Constant (.int 0) j p2] X.env)).any (·.1) = false := by rfl) :
    DE X G (.Call (.Attribute o "get" apos) [e, .Constant (.int 0) j p2] [] cpos) (MI X.K (getC l b)) :=
  de_of (pe_getB (un65 hr) ho (da_cons hb (da_cons de_int da_nil hs2) hs) hbase hfew hline hs hplain) fun σ H Q g q => ⟨g, fun v H1 x1 p1 => by
    obtain ⟨d, xs, ep, rfl, hd, dx⟩ := p1
    refine ⟨d, xs, ep, rfl, hd, MG.mono x1 g, fun vs H2 x2 p2 => ?_⟩
    obtain ⟨v, u, rfl, pv, pu⟩ := allP2 p2
    have eu := dp_int pu
    subst eu
    exact ⟨l, b, v, x2 _ _ hd, dx.tsub (TupSub.ofEx x2), rfl, pv, q _ H2 (x1.trans x2) (.int _)⟩⟩
end
end K78

-- part KDict2
set_option Elab.async false
set_option linter.all false
set_option maxRecDepth 100000
set_option maxHeartbeats 4000000
/-! KDict2: {b: n}, {b: n for .. if ..} with boxes as keys. -/
namespace K78
open PySem PySem.Spec PyProof.Rows L2
open Evl (Ex ex_t ex_l ex_rd fresh_back)
open Enc (enc)
section
variable {X : Cx} {G : GP} [MG G] {pos : Pos} {e v : Expr}
theorem de_disp1 {k : Nat} {b : Box} {n : Int} (hr : Room k X.A) (hb : DE X G e (ME X.K b)) (hv : DE X G v (MI X.K n)) : DE X G (.Dict [some e] [v] pos) (MP.dic X.K X.prog X.w [(b, n)]) := by
  refine ⟨fun pins s σ H Q I q => ?_⟩
  have hn := I.hok.fresh (Nat.le_refl s.heap.objs.size)
  have hu := un65 hr
  have I1 := I.laid (a := s.heap.objs.size) (o := dicO X.prog X.w s.heap.objs.size [] 0) (h' := s.heap.push { cls := .type "dict", data := .dict #[] }) (t' := s.toks) (fun _ _ q => Heap.get?_push_of_some _ q) (Nat.le_refl _) (dicO_ok (dicR_new s.heap))
  rw [arm_eval_Dict, zip_pairTrees [some e] [v] X.env pos rfl rfl, dictDisplay_pairs _ (by intro z; cases z) (by show 1 < 17; decide)]
  refine wpAny_bind (wpAny_standAt (wpAny_bind (wpAny_subDictH (knd := nestedKind X.prog X.w) (Q := fun d s' => wpAny (model X.prog X.w) X.A (pure (Value.ref d)) (EP X pins σ Q) X.xe s') (by show X.A.units + 8 < cLine; omega) (by show 1 ≤ 15; decide) ?_)))
  have x0 : Ex H (upd H s.heap.objs.size (dicO X.prog X.w s.heap.objs.size [] 0)) := Ex.new hn
  refine thn ((pps_cons hb hv pps_nil).run pins _ σ _ (fun ps H2 => Ex (upd H s.heap.objs.size (dicO X.prog X.w s.heap.objs.size [] 0)) H2 ∧ ∃ k, ps = [(k, .int n)] ∧ Dp X.K H2 k (enc b)) I1 ⟨MG.mono x0 q.1, fun k H1 x1 p1 => ⟨MG.mono (x0.trans x1) q.1, fun y H2 x2 p2 => ⟨x1.trans x2, k, by rw [dp_int p2], Dp.mono x2 _ _ p1⟩⟩⟩) fun ws s2 ⟨ps, H2, I2, rel, x2, k, ek, pk⟩ => ?_
  subst ek
  cases rel with
  | @cons _ w1 _ _ r rr =>
    cases rr
    obtain ⟨u1, u2⟩ := w1
    obtain ⟨ra, t, rb⟩ := r
    obtain ⟨a, _, rfl, _, _⟩ := dp_tup pk
    cases ra
    cases rb
    have hd2 : H2 s.heap.objs.size = some (dicO X.prog X.w s.heap.objs.size [] 0) := x2 _ _ upd_same
    have dx : DX X.K H2 s.heap.objs.size [] [] := ⟨sys_new I, .nil, List.nodup_nil, Nat.zero_le _⟩
    refine ⟨[(nk b, a, .int n t)], ⟨rfl, rfl, nk_is I2 pk, trivial⟩, dic_of I2 hd2 dx, fun h' tk hm' hs => wpAny_pure ?_⟩
    obtain ⟨ep', r'⟩ := dicR_of hm'
    have I3 := dic_write (tk := tk) I2 hd2 hs r'
    have x3 : Ex H (upd H2 s.heap.objs.size (dicO X.prog X.w s.heap.objs.size (storedAllH [] [(nk b, a, .int n t)]) ep')) := Ex.mut (x0.trans x2) hn
    refine ⟨.ref s.heap.objs.size, _, I3, rfl, q.2 _ _ x3 ⟨_, _, _, rfl, upd_same, ?_⟩⟩
    have dx' : DX X.K H2 s.heap.objs.size [(nk b, a, .int n t)] [(b, n)] := ⟨dx.sys, .cons ⟨rfl, pk, t, rfl⟩ .nil, List.nodup_cons.mpr ⟨by simp, List.nodup_nil⟩, by show 1 ≤ 100000; decide⟩
    exact dx'.tsub (TupSub.put hd2 (fun _ e => nomatch e) (fun _ _ e => nomatch e))
end
section
variable {X : Cx}
/-- a store by a comprehension -/
theorem dic_set {pins : List (Addr × Obj)} {σ : L2.St} {H : Hp} {s : Shared} {E : Value → Shared → Prop} {D : Addr} {xs : XL} {ep : Nat} {l : Cnt} {b : Box} {n : Int} {k : V} {u r : Value} {Q : Unit → Shared → Prop} (hu : X.A.units + 65 < cLine) (I : Inv X pins σ H s) (hD : H D = some (dicO X.prog X.w D xs ep)) (dx : DX X.K H D xs l) (hz : l.length < 100000)
    (pk : Dp X.K H k (enc b)) (ry : RelV k u) (rv : RelV (.int n) r) (h : ∀ xs' ep' s', DX X.K H D xs' (putC l b n) → Inv X pins σ (upd H D (dicO X.prog X.w D xs' ep')) s' → Q () s') : wpAny (model X.prog X.w) X.A (dictSet D u r) Q E s := by
  obtain ⟨t, rfl⟩ := rv
  obtain ⟨a, _, rfl, _, _⟩ := dp_tup pk
  cases ry
  have hxl : xs.length ≤ sizeLine := by
    have : xs.length = l.length := Paired.length dx.rel
    rw [this]
    exact sz3 dx.sz
  refine wpAny_dictSet_heap (hsz := hxl) (by show X.A.units + 8 < cLine; omega) (nk_is I pk) (dic_of I hD dx) fun h' hm' hs => ?_
  obtain ⟨ep', r'⟩ := dicR_of hm'
  exact h _ ep' _ (dx.put pk hz) (dic_write I hD hs r')
/-- {k: v for target in iter if ..}: D the new dict, its counts l by the turn -/
def tDcB (K : PySem.W.Frag) (P : Program) (w : World) (wi : TI) (g : TG) (tt : TT) (tk tv : TE) (vs : List Nat) : TE := fun σ H Q => wi σ H fun J H1 => ∀ D, H1 D = none → (D == sysModules) = false → ∃ W : Nat → Nat → Hp → Prop, (∃ m, W 0 m (upd H1 D (dicO P w D [] 0))) ∧ ∀ i m H, W i m H →
  (J.stop i H ∧ Q (.ref D) H) ∨ (J.go i H ∧ ∃ Nx : Hp → Prop, (∀ H', Nx H' → ∃ m', m' < m ∧ W (i + 1) m' H') ∧ ∀ x H', J.yld i H x H' → g x (wipe σ vs) H' fun σ2 H2 => wipe σ2 vs = wipe σ vs ∧ tt σ2 H2 fun b H3 =>
    if b = true then tk σ2 H3 fun y H4 => tv σ2 H4 fun z H5 => ∃ xs ep l bx n, H5 D = some (dicO P w D xs ep) ∧ DX K H5 D xs l ∧ l.length < 100000 ∧ Dp K H5 y (enc bx) ∧ z = .int n ∧ ∀ xs' ep', DX K H5 D xs' (putC l bx n) → Nx (upd H5 D (dicO P w D xs' ep')) else Nx H3)
theorem dcB_core {pins : List (Addr × Obj)} {s : Shared} {σ : L2.St} {H : Hp} {Q : VK} {kx vx tg iter : Expr} {ifs : List Expr} {scope : Scope} {own : List (Str × Nat)} {pos pos' : Pos} {wi : TI} {g : TG} {tt : TT} {tk tv : TE} {use : Option (Value → Sem Unit)} {Qf : Value → Shared → Prop}
    (hu : X.A.units + 65 < cLine) (hc : X.calm = true) (hN : X.N.Nodup) (I : Inv X pins σ H s) (hi : PI X tg iter wi) (ok : BlkOk X.N X.env.scope scope own) (hg : AllB X scope fun Y => PG Y tg g) (ht : AllB X scope fun Y => PTs Y ifs tt)
    (hk : AllB X scope fun Y => PE Y kx tk) (he : AllB X scope fun Y => PE Y vx tv) (hs : ∀ x, foldedSetIterable iter X.env x = pure x)
    (h : tDcB X.K X.prog X.w wi g tt tk tv (own.map (·.2)) σ H Q)
    (hRR : ∀ D C s' m H', Inv X pins σ H' s' → Q (.ref D) H' → s'.heap.Ns C m → FpOk X pins H' C → compPost (model X.prog X.w) X.A X.xe use Qf (.ref D) C (.ok .next) s') :
    wpAny (model X.prog X.w) X.A (comprehension (.DictComp kx vx [⟨tg, iter, ifs, 0⟩] scope pos) scope X.env pos' newDict false (eval iter X.env) use) Qf X.xe s := by
  have hfree : ∀ y ∈ scope.names, y.2 = .free → ∃ c, X.env.cells.lookup y.1 = some c := fun y hy e => (ok.free y hy e).elim (fun k => I.ok.has _ (.inl k)) fun k => I.ok.has _ (.inr k)
  refine wpAny_comprehension_free (use := use) rfl hs (closure_ok hfree) ok.kind (fun y hy e => by rw [ok.uniq y hy, e]) (thn (hi.run pins s σ H _ I h) fun xv s1 hx => thn hx fun itv s2 h2 => ?_)
  obtain ⟨it, fp, tn, J, H2, e, I2, T, st2, f2, q⟩ := h2
  subst e
  refine wpAny_newObj_type (newEnv_comp ?_)
  generalize hD : s2.heap.objs.size = D
  have hDn : H2 D = none := I2.hok.fresh (Nat.le_of_eq hD)
  obtain ⟨W, ⟨m0, w0⟩, turn⟩ := q D hDn (by rw [← hD]; exact sys_new I2)
  generalize hs3 : ({ s2 with heap := s2.heap.push { cls := .type "dict", data := .dict #[] } } : Shared) = s3
  have h3 : s3.heap = s2.heap.push { cls := .type "dict", data := .dict #[] } := by rw [← hs3]
  generalize hH3 : upd H2 D (dicO X.prog X.w D [] 0) = H3 at w0
  have I3 : Inv X pins σ H3 s3 := by
    rw [← hs3, ← hH3]
    refine I2.laid (t' := s2.toks) (fun b o e => Heap.get?_push_of_some _ e) (Nat.le_of_eq hD) ?_
    rw [← hD]
    exact dicO_ok (dicR_new s2.heap)
  have f3 : ∀ b ∈ fp, FpOk X pins H3 b ∧ b < s3.heap.objs.size := fun b hb => by
    obtain ⟨o, e, _⟩ := T.obj _ _ st2 b hb
    have hlt : b < s2.heap.objs.size := Heap.lt_size e
    refine ⟨⟨?_, (f2 b hb).2⟩, by rw [h3, Heap.size_push]; exact Nat.lt_succ_of_lt hlt⟩
    rw [← hH3, upd_ne (by rw [← hD]; exact Nat.ne_of_lt hlt)]
    exact (f2 b hb).1
  have st3 : tn 0 s3.heap := T.keep _ _ _ st2 fun b _ o e => by rw [h3]; exact Heap.get?_push_of_some _ e
  have I4 := block_start I3 ok hN f3
  have pg := hg s3 H3 s3.heap.objs.size (cellsFrom (s3.heap.objs.size + 1) scope.names (cloFrom X.env.cells scope.names [])) fp
  have pt := ht s3 H3 s3.heap.objs.size (cellsFrom (s3.heap.objs.size + 1) scope.names (cloFrom X.env.cells scope.names [])) fp
  have pk := hk s3 H3 s3.heap.objs.size (cellsFrom (s3.heap.objs.size + 1) scope.names (cloFrom X.env.cells scope.names [])) fp
  have pe := he s3 H3 s3.heap.objs.size (cellsFrom (s3.heap.objs.size + 1) scope.names (cloFrom X.env.cells scope.names [])) fp
  show codeAny _ _ (.compStart (.DictComp kx vx [⟨tg, iter, ifs, 0⟩] scope pos) 0 (.ref it) (.ref D) (compEnvC scope (cellsFrom (s3.heap.objs.size + 1) scope.names (cloFrom X.env.cells scope.names [])) s3.heap.objs.size X.env)) (compPost (model X.prog X.w) X.A X.xe use Qf (.ref D) s3.heap.objs.size) { s3 with heap := pushCells (s3.heap.push { cls := .type "dict", data := .dict #[] }) scope.names }
  have nfp : ∀ b ∈ fp, H3 b = none := fun b hb => (f3 b hb).1.1
  generalize hce : compEnvC scope (cellsFrom (s3.heap.objs.size + 1) scope.names (cloFrom X.env.cells scope.names [])) s3.heap.objs.size X.env = ce at I4 pg pt pk pe ⊢
  have cL : ce.locals = s3.heap.objs.size := by subst hce; rfl
  generalize hs4 : ({ s3 with heap := pushCells (s3.heap.push { cls := .type "dict", data := .dict #[] }) scope.names } : Shared) = s4 at I4 ⊢
  have st4 : tn 0 s4.heap := T.keep _ _ _ st3 fun b _ o e => by rw [← hs4]; exact pushCells_keeps _ _ _ _ (Heap.get?_push_of_some _ e)
  let Y : Cx := X.blk s3 H3 scope ce fp
  have stat : ∀ {σ' : L2.St} {H' : Hp} {s' : Shared}, Inv Y [] σ' H' s' → (∀ b ∈ fp, H' b = none) → ∀ b ∈ fp, FpOk Y [] H' b := fun {σ' H' s'} I' hn b hb =>
    ⟨hn b hb, (I'.ok.exf b hb).1, I'.ok.exfs b hb, .inl hb, fun x c e => (I'.ok.exf b hb).2 x c e, fun p hp => by cases hp⟩
  have loop : codeAny (model X.prog X.w) X.A (.compLoop (.DictComp kx vx [⟨tg, iter, ifs, 0⟩] scope pos) 0 (.ref it) (.ref D) ce) (compPost (model X.prog X.w) X.A X.xe use Qf (.ref D) s3.heap.objs.size) s4 := by
    refine compLoop_anyD (fun n s' => ∃ i H', Inv Y [] (wipe σ (own.map (·.2))) H' s' ∧ tn i s'.heap ∧ (∀ b ∈ fp, H' b = none) ∧ W i n H') ?_ m0 ⟨0, H3, I4, st4, nfp, w0⟩
    rintro n s5 ⟨i, H5, I5, st5, n5, w5⟩
    rcases turn i n H5 w5 with ⟨stop, qq⟩ | ⟨go, Nx, hNx, step⟩
    · refine thnF (T.done Y rfl rfl rfl hc i [] s5 _ H5 (fun _ _ => False) I5 (stat I5 n5) st5 stop) fun r s6 ⟨hr, I6⟩ => ?_
      subst hr
      have I7 : Inv X pins σ H5 s6 := I3.call' (ch := fp) I6.os I6.base I6.hok I6.bare fun b hb => ⟨(f3 b hb).1.2.2.2.1, (f3 b hb).1.2.1, (f3 b hb).1.2.2.2.2.1, (f3 b hb).1.2.2.2.2.2⟩
      have nC : H5 s3.heap.objs.size = none := cL ▸ I6.free
      obtain ⟨m, hn, _⟩ := I6.loc
      have hn : s6.heap.Ns ce.locals m := hn
      rw [cL] at hn
      exact hRR D s3.heap.objs.size s6 m H5 I7 qq hn (I3.fpOk (Nat.le_refl _) nC)
    · refine thnF (T.item Y rfl rfl rfl hc i [] s5 _ H5 (fun _ _ => False) I5 (stat I5 n5) st5 go) fun r s6 ⟨u, hr, h6⟩ => ?_
      subst hr
      refine thnF h6 fun _ s7 ⟨x, H7, I7, r7, y7, st7, n7⟩ => ?_
      have I7' := I7.pinned (stat I7 n7) (T.obj _ _ st7)
      refine thnF (pg.run _ s7 _ H7 x u _ I7' r7 (step x H7 y7)) fun _ s8 ⟨σ8, H8, I8, hw8, q8⟩ => ?_
      refine thnF (pt.run _ s8 σ8 H8 _ I8 q8) fun b s9 ⟨H9, I9, q9⟩ => ?_
      have fin : ∀ {s' : Shared} {H' : Hp}, Inv Y ([] ++ pinsAt fp s7.heap) σ8 H' s' → Nx H' → ∃ m, m < n ∧ ∃ i H', Inv Y [] (wipe σ (own.map (·.2))) H' s' ∧ tn i s'.heap ∧ (∀ b ∈ fp, H' b = none) ∧ W i m H' := fun {s' H'} I' nx => by
        obtain ⟨m', hm, w'⟩ := hNx H' nx
        have pin' : ∀ b ∈ fp, ∀ o, s7.heap.get? b = some o → s'.heap.get? b = some o ∧ H' b = none := fun b hb o e =>
          let z := I'.pin (b, o) (List.mem_append_right _ (List.mem_append_right _ (mem_pinsAt hb e)))
          ⟨z.1, z.2.1⟩
        refine ⟨m', hm, i + 1, H', (I'.unpinned (pins := [])).weak (by rw [← hw8, wipe_length]) (fun j v e => (wipe_some (hw8 ▸ e)).1), T.keep _ _ _ st7 fun b hb o e => (pin' b hb o e).1, fun b hb => ?_, w'⟩
        obtain ⟨o, e, _⟩ := T.obj _ _ st7 b hb
        exact (pin' b hb o e).2
      cases b with
      | false => exact fin I9 q9
      | true =>
        refine thnF (pk.run _ s9 σ8 H9 _ I9 q9) fun z s10 ⟨yk, H10, I10, r10, q10⟩ => ?_
        refine thnF (pe.run _ s10 σ8 H10 _ I10 q10) fun z2 s11 ⟨yv, H11, I11, r11, xs, ep, l, bx, nn, hD11, dx11, hz11, pk11, ev, nx⟩ => ?_
        subst ev
        exact dic_set (X := Y) hu I11 hD11 dx11 hz11 pk11 r10 r11 fun xs' ep' s12 dx' I12 => fin I12 (nx xs' ep' dx')
  exact codeAny_compStart_dict loop (T.self X.A 0 _ _ _ st4 loop)
theorem pe_dcB {kx vx tg iter : Expr} {ifs : List Expr} {scope : Scope} {own : List (Str × Nat)} {pos : Pos} {wi : TI} {g : TG} {tt : TT} {tk tv : TE} (hu : X.A.units + 65 < cLine) (hc : X.calm = true) (hN : X.N.Nodup) (hi : PI X tg iter wi) (ok : BlkOk X.N X.env.scope scope own)
    (hg : AllB X scope fun Y => PG Y tg g) (ht : AllB X scope fun Y => PTs Y ifs tt) (hk : AllB X scope fun Y => PE Y kx tk) (he : AllB X scope fun Y => PE Y vx tv) (hs : ∀ x, foldedSetIterable iter X.env x = pure x := by intro _; rfl) :
    PE X (.DictComp kx vx [⟨tg, iter, ifs, 0⟩] scope pos) (tDcB X.K X.prog X.w wi g tt tk tv (own.map (·.2))) := by
  refine ⟨fun pins s σ H Q I h => ?_⟩
  rw [arm_eval_DictComp]
  refine dcB_core hu hc hN I hi ok hg ht hk he hs h fun D C s' m H' I' q hn f => ⟨m, hn, fun h'' sb => ?_⟩
  obtain ⟨f0, f1, f2, f3, f4, f5⟩ := f
  exact ⟨.ref D, H', I'.turned (t' := s'.toks) (fun b o hb e => (sb.2 b hb).trans e) f0 f1 f3 f4 f5, rfl, q⟩
end
end K78

-- part KHoare2
set_option Elab.async false
set_option linter.all false
set_option maxRecDepth 100000
set_option maxHeartbeats 4000000
/-! KHoare2: loops whose body changes objects. -/
namespace K78
open PySem PySem.Spec PyProof.Rows L2
open Evl (Ex ex_t ex_l ex_rd fresh_back)
open Enc (enc)
def del (L : Addr) (H : Hp) : Hp := fun a => if a = L then none else H a
theorem del_self {L : Addr} {H : Hp} : del L H L = none := if_pos rfl
theorem del_ne {L a : Addr} {H : Hp} (h : a ≠ L) : del L H a = H a := if_neg h
theorem del_ex {L : Addr} {H : Hp} : Ex (del L H) H := fun a u e => by
  by_cases h : a = L
  · subst h; rw [del_self] at e; cases e
  · rw [del_ne h] at e; exact e
theorem ex_del {L : Addr} {B H : Hp} (x : Ex B H) (h : B L = none) : Ex B (del L H) := fun a u e => by
  have ne : a ≠ L := fun z => by subst z; rw [h] at e; cases e
  rw [del_ne ne]
  exact x a u e
theorem tup_del {L : Addr} {H : Hp} (n : NT H L) : TupSub H (del L H) := fun a xs r => by
  have ne : a ≠ L := fun e => n xs (e ▸ r)
  rcases r with r | ⟨o, r⟩
  · exact .inl (by rw [del_ne ne]; exact r)
  · exact .inr ⟨o, by rw [del_ne ne]; exact r⟩
/-- what is walked stands in Bof of the heap behind it -/
def iX (Bof : Hp → Hp) (K : PySem.W.Frag) (G : GP) (ds : List PyData) : TI := fun σ H R => G σ H ∧ ∀ (J : It) (H' : Hp) (Y : Nat → Hp → V → Hp → Prop), Ex H H' → L2.Walk J ds.length (fun H => Ex (Bof H') H) Y →
  (∀ i H1 x H2, Ex (Bof H') H1 → Y i H1 x H2 → ∃ d, ds[i]? = some d ∧ Ex H1 H2 ∧ Dp K H2 x d) → R J H'
section
variable {X : Cx} {G N : GP} {R : V → Hp → Prop} {B : Hp} {Γ : En} {pos p tpos : Pos} {tg e e2 iter : Expr} {ds es : List PyData} {body : List Stmt} {g : TG} {vs : List Nat} {elts : List Expr} {kk : Nat}
theorem tg_gb {K : PySem.W.Frag} {Γ' : En} {d : PyData} (h : Tg K g vs d (EnvOk Γ) (EnvOk Γ')) : Tg K g vs d (GB B Γ) (GB B Γ') := fun v σ H Q p g q => h v σ H Q p g.2 fun σ' g' w => q σ' ⟨g.1, g'⟩ w
theorem h1_forX [MG G] (Bof : Hp → Hp) (φ : Hp → Prop) (Gi : Hp → Nat → GP) (hB : ∀ σ H', G σ H' → φ (Bof H') ∧ Ex (Bof H') H') (hc : X.calm = true) (hp : PassesOwn (model X.prog X.w) X.A X.env X.xe) (hi : PI X tg iter (iX Bof X.K G ds)) (hg : PG X tg g)
    (h0 : ∀ B1 σ H, φ B1 → Ex B1 H → G σ H → Gi B1 0 σ H) (hEx : ∀ B1 i σ H, Gi B1 i σ H → Ex B1 H) (mono : ∀ B1 i σ H H', Ex H H' → Gi B1 i σ H → Gi B1 i σ H')
    (hb : ∀ B1, φ B1 → ∀ i d, ds[i]? = some d → ∃ G', Tg X.K g vs d (Gi B1 i) G' ∧ HS X G' body (Gi B1 (i + 1)) R) (hd : ∀ B1 σ H, φ B1 → Gi B1 ds.length σ H → N σ H)
    (hs : ∀ x, foldedSetIterable iter X.env x = pure x := by intro _; rfl) : H1 X G (.For tg iter body [] pos) N R := by
  refine ps_imp (ps_for (tb := fun D σ H => ∃ B1, ∃ i, ∃ d, ∃ G', ∃ _ : φ B1 ∧ ds[i]? = some d ∧ Tg X.K g vs d (Gi B1 i) G' ∧ HS X G' body (Gi B1 (i + 1)) R, tH G' (Gi B1 (i + 1)) R D σ H) hp hc hi hg ⟨fun pins s σ H D I ⟨B1, i, d, G', h, q⟩ => h.2.2.2.run pins s σ H D I q⟩ hs) fun D σ H q => ⟨q.1, fun J H1 Y x1 W yd => ?_⟩
  have g1 : G σ H1 := MG.mono x1 q.1
  obtain ⟨f1, xb⟩ := hB σ H1 g1
  refine for_it (D := D) (g := g) (tb := fun D σ H => ∃ B1, ∃ i, ∃ d, ∃ G', ∃ _ : φ B1 ∧ ds[i]? = some d ∧ Tg X.K g vs d (Gi B1 i) G' ∧ HS X G' body (Gi B1 (i + 1)) R, tH G' (Gi B1 (i + 1)) R D σ H) (σ := σ) W (fun i σ' H' => Gi (Bof H1) i σ' H') (h0 _ _ _ f1 xb g1) (fun i σ' H' _ p => hEx _ i σ' H' p) (fun i x σ' H2 H3 hi p y => ?_) fun σ' H' p => q.2.1 σ' H' (hd _ σ' H' f1 p)
  obtain ⟨d, e1, x3, p3⟩ := yd i H2 x H3 (hEx _ i σ' H2 p) y
  obtain ⟨G', h1, h2⟩ := hb (Bof H1) f1 i d e1
  exact h1 x σ' H3 _ p3 (mono _ _ _ _ _ x3 p) fun σ2 g2 _ => ⟨Bof H1, i, d, G', ⟨f1, e1, h1, h2⟩, g2, fun σ4 H4 n4 => n4, fun v H4 r => q.2.2 v H4 r⟩
/-- the usual loop: one object, at L, changes -/
theorem h1_forL {L : Addr} (Γi : Nat → En) (hL : B L = none) (hc : X.calm = true) (hp : PassesOwn (model X.prog X.w) X.A X.env X.xe) (hi : PI X tg iter (iX (del L) X.K (GB B Γ) ds)) (hg : PG X tg g) (h0 : ∀ σ H, EnvOk Γ σ H → EnvOk (Γi 0) σ H)
    (hb : ∀ B1, Ex B B1 → B1 L = none → ∀ i d, ds[i]? = some d → ∃ Γ', Tg X.K g vs d (EnvOk (Γi i)) (EnvOk Γ') ∧ HS X (GB B1 Γ') body (GB B1 (Γi (i + 1))) R)
    (hs : ∀ x, foldedSetIterable iter X.env x = pure x := by intro _; rfl) : H1 X (GB B Γ) (.For tg iter body [] pos) (GB B (Γi ds.length)) R :=
  h1_forX (vs := vs) (del L) (fun B1 => Ex B B1 ∧ B1 L = none) (fun B1 i => GB B1 (Γi i)) (fun σ H' g => ⟨⟨ex_del g.1 hL, del_self⟩, del_ex⟩) hc hp hi hg (fun B1 σ H _ x g => ⟨x, h0 σ H g.2⟩) (fun B1 i σ H g => g.1) (fun B1 i σ H H' x g => MG.mono x g)
    (fun B1 hB1 i d hd => by
      obtain ⟨Γ', h1, h2⟩ := hb B1 hB1.1 hB1.2 i d hd
      exact ⟨GB B1 Γ', tg_gb h1, h2⟩) (fun B1 σ H hB1 g => ⟨hB1.1.trans g.1, g.2⟩) hs
theorem PI.to {Bof : Hp → Hp} {ds' : List PyData} (h : PI X tg iter (iX Bof X.K G ds)) (e : ds = ds') : PI X tg iter (iX Bof X.K G ds') := e ▸ h
theorem gb_nt {σ : L2.St} {H : Hp} {i : Nat} {L : Addr} {ds : List PyData} {K : PySem.W.Frag} (g : GB B Γ σ H) (h : Γ[i]? = some (some (MLat K L ds))) : NT H L ∧ ∃ u, H L = some u := by
  obtain ⟨v, _, _, us, e, _⟩ := g.2.get i _ h
  exact ⟨NT.lst e, _, e⟩
/-- range -/
theorem dx_range {Bof : Hp → Hp} {n : Nat} (hm : X.mg "range" = none) [MG G] (h : DE X G e (ME X.K n)) (h1 : n < 2 ^ 60 := by omega) (hg : Gl X "range" := by rfl) (hs : starEach [e] X.env = [(false, eval e X.env)] := by rfl)
    (hs2 : starEach [e] X.env = (false, eval e X.env) :: starEach [] X.env := by rfl) : PI X tg (.Call (.Name "range" p) [e] [] pos) (iX Bof X.K G ((List.range n).map enc)) :=
  pi_imp (pi_range1 hg hm (da_cons h da_nil hs2) hs) fun σ H R q => ⟨q.1, fun vs H1 x1 p1 => by
    cases p1 with
    | cons p1 p2 =>
      cases p2
      have e := dp_int p1
      subst e
      have hl : (((List.range n).map enc : List PyData)).length = n := by rw [List.length_map, List.length_range]
      refine ⟨(n : Int), rfl, by omega, by omega, ?_⟩
      refine q.2 _ H1 (fun i H x H' => i < n ∧ H' = H ∧ x = .int (i : Int)) x1 (by rw [hl]; exact walk_range.mono (fun H z => trivial) (fun i H x H' hi _ y => ⟨by simpa using hi, y.1, y.2.trans (by show V.int (0 + (i : Int)) = V.int (i : Int); rw [Int.zero_add])⟩)) fun i H1 x H2 _ y => ?_
      obtain ⟨hi, rfl, rfl⟩ := y
      exact ⟨_, by rw [List.getElem?_map, List.getElem?_range hi]; rfl, Ex.refl _, .int _⟩⟩
/-- a list of the base -/
theorem dx_list0 {Bof : Hp → Hp} (hB : ∀ σ H H', G σ H → Ex H H' → Ex B (Bof H')) (h : DE X G e ((MP.d X.K (.list ds)).at B)) : PI X tg e (iX Bof X.K G ds) := pi_imp (pi_list h) fun σ H R q => ⟨q.1, fun v H1 x1 p1 => by
  obtain ⟨xb, p1⟩ := p1
  obtain ⟨a, us, rfl, hq, hd⟩ := dp_lst p1
  refine ⟨a, rfl, ⟨us, ex_l xb hq⟩, ?_⟩
  have hl := hd.length
  have xB := hB σ H H1 q.1 x1
  refine q.2 _ H1 (YAt us) x1 (by rw [← hl]; exact walk_list.mono (fun H z => ex_l (xB.trans z) hq) (fun i H x H' _ _ y => y)) fun i H2 x H3 z y => ?_
  obtain ⟨rfl, hx⟩ := y
  obtain ⟨d, e1, p⟩ := (DpAll.mono (xB.trans z) _ _ hd).get hx
  exact ⟨d, e1, Ex.refl _, p⟩⟩
/-- zip of two tuples -/
theorem dx_zipT {L : Addr} (hL : ∀ σ H, G σ H → NT H L ∧ ∃ u, H L = some u) (hm : X.mg "zip" = none) [MG G] (h1 : DE X G e (MP.d X.K (.tuple ds))) (h2 : DE X G e2 (MP.d X.K (.tuple es))) (t1 : tO.tOs ds = true) (t2 : tO.tOs es = true) (hg : Gl X "zip" := by rfl)
    (hs : starEach [e, e2] X.env = (false, eval e X.env) :: starEach [e2] X.env := by rfl) (hs2 : starEach [e2] X.env = (false, eval e2 X.env) :: starEach [] X.env := by rfl) (hpl : (backTo pos (starEach [e2] X.env)).any (·.1) = false := by rfl) :
    PI X (.Tuple elts kk tpos) (.Call (.Name "zip" p) [e, e2] [] pos) (iX (del L) X.K G (zipD ds es)) :=
  pi_imp (RZ.pi_zipA hg hm (da_cons h1 (da_cons h2 da_nil hs2) hs) hs hpl) fun σ H R q => ⟨q.1, fun vs H1 x1 p1 => by
    cases p1 with
    | cons p1 p2 =>
      cases p2 with
      | cons p2 p3 =>
        cases p3
        obtain ⟨a, xs, rfl, hq, hd⟩ := dp_tup p1
        obtain ⟨b, ys, rfl, hq2, hd2⟩ := dp_tup p2
        have td : TupSub H1 (del L H1) := tup_del (hL σ H1 (MG.mono x1 q.1)).1
        refine ⟨a, b, xs, ys, rfl, .inr ⟨hq, hq2, ?_⟩⟩
        refine q.2 _ H1 (YPair (fun i => xs[i]?) (fun i => ys[i]?)) x1
          ((walk_zipT (by rw [zipD_length, hd.length, hd2.length])).mono (fun H z => ⟨(td.trans (TupSub.ofEx z)).sq hq, (td.trans (TupSub.ofEx z)).sq hq2⟩) (fun i H x H' _ _ y => y)) fun i H2 x H3 z y => pairY (DpAll.tsub (td.trans (TupSub.ofEx z)) _ _ t1 hd) (DpAll.tsub (td.trans (TupSub.ofEx z)) _ _ t2 hd2) y⟩
end
end K78

-- part KHoare3
set_option Elab.async false
set_option linter.all false
set_option maxRecDepth 100000
set_option maxHeartbeats 4000000
/-! KHoare3: dicts of one's own: made, stored into, walked. -/
namespace K78
open PySem PySem.Spec PyProof.Rows L2
open Evl (Ex ex_t ex_l ex_rd fresh_back)
open Enc (enc)
/-- the dict at D -/
def MDat (K : PySem.W.Frag) (P : Program) (w : World) (D : Addr) (l : Cnt) : MP := ⟨fun v H => v = .ref D ∧ ∃ xs ep, H D = some (dicO P w D xs ep) ∧ DX K H D xs l, fun x ⟨e, xs, ep, h, d⟩ => ⟨e, xs, ep, x _ _ h, d.tsub (TupSub.ofEx x)⟩⟩
theorem MDat.dic {K : PySem.W.Frag} {P : Program} {w : World} {D : Addr} {l : Cnt} {v : V} {H : Hp} (h : (MDat K P w D l).P v H) : (MP.dic K P w l).P v H := by
  obtain ⟨rfl, xs, ep, h1, h2⟩ := h
  exact ⟨D, xs, ep, rfl, h1, h2⟩
theorem NT.dic {P : Program} {w : World} {H : Hp} {D : Addr} {xs : XL} {ep : Nat} (h : H D = some (dicO P w D xs ep)) : NT H D := fun ys r => by
  rcases r with r | ⟨o, r⟩ <;> (rw [h] at r; cases r)
theorem stb_dat {K : PySem.W.Frag} {P : Program} {w : World} {B : Hp} {D d : Addr} {l : Cnt} (hne : d ≠ D) : Stb B D (MDat K P w d l) := fun v H H' xb n k ⟨e, xs, ep, h, dx⟩ => ⟨e, xs, ep, k _ _ hne h, dx.tsub (k.sub n)⟩
def MNewD (K : PySem.W.Frag) (P : Program) (w : World) (B : Hp) (l : Cnt) : MP := ⟨fun v H => ∃ D, B D = none ∧ (MDat K P w D l).P v H, fun x ⟨D, h, p⟩ => ⟨D, h, (MDat K P w D l).mono x p⟩⟩
theorem b_none {B H : Hp} {D : Addr} (x : Ex B H) (h : H D = none) : B D = none := by
  cases e : B D with
  | none => rfl
  | some u => rw [x D u e] at h; cases h
section
variable {X : Cx} {G N : GP} {R : V → Hp → Prop} {B : Hp} {Γ : En} {pos p tpos : Pos} {tg e v c : Expr} {K : PySem.W.Frag} {P : Program} {w : World}
theorem gb_newD {i : Nat} {l : Cnt} {σ : L2.St} {H : Hp} (hi : i < Γ.length) (g : GB B (Γ.set i (some (MNewD K P w B l))) σ H) : ∃ L, B L = none ∧ GB B (Γ.set i (some (MDat K P w L l))) σ H := by
  obtain ⟨xb, g⟩ := g
  obtain ⟨v, e, L, hL, p⟩ := g.get i _ (List.getElem?_set_self hi)
  refine ⟨L, hL, xb, ⟨by rw [g.len, List.length_set, List.length_set], fun j M h => ?_⟩⟩
  by_cases hj : i = j
  · subst hj
    rw [List.getElem?_set_self hi] at h
    cases h
    exact ⟨v, e, p⟩
  · rw [List.getElem?_set_ne hj] at h
    exact g.get j M (by rw [List.getElem?_set_ne hj]; exact h)
theorem gb_dat {σ : L2.St} {H : Hp} {i : Nat} {L : Addr} {l : Cnt} (g : GB B Γ σ H) (h : Γ[i]? = some (some (MDat K P w L l))) : NT H L ∧ ∃ u, H L = some u := by
  obtain ⟨v, _, _, xs, ep, e, _⟩ := g.2.get i _ h
  exact ⟨NT.dic e, _, e⟩
theorem de_dnewB : DE X (GB B Γ) (.Dict [] [] pos) (MNewD X.K X.prog X.w B []) := de_of pe_dnewB fun σ H Q g q r hr hs => q _ _ (Ex.new hr) ⟨r, b_none g.1 hr, rfl, [], 0, upd_same, hs, .nil, List.nodup_nil, Nat.zero_le _⟩
theorem de_disp1B {k : Nat} {b : Box} {n : Int} (hr : Room k X.A) (hb : DE X (EnvOk Γ) e (ME X.K b)) (hv : DE X (EnvOk Γ) v (MI X.K n)) : DE X (GB B Γ) (.Dict [some e] [v] pos) (MNewD X.K X.prog X.w B [(b, n)]) := by
  refine ⟨fun pins s σ H Q I q => ?_⟩
  have hn := I.hok.fresh (Nat.le_refl s.heap.objs.size)
  have hbn := b_none q.1.1 hn
  have hu := un65 hr
  have I1 := I.laid (a := s.heap.objs.size) (o := dicO X.prog X.w s.heap.objs.size [] 0) (h' := s.heap.push { cls := .type "dict", data := .dict #[] }) (t' := s.toks) (fun _ _ q => Heap.get?_push_of_some _ q) (Nat.le_refl _) (dicO_ok (dicR_new s.heap))
  rw [arm_eval_Dict, zip_pairTrees [some e] [v] X.env pos rfl rfl, dictDisplay_pairs _ (by intro z; cases z) (by show 1 < 17; decide)]
  refine wpAny_bind (wpAny_standAt (wpAny_bind (wpAny_subDictH (knd := nestedKind X.prog X.w) (Q := fun d s' => wpAny (model X.prog X.w) X.A (pure (Value.ref d)) (EP X pins σ Q) X.xe s') (by show X.A.units + 8 < cLine; omega) (by show 1 ≤ 15; decide) ?_)))
  have x0 : Ex H (upd H s.heap.objs.size (dicO X.prog X.w s.heap.objs.size [] 0)) := Ex.new hn
  refine thn ((pps_cons hb hv pps_nil).run pins _ σ _ (fun ps H2 => Ex (upd H s.heap.objs.size (dicO X.prog X.w s.heap.objs.size [] 0)) H2 ∧ ∃ k, ps = [(k, .int n)] ∧ Dp X.K H2 k (enc b)) I1 ⟨MG.mono x0 q.1.2, fun k H1 x1 p1 => ⟨MG.mono (x0.trans x1) q.1.2, fun y H2 x2 p2 => ⟨x1.trans x2, k, by rw [dp_int p2], Dp.mono x2 _ _ p1⟩⟩⟩) fun ws s2 ⟨ps, H2, I2, rel, x2, k, ek, pk⟩ => ?_
  subst ek
  cases rel with
  | @cons _ w1 _ _ r rr =>
    cases rr
    obtain ⟨u1, u2⟩ := w1
    obtain ⟨ra, t, rb⟩ := r
    obtain ⟨a, _, rfl, _, _⟩ := dp_tup pk
    cases ra
    cases rb
    have hd2 : H2 s.heap.objs.size = some (dicO X.prog X.w s.heap.objs.size [] 0) := x2 _ _ upd_same
    have dx : DX X.K H2 s.heap.objs.size [] [] := ⟨sys_new I, .nil, List.nodup_nil, Nat.zero_le _⟩
    refine ⟨[(nk b, a, .int n t)], ⟨rfl, rfl, nk_is I2 pk, trivial⟩, dic_of I2 hd2 dx, fun h' tk hm' hs => wpAny_pure ?_⟩
    obtain ⟨ep', r'⟩ := dicR_of hm'
    have I3 := dic_write (tk := tk) I2 hd2 hs r'
    have x3 : Ex H (upd H2 s.heap.objs.size (dicO X.prog X.w s.heap.objs.size (storedAllH [] [(nk b, a, .int n t)]) ep')) := Ex.mut (x0.trans x2) hn
    refine ⟨.ref s.heap.objs.size, _, I3, rfl, q.2 _ _ x3 ⟨_, hbn, rfl, _, _, upd_same, ?_⟩⟩
    have dx' : DX X.K H2 s.heap.objs.size [(nk b, a, .int n t)] [(b, n)] := ⟨dx.sys, .cons ⟨rfl, pk, t, rfl⟩ .nil, List.nodup_cons.mpr ⟨by simp, List.nodup_nil⟩, by show 1 ≤ 100000; decide⟩
    exact dx'.tsub (TupSub.put hd2 (fun _ e => nomatch e) (fun _ _ e => nomatch e))
/-- dict(d): no two of its keys hash alike -/
def HashOk (P : Program) (w : World) (l : Cnt) : Prop := (l.map fun p => (nestedKind P w).hash (nk p.1)).Nodup
theorem rel_hash {H : Hp} : ∀ {xs : XL} {l : Cnt}, Paired (RX K H) xs l → (xs.map fun x => (nestedKind P w).hash x.1) = l.map fun p => (nestedKind P w).hash (nk p.1)
  | _, _, .nil => rfl
  | _, _, .cons r t => by rw [List.map_cons, List.map_cons, r.1, rel_hash t]
theorem de_dictB {k : Nat} {l : Cnt} (hr : Room k X.A) (hm : X.mg "dict" = none) (he : DE X (EnvOk Γ) e (MP.dic X.K X.prog X.w l)) (hh : HashOk X.prog X.w l) (hg : Gl X "dict" := by rfl)
    (hs2 : starEach [e] X.env = (false, eval e X.env) :: starEach [] X.env := by rfl) : DE X (GB B Γ) (.Call (.Name "dict" p) [e] [] pos) (MNewD X.K X.prog X.w B l) :=
  de_of (pe_callTy (cr_dictB (un65 hr)) hg hm bt_dict (da_cons (de_gb (B := B) he) da_nil hs2) (by decide) (by decide) hs2) fun σ H Q g q => ⟨g, fun vs H1 x1 p1 => by
    obtain ⟨v, rfl, h⟩ := allP1 p1
    obtain ⟨d, xs, ep, rfl, hd, dx⟩ := h
    refine ⟨d, xs, ep, l, rfl, hd, dx, ?_, fun p ep' hp dx' => q _ _ (x1.trans (Ex.new hp)) ⟨p, b_none (g.1.trans x1) hp, rfl, xs, ep', upd_same, dx'.tsub (TupSub.ofEx (Ex.new hp))⟩⟩
    rw [rel_hash dx.rel]
    exact hh⟩
/-- d[b] = e -/
theorem h1_store (i : Nat) {L : Addr} {l : Cnt} {b : Box} {n : Int} {k : Nat} {o c : Expr} {tpos : Pos} (hr : Room k X.A) (hi : Γ[i]? = some (some (MDat X.K X.prog X.w L l))) (hL : B L = none) (ho : DE X (EnvOk Γ) o (MDat X.K X.prog X.w L l)) (hb : DE X (EnvOk Γ) c (ME X.K b)) (he : DE X (EnvOk Γ) e (MI X.K n)) (hz : l.length < 100000) (hs : AllS (Stb B L) (Γ.set i none))
    (ha : ∀ v, assign (.Subscript o c tpos) X.env v = (do
      let ov ← holding [v] (eval o X.env)
      let iv ← holding [v, ov] (eval c X.env)
      standAt tpos
      holding [v, ov, iv] (setItem ov iv v)
      release [v, ov, iv] []) := by intro _; rfl)
    (hsw : swapsWithSole [.Subscript o c tpos] e pos.line X.env = pure false := by rfl) (hw : swappedStores [.Subscript o c tpos] e X.env = pure none := by rfl) :
    H1 X (GB B Γ) (.Assign [.Subscript o c tpos] e pos) (GB B (Γ.set i (some (MDat X.K X.prog X.w L (putC l b n))))) R := by
  refine ps_imp (ps_asg (de_gb (B := B) he) (pg_sub (de_gb (B := B) ho) (de_gb (B := B) hb) (set_dicB (un65 hr)) ha) hsw hw) fun D σ H q => ?_
  refine ⟨q.1, fun v1 H1 x1 p1 => ?_⟩
  refine ⟨MG.mono x1 q.1, fun v2 H2 x2 p2 => ⟨MG.mono (x1.trans x2) q.1, fun v3 H3 x3 p3 => ?_⟩⟩
  obtain ⟨rfl, xs, ep, h1, dx⟩ := p2
  have g3 : GB B Γ σ H3 := MG.mono ((x1.trans x2).trans x3) q.1
  have h3 := x3 _ _ h1
  have dx3 := dx.tsub (TupSub.ofEx x3)
  refine ⟨L, xs, ep, l, b, n, rfl, h3, dx3, hz, p3, dp_int p1, fun xs' ep' dx' => ?_⟩
  obtain ⟨xb, g4⟩ := g3
  obtain ⟨v0, ev, pv⟩ := g4.get i _ hi
  obtain ⟨rfl, _⟩ := pv
  have il : i < Γ.length := (List.getElem?_eq_some_iff.mp hi).1
  refine q.2.1 σ _ ⟨ex_kp xb hL Kp.upd, ?_⟩
  have g5 : EnvOk (Γ.set i none) σ (upd H3 L (dicO X.prog X.w L xs' ep')) := (g4.drop i).kp hs xb (NT.dic h3) Kp.upd
  have g6 := g5.set i (M := MDat X.K X.prog X.w L (putC l b n)) (v := .ref L) ⟨rfl, xs', ep', upd_same, dx'.tsub (Kp.upd.sub (NT.dic h3))⟩
  rw [List.set_set] at g6
  have e1 : σ.set i (some (.ref L)) = σ := by
    obtain ⟨hlt, e2⟩ := List.getElem?_eq_some_iff.mp ev
    rw [← e2]
    exact List.set_getElem_self hlt
  rw [e1] at g6
  exact g6
/-- d.items() -/
theorem dx_items {Bof : Hp → Hp} {l : Cnt} {M : MP} {apos cpos : Pos} {elts : List Expr} {kk : Nat} [MG G] (he : DE X G e M) (hM : ∀ σ v H, G σ H → M.P v H → ∃ d xs ep, v = .ref d ∧ H d = some (dicO X.prog X.w d xs ep) ∧ Bof H d = some (dicO X.prog X.w d xs ep) ∧ DX X.K (Bof H) d xs l ∧ DX X.K H d xs l)
    (hbase : attributeBase e "items" X.env (eval e X.env) = eval e X.env := by rfl) (hline : (apos.endLine == cpos.line) = true := by rfl) :
    PI X (.Tuple elts kk tpos) (.Call (.Attribute e "items" apos) [] [] cpos) (iX Bof X.K G (cntD l)) := pi_imp (pi_itemsB he hbase hline) fun σ H R q => ⟨q.1, fun v H1 x1 p1 => by
  obtain ⟨d, xs, ep, rfl, h0, hd, dx, dx0⟩ := hM σ v H1 (MG.mono x1 q.1) p1
  refine ⟨d, xs, ep, l, rfl, h0, dx0, ?_⟩
  exact q.2 _ H1 _ x1 (by rw [cntD_length]; exact walk_itemsB.mono (fun H z => ⟨z _ _ hd, dx.tsub (TupSub.ofEx z)⟩) (fun i H x H' _ _ y => y)) fun i H2 x H3 _ y => y⟩
/-- the start told exactly -/
theorem h1_now {st : Stmt} (h : ∀ σ0 H0, G σ0 H0 → H1 X (fun σ H => σ = σ0 ∧ H = H0) st N R) : H1 X G st N R := ⟨fun pins s σ H D I q => (h σ H q.1).run pins s σ H D I ⟨⟨rfl, rfl⟩, q.2⟩⟩
theorem tg_ex {α : Type} {K : PySem.W.Frag} {g : TG} {vs : List Nat} {d : PyData} {Ga Ga' : α → GP} (h : ∀ a, Tg K g vs d (Ga a) (Ga' a)) : Tg K g vs d (fun σ H => ∃ a, Ga a σ H) (fun σ H => ∃ a, Ga' a σ H) := fun v σ H Q p ⟨a, g⟩ q => h a v σ H Q p g fun σ' g' w => q σ' ⟨a, g'⟩ w
theorem tg_pure {φ : Prop} {K : PySem.W.Frag} {g : TG} {vs : List Nat} {d : PyData} {G G' : GP} (h : Tg K g vs d G G') : Tg K g vs d (fun σ H => φ ∧ G σ H) (fun σ H => φ ∧ G' σ H) := fun v σ H Q p g q => h v σ H Q p g.2 fun σ' g' w => q σ' ⟨g.1, g'⟩ w
/-- x = a comprehension -/
theorem h1_setC (i : Nat) {x : Str} {pos' : Pos} {M : MP} (he : DC X (GB B Γ) e M) (hi : X.N[i]? = some x := by rfl) (hx : X.env.scope.names.lookup x = some .local := by rfl) (hs : swapsWith e (some (.Name x pos')) pos.line X.env = pure true := by rfl) :
    H1 X (GB B Γ) (.Assign [.Name x pos'] e pos) (GB B (Γ.set i (some M))) R := let ⟨_, c, k⟩ := he; ps_imp (c.asg i x pos' pos hi hx hs) fun D σ H q =>
  k σ H _ q.1 fun v H' x p => q.2.1 _ H' ⟨q.1.1.trans x, (MG.mono x q.1.2).set i p⟩
theorem putC_new {l : Cnt} {b : Box} {n : Int} (h : b ∉ l.map (·.1)) : putC l b n = l ++ [(b, n)] := by
  unfold putC
  rw [if_neg h]
theorem ps_setDcB {i : Nat} {y : Str} {py : Pos} {kx vx tg iter : Expr} {ifs : List Expr} {scope : Scope} {own : List (Str × Nat)} {pos spos : Pos} {wi : TI} {g : TG} {tt : TT} {tk tv : TE} (hu : X.A.units + 65 < cLine) (hc : X.calm = true) (hN : X.N.Nodup) (hy : X.N[i]? = some y) (hyl : X.env.scope.names.lookup y = some .local)
    (hsw : swapsWith (.DictComp kx vx [⟨tg, iter, ifs, 0⟩] scope pos) (some (.Name y py)) spos.line X.env = pure true) (hi : PI X tg iter wi) (ok : BlkOk X.N X.env.scope scope own)
    (hg : AllB X scope fun Y => PG Y tg g) (ht : AllB X scope fun Y => PTs Y ifs tt) (hk : AllB X scope fun Y => PE Y kx tk) (he : AllB X scope fun Y => PE Y vx tv) (hs : ∀ x, foldedSetIterable iter X.env x = pure x := by intro _; rfl) :
    PS X (.Assign [.Name y py] (.DictComp kx vx [⟨tg, iter, ifs, 0⟩] scope pos) spos) (tAsg (tDcB X.K X.prog X.w wi g tt tk tv (own.map (·.2))) (gName i)) := by
  refine ⟨fun pins s σ H D I h => ?_⟩
  rw [exec_Assign_Name_used _ _ _ _ hsw]
  refine wpAny_bind (wpAny_standAt (wpAny_bind ?_))
  show wpAny _ X.A (do let _ ← comprehension (.DictComp kx vx [⟨tg, iter, ifs, 0⟩] scope pos) scope X.env (firstIterPos [⟨tg, iter, ifs, 0⟩] pos) newDict false (eval iter X.env) (some (assign (.Name y py) X.env))) _ _ s
  have h : tDcB X.K X.prog X.w wi g tt tk tv (own.map (·.2)) σ H (fun x H1 => gName i x σ H1 D.nx) := h
  refine wpAny_bind (thn (dcB_core (Qf := fun _ s' => SP X pins D .next s') hu hc hN I hi ok hg ht hk he hs h fun L C s' m H' I' q hn f => ?_) fun _ s' hq => wpAny_pure (wpAny_pure hq))
  show wpAny _ _ (assign (.Name y py) X.env (.ref L)) _ _ _
  refine wpAny_assign_Name (store_ok2 (v := V.ref L) I' hN hy (.inl hyl) rfl (fun s2 I2 ⟨a, sb, ha⟩ => ?_) (.inr hyl))
  obtain ⟨f0, f1, f2, f3, f4, f5⟩ := f
  have haC : C ≠ a := by
    rcases ha with z | z
    · rw [z]; exact f1
    · exact fun e => f4 y a z e.symm
  refine ⟨m, hn.sameBut sb haC, fun h3 sb3 => ?_⟩
  exact ⟨_, H', I2.turned (t' := s2.toks) (fun b o hb e => (sb3.2 b hb).trans e) f0 f1 f3 f4 f5, q⟩
/-- {k: v for .. in d.items() if ..} -/
theorem dc_dcF {l : Cnt} {kx vx iter : Expr} {ifs : List Expr} {scope : Scope} {g : TG} {k : Nat} (own : List (Str × Nat)) (cond : Box × Int → Bool) (Γ' : Box × Int → En) (hr : Room k X.A) (hc : X.calm = true) (hN : X.N.Nodup)
    (hi : DI X (EnvOk Γ) tg iter (cntD l)) (hnd : (l.map (·.1)).Nodup) (hz : l.length ≤ 90000) (ok : BlkOk X.N X.env.scope scope own) (hg : AllB X scope fun Y => PG Y tg g)
    (htg : ∀ z ∈ l, Tg X.K g (own.map (·.2)) (.tuple [enc z.1, .int z.2]) (EnvOk (wipeG Γ (own.map (·.2)))) (EnvOk (Γ' z)))
    (ht : ∀ z ∈ l, AllB X scope fun Y => DTs Y (EnvOk (Γ' z)) ifs (cond z))
    (hk : ∀ z ∈ l, AllB X scope fun Y => DE Y (EnvOk (Γ' z)) kx (ME X.K z.1)) (hv : ∀ z ∈ l, AllB X scope fun Y => DE Y (EnvOk (Γ' z)) vx (MI X.K z.2)) (hs : ∀ x, foldedSetIterable iter X.env x = pure x := by intro _; rfl) :
    DC X (GB B Γ) (.DictComp kx vx [⟨tg, iter, ifs, 0⟩] scope pos) (MNewD X.K X.prog X.w B (l.filter cond)) := by
  have HT : AllB X scope fun Y => PTs Y ifs (fun σ H Q => ∃ z, ∃ _ : z ∈ l, tT (EnvOk (Γ' z)) (cond z) σ H Q) := fun s H C cl fp => ⟨fun pins s' σ H' Q I ⟨z, hz, q⟩ => (ht z hz s H C cl fp).run pins s' σ H' Q I q⟩
  have HK : AllB X scope fun Y => PE Y kx (fun σ H Q => ∃ z, ∃ h : z ∈ l, tP (EnvOk (Γ' z)) (ME X.K z.1) σ H Q) := fun s H C cl fp => ⟨fun pins s' σ H' Q I ⟨z, hz, q⟩ => (hk z hz s H C cl fp).run pins s' σ H' Q I q⟩
  have HV : AllB X scope fun Y => PE Y vx (fun σ H Q => ∃ z, ∃ h : z ∈ l, tP (EnvOk (Γ' z)) (MI X.K z.2) σ H Q) := fun s H C cl fp => ⟨fun pins s' σ H' Q I ⟨z, hz, q⟩ => (hv z hz s H C cl fp).run pins s' σ H' Q I q⟩
  refine ⟨_, ⟨pe_dcB (own := own) (un65 hr) hc hN hi ok hg HT HK HV hs, fun i y py spos hy hl hsw => ps_setDcB (own := own) (un65 hr) hc hN hy hl hsw hi ok hg HT HK HV hs⟩, fun σ H Q g0 q => ⟨g0.2, fun J H1 Gs Y x1 mono g1 W yd => ?_⟩⟩
  intro D hD hsys
  rw [cntD_length] at W
  refine ⟨fun i m H => m = l.length - i ∧ i ≤ l.length ∧ Ex H1 H ∧ ∃ xs ep, H D = some (dicO X.prog X.w D xs ep) ∧ DX X.K H D xs ((l.take i).filter cond), ⟨l.length, by simp, Nat.zero_le _, Ex.new hD, [], 0, upd_same, hsys, .nil, List.nodup_nil, Nat.zero_le _⟩, ?_⟩
  rintro i m H2 ⟨rfl, hi2, x2, xs, ep, hd2, dx⟩
  have gs := mono _ _ x2 g1
  by_cases hlt : i < l.length
  · refine .inr ⟨W.goes i H2 hlt gs, fun H => Ex H1 H ∧ ∃ xs ep, H D = some (dicO X.prog X.w D xs ep) ∧ DX X.K H D xs ((l.take (i + 1)).filter cond), fun H' h => ⟨l.length - (i + 1), by omega, rfl, hlt, h⟩, fun x H3 y => ?_⟩
    obtain ⟨d, e1, x3, p3⟩ := yd i H2 x H3 gs (W.yields i H2 x H3 hlt gs y)
    unfold cntD at e1
    rw [List.getElem?_map] at e1
    obtain ⟨z, e4, e2⟩ := Option.map_eq_some_iff.mp e1
    subst e2
    have hzm : z ∈ l := List.mem_of_getElem? e4
    have hstep := take_filter cond e4
    refine htg z hzm x (wipe σ (own.map (·.2))) H3 _ p3 ((MG.mono ((x1.trans x2).trans x3) g0.2).wipe _) ?_
    intro σ' g' w'
    refine ⟨w'.trans (wipe_wipe _ _), ⟨z, hzm, g', fun H4 x4 => ?_⟩⟩
    have h4 := x4 _ _ (x3 _ _ hd2)
    have dx4 := dx.tsub (TupSub.ofEx (x3.trans x4))
    cases hcz : cond z with
    | false =>
      dsimp only
      rw [if_neg (by decide)]
      refine ⟨(x2.trans x3).trans x4, xs, ep, h4, ?_⟩
      rw [hstep, hcz, if_neg (by decide), List.append_nil]
      exact dx4
    | true =>
      dsimp only
      rw [if_pos rfl]
      refine ⟨z, hzm, MG.mono x4 g', fun y5 H5 x5 p5 => ⟨z, hzm, MG.mono (x4.trans x5) g', fun y6 H6 x6 p6 => ?_⟩⟩
      have h6 := x6 _ _ (x5 _ _ h4)
      have dx6 := dx4.tsub (TupSub.ofEx (x5.trans x6))
      have hfl : ((l.take i).filter cond).length ≤ i := Nat.le_trans (List.length_filter_le _ _) (by rw [List.length_take]; omega)
      refine ⟨xs, ep, _, z.1, z.2, h6, dx6, by omega, Dp.mono x6 _ _ p5, dp_int p6, fun xs' ep' dx' => ⟨Ex.mut ((((x2.trans x3).trans x4).trans x5).trans x6) hD, xs', ep', upd_same, ?_⟩⟩
      have hnew : z.1 ∉ ((l.take i).filter cond).map (·.1) := fun hm => by
        obtain ⟨p, hp, e⟩ := List.mem_map.mp hm
        have hp := (List.mem_filter.mp hp).1
        have e0 : l = l.take i ++ z :: l.drop (i + 1) := by
          have e5 := (List.getElem?_eq_some_iff.mp e4).2
          rw [← e5, List.getElem_cons_drop, List.take_append_drop]
        rw [e0, List.map_append, List.map_cons] at hnd
        obtain ⟨_, _, h3⟩ := List.nodup_append.mp hnd
        exact h3 p.1 (List.mem_map.mpr ⟨p, hp, rfl⟩) z.1 List.mem_cons_self e
      rw [putC_new hnew] at dx'
      rw [hstep, hcz, if_pos rfl]
      exact dx'.tsub (Kp.upd.sub (NT.dic h6))
  · have e : i = l.length := by omega
    subst e
    refine .inl ⟨W.stops H2 gs, q _ _ (x1.trans x2) ⟨D, b_none (g0.1.trans x1) hD, rfl, xs, ep, hd2, ?_⟩⟩
    rw [List.take_length] at dx
    exact dx
end
end K78

-- part KLc2
set_option Elab.async false
set_option linter.all false
set_option maxRecDepth 100000
set_option maxHeartbeats 4000000
/-! KLc2: comprehensions with two fors; a comprehension's list as one's own; extend; parallel assignment; min(.., default=None). -/
namespace K78
open PySem PySem.Spec PyProof.Rows L2
open Evl (Ex ex_t ex_l ex_rd fresh_back)
open Enc (enc)
/-- a tuple walked, whatever happens to what is no tuple -/
def iTp (K : PySem.W.Frag) (G : GP) (ds : List PyData) : TI := fun σ H R => G σ H ∧ ∀ (J : It) (H' : Hp) (Gs : Hp → Prop) (Y : Nat → Hp → V → Hp → Prop), Ex H H' → (∀ H1 H2, TupSub H1 H2 → Gs H1 → Gs H2) → Gs H' → L2.Walk J ds.length Gs Y →
  (∀ i H1 x H2, Gs H1 → Y i H1 x H2 → ∃ d, ds[i]? = some d ∧ Ex H1 H2 ∧ Dp K H2 x d) → R J H'
section
variable {X : Cx} {G : GP} {tg e : Expr} {ds : List PyData} {pos : Pos}
theorem dt_tup (h : DE X G e (MP.d X.K (.tuple ds))) (ht : tO.tOs ds = true) : PI X tg e (iTp X.K G ds) := pi_imp (pi_tup h) fun σ H R q => ⟨q.1, fun v H1 x1 p1 => by
  obtain ⟨a, vs, rfl, hq, hd⟩ := dp_tup p1
  refine ⟨a, rfl, ⟨vs, hq⟩, ?_⟩
  have hl := hd.length
  refine q.2 _ H1 (fun H => SqT X.K H a vs ∧ DpAll X.K H vs ds) _ x1 (fun H1 H2 x z => ⟨x.sq z.1, DpAll.tsub x _ _ ht z.2⟩) ⟨hq, hd⟩ ((show Walk (Itt X.K a) ds.length (fun H => SqT X.K H a vs ∧ DpAll X.K H vs ds) (YAt vs) by rw [← hl]; exact walk_tup.mono (fun H z => z.1) (fun i H x H' _ _ y => y))) fun i H1 x H2 z y => ?_
  obtain ⟨rfl, hx⟩ := y
  obtain ⟨d, e1, p⟩ := z.2.get hx
  exact ⟨d, e1, Ex.refl _, p⟩⟩
theorem flat_take {β γ : Type} {zs : List β} {i : Nat} {z : β} (F : β → List γ) (h : zs[i]? = some z) : ((zs.take (i + 1)).flatMap F) = (zs.take i).flatMap F ++ F z := by
  rw [List.take_add_one, h]
  show (zs.take i ++ [z]).flatMap F = _
  rw [List.flatMap_append]
  simp
/-- [elt for z in iter for w in iter1 if ..] -/
theorem dc_lc2X {β γ : Type} {Γ : En} (zs : List β) (hd : β → PyData) (ws : List γ) (hd1 : γ → PyData) (cond : β → γ → Bool) (f : β → γ → PyData) (j : Nat) (Γ'' : β → γ → En) {elt tg iter tg1 iter1 : Expr} {ifs1 : List Expr} {scope : Scope} {g1 : TG} (own : List (Str × Nat)) (vs1 : List Nat) (hc : X.calm = true) (hN : X.N.Nodup)
    (hi : DI X (EnvOk Γ) tg iter (zs.map hd)) (ok : BlkOk X.N X.env.scope scope own) (hv : ∀ i ∈ vs1, i ∈ own.map (·.2)) (hj : j ∈ own.map (·.2)) (hg : AllB X scope fun Y => PG Y tg (gName j)) (hg1 : AllB X scope fun Y => PG Y tg1 g1)
    (hi1 : ∀ z ∈ zs, AllB X scope fun Y => PI Y tg1 iter1 (iTp X.K (EnvOk ((wipeG Γ (own.map (·.2))).set j (some (MP.d X.K (hd z))))) (ws.map hd1)))
    (htg1 : ∀ z ∈ zs, ∀ w ∈ ws, Tg X.K g1 vs1 (hd1 w) (EnvOk (wipeG ((wipeG Γ (own.map (·.2))).set j (some (MP.d X.K (hd z)))) vs1)) (EnvOk (Γ'' z w)))
    (ht1 : ∀ z ∈ zs, ∀ w ∈ ws, AllB X scope fun Y => DTs Y (EnvOk (Γ'' z w)) ifs1 (cond z w))
    (he : ∀ z ∈ zs, ∀ w ∈ ws, cond z w = true → AllB X scope fun Y => DE Y (EnvOk (Γ'' z w)) elt (MP.d X.K (f z w)))
    (hto : ∀ z ∈ zs, ∀ w ∈ ws, tO (f z w) = true) (htz : ∀ z ∈ zs, tO (hd z) = true) (hz : zs.length * ws.length ≤ 100000) (hs : ∀ x, foldedSetIterable iter X.env x = pure x := by intro _; rfl) (hs1 : ∀ env x, foldedSetIterable iter1 env x = pure x := by intro _ _; rfl) :
    ∃ te, CompOk X (.ListComp elt [⟨tg, iter, [], 0⟩, ⟨tg1, iter1, ifs1, 0⟩] scope pos) te ∧ ∀ σ H Q, EnvOk Γ σ H → (∀ L us H1 H', Ex H H1 → H1 L = none → Ex H H' → H' L = some (.lst us) → DpAll X.K H' us (zs.flatMap fun z => (ws.filter (cond z)).map (f z)) → Q (.ref L) H') → te σ H Q := by
  have HT0 : AllB X scope fun Y => PTs Y [] (fun σ H Q => Q true H) := fun s H C cl fp => pts_nil
  have HI1 : AllB X scope fun Y => PI Y tg1 iter1 (fun σ H R => ∃ z, ∃ _ : z ∈ zs, iTp X.K (EnvOk ((wipeG Γ (own.map (·.2))).set j (some (MP.d X.K (hd z))))) (ws.map hd1) σ H R) := fun s H C cl fp => ⟨fun pins s' σ H' R I ⟨z, hz, q⟩ => (hi1 z hz s H C cl fp).run pins s' σ H' R I q⟩
  have HT : AllB X scope fun Y => PTs Y ifs1 (fun σ H Q => ∃ z, ∃ w, ∃ _ : z ∈ zs ∧ w ∈ ws, tT (EnvOk (Γ'' z w)) (cond z w) σ H Q) := fun s H C cl fp => ⟨fun pins s' σ H' Q I ⟨z, w, hz, q⟩ => (ht1 z hz.1 w hz.2 s H C cl fp).run pins s' σ H' Q I q⟩
  have HE : AllB X scope fun Y => PE Y elt (fun σ H Q => ∃ z, ∃ w, ∃ h : (z ∈ zs ∧ w ∈ ws) ∧ cond z w = true, tP (EnvOk (Γ'' z w)) (MP.d X.K (f z w)) σ H Q) := fun s H C cl fp => ⟨fun pins s' σ H' Q I ⟨z, w, hz, q⟩ => (he z hz.1.1 w hz.1.2 hz.2 s H C cl fp).run pins s' σ H' Q I q⟩
  refine ⟨_, ⟨pe_lc2 (own := own) (vs1 := vs1) hc hN hi ok hv hg HT0 HI1 hg1 HT HE hs hs1, fun i y py spos hy hl hsw => ps_setLc2 (own := own) (vs1 := vs1) hc hN hy hl hsw hi ok hv hg HT0 HI1 hg1 HT HE hs hs1⟩, fun σ H Q g0 q => ⟨g0, fun J H1 Gs Y x1 mono gs1 W yd => ?_⟩⟩
  intro D hD
  rw [List.length_map] at W
  refine ⟨fun i m H => m = zs.length - i ∧ i ≤ zs.length ∧ Ex H1 H ∧ ∃ us, H D = some (.lst us) ∧ us.length ≤ i * ws.length ∧ DpAll X.K H us ((zs.take i).flatMap fun z => (ws.filter (cond z)).map (f z)), ⟨zs.length, by simp, Nat.zero_le _, Ex.new hD, [], upd_same, Nat.zero_le _, .nil⟩, ?_⟩
  rintro i m H2 ⟨rfl, hi2, x2, us, hu, hul, hda⟩
  have gs := mono _ _ x2 gs1
  by_cases hlt : i < zs.length
  · refine .inr ⟨W.goes i H2 hlt gs, fun H => Ex H1 H ∧ ∃ us, H D = some (.lst us) ∧ us.length ≤ (i + 1) * ws.length ∧ DpAll X.K H us ((zs.take (i + 1)).flatMap fun z => (ws.filter (cond z)).map (f z)), fun H' h => ⟨zs.length - (i + 1), by omega, rfl, hlt, h⟩, fun x H3 y => ?_⟩
    obtain ⟨d, e1, x3, p3⟩ := yd i H2 x H3 gs (W.yields i H2 x H3 hlt gs y)
    rw [List.getElem?_map] at e1
    obtain ⟨z, e4, e2⟩ := Option.map_eq_some_iff.mp e1
    subst e2
    have hzm : z ∈ zs := List.mem_of_getElem? e4
    have hzt := htz z hzm
    refine ⟨wipe_set hj |>.trans (wipe_wipe _ _), ?_⟩
    dsimp only
    rw [if_pos rfl]
    generalize hσ2 : (wipe σ (own.map (·.2))).set j (some x) = σ2
    have env2 : ∀ {H'}, Ex H1 H' → Dp X.K H' x (hd z) → EnvOk ((wipeG Γ (own.map (·.2))).set j (some (MP.d X.K (hd z)))) σ2 H' := fun {H'} xe p => by
      rw [← hσ2]
      exact ((MG.mono (x1.trans xe) g0).wipe _).set j (M := MP.d X.K (hd z)) p
    refine ⟨z, hzm, env2 (x2.trans x3) p3, fun J1 H4 Gs1 Y1 x4 mono1 gsa W1 yd1 => ?_⟩
    rw [List.length_map] at W1
    have h4 := x4 _ _ (x3 _ _ hu)
    have base4 : Ex H1 H4 := (x2.trans x3).trans x4
    refine ⟨fun k m H => m = ws.length - k ∧ k ≤ ws.length ∧ Ex H1 H ∧ TupSub H4 H ∧ ∃ us', H D = some (.lst us') ∧ us'.length ≤ us.length + k ∧ DpAll X.K H us' (((zs.take i).flatMap fun z => (ws.filter (cond z)).map (f z)) ++ ((ws.take k).filter (cond z)).map (f z)), ⟨ws.length, by simp, Nat.zero_le _, base4, TupSub.ofEx (Ex.refl _), us, h4, Nat.le_refl _, by simpa using DpAll.mono (x3.trans x4) _ _ hda⟩, ?_⟩
    rintro k m5 H5 ⟨rfl, hk, x5, ts5, us5, hu5, hul5, hda5⟩
    have gs5 := mono1 _ _ ts5 gsa
    have p5 : Dp X.K H5 x (hd z) := Dp.tsub ts5 _ _ hzt (Dp.mono x4 _ _ p3)
    by_cases hlt2 : k < ws.length
    · refine .inr ⟨W1.goes k H5 hlt2 gs5, fun H => Ex H1 H ∧ TupSub H4 H ∧ ∃ us', H D = some (.lst us') ∧ us'.length ≤ us.length + (k + 1) ∧ DpAll X.K H us' (((zs.take i).flatMap fun z => (ws.filter (cond z)).map (f z)) ++ ((ws.take (k + 1)).filter (cond z)).map (f z)), fun H' h => ⟨ws.length - (k + 1), by omega, rfl, hlt2, h⟩, fun x' H6 y' => ?_⟩
      obtain ⟨d', e1', x6, p6⟩ := yd1 k H5 x' H6 gs5 (W1.yields k H5 x' H6 hlt2 gs5 y')
      rw [List.getElem?_map] at e1'
      obtain ⟨w, e4', e2'⟩ := Option.map_eq_some_iff.mp e1'
      subst e2'
      have hwm : w ∈ ws := List.mem_of_getElem? e4'
      have hstep := take_filter (cond z) e4'
      refine htg1 z hzm w hwm x' (wipe σ2 vs1) H6 _ p6 ((env2 (x5.trans x6) (Dp.mono x6 _ _ p5)).wipe _) ?_
      intro σ' g' w'
      refine ⟨w'.trans (wipe_wipe _ _), ⟨z, w, ⟨hzm, hwm⟩, g', fun H7 x7 => ?_⟩⟩
      cases hcz : cond z w with
      | false =>
        dsimp only
        rw [if_neg (by decide)]
        refine ⟨(x5.trans x6).trans x7, ts5.trans (TupSub.ofEx (x6.trans x7)), us5, x7 _ _ (x6 _ _ hu5), by omega, ?_⟩
        rw [hstep, hcz, if_neg (by decide), List.append_nil]
        exact DpAll.mono (x6.trans x7) _ _ hda5
      | true =>
        dsimp only
        rw [if_pos rfl]
        refine ⟨z, w, ⟨⟨hzm, hwm⟩, hcz⟩, MG.mono x7 g', fun v H8 x8 p8 => ?_⟩
        have hu8 : H8 D = some (.lst us5) := x8 _ _ (x7 _ _ (x6 _ _ hu5))
        have hbd : us5.length < 100000 := by
          have h1 : i * ws.length + ws.length ≤ zs.length * ws.length := by
            rw [← Nat.succ_mul]
            exact Nat.mul_le_mul_right _ hlt
          omega
        refine ⟨us5, hu8, Nat.lt_of_lt_of_le hbd (by decide), Ex.mut (((x5.trans x6).trans x7).trans x8) hD, ?_, us5 ++ [v], upd_same, by rw [List.length_append]; simp; omega, ?_⟩
        · exact (ts5.trans (TupSub.ofEx ((x6.trans x7).trans x8))).trans (TupSub.lst hu8)
        · rw [hstep, hcz, if_pos rfl, List.map_append, ← List.append_assoc]
          have ts : TupSub H8 (upd H8 D (.lst (us5 ++ [v]))) := TupSub.lst hu8
          refine DpAll.append (DpAll.tsub ts _ _ (tOs_all.mpr fun d hd => ?_) (DpAll.mono ((x6.trans x7).trans x8) _ _ hda5)) (.cons (Dp.tsub ts _ _ (hto z hzm w hwm) p8) .nil)
          rcases List.mem_append.mp hd with hd | hd
          · obtain ⟨z', hz', hd'⟩ := List.mem_flatMap.mp hd
            obtain ⟨w', hw', rfl⟩ := List.mem_map.mp hd'
            exact hto z' (List.mem_of_mem_take hz') w' (List.mem_filter.mp hw').1
          · obtain ⟨w', hw', rfl⟩ := List.mem_map.mp hd
            exact hto z hzm w' (List.mem_of_mem_take (List.mem_filter.mp hw').1)
    · have e : k = ws.length := by omega
      subst e
      refine .inl ⟨W1.stops H5 gs5, x5, us5, hu5, by rw [Nat.succ_mul]; omega, ?_⟩
      rw [flat_take _ e4]
      rw [List.take_length] at hda5
      exact hda5
  · have e : i = zs.length := by omega
    subst e
    refine .inl ⟨W.stops H2 gs, q D us H1 H2 x1 hD (x1.trans x2) hu ?_⟩
    rw [List.take_length] at hda
    exact hda
end
end K78

-- part KSort
set_option Elab.async false
set_option linter.all false
set_option maxRecDepth 100000
set_option maxHeartbeats 4000000
/-! KSort: sorted(list or tuple of data), set(tuple of ints) sorted, set(list of tuples) sorted, min(list, default=None). -/
namespace K78
open PySem PySem.Spec PyProof.Rows L2
open PySem.W (EachIs dataLe AllAlike Sortable alike)
open Evl (Ex ex_t ex_l ex_rd fresh_back)
open Enc (enc)
section
variable {X : Cx}
/-- collect of a list or a tuple: the heap behind it -/
theorem collect_grow {prog : Program} {w : World} {A : Around} {E : Value → Shared → Prop} {s : Shared} {Q : List Value → Shared → Prop} {it : Addr} {T : String} {o : Obj} {items : Array Value} {n : Nat} (hT : T = "list" ∨ T = "tuple")
    (ho : s.heap.get? it = some o) (hc : o.cls = .type T) (hd : o.data = .seq items n) (hsz : items.size ≤ sizeLine)
    (hQ : ∀ h', (∀ b o', s.heap.get? b = some o' → h'.get? b = some o') → s.heap.objs.size ≤ h'.objs.size → Q items.toList { s with heap := h' }) : wpAny (model prog w) A (collect (.ref it)) Q E s := by
  let h1 : Heap := s.heap.push { cls := .type "list", data := .seq ([] : List Value).toArray }
  let h2 : Heap := h1.update s.heap.objs.size (Obj.mapSeq (· ++ items))
  have hS : h1.get? s.heap.objs.size = some { cls := .type "list", data := .seq #[] 0 } := Heap.get?_push_size _ rfl
  have hS2 := Heap.get?_update_self (Obj.mapSeq (· ++ items)) hS rfl
  have last : ∀ {P : List Value → Shared → Prop}, P items.toList { s with heap := h2 } → wpAny (model prog w) A (do
      match (← load s.heap.objs.size).data with
        | Data.seq xs _ => pure xs.toList
        | _ => unsupported "internal:collect") P E { s with heap := h2 } := fun {P} hp => by
    refine wpAny_bind (wpAny_load hS2 (wpAny_pure ?_))
    have e : ((#[] : Array Value) ++ items).toList = items.toList := by simp
    show P ((#[] : Array Value) ++ items).toList _
    rw [e]
    exact hp
  have done : Q items.toList { s with heap := h2 } := hQ h2 (fun b o' hb => (Heap.get?_update_other _ _ (Nat.ne_of_gt (Heap.lt_size hb))).trans (Heap.get?_push_of_some _ hb)) (by
    show s.heap.objs.size ≤ (h1.update s.heap.objs.size (Obj.mapSeq (· ++ items))).objs.size
    rw [Heap.size_update, Heap.size_push]
    exact Nat.le_succ _)
  unfold collect
  refine wpAny_bind (wpAny_runValue (codeAny_builtin F.entry_proto_collect ?_))
  rw [Around.under_plainId F.plain_proto_collect _]
  show wpAny _ A.in1 (newList [] >>= fun l => again (.builtin "list.__iadd__" ⟨[l, .ref it], []⟩)) _ _ s
  refine wpAny_bind (wpAny_newObj_type (wpAny_pure ⟨plainId_quiet F.plain_list_iadd _, codeAny_builtin F.entry_list_iadd ?_⟩))
  rw [Around.under_plainId F.plain_list_iadd _]
  show wpAny _ A.in1 (Builtin.List.listExtendWith (.ref s.heap.objs.size) (.ref it) (.ref s.heap.objs.size)) _ _ { s with heap := h1 }
  refine wpAny_mono (wpAny_extend_seq (hsz := hsz) (A := A) (R := fun r s' => r = .ok (.ret (.ref s.heap.objs.size)) ∧ s' = { s with heap := h2 }) (s := { s with heap := h1 }) _ it _ 0 hT hS (Heap.get?_push_of_some _ ho) hc hd ⟨rfl, rfl⟩) (fun fin s' h => ?_) (fun e s' h => absurd h.1 (by simp))
  cases fin with
  | done f =>
    obtain ⟨e, rfl⟩ := h
    cases e
    exact last done
  | again c' => exact ⟨h.1, codeAny_mono h.2 fun r s'' hr => by obtain ⟨rfl, rfl⟩ := hr; exact last done⟩
/-- sorted of a list or a tuple, whose items read as data -/
theorem sorted_dataS {prog : Program} {w : World} {A : Around} {E : Value → Shared → Prop} {s : Shared} {β : Type} {vs : List Value} {bs : List β} {en : β → PyData} {R : Value → β → Prop} {l : Addr} {T : String} {o : Obj} {n : Nat} {Q : Value → Shared → Prop}
    (hT : T = "list" ∨ T = "tuple") (ho : s.heap.get? l = some o) (hc : o.cls = .type T) (hd : o.data = .seq vs.toArray n) (e : EachIs R vs bs) (er : EachIs (fun v b => ∃ as, Reads s.heap v (en b) as) vs bs) (hal : AllAlike (bs.map en)) (hk : Sortable (bs.map en)) (hL : bs.length ≤ sizeLine)
    (hu : ∀ b, b ∈ bs → A.units + 2 + (en b).depth < cLine)
    (h : ∀ h' out p c, (∀ b o, s.heap.get? b = some o → h'.get? b = some o) → s.heap.objs.size ≤ p → h'.get? p = some (seqObj "list" (List.toArray out) c) → EachIs R out (bs.mergeSort (dataLe false en)) → Q (.ref p) { s with heap := h' }) :
    wpAny (model prog w) A (call (.builtin "sorted") [.ref l]) Q E s := by
  have hvl : vs.length = bs.length := e.length
  refine call_function_entry_kw kind_sorted plain_sorted entry_sorted (args_sorted1 _) ?_
  unfold Builtin.«sorted»
  refine wpAny_bind (m := checkCount "sorted" 1 1 _) (wpAny_pure ?_)
  refine wpAny_bind (collect_grow hT ho hc hd (by rw [List.size_toArray, hvl]; exact hL) fun h1 k1 hz1 => ?_)
  have hvs : vs.toArray.toList = vs := by simp
  rw [hvs]
  refine wpAny_bind (wpAny_newList ?_ (by rw [hvl]; exact hL))
  have ho2 : (h1.push (seqObj "list" vs.toArray 0)).get? h1.objs.size = some (seqObj "list" vs.toArray 0) := Heap.get?_push_size _ rfl
  have k2 : ∀ b o, s.heap.get? b = some o → (h1.push (seqObj "list" vs.toArray 0)).get? b = some o := fun b o q => Heap.get?_push_of_some _ (k1 b o q)
  have ne : ∀ b o, s.heap.get? b = some o → b ≠ h1.objs.size := fun b o q => by
    have h2 := Heap.lt_size q
    exact Nat.ne_of_lt (Nat.lt_of_lt_of_le h2 hz1)
  show wpAny _ _ _ _ _ { s with heap := h1.push (seqObj "list" vs.toArray 0) }
  refine wpAny_bind (wpAny_holding (wpAny_call_entry_kw slot_list_sort ⟨_, ho2, rfl⟩ entry_list_sort ?body (args_list_sort _)))
  case body =>
    have er' : EachIs (fun v b => ∃ as, Reads (PySem.W.sortingHeap (h1.push (seqObj "list" vs.toArray 0)) h1.objs.size vs) v (en b) as) vs bs :=
      er.mono fun _ _ ⟨as, r⟩ => ⟨as, PyProof.Rows.Reads.keeps (fun b o q => PySem.W.sortingHeap_old (ne b o q) (k2 b o q)) r⟩
    refine PySem.W.list_sort_vals (s := { s with heap := h1.push (seqObj "list" vs.toArray 0) }) (κ := PySem.W.dataKind (PySem.W.sortingHeap (h1.push (seqObj "list" vs.toArray 0)) h1.objs.size vs) (bs.map en)) ho2
      (PySem.W.SortsAt.data (s := { s with heap := PySem.W.sortingHeap (h1.push (seqObj "list" vs.toArray 0)) h1.objs.size vs }) (PySem.W.each_map (R := fun v d => ∃ as, Reads (PySem.W.sortingHeap (h1.push (seqObj "list" vs.toArray 0)) h1.objs.size vs) v d as) en er') hal hk (PySem.W.bound_map hu)) (by rw [hvl]; exact hL) ?_
    refine ⟨_, rfl, wpAny_pure ⟨_, rfl, ?_⟩⟩
    obtain ⟨c, hc'⟩ := sortedHeap_at (vs := vs) (out := (PySem.W.sortVals (PySem.W.dataKind (PySem.W.sortingHeap (h1.push (seqObj "list" vs.toArray 0)) h1.objs.size vs) (bs.map en)) false vs vs).toArray) ho2
    exact h _ _ _ c (fun b o q => (sortedHeap_old (ne b o q) (Heap.lt_size (k2 b o q))).trans (k2 b o q)) hz1 hc' (PySem.W.sortVals_data false e er' hal)
theorem each_back {H : Hp} {β : Type} {en : β → PyData} : ∀ {out : List Value} {bs : List β}, EachIs (fun v b => ∃ x, RelV x v ∧ Dp X.K H x (en b)) out bs → ∃ us, Vals us out ∧ DpAll X.K H us (bs.map en)
  | _, _, .nil => ⟨[], .nil, .nil⟩
  | _, _, .cons ⟨x, r, d⟩ t => by
    obtain ⟨us, h1, h2⟩ := each_back t
    exact ⟨x :: us, .cons r h1, .cons d h2⟩
theorem each_to {pins : List (Addr × Obj)} {σ : L2.St} {s : Shared} {H : Hp} {β : Type} {en : β → PyData} (I : Inv X pins σ H s) : ∀ {bs : List β} {us : List V} {vs : List Value}, Vals us vs → DpAll X.K H us (bs.map en) → EachIs (fun v b => ∃ x, RelV x v ∧ Dp X.K H x (en b)) vs bs ∧ EachIs (fun v b => ∃ as, Reads s.heap v (en b) as) vs bs
  | [], _, _, r, h => by
    cases h
    cases r
    exact ⟨.nil, .nil⟩
  | b :: bs, _, _, r, h => by
    cases h with
    | cons h1 h2 =>
      cases r with
      | cons r1 r2 =>
        obtain ⟨a1, a2⟩ := each_to I r2 h2
        exact ⟨.cons ⟨_, r1, h1⟩ a1, .cons (Dp.reads I _ _ _ h1 r1) a2⟩
/-- sorted(list or tuple of data) -/
def rSortD {β : Type} (K : PySem.W.Frag) (en : β → PyData) (bs : List β) : List V → Hp → VK → Prop := fun vs H Q => ∃ v, vs = [v] ∧ (Dp K H v (.list (bs.map en)) ∨ Dp K H v (.tuple (bs.map en))) ∧
  ∀ z H', Ex H H' → Dp K H' z (.list ((bs.mergeSort (dataLe false en)).map en)) → Q z H'
theorem cr_sortD {β : Type} {en : β → PyData} {bs : List β} (hu : X.A.units + 65 < cLine) (hal : AllAlike (bs.map en)) (hk : Sortable (bs.map en)) (hz : bs.length ≤ 100000) (hd : ∀ b, b ∈ bs → (en b).depth ≤ 50) : CallR X (.builtin "sorted") (rSortD X.K en bs) := by
  intro pins s σ H vs us Q I r h
  obtain ⟨v, rfl, hv, q⟩ := h
  obtain ⟨u, rfl, ru⟩ := vals1 r
  have key : ∀ (l : Addr) (xs : List V) (its : List Value) (o : Obj) (n : Nat) (T : String), (T = "list" ∨ T = "tuple") → u = .ref l → DpAll X.K H xs (bs.map en) → Vals xs its → s.heap.get? l = some o → o.cls = .type T → o.data = .seq its.toArray n → wpAny (model X.prog X.w) X.A (call (.builtin "sorted") [u]) (EP X pins σ Q) X.xe s := by
    rintro l xs its o n T hT rfl hda rv ho hc hdt
    obtain ⟨e1, e2⟩ := each_to I rv hda
    refine sorted_dataS hT ho hc hdt e1 e2 hal hk (sz3 hz) (fun b hb => by have := hd b hb; omega) fun h' out p c kk hp hg eo => ?_
    obtain ⟨us, rv', hda'⟩ := each_back eo
    have hn := I.hok.fresh hp
    have hlen : us.length ≤ sizeLine := by
      rw [DpAll.length hda', List.length_map, List.length_mergeSort]
      exact sz3 hz
    refine ⟨.ref p, upd H p (.lst us), I.laid (t' := s.toks) kk hp ⟨hlen, out, c, rv', hg⟩, rfl, q _ _ (Ex.new hn) (dp_newL hn hda')⟩
  rcases hv with hv | hv
  · obtain ⟨l, xs, rfl, hq, hda⟩ := dp_lst hv
    obtain ⟨its, rv, p, _⟩ := I.list hq
    obtain ⟨o, ho, hc, n, hdt⟩ := p.isList
    exact key l xs its o n "list" (.inl rfl) ru hda rv ho hc hdt
  · obtain ⟨l, xs, rfl, hq, hda⟩ := dp_tup hv
    obtain ⟨its, rv, ⟨o, ho, hc, n, hdt⟩, _⟩ := I.tuple hq
    exact key l xs its o n "tuple" (.inr rfl) ru hda rv ho hc hdt
end
end K78

-- part KSort2
set_option Elab.async false
set_option linter.all false
set_option maxRecDepth 100000
set_option maxHeartbeats 4000000
/-! KSort2: sorted over data; set_of; min(.., default=None). -/
namespace K78
open PySem PySem.Spec PyProof.Rows L2
open PySem.W (EachIs dataLe AllAlike Sortable alike)
open Evl (Ex ex_t ex_l ex_rd fresh_back)
open Enc (enc)
def sortE {α : Type} [Enc α] (l : List α) : List α := l.mergeSort (dataLe false (enc : α → PyData))
theorem sortE_perm {α : Type} [Enc α] (l : List α) : (sortE l).Perm l := List.mergeSort_perm ..
/-! ### strictly ascending lists -/
def insI (x : Int) : List Int → List Int
  | [] => [x]
  | y :: l => if x < y then x :: y :: l else if x = y then y :: l else y :: insI x l
def setOf (l : List Int) : List Int := l.foldr insI []
theorem mem_insI {x z : Int} : ∀ {l : List Int}, z ∈ insI x l ↔ z = x ∨ z ∈ l
  | [] => by simp [insI]
  | y :: l => by
    unfold insI
    split
    · simp
    · split
      · rename_i h; subst h; simp
      · rw [List.mem_cons, mem_insI, List.mem_cons]
        constructor
        · rintro (h | h | h)
          · exact .inr (.inl h)
          · exact .inl h
          · exact .inr (.inr h)
        · rintro (h | h | h)
          · exact .inr (.inl h)
          · exact .inl h
          · exact .inr (.inr h)
theorem mem_setOf {z : Int} : ∀ {l : List Int}, z ∈ setOf l ↔ z ∈ l
  | [] => by simp [setOf]
  | x :: l => by
    show z ∈ insI x (setOf l) ↔ _
    rw [mem_insI, mem_setOf, List.mem_cons]
theorem asc_insI {x : Int} : ∀ {l : List Int}, l.Pairwise (· < ·) → (insI x l).Pairwise (· < ·)
  | [], _ => by simp [insI]
  | y :: l, h => by
    unfold insI
    obtain ⟨h1, h2⟩ := List.pairwise_cons.mp h
    split
    · rename_i hx
      refine List.pairwise_cons.mpr ⟨fun z hz => ?_, h⟩
      rcases List.mem_cons.mp hz with rfl | hz
      · exact hx
      · have := h1 z hz; omega
    · split
      · exact h
      · refine List.pairwise_cons.mpr ⟨fun z hz => ?_, asc_insI h2⟩
        rcases mem_insI.mp hz with rfl | hz
        · omega
        · exact h1 z hz
theorem asc_setOf : ∀ (l : List Int), (setOf l).Pairwise (· < ·)
  | [] => .nil
  | x :: l => asc_insI (asc_setOf l)
theorem asc_uniq : ∀ {a b : List Int}, a.Pairwise (· < ·) → b.Pairwise (· < ·) → (∀ z, z ∈ a ↔ z ∈ b) → a = b
  | [], [], _, _, _ => rfl
  | [], y :: b, _, _, h => absurd ((h y).mpr List.mem_cons_self) (by simp)
  | x :: a, [], _, _, h => absurd ((h x).mp List.mem_cons_self) (by simp)
  | x :: a, y :: b, ha, hb, h => by
    obtain ⟨a1, a2⟩ := List.pairwise_cons.mp ha
    obtain ⟨b1, b2⟩ := List.pairwise_cons.mp hb
    have e : x = y := by
      rcases List.mem_cons.mp ((h x).mp List.mem_cons_self) with e | h1
      · exact e
      · rcases List.mem_cons.mp ((h y).mpr List.mem_cons_self) with e | h2
        · exact e.symm
        · have := b1 x h1
          have := a1 y h2
          omega
    subst e
    congr 1
    refine asc_uniq a2 b2 fun z => ⟨fun hz => ?_, fun hz => ?_⟩
    · rcases List.mem_cons.mp ((h z).mp (List.mem_cons_of_mem _ hz)) with rfl | q
      · have := a1 z hz; omega
      · exact q
    · rcases List.mem_cons.mp ((h z).mpr (List.mem_cons_of_mem _ hz)) with rfl | q
      · have := b1 z hz; omega
      · exact q
theorem setOf_eq {a b : List Int} (ha : a.Pairwise (· < ·)) (h : ∀ z, z ∈ a ↔ z ∈ b) : a = setOf b := asc_uniq ha (asc_setOf b) fun z => (h z).trans mem_setOf.symm
def MSet (w : World) (ns : List Int) : MP := ⟨fun v H => ∃ p c, v = .ref p ∧ H p = some (SetO w p (fun j => decide (j ∈ ns)) c) ∧ c ≤ ns.length, fun x ⟨p, c, e, h, r⟩ => ⟨p, c, e, x _ _ h, r⟩⟩
/-- set(t), t a tuple of ints -/
def rSetTI (K : PySem.W.Frag) (w : World) (ns : List Int) : List V → Hp → VK → Prop := fun vs H Q => ∃ v, vs = [v] ∧ Dp K H v (.tuple (ns.map .int)) ∧ ∀ p c, H p = none → c ≤ ns.length → Q (.ref p) (upd H p (SetO w p (fun j => decide (j ∈ ns)) c))
theorem cr_setTI {X : Cx} {ns : List Int} (hc : X.calm = true) (hl : ns.length ≤ 1000) : CallR X (.type "set") (rSetTI X.K X.w ns) := by
  intro pins s σ H vs us Q I r h
  obtain ⟨v, rfl, hv, q⟩ := h
  obtain ⟨u, rfl, ru⟩ := vals1 r
  obtain ⟨l, xs, rfl, hq, hda⟩ := dp_tup hv
  cases ru
  have e := DpAll.ints hda
  subst e
  obtain ⟨its, rv, p, _⟩ := I.tuple hq
  refine call_set_tupI ns (I.ok.hd hc) (show s.heap.IsTuple l its.toArray from p) (ints_of_vals (by simpa using rv)) (by unfold scanBound; omega) fun h' tk c R1 hcn k => ?_
  have hn := I.hok.fresh (Nat.le_refl s.heap.objs.size)
  exact ⟨.ref s.heap.objs.size, upd H s.heap.objs.size (SetO X.w s.heap.objs.size (fun j => decide (j ∈ ns)) c), I.laid (t' := tk) k (Nat.le_refl _) (setO_new R1), rfl, q _ c hn hcn⟩
section
variable {X : Cx} {G : GP} [MG G] {pos p p2 pos2 : Pos} {e a : Expr} {es : List Expr}
theorem de_sort {β : Type} {en : β → PyData} {bs : List β} {k : Nat} (hr : Room k X.A) (hm : X.mg "sorted" = none) (h : DE X G e (MP.d X.K (.list (bs.map en))) ∨ DE X G e (MP.d X.K (.tuple (bs.map en)))) (hal : AllAlike (bs.map en)) (hk : Sortable (bs.map en)) (hz : bs.length ≤ 100000) (hd : ∀ b, b ∈ bs → (en b).depth ≤ 50)
    (hg : Gl X "sorted" := by rfl) (hs2 : starEach [e] X.env = (false, eval e X.env) :: starEach [] X.env := by rfl) : DE X G (.Call (.Name "sorted" p) [e] [] pos) (MP.d X.K (.list ((bs.mergeSort (dataLe false en)).map en))) := by
  rcases h with h | h
  · exact de_callB (cr_sortD (un65 hr) hal hk hz hd) (fun vs H Q pp q => by
      obtain ⟨v, rfl, h⟩ := allP1 pp
      exact ⟨v, rfl, .inl h, fun z H' x d => q z H' x d⟩) hm bt_sorted (da_cons h da_nil hs2) hg (by decide) (by decide) hs2
  · exact de_callB (cr_sortD (un65 hr) hal hk hz hd) (fun vs H Q pp q => by
      obtain ⟨v, rfl, h⟩ := allP1 pp
      exact ⟨v, rfl, .inr h, fun z H' x d => q z H' x d⟩) hm bt_sorted (da_cons h da_nil hs2) hg (by decide) (by decide) hs2
theorem alike_keys : ∀ a b : List Int, alike (enc a) (enc b) = true := fun a b => by
  show alike (.tuple (a.map .int)) (.tuple (b.map .int)) = true
  simp only [alike]
  exact PySem.W.alike_ints a b
theorem alike_pairs : ∀ a b : List Int × List Int, alike (enc a) (enc b) = true := fun a b => by
  have h1 : alike (enc a.1) (enc b.1) = true := alike_keys ..
  have h2 : alike (enc a.2) (enc b.2) = true := alike_keys ..
  show alike (.tuple [enc a.1, enc a.2]) (.tuple [enc b.1, enc b.2]) = true
  simp only [alike, PySem.W.alikeAll, h1, h2, Bool.and_self]
theorem sortable_keys {n : Nat} {ks : List (List Int)} (hn : 1 ≤ n) (h : ∀ k ∈ ks, k.length = n) : Sortable (ks.map enc) := .inl fun d hd => by
  obtain ⟨k, hk, rfl⟩ := List.mem_map.mp hd
  have := h k hk
  cases k with
  | nil => simp at this; omega
  | cons x r => exact ⟨.int x, r.map .int, rfl⟩
theorem de_sortK {ks : List (List Int)} {k n : Nat} (hr : Room k X.A) (hm : X.mg "sorted" = none) (hn : 1 ≤ n) (hw : ∀ k ∈ ks, k.length = n) (hz : ks.length ≤ 100000) (h : DE X G e (ML X.K ks) ∨ DE X G e (ME X.K ks))
    (hg : Gl X "sorted" := by rfl) (hs2 : starEach [e] X.env = (false, eval e X.env) :: starEach [] X.env := by rfl) : DE X G (.Call (.Name "sorted" p) [e] [] pos) (ML X.K (sortE ks)) :=
  de_sort hr hm h (PySem.W.AllAlike.of alike_keys) (sortable_keys hn hw) hz (fun b _ => Nat.le_trans (Enc.dp b) (by decide)) hg hs2
theorem de_sortP {ks : List (List Int × List Int)} {k : Nat} (hr : Room k X.A) (hm : X.mg "sorted" = none) (hz : ks.length ≤ 100000) (h : DE X G e (ML X.K ks))
    (hg : Gl X "sorted" := by rfl) (hs2 : starEach [e] X.env = (false, eval e X.env) :: starEach [] X.env := by rfl) : DE X G (.Call (.Name "sorted" p) [e] [] pos) (ML X.K (sortE ks)) :=
  de_sort hr hm (.inl h) (PySem.W.AllAlike.of alike_pairs) (PySem.W.Sortable.tuples fun b => ⟨_, _, rfl⟩) hz (fun b _ => Nat.le_trans (Enc.dp b) (by decide)) hg hs2
/-- sorted(set(t)), t a tuple of ints -/
theorem de_setTI {ns : List Int} (hc : X.calm = true) (hm : X.mg "set" = none) (h : DE X G e (ME X.K ns)) (hl : ns.length ≤ 1000) (hg : Gl X "set" := by rfl)
    (hs2 : starEach [e] X.env = (false, eval e X.env) :: starEach [] X.env := by rfl) : DE X G (.Call (.Name "set" p) [e] [] pos) (MSet X.w ns) :=
  de_callTy (cr_setTI hc hl) (fun vs H Q pp q => by
    obtain ⟨v, rfl, h⟩ := allP1 pp
    exact ⟨v, rfl, h, fun p c hp hcl => q _ _ (Ex.new hp) ⟨p, c, rfl, upd_same, hcl⟩⟩) hm bt_set (da_cons h da_nil hs2) hg (by decide) (by decide) hs2
theorem de_sortSet {ns : List Int} (hc : X.calm = true) (hm : X.mg "sorted" = none) (h : DE X G e (MSet X.w ns)) (hl : ns.length < 64) (hg : Gl X "sorted" := by rfl)
    (hs2 : starEach [e] X.env = (false, eval e X.env) :: starEach [] X.env := by rfl) : DE X G (.Call (.Name "sorted" p) [e] [] pos) (ML X.K (setOf ns)) :=
  de_callB (cr_sortedSet hc) (fun vs H Q pp q => by
    obtain ⟨v, rfl, h⟩ := allP1 pp
    obtain ⟨a, c, rfl, hH, hcl⟩ := h
    refine ⟨a, _, c, rfl, hH, by omega, fun out p h1 h2 h3 hp => ?_⟩
    have e1 : out = setOf ns := setOf_eq h1 fun z => by rw [h2 z]; exact decide_eq_true_iff
    subst e1
    exact q _ _ (Ex.new hp) (dp_newL hp (DpAll.ofInts _))) hm bt_sorted (da_cons h da_nil hs2) hg (by decide) (by decide) hs2
end
section
variable {P : Program} {w : World} {K : PySem.W.Frag} {mg : Str → Option Value} {base : Heap}
def sp_set_of (K : PySem.W.Frag) : Sp := spM (fun l : List Int => l.length < 64) (fun l => [ME K l]) (fun l => ME K (setOf l))
theorem ok_set_of (T : Tx K mg) : DefOk P w K mg base "set_of" 1 (sp_set_of K) := by
  obtain ⟨f, fd, F, hg⟩ := at_set_of T
  have B := T.bl
  refine fn_pure F sc_set_of hg (fun _ => rfl) (fun _ _ _ _ _ _ us hl => match us, hl with | [_], _ => rfl) fun f cdv A outer s H E l hr hp => ?_
  have hl : l.length < 64 := hp
  exact ds_ret (de_tupleL B.tuple (de_sortSet rfl B.sorted (de_setTI rfl B.set (de_v 0) (by omega)) hl))
end
end K78

-- part KRule
set_option Elab.async false
set_option linter.all false
set_option maxRecDepth 100000
set_option maxHeartbeats 4000000
/-! KRule: a comprehension's list as one's own; extend; assignment of tuples; min(.., default=None). -/
namespace K78
open PySem PySem.Spec PyProof.Rows L2
open Evl (Ex ex_t ex_l ex_rd fresh_back)
open Enc (enc)
/-- a list that was just made -/
def MFl (K : PySem.W.Frag) (ds : List PyData) : MP := ⟨fun v H => ∃ L, (MLat K L ds).P v H, fun x ⟨L, p⟩ => ⟨L, (MLat K L ds).mono x p⟩⟩
theorem MFl.dp {K : PySem.W.Frag} {ds : List PyData} {v : V} {H : Hp} (h : (MFl K ds).P v H) : Dp K H v (.list ds) := let ⟨_, p⟩ := h; MLat.dp p
section
variable {X : Cx} {G N : GP} {pos p : Pos} {tg e a b : Expr} {es : List Expr} {Γ : En} {B : Hp} {R : V → Hp → Prop}
def LcX (X : Cx) (Γ : En) (e : Expr) (ds : List PyData) : Prop := ∃ te, CompOk X e te ∧ ∀ σ H Q, EnvOk Γ σ H → (∀ L us H1 H', Ex H H1 → H1 L = none → Ex H H' → H' L = some (.lst us) → DpAll X.K H' us ds → Q (.ref L) H') → te σ H Q
theorem LcX.to {ds ds' : List PyData} (h : LcX X Γ e ds) (k : ds = ds') : LcX X Γ e ds' := k ▸ h
theorem LcX.dc {ds : List PyData} (h : LcX X Γ e ds) : DC X (EnvOk Γ) e (MP.d X.K (.list ds)) := let ⟨te, c, k⟩ := h; ⟨te, c, fun σ H Q g q => k σ H Q g fun L us H1 H' _ _ x hL hda => q _ H' x (.lst (SqL.of hL) hda)⟩
theorem LcX.new {ds : List PyData} (h : LcX X Γ e ds) : DC X (GB B Γ) e (MNewL X.K B ds) := let ⟨te, c, k⟩ := h; ⟨te, c, fun σ H Q g q => k σ H Q g.2 fun L us H1 H' x1 hn x hL hda => q _ H' x ⟨L, b_none (g.1.trans x1) hn, rfl, us, hL, hda⟩⟩
theorem LcX.fl {ds : List PyData} (h : LcX X Γ e ds) : DE X (EnvOk Γ) e (MFl X.K ds) := let ⟨te, c, k⟩ := h; de_of c.val fun σ H Q g q => k σ H Q g fun L us H1 H' _ _ x hL hda => q _ H' x ⟨L, rfl, us, hL, hda⟩
/-- x.extend(e) -/
theorem h1_extend (i : Nat) {L : Addr} {ds ds' : List PyData} {x : Str} {apos cpos npos : Pos} (hi : Γ[i]? = some (some (MLat X.K L ds))) (hL : B L = none) (hx : DE X (EnvOk Γ) (.Name x npos) (MLat X.K L ds)) (he : DE X (EnvOk Γ) e (MFl X.K ds')) (ht : tO.tOs ds = true) (htd : tO.tOs ds' = true) (hz : ds.length + ds'.length ≤ 100000) (hs : AllS (Stb B L) (Γ.set i none))
    (hbase : attributeBase (.Name x npos) "extend" X.env (eval (.Name x npos) X.env) = eval (.Name x npos) X.env := by rfl)
    (hfew : ((backTo cpos (starEach [e] X.env)).all (fun x => !x.1) && (backToKw cpos (keywordEach [] X.env)).all (fun x => x.1.isSome)
      && decide ([e].length + ([] : List Keyword).length + (if ([] : List Keyword).isEmpty then 0 else 1) < 30)) = true := by rfl)
    (hline : (apos.endLine == cpos.line) = true := by rfl) (hss : starEach [e] X.env = (false, eval e X.env) :: starEach [] X.env := by rfl) (hsw : swapsWith (.Call (.Attribute (.Name x npos) "extend" apos) [e] [] cpos) none pos.line X.env = pure false := by rfl) :
    H1 X (GB B Γ) (.Expr (.Call (.Attribute (.Name x npos) "extend" apos) [e] [] cpos) pos) (GB B (Γ.set i (some (MLat X.K L (ds ++ ds'))))) R := by
  refine ps_imp (ps_expr (pe_bm F.plainAttrs_list F.slot_list_extend F.type_list_extend mt_extend (de_gb (B := B) hx) (da_cons (de_gb (B := B) he) da_nil hss) hbase hfew hline hss) hsw) fun D σ H q => ?_
  refine ⟨q.1, fun v H1 x1 p1 => ?_⟩
  obtain ⟨rfl, us, h1, h2⟩ := p1
  refine ⟨.inl ⟨rfl, us, SqL.of h1⟩, MG.mono x1 q.1, fun vs H2 x2 p2 => ?_⟩
  obtain ⟨y, rfl, L2, py⟩ := allP1 p2
  obtain ⟨rfl, us2, hL2, hd2⟩ := py
  have h3 := x2 _ _ h1
  have hda := DpAll.mono x2 _ _ h2
  refine ⟨L, L2, us, us2, rfl, rfl, h3, hL2, sz3 (by rw [DpAll.length hda, DpAll.length hd2]; exact hz), ?_⟩
  have g2 : GB B Γ σ H2 := MG.mono (x1.trans x2) q.1
  obtain ⟨xb, g3⟩ := g2
  obtain ⟨v0, ev, pv⟩ := g3.get i _ hi
  obtain ⟨rfl, _⟩ := pv
  have il : i < Γ.length := (List.getElem?_eq_some_iff.mp hi).1
  refine q.2.1 σ _ ⟨ex_kp xb hL Kp.upd, ?_⟩
  have g4 : EnvOk (Γ.set i none) σ (upd H2 L (.lst (us ++ us2))) := (g3.drop i).kp hs xb (NT.lst h3) Kp.upd
  have g5 := g4.set i (M := MLat X.K L (ds ++ ds')) (v := .ref L) (MLat.put (ds := ds) ⟨rfl, us, h3, hda⟩ (tOs_app.mpr ⟨ht, htd⟩) (hda.append hd2))
  rw [List.set_set] at g5
  have e1 : σ.set i (some (.ref L)) = σ := by
    obtain ⟨hlt, e2⟩ := List.getElem?_eq_some_iff.mp ev
    rw [← e2]
    exact List.set_getElem_self hlt
  rw [e1] at g5
  exact g5
/-- target = value -/
theorem d1_asg {g : TG} {vs : List Nat} {d : PyData} {Γ' : En} (he : DE X (EnvOk Γ) e (MP.d X.K d)) (hg : PG X tg g) (ht : Tg X.K g vs d (EnvOk Γ) (EnvOk Γ')) (hs : swapsWithSole [tg] e pos.line X.env = pure false := by rfl) (hw : swappedStores [tg] e X.env = pure none := by rfl) (h1 : (assignEach [tg] X.env).map (·.2) = [assign tg X.env] := by rfl) :
    D1 X (EnvOk Γ) (.Assign [tg] e pos) (EnvOk Γ') R := ps_imp (ps_asg he hg hs hw h1) fun D σ H q => ⟨q.1, fun v H' x p => ht v σ H' _ p (MG.mono x q.1) fun σ' g' _ => q.2.1 σ' H' x g'⟩
/-- a, b = x, y -/
theorem d1_par2 {M1 M2 : MP} (i j : Nat) {x y : Str} {px py pt : Pos} {kt k2 pt2} (hc : X.calm = true) (hN : X.N.Nodup) (ha : DE X (EnvOk Γ) a M1) (hb : DE X (EnvOk Γ) b M2) (hi : X.N[i]? = some x := by rfl) (hj : X.N[j]? = some y := by rfl) (hij : i ≠ j := by decide)
    (hx : X.env.scope.names.lookup x = some .local := by rfl) (hy : X.env.scope.names.lookup y = some .local := by rfl)
    (hs1 : starEach [a, b] X.env = (false, eval a X.env) :: starEach [b] X.env := by rfl) (hs2 : starEach [b] X.env = (false, eval b X.env) :: starEach [] X.env := by rfl)
    (hw : swappedStores [.Tuple [.Name x px, .Name y py] kt pt] (.Tuple [a, b] k2 pt2) X.env = pure (some [x, y]) := by rfl)
    (hs : swapsWithSole [.Tuple [.Name x px, .Name y py] kt pt] (.Tuple [a, b] k2 pt2) pos.line X.env = pure false := by rfl) :
    D1 X (EnvOk Γ) (.Assign [.Tuple [.Name x px, .Name y py] kt pt] (.Tuple [a, b] k2 pt2) pos) (EnvOk ((Γ.set i (some M1)).set j (some M2))) R :=
  ps_imp (ps_par hc hN hi hj hij hx hy (da_cons ha (da_cons hb da_nil hs2) hs1) hw hs) fun D σ H q => ⟨q.1, fun vs H' x p => by
    obtain ⟨v, w, rfl, p1, p2⟩ := allP2 p
    exact ⟨v, w, rfl, q.2.1 _ H' x (((MG.mono x q.1).set i p1).set j p2)⟩⟩
/-- min(l, default=None) -/
theorem alike_ne {α : Type} [Enc α] {l : List α} (h : ∀ a b : α, PySem.W.alike (enc a) (enc b) = true) (hn : ∀ a : α, (enc a : PyData) ≠ .none) : PySem.W.AlikeAll (l.map enc) := ⟨fun x hx y hy => by
  obtain ⟨a, _, rfl⟩ := List.mem_map.mp hx
  obtain ⟨b, _, rfl⟩ := List.mem_map.mp hy
  exact h a b, fun x hx => by
  obtain ⟨a, _, rfl⟩ := List.mem_map.mp hx
  exact hn a⟩
def rMinD {α : Type} [Enc α] (K : PySem.W.Frag) (l : List α) : List V → List V → Hp → VK → Prop := fun vs zs H Q => ∃ v, vs = [v] ∧ zs = [.non] ∧ Dp K H v (.list (l.map enc)) ∧ ∀ z, (z = .non ↔ l = []) → Q z H
theorem cr_minD {α β : Type} [Enc α] [Enc β] {l : List (α × β)} (hc : X.calm = true) (hu : X.A.units + 65 < cLine) (hal : ∀ a b : α × β, PySem.W.alike (enc a) (enc b) = true) (hlv : Enc.lv (α × β) ≤ 50) : CallRK X (.builtin "min") [Str.ofString "default"] (rMinD X.K l) := by
  intro pins s σ H vs zs us ws Q I r rz h
  obtain ⟨v, rfl, rfl, hv, q⟩ := h
  obtain ⟨u, rfl, ru⟩ := vals1 r
  obtain ⟨w1, rfl, e1⟩ := vals1 rz
  obtain rfl : w1 = Value.none := e1
  obtain ⟨a, xs, rfl, hq, hd⟩ := dp_lst hv
  cases ru
  obtain ⟨its, rv, p, _⟩ := I.list hq
  obtain ⟨as, rr⟩ := Dp.readsAll I _ _ _ hd rv
  have hdp := encs_dp l
  refine PySem.W.min_list_default (I.ok.hd hc) p.isList (by simpa using rr) (alike_ne hal fun a => by show PyData.tuple _ ≠ .none; exact fun z => nomatch z) (by omega) (fun e h' tk k => ?_) (fun y ys i u h' tk bs e hi hr k => ?_)
  · have e' : l = [] := List.map_eq_nil_iff.mp e
    exact ⟨.non, H, I.kept (t' := tk) k, rfl, q .non ⟨fun _ => e', fun _ => rfl⟩⟩
  · have hi' : its[i]? = some u := by simpa using hi
    have hlt : i < xs.length := by rw [rv.length]; exact (List.getElem?_eq_some_iff.mp hi').1
    obtain ⟨d, ed, pd⟩ := hd.get (List.getElem?_eq_getElem hlt)
    rw [List.getElem?_map] at ed
    obtain ⟨z, _, rfl⟩ := Option.map_eq_some_iff.mp ed
    obtain ⟨t, ys', et, _, _⟩ := dp_tup (show Dp X.K H xs[i] (.tuple [enc z.1, enc z.2]) from pd)
    obtain ⟨u', hu', ru'⟩ := rv.get (List.getElem?_eq_getElem hlt)
    rw [hi'] at hu'
    cases hu'
    refine ⟨xs[i], H, I.kept (t' := tk) k, ru', q _ ⟨fun e2 => (by rw [et] at e2; cases e2), fun e2 => ?_⟩⟩
    rw [e2] at e
    cases e
/-- None when the list is empty, else no None -/
def MNonIff (b : Prop) : MP := ⟨fun v _ => v = .non ↔ b, fun _ h => h⟩
theorem de_minD [MG G] {α β : Type} [Enc α] [Enc β] {l : List (α × β)} {k : Nat} {j} {p1 p2 : Pos} (hr : Room k X.A) (hc : X.calm = true) (hm : X.mg "min" = none) (h : DE X G e (MP.d X.K (.list (l.map enc)))) (hal : ∀ a b : α × β, PySem.W.alike (enc a) (enc b) = true) (hlv : Enc.lv (α × β) ≤ 50 := by decide) (hg : Gl X "min" := by rfl)
    (hs2 : starEach [e] X.env = (false, eval e X.env) :: starEach [] X.env := by rfl) (he : backTo pos (starEach [e] X.env) = (false, eval e X.env) :: backTo pos (starEach [] X.env) := by rfl) (hpl : (backTo pos (starEach [e] X.env)).any (·.1) = false := by rfl)
    (hall : (backToKw pos (keywordEach [⟨some (Str.ofString "default"), .Constant .none j p1, p2⟩] X.env)).all (·.1.isSome) = true := by rfl) (hnone : (backToKw pos (keywordEach [⟨some (Str.ofString "default"), .Constant .none j p1, p2⟩] X.env)).any (·.1.isNone) = false := by rfl) (hks : (backToKw pos (keywordEach [⟨some (Str.ofString "default"), .Constant .none j p1, p2⟩] X.env)).filterMap (·.1) = [Str.ofString "default"] := by rfl) :
    DE X G (.Call (.Name "min" p) [e] [⟨some (Str.ofString "default"), .Constant .none j p1, p2⟩] pos) (MNonIff (l = [])) :=
  de_of (pe_callBK (cr_minD (l := l) hc (un65 hr) hal hlv) hg hm bt_min (da_cons h da_nil hs2) (pk_cons pe_non pk_nil) (by decide) (by decide) he hpl hall hnone hks) fun σ H Q g q => ⟨g, fun vs H1 x1 p1 => by
    obtain ⟨v, rfl, pv⟩ := allP1 p1
    exact ⟨v, rfl, rfl, pv, fun z hz => q z H1 x1 hz⟩⟩
end
end K78

-- part KZip
set_option Elab.async false
set_option linter.all false
set_option maxRecDepth 100000
set_option maxHeartbeats 4000000
/-! KZip: for x in zip(*t), t a tuple of tuples of one length. -/
namespace K78
open PySem PySem.Spec PyProof.Rows L2
open Evl (Ex ex_t ex_l ex_rd fresh_back)
open Enc (enc)
def zipO (f0 : Value) (f1 : Bool) (B n : Nat) : Obj := { cls := .type "zip", dict := none, data := .fields #[f0, .bool f1, .bool false, .ref (B + n), .ref (B + n + 1)], slots := #[] }
def tupO (vs : Array Value) : Obj := { cls := .type "tuple", data := .seq vs }
/-- iterators from B on, their tuple, the kept tuple, the zip -/
structure ZIn (h : Heap) (B : Addr) (ls : List Addr) (c : Nat → Nat) : Prop where
  ne : ls ≠ []
  lt : ∀ l ∈ ls, l < B
  it : ∀ (j : Nat) (l : Addr), ls[j]? = some l → h.IsTupleIter (B + j) l (c j)
  ti : h.get? (B + ls.length) = some (tupO ((List.range ls.length).map fun j => Value.ref (B + j)).toArray)
def ZTo (h : Heap) (B : Addr) (n : Nat) (vs : List Value) : Prop := vs.length = n ∧ h.get? (B + n + 1) = some (tupO vs.toArray)
structure ZOk (h : Heap) (B : Addr) (ls : List Addr) (i : Nat) : Prop where
  zin : ZIn h B ls fun _ => i
  to : ∃ vs, ZTo h B ls.length vs
  z : ∃ f0 f1, (f0 = .none ∨ ∃ a : Nat, f0 = rawInt a) ∧ h.get? (B + ls.length + 2) = some (zipO f0 f1 B ls.length)
section
variable {prog : Program} {w : World} {A : Around} {E : Value → Shared → Prop} {s : Shared}
theorem isTupleIter_at {h h' : Heap} {a l : Addr} {i : Nat} (x : h.IsTupleIter a l i) (k : ∀ o, h.get? a = some o → h'.get? a = some o) : h'.IsTupleIter a l i := x.at k
theorem isTuple_at {h h' : Heap} {a : Addr} {xs : Array Value} (x : h.IsTuple a xs) (k : ∀ o, h.get? a = some o → h'.get? a = some o) : h'.IsTuple a xs := by
  obtain ⟨o, e, r⟩ := x
  exact ⟨o, k o e, r⟩
theorem drop_range {n k : Nat} {β : Type} {f : Nat → β} {x : β × Nat} {rest : List (β × Nat)} (e : x :: rest = (((List.range n).map f).zipIdx).drop k) : k < n ∧ x = (f k, k) ∧ rest = (((List.range n).map f).zipIdx).drop (k + 1) := by
  have hk : k < n := by
    refine Nat.not_le.mp fun hle => ?_
    rw [List.drop_of_length_le (by simp; omega)] at e
    cases e
  have hlen : k < (((List.range n).map f).zipIdx).length := by simp; omega
  rw [List.drop_eq_getElem_cons hlen] at e
  injection e with e1 e2
  refine ⟨hk, ?_, e2⟩
  rw [e1]
  simp
theorem nne {a b : Nat} (h : a < b ∨ b < a) : a ≠ b := by omega
theorem loadIfAlive_at {M : Model} {a : Addr} {Q : Option Obj → Shared → Prop} (h : Q (s.heap.get? a) s) : wpAny M A (loadIfAlive a) Q E s := fun Γ p hΓ => by
  show Sem.wp M Γ (.loadIfAlive a .pure) _ _ p s
  rw [Sem.wp_loadIfAlive]
  exact h
/-- is the kept tuple free: whatever the answer, the zip alone is touched -/
theorem zipN_free {B n : Nat} {f0 : Value} {f1 : Bool} (hf0 : f0 = .none ∨ ∃ a : Nat, f0 = rawInt a) (hz : s.heap.get? (B + n + 2) = some (zipO f0 f1 B n)) :
    wpAny (model prog w) A (Builtin.SmallTypes.ownedTupleIsFree (.ref (B + n + 2))) (fun _ s' => ∃ h1 g0 g1, s' = { s with heap := h1 } ∧ Heap.SameBut (B + n + 2) s.heap h1 ∧ (g0 = Value.none ∨ ∃ a : Nat, g0 = rawInt a) ∧ h1.get? (B + n + 2) = some (zipO g0 g1 B n)) E s := by
  unfold Builtin.SmallTypes.ownedTupleIsFree
  refine wpAny_bind (wpAny_field hz rfl (x := f0) rfl ?_)
  rcases hf0 with rfl | ⟨a, rfl⟩
  · exact wpAny_pure ⟨s.heap, .none, f1, rfl, .refl .., .inl rfl, hz⟩
  · show wpAny _ _ (loadIfAlive _ >>= _) _ _ _
    refine wpAny_bind (loadIfAlive_at ?_)
    cases s.heap.get? (a : Int).toNat with
    | none => exact wpAny_pure ⟨s.heap, rawInt a, f1, rfl, .refl .., .inr ⟨a, rfl⟩, hz⟩
    | some o =>
      show wpAny _ _ (field (.ref (B + n + 2)) 1 >>= _) _ _ _
      refine wpAny_bind (wpAny_field hz rfl (x := .bool f1) rfl ?_)
      cases f1 with
      | true => exact wpAny_pure ⟨s.heap, rawInt a, true, rfl, .refl .., .inr ⟨a, rfl⟩, hz⟩
      | false =>
        show wpAny _ _ (setField (.ref (B + n + 2)) 1 (.bool true) >>= _) _ _ _
        refine wpAny_bind (wpAny_setField_rec hz (by simp) fun h1 hz1 hs1 => wpAny_pure ⟨h1, rawInt a, true, rfl, hs1, .inr ⟨a, rfl⟩, hz1⟩)
/-- the kept tuple is filled -/
structure ZL (h0 : Heap) (B n : Nat) (ls : List Addr) (ys : List Value) (i k : Nat) (h : Heap) : Prop where
  sz : h.objs.size = h0.objs.size
  keep : ∀ (c : Nat) o, (c < B ∨ B + n + 2 < c ∨ c = B + n) → h0.get? c = some o → h.get? c = some o
  it : ∀ (j : Nat) (l : Addr), ls[j]? = some l → h.IsTupleIter (B + j) l (if j < k then i + 1 else i)
theorem zipN_next_item {B i : Nat} {ls : List Addr} {ys : List Value} {Q : Value → Shared → Prop} (Z : ZOk s.heap B ls i) (hzl : ls.length ≤ 1000) (hyl : ys.length = ls.length) (hy : ∀ (j : Nat) (l : Addr), ls[j]? = some l → ∃ (items : Array Value) (y : Value), s.heap.IsTuple l items ∧ items[i]? = some y ∧ ys[j]? = some y)
    (hQ : ∀ h', ZOk h' B ls (i + 1) → h'.get? s.heap.objs.size = some (tupO ys.toArray) → h'.objs.size = s.heap.objs.size + 1 → (∀ c o, (c < B ∨ B + ls.length + 2 < c) → s.heap.get? c = some o → h'.get? c = some o) → Q (.ref s.heap.objs.size) { s with heap := h' }) :
    wpAny (model prog w) A (Builtin.«zip.__next__» ⟨[.ref (B + ls.length + 2)], []⟩) (fun fin s' => ∃ v, fin = .done (.ret v) ∧ Q v s') E s := by
  obtain ⟨⟨hne, hlt, hit, hti⟩, ⟨vs0, hv0, hto⟩, f0, f1, hf0, hz⟩ := Z
  generalize hn : ls.length = n at *
  have hn0 : 0 < n := by rw [← hn]; exact List.length_pos_iff.mpr hne
  have lk : ∀ {k : Nat}, k < n → ∃ l, ls[k]? = some l := fun {k} hk => ⟨ls[k], List.getElem?_eq_getElem (by omega)⟩
  show wpAny _ _ (field (.ref (B + n + 2)) 2 >>= _) _ _ _
  refine wpAny_bind (wpAny_field hz rfl (x := .bool false) rfl ?_)
  show wpAny _ _ (field (.ref (B + n + 2)) 3 >>= _) _ _ _
  refine wpAny_bind (wpAny_field hz rfl (x := .ref (B + n)) rfl ?_)
  refine wpAny_bind (wpAny_seqItems hti rfl ?_)
  have hemp : (((List.range n).map fun j => Value.ref (B + j)).toArray).isEmpty = false := by
    cases n with
    | zero => omega
    | succ n => simp [List.range_succ_eq_map]
  simp only [hemp, Bool.false_eq_true, if_false]
  refine wpAny_bind (wpAny_mono (zipN_free hf0 hz) (fun b s1 h1 => ?_) fun _ _ e => e)
  obtain ⟨h1, g0, g1, rfl, hs1, hg0, hz1⟩ := h1
  have L1 : ZL s.heap B n ls ys i 0 h1 := ⟨hs1.1, fun c o hc e => (hs1.2 c (nne (by omega))).trans e, fun j l e => by
    have := (List.getElem?_eq_some_iff.mp e).1
    rw [if_neg (Nat.not_lt_zero j)]
    exact isTupleIter_at (hit j l e) fun o q => (hs1.2 _ (nne (by omega))).trans q⟩
  have hto1 : h1.get? (B + n + 1) = some (tupO vs0.toArray) := (hs1.2 _ (nne (by omega))).trans hto
  cases b with
  | true =>
    rw [if_pos rfl]
    refine wpAny_bind (wpAny_rule ?_)
    refine wpAny_bind (wpAny_field hz1 rfl (x := .ref (B + n + 1)) rfl ?_)
    refine wpAny_bind (wpAny_setField_rec hz1 (by simp) fun h2 hz2 hs2 => ?_)
    replace hz2 : h2.get? (B + n + 2) = some (zipO .ellipsis g1 B n) := hz2
    refine wpAny_bind (wpAny_forIn_list _ (fun rest b s' => b = (none, ()) ∧ ∃ k h', rest = (((List.range n).map fun j => Value.ref (B + j)).zipIdx).drop k ∧ k ≤ n ∧ s' = { s with heap := h' } ∧ ZL s.heap B n ls ys i k h' ∧ (∃ us : List Value, us.length = n ∧ us.take k = ys.take k ∧ h'.get? (B + n + 1) = some (tupO us.toArray)) ∧ h'.get? (B + n + 2) = some (zipO .ellipsis g1 B n)) _ ?turn ?fin _ _ ?init)
    case init =>
      refine ⟨rfl, 0, h2, rfl, Nat.zero_le _, rfl, ⟨hs2.1.trans L1.sz, fun c o hc e => (hs2.2 c (nne (by omega))).trans (L1.keep c o hc e), fun j l e => ?_⟩, ⟨vs0, hv0, rfl, (hs2.2 _ (nne (by omega))).trans hto1⟩, hz2⟩
      have := (List.getElem?_eq_some_iff.mp e).1
      exact isTupleIter_at (L1.it j l e) fun o q => (hs2.2 _ (nne (by omega))).trans q
    case turn =>
      rintro x rest b s' ⟨rfl, k, h', hr, hkn, rfl, L, ⟨us, hul, hut, hus⟩, hz'⟩
      obtain ⟨hk, rfl, hr'⟩ := drop_range hr
      obtain ⟨l, hl⟩ := lk hk
      obtain ⟨items, y, hI, hi, hyk⟩ := hy k l hl
      have hlB : @LT.lt Nat _ l B := hlt l (List.mem_of_getElem? hl)
      have it0 := L.it k l hl
      rw [if_neg (Nat.lt_irrefl k)] at it0
      refine wpAny_bind (wpAny_onRaise ?_)
      show wpAny _ _ (Builtin.SmallTypes.nextOf (.ref (B + k)) >>= _) _ _ _
      refine wpAny_bind (RZ.nextOf_tuple_item it0 (isTuple_at hI fun o q => L.keep l o (.inl hlB) q) hi fun h3 it3 hs3 => wpAny_pure ?_)
      have hus3 : h3.get? (B + n + 1) = some (tupO us.toArray) := (hs3.2 _ (nne (by omega))).trans hus
      refine wpAny_bind (wpAny_seqItems hus3 rfl ?_)
      refine wpAny_bind (wpAny_updateSeq (hz := by rw [List.size_toArray, hul]; exact sz3 (by omega)) (_hz' := by rw [Array.size_setIfInBounds, List.size_toArray, hul]; exact Nat.le_succ_of_le (sz3 (by omega))) hus3 rfl ?_)
      refine wpAny_bind (wpAny_letGo (wpAny_pure ?_))
      refine ⟨rfl, k + 1, _, hr', hk, rfl, ⟨?_, fun c o hc e => ?_, fun j l' e => ?_⟩, ⟨us.set k y, by rw [List.length_set]; exact hul, ?_, ?_⟩, ?_⟩
      · rw [Heap.size_update, hs3.1, L.sz]
      · exact (Heap.get?_update_other _ _ (nne (by omega))).trans ((hs3.2 c (nne (by omega))).trans (L.keep c o hc e))
      · have hj := (List.getElem?_eq_some_iff.mp e).1
        by_cases hjk : j = k
        · subst hjk
          rw [hl] at e
          cases e
          rw [if_pos (Nat.lt_succ_self _)]
          exact isTupleIter_at it3 fun o q => (Heap.get?_update_other _ _ (nne (by omega))).trans q
        · have e2 : (if j < k + 1 then i + 1 else i) = if j < k then i + 1 else i := by
            by_cases h : j < k
            · rw [if_pos h, if_pos (by omega)]
            · rw [if_neg h, if_neg (by omega)]
          rw [e2]
          exact isTupleIter_at (L.it j l' e) fun o q => (Heap.get?_update_other _ _ (nne (by omega))).trans ((hs3.2 _ (nne (by omega))).trans q)
      · rw [List.take_add_one, List.take_add_one, hyk, List.getElem?_set_self (by omega)]
        rw [List.take_set_of_le (Nat.le_refl _), hut]
      · rw [Heap.get?_update_self _ hus3 rfl]
        simp [Obj.mapSeq, tupO]
      · exact (Heap.get?_update_other _ _ (nne (by omega))).trans ((hs3.2 _ (nne (by omega))).trans hz')
    case fin =>
      rintro b s' ⟨rfl, k, h', hr, hkn, rfl, L, ⟨us, hul, hut, hus⟩, hz'⟩
      have hk : k = n := by
        have := congrArg List.length hr
        simp at this
        omega
      subst hk
      have e0 : us = ys := by
        rw [List.take_of_length_le (by omega), List.take_of_length_le (by omega)] at hut
        exact hut
      subst e0
      dsimp only
      refine wpAny_bind (wpAny_seqItems hus rfl ?_)
      have ev : us.toArray.toList = us := by simp
      have hsome : ∃ u us', us = u :: us' := by
        cases us with
        | nil => simp at hul; omega
        | cons u us' => exact ⟨u, us', rfl⟩
      obtain ⟨u, us', eu⟩ := hsome
      subst eu
      refine wpAny_bind (wpAny_newTuple ?_ (by show (u :: us').length ≤ sizeLine; rw [hul]; exact sz3 (by omega)))
      show wpAny _ _ (Builtin.SmallTypes.ownedTupleHandOut (.ref (B + k + 2)) (.ref h'.objs.size) >>= _) _ _ _
      refine wpAny_bind ?_
      unfold Builtin.SmallTypes.ownedTupleHandOut
      have hzlt : B + k + 2 < h'.objs.size := Heap.lt_size hz'
      have hz4 : (h'.push { cls := .type "tuple", data := .seq (u :: us').toArray }).get? (B + k + 2) = some (zipO .ellipsis g1 B k) := Heap.get?_push_of_some _ hz'
      refine wpAny_bind (wpAny_setField_rec hz4 (by simp) fun h5 hz5 hs5 => ?_)
      replace hz5 : h5.get? (B + k + 2) = some (zipO (rawInt h'.objs.size) g1 B k) := hz5
      refine wpAny_setField_rec hz5 (by simp) fun h6 hz6 hs6 => ?_
      replace hz6 : h6.get? (B + k + 2) = some (zipO (rawInt h'.objs.size) false B k) := hz6
      have up : ∀ (c : Nat) o, c ≠ B + k + 2 → h'.get? c = some o → h6.get? c = some o := fun c o hc e => (hs6.2 c hc).trans ((hs5.2 c hc).trans (Heap.get?_push_of_some _ e))
      refine wpAny_pure ⟨_, rfl, ?_⟩
      have esz : h'.objs.size = s.heap.objs.size := L.sz
      have fin := hQ h6 ⟨⟨hne, hlt, fun j l e => ?_, ?_⟩, ⟨u :: us', by rw [hn]; exact hul, by rw [hn]; exact up _ _ (nne (by omega)) hus⟩, rawInt h'.objs.size, false, .inr ⟨_, rfl⟩, by rw [hn]; exact hz6⟩ ?_ ?_ fun c o hc e => up c o (nne (by omega)) (L.keep c o (by omega) e)
      · rw [← esz] at fin
        exact fin
      · have hj := (List.getElem?_eq_some_iff.mp e).1
        have it0 := L.it j l e
        rw [if_pos (by omega)] at it0
        exact isTupleIter_at it0 fun o q => up _ o (nne (by omega)) q
      · rw [hn]
        exact up _ _ (nne (by omega)) (L.keep _ _ (.inr (.inr rfl)) hti)
      · rw [← esz]
        exact (hs6.2 _ (nne (by omega))).trans ((hs5.2 _ (nne (by omega))).trans (Heap.get?_push_size _ rfl))
      · rw [hs6.1, hs5.1, Heap.size_push, esz]
  | false =>
    rw [if_neg (by decide)]
    refine wpAny_bind (PySem.MeetsSeq2.wpAny_forIn_array _ (fun rest b s' => ∃ k h', rest = ((List.range n).map fun j => Value.ref (B + j)).drop k ∧ k ≤ n ∧ b = (none, (ys.take k).toArray) ∧ s' = { s with heap := h' } ∧ ZL s.heap B n ls ys i k h' ∧ h'.get? (B + n + 1) = some (tupO vs0.toArray) ∧ h'.get? (B + n + 2) = some (zipO g0 g1 B n)) _ ?turn ?fin _ _ ?init)
    case init => exact ⟨0, h1, by simp, Nat.zero_le _, rfl, rfl, L1, hto1, hz1⟩
    case turn =>
      rintro x rest b s' ⟨k, h', hr, hkn, rfl, rfl, L, hto', hz'⟩
      have hk : k < n := by
        refine Nat.not_le.mp fun hle => ?_
        rw [List.drop_of_length_le (by simp; omega)] at hr
        cases hr
      have hlen : k < ((List.range n).map fun j => Value.ref (B + j)).length := by simp; omega
      rw [List.drop_eq_getElem_cons hlen] at hr
      injection hr with hx hr'
      have hx : x = Value.ref (B + k) := by rw [hx]; simp
      subst hx
      obtain ⟨l, hl⟩ := lk hk
      obtain ⟨items, y, hI, hi, hyk⟩ := hy k l hl
      have hlB : @LT.lt Nat _ l B := hlt l (List.mem_of_getElem? hl)
      have it0 := L.it k l hl
      rw [if_neg (Nat.lt_irrefl k)] at it0
      refine wpAny_bind (wpAny_holding ?_)
      show wpAny _ _ (Builtin.SmallTypes.nextOf (.ref (B + k)) >>= _) _ _ _
      refine wpAny_bind (RZ.nextOf_tuple_item it0 (isTuple_at hI fun o q => L.keep l o (.inl hlB) q) hi fun h3 it3 hs3 => wpAny_pure (wpAny_pure ?_))
      refine ⟨k + 1, h3, hr', hk, ?_, rfl, ⟨?_, fun c o hc e => ?_, fun j l' e => ?_⟩, ?_, ?_⟩
      · dsimp only
        rw [List.take_add_one, hyk]
        simp
      · rw [hs3.1, L.sz]
      · exact (hs3.2 c (nne (by omega))).trans (L.keep c o hc e)
      · have hj := (List.getElem?_eq_some_iff.mp e).1
        by_cases hjk : j = k
        · subst hjk
          rw [hl] at e
          cases e
          rw [if_pos (Nat.lt_succ_self _)]
          exact it3
        · have e2 : (if j < k + 1 then i + 1 else i) = if j < k then i + 1 else i := by
            by_cases h : j < k
            · rw [if_pos h, if_pos (by omega)]
            · rw [if_neg h, if_neg (by omega)]
          rw [e2]
          exact isTupleIter_at (L.it j l' e) fun o q => (hs3.2 _ (nne (by omega))).trans q
      · exact (hs3.2 _ (nne (by omega))).trans hto'
      · exact (hs3.2 _ (nne (by omega))).trans hz'
    case fin =>
      rintro b s' ⟨k, h', hr, hkn, rfl, rfl, L, hto', hz'⟩
      have hk : k = n := by
        have := congrArg List.length hr
        simp at this
        omega
      subst hk
      dsimp only
      rw [List.take_of_length_le (by omega)]
      have hsome : ∃ u us', ys = u :: us' := by
        cases ys with
        | nil => simp at hyl; omega
        | cons u us' => exact ⟨u, us', rfl⟩
      obtain ⟨u, us', eu⟩ := hsome
      subst eu
      refine wpAny_bind (wpAny_newTuple ?_ (by show (u :: us').length ≤ sizeLine; rw [hyl]; exact sz3 (by omega)))
      refine wpAny_pure ⟨_, rfl, ?_⟩
      have esz : h'.objs.size = s.heap.objs.size := L.sz
      have up : ∀ (c : Nat) o, h'.get? c = some o → (h'.push { cls := .type "tuple", data := .seq (u :: us').toArray }).get? c = some o := fun c o e => Heap.get?_push_of_some _ e
      have fin := hQ (h'.push { cls := .type "tuple", data := .seq (u :: us').toArray }) ⟨⟨hne, hlt, fun j l e => ?_, ?_⟩, ⟨vs0, by rw [hn]; exact hv0, by rw [hn]; exact up _ _ hto'⟩, g0, g1, hg0, by rw [hn]; exact up _ _ hz'⟩ ?_ ?_ fun c o hc e => up c o (L.keep c o (by omega) e)
      · rw [← esz] at fin
        exact fin
      · have hj := (List.getElem?_eq_some_iff.mp e).1
        have it0 := L.it j l e
        rw [if_pos (by omega)] at it0
        exact isTupleIter_at it0 fun o q => up _ o q
      · rw [hn]
        exact up _ _ (L.keep _ _ (.inr (.inr rfl)) hti)
      · rw [← esz]
        exact Heap.get?_push_size _ rfl
      · rw [Heap.size_push, esz]
/-- the first of them has come to its end -/
theorem zipN_next_end {B i : Nat} {ls : List Addr} {Q : Fin → Shared → Prop} (hh : A.handled = none) (Z : ZOk s.heap B ls i) {l : Addr} {items : Array Value} (hl : ls[0]? = some l) (hI : s.heap.IsTuple l items) (hi : items[i]? = none)
    (hE : ∀ h' e, (∀ c o, (c < B ∨ B + ls.length + 2 < c) → s.heap.get? c = some o → h'.get? c = some o) → (∃ o, h'.get? e = some o ∧ o.cls = .type "StopIteration") → E (.ref e) { s with heap := h' }) :
    wpAny (model prog w) A (Builtin.«zip.__next__» ⟨[.ref (B + ls.length + 2)], []⟩) Q E s := by
  obtain ⟨⟨hne, hlt, hit, hti⟩, ⟨vs0, hv0, hto⟩, f0, f1, hf0, hz⟩ := Z
  generalize hn : ls.length = n at *
  have hn0 : 0 < n := by rw [← hn]; exact List.length_pos_iff.mpr hne
  have hlB : @LT.lt Nat _ l B := hlt l (List.mem_of_getElem? hl)
  show wpAny _ _ (field (.ref (B + n + 2)) 2 >>= _) _ _ _
  refine wpAny_bind (wpAny_field hz rfl (x := .bool false) rfl ?_)
  show wpAny _ _ (field (.ref (B + n + 2)) 3 >>= _) _ _ _
  refine wpAny_bind (wpAny_field hz rfl (x := .ref (B + n)) rfl ?_)
  refine wpAny_bind (wpAny_seqItems hti rfl ?_)
  obtain ⟨m, hm⟩ : ∃ m, n = m + 1 := ⟨n - 1, by omega⟩
  have hlst : (List.range n).map (fun j => Value.ref (B + j)) = .ref (B + 0) :: (List.range m).map (fun j => Value.ref (B + (j + 1))) := by
    rw [hm, List.range_succ_eq_map, List.map_cons, List.map_map]
    rfl
  have hemp : (((List.range n).map fun j => Value.ref (B + j)).toArray).isEmpty = false := by
    rw [hlst]
    rfl
  simp only [hemp, Bool.false_eq_true, if_false]
  refine wpAny_bind (wpAny_mono (zipN_free hf0 hz) (fun b s1 h1 => ?_) fun _ _ e => e)
  obtain ⟨h1, g0, g1, rfl, hs1, hg0, hz1⟩ := h1
  have it1 : h1.IsTupleIter (B + 0) l i := isTupleIter_at (hit 0 l hl) fun o q => (hs1.2 _ (nne (by omega))).trans q
  have hI1 : h1.IsTuple l items := isTuple_at hI fun o q => (hs1.2 _ (nne (by omega))).trans q
  cases b with
  | true =>
    rw [if_pos rfl]
    refine wpAny_bind (wpAny_rule ?_)
    refine wpAny_bind (wpAny_field hz1 rfl (x := .ref (B + n + 1)) rfl ?_)
    refine wpAny_bind (wpAny_setField_rec hz1 (by simp) fun h2 hz2 hs2 => ?_)
    replace hz2 : h2.get? (B + n + 2) = some (zipO .ellipsis g1 B n) := hz2
    refine wpAny_bind ?_
    simp only [hlst, List.zipIdx_cons, List.forIn_cons]
    refine wpAny_bind (wpAny_bind (wpAny_onRaise ?_))
    show wpAny _ _ (Builtin.SmallTypes.nextOf (.ref (B + 0)) >>= _) _ _ _
    refine wpAny_bind (RZ.nextOf_tuple_end hh (isTupleIter_at it1 fun o q => (hs2.2 _ (nne (by omega))).trans q) (isTuple_at hI1 fun o q => (hs2.2 _ (nne (by omega))).trans q) hi fun h3 e hs3 he => ?_)
    obtain ⟨oe, hoe, hce⟩ := he
    have hz3 : h3.get? (B + n + 2) = some (zipO .ellipsis g1 B n) := hs3 _ _ (nne (by omega)) hz2
    have hez : e ≠ B + n + 2 := fun x => by subst x; rw [hz3] at hoe; cases hoe; simp [zipO] at hce
    refine wpAny_setField_rec hz3 (by simp) fun h4 _ hs4 => hE h4 e (fun c o hc x => (hs4.2 _ (nne (by omega))).trans (hs3 _ _ (nne (by omega)) ((hs2.2 _ (nne (by omega))).trans ((hs1.2 _ (nne (by omega))).trans x)))) ⟨oe, (hs4.2 _ hez).trans hoe, hce⟩
  | false =>
    rw [if_neg (by decide)]
    refine wpAny_bind ?_
    rw [← Array.forIn_toList]
    simp only [hlst, List.forIn_cons]
    refine wpAny_bind (wpAny_bind (wpAny_holding ?_))
    show wpAny _ _ (Builtin.SmallTypes.nextOf (.ref (B + 0)) >>= _) _ _ _
    refine wpAny_bind (RZ.nextOf_tuple_end hh it1 hI1 hi fun h3 e hs3 he => ?_)
    exact hE h3 e (fun c o hc x => hs3 _ _ (nne (by omega)) ((hs1.2 _ (nne (by omega))).trans x)) he
end
/-- what a new zip leaves -/
def ZNew (h h' : Heap) (ls : List Addr) : Prop := ZOk h' h.objs.size ls 0 ∧ (∀ c o, h.get? c = some o → h'.get? c = some o)
theorem meets_zipN_new (ls : List Addr) (hz : ls.length ≤ 1000) :
    Meets (Builtin.«zip.__new__» ⟨.type "zip" :: ls.map Value.ref, []⟩) (fun _ R s => (ls ≠ [] ∧ ∀ l ∈ ls, ∃ items, s.heap.IsTuple l items) ∧
      ∀ h', ZNew s.heap h' ls → R (.ok (.ret (.ref (s.heap.objs.size + ls.length + 2)))) { s with heap := h' }) :=
  .of_wp fun prog w A R s h => by
    obtain ⟨hp, g, d, tk, os⟩ := s
    obtain ⟨⟨hne, hT⟩, h⟩ := h
    have hsub := sub_zip
    unfold Builtin.«zip.__new__»
    wp_walk
    show wpAny _ _ (forIn (ls.map Value.ref) (#[] : Array Value) (fun x its => do
      let v ← holding its.toList (pyIter x)
      pure (ForInStep.yield (its.push v)))) _ _ _
    refine wpAny_forIn_list _ (fun rest b s' => ∃ k h', rest = (ls.map Value.ref).drop k ∧ k ≤ ls.length ∧ b = ((List.range k).map fun j => Value.ref (hp.objs.size + j)).toArray ∧ s' = ⟨h', g, d, tk, os⟩ ∧ h'.objs.size = hp.objs.size + k ∧ (∀ c o, hp.get? c = some o → h'.get? c = some o) ∧
      ∀ (j : Nat) (l : Addr), j < k → ls[j]? = some l → h'.IsTupleIter (hp.objs.size + j) l 0) _ ?turn ?fin _ _ ?init
    case init => exact ⟨0, hp, rfl, Nat.zero_le _, rfl, rfl, rfl, fun _ _ e => e, fun j l hj => absurd hj (Nat.not_lt_zero j)⟩
    case turn =>
      rintro x rest b s' ⟨k, h', hr, hkn, rfl, rfl, hsz, hk, hit⟩
      have hkl : k < ls.length := by
        refine Nat.not_le.mp fun hle => ?_
        rw [List.drop_of_length_le (by simp; omega)] at hr
        cases hr
      rw [List.drop_eq_getElem_cons (by simp; omega)] at hr
      injection hr with hx hr'
      have hx : x = Value.ref ls[k] := by rw [hx]; simp
      subst hx
      obtain ⟨items, hI⟩ := hT ls[k] (List.getElem_mem hkl)
      have hI' : h'.IsTuple ls[k] items := isTuple_at hI fun o q => hk _ _ q
      refine wpAny_bind (wpAny_holding (wpAny_pyIter_tuple (show Heap.IsTuple (Shared.heap ⟨h', g, d, tk, os⟩) ls[k] items from hI') (wpAny_pure ?_)))
      refine ⟨k + 1, _, hr', hkl, ?_, rfl, by rw [Heap.size_push, hsz]; rfl, fun c o e => Heap.get?_push_of_some _ (hk c o e), fun j l hj hl => ?_⟩
      · rw [List.range_succ, List.map_append]
        show Array.push _ (Value.ref h'.objs.size) = _
        rw [hsz]
        simp
      · by_cases hjk : j = k
        · subst hjk
          have e : ls[j] = l := by
            rw [List.getElem?_eq_getElem hkl] at hl
            exact Option.some.inj hl
          rw [← e, ← hsz]
          exact ⟨_, Heap.get?_push_size _ rfl, rfl, rfl⟩
        · exact isTupleIter_at (hit j l (by omega) hl) fun o q => Heap.get?_push_of_some _ q
    case fin =>
      rintro b s' ⟨k, h', hr, hkn, rfl, rfl, hsz, hk, hit⟩
      have hkl : k = ls.length := by
        have := congrArg List.length hr
        simp at this
        omega
      have hk0 : 0 < k := by rw [hkl]; exact List.length_pos_iff.mpr hne
      obtain ⟨m, hm⟩ : ∃ m, k = m + 1 := ⟨k - 1, by omega⟩
      have hl1 : ((List.range k).map fun j => Value.ref (hp.objs.size + j)) = .ref (hp.objs.size + 0) :: (List.range m).map (fun j => Value.ref (hp.objs.size + (j + 1))) := by
        rw [hm, List.range_succ_eq_map, List.map_cons, List.map_map]
        rfl
      have hlen : ((List.range k).map fun j => Value.ref (hp.objs.size + j)).length = k := by rw [List.length_map, List.length_range]
      refine wpAny_pure ?_
      show wpAny _ _ (newTuple ((List.range k).map fun j => Value.ref (hp.objs.size + j)) >>= _) _ _ _
      refine wpAny_bind ?_
      have t1 : ∀ {Q : Value → Shared → Prop} {E : Value → Shared → Prop}, Q (.ref h'.objs.size) ⟨h'.push (tupO ((List.range k).map fun j => Value.ref (hp.objs.size + j)).toArray), g, d, tk, os⟩ → wpAny (model prog w) A.in1 (newTuple ((List.range k).map fun j => Value.ref (hp.objs.size + j))) Q E ⟨h', g, d, tk, os⟩ := fun {Q E} q => by
        have hlen' := hlen
        rw [hl1] at q hlen' ⊢
        exact wpAny_newTuple (s := ⟨h', g, d, tk, os⟩) q (by rw [hlen', hkl]; exact sz3 (by omega))
      refine t1 ?_
      show wpAny _ _ (newTuple (((List.range k).map fun j => Value.ref (hp.objs.size + j)).map fun _ => Value.none) >>= _) _ _ _
      refine wpAny_bind ?_
      have hlen2 : (((List.range k).map fun j => Value.ref (hp.objs.size + j)).map fun _ => Value.none).length = k := by rw [List.length_map, hlen]
      have t2 : ∀ {h2 : Heap} {Q : Value → Shared → Prop} {E : Value → Shared → Prop}, Q (.ref h2.objs.size) ⟨h2.push (tupO (((List.range k).map fun j => Value.ref (hp.objs.size + j)).map fun _ => Value.none).toArray), g, d, tk, os⟩ → wpAny (model prog w) A.in1 (newTuple (((List.range k).map fun j => Value.ref (hp.objs.size + j)).map fun _ => Value.none)) Q E ⟨h2, g, d, tk, os⟩ := fun {h2 Q E} q => by
        have hlen' := hlen2
        rw [hl1, List.map_cons] at q hlen' ⊢
        exact wpAny_newTuple (s := ⟨h2, g, d, tk, os⟩) q (by rw [hlen', hkl]; exact sz3 (by omega))
      refine t2 ?_
      refine wpAny_bind ?_
      show wpAny _ _ (newObj (.type "zip") (.fields #[.none, .bool false, .bool false, .ref h'.objs.size, .ref (h'.push (tupO ((List.range k).map fun j => Value.ref (hp.objs.size + j)).toArray)).objs.size])) _ _ _
      refine wpAny_newObj_type ?_
      refine wpAny_pure ⟨_, rfl, ?_⟩
      generalize hvv : (((List.range k).map fun j => Value.ref (hp.objs.size + j)).map fun _ => Value.none) = vv at hlen2
      have z1 : (h'.push (tupO ((List.range k).map fun j => Value.ref (hp.objs.size + j)).toArray)).objs.size = hp.objs.size + k + 1 := by rw [Heap.size_push, hsz]
      have z2 : ((h'.push (tupO ((List.range k).map fun j => Value.ref (hp.objs.size + j)).toArray)).push (tupO vv.toArray)).objs.size = hp.objs.size + k + 2 := by rw [Heap.size_push, z1]
      have g1 : ∀ c o, h'.get? c = some o → (((h'.push (tupO ((List.range k).map fun j => Value.ref (hp.objs.size + j)).toArray)).push (tupO vv.toArray)).push (zipO .none false hp.objs.size k)).get? c = some o := fun c o e => Heap.get?_push_of_some _ (Heap.get?_push_of_some _ (Heap.get?_push_of_some _ e))
      have fin := h (((h'.push (tupO ((List.range k).map fun j => Value.ref (hp.objs.size + j)).toArray)).push (tupO vv.toArray)).push (zipO .none false hp.objs.size k)) ⟨⟨⟨hne, fun l hl => ?_, fun j l e => ?_, ?_⟩, ⟨vv, ?_, ?_⟩, .none, false, .inl rfl, ?_⟩, fun c o e => g1 c o (hk c o e)⟩
      · show R (Except.ok (Flow.ret (Value.ref ((h'.push (tupO ((List.range k).map fun j => Value.ref (hp.objs.size + j)).toArray)).push (tupO vv.toArray)).objs.size))) ⟨((h'.push (tupO ((List.range k).map fun j => Value.ref (hp.objs.size + j)).toArray)).push (tupO vv.toArray)).push { cls := .type "zip", data := .fields #[.none, .bool false, .bool false, .ref h'.objs.size, .ref (h'.push (tupO ((List.range k).map fun j => Value.ref (hp.objs.size + j)).toArray)).objs.size] }, g, d, tk, os⟩
        rw [z2, z1, hsz]
        rw [← hkl] at fin
        exact fin
      · obtain ⟨items, o, e, _⟩ := hT l hl
        exact Heap.lt_size e
      · have hj := (List.getElem?_eq_some_iff.mp e).1
        exact isTupleIter_at (hit j l (by omega) e) fun o q => g1 _ _ q
      · rw [← hkl]
        show _ = some (tupO _)
        rw [show hp.objs.size + k = h'.objs.size from hsz.symm]
        exact Heap.get?_push_of_some _ (Heap.get?_push_of_some _ (Heap.get?_push_size _ rfl))
      · rw [hlen2, hkl]
      · rw [← hkl]
        show _ = some (tupO _)
        rw [show hp.objs.size + k + 1 = (h'.push (tupO ((List.range k).map fun j => Value.ref (hp.objs.size + j)).toArray)).objs.size from z1.symm]
        exact Heap.get?_push_of_some _ (Heap.get?_push_size _ rfl)
      · rw [← hkl]
        show _ = some (zipO _ _ _ _)
        rw [show hp.objs.size + k + 2 = ((h'.push (tupO ((List.range k).map fun j => Value.ref (hp.objs.size + j)).toArray)).push (tupO vv.toArray)).objs.size from z2.symm]
        exact Heap.get?_push_size _ rfl
end K78

-- part KZipB
set_option Elab.async false
set_option linter.all false
set_option maxRecDepth 100000
set_option maxHeartbeats 4000000
/-! KZipB: for x in zip(*t): the walk. -/
namespace K78
open PySem PySem.Spec PyProof.Rows L2
open Evl (Ex ex_t ex_l ex_rd fresh_back)
open Enc (enc)
theorem zipN_type : ∀ (us : List Value), us.length ≤ 6 → us ≠ [] → checkTypeCall "zip" ⟨us, []⟩ = pure () ∧ checkBuiltinCall "zip.__new__" ⟨.type "zip" :: us, []⟩ = pure () ∧ ∀ obj, argsOk "object.__init__" ⟨obj :: us, []⟩
  | [], _, h => absurd rfl h
  | [a], _, _ => ⟨by kernel_rfl, by kernel_rfl, fun obj => by unfold argsOk; kernel_rfl⟩
  | [a, b], _, _ => ⟨by kernel_rfl, by kernel_rfl, fun obj => by unfold argsOk; kernel_rfl⟩
  | [a, b, c], _, _ => ⟨by kernel_rfl, by kernel_rfl, fun obj => by unfold argsOk; kernel_rfl⟩
  | [a, b, c, d], _, _ => ⟨by kernel_rfl, by kernel_rfl, fun obj => by unfold argsOk; kernel_rfl⟩
  | [a, b, c, d, e], _, _ => ⟨by kernel_rfl, by kernel_rfl, fun obj => by unfold argsOk; kernel_rfl⟩
  | [a, b, c, d, e, f], _, _ => ⟨by kernel_rfl, by kernel_rfl, fun obj => by unfold argsOk; kernel_rfl⟩
  | _ :: _ :: _ :: _ :: _ :: _ :: _ :: _, h, _ => by simp at h
section
variable {prog : Program} {w : World} {A : Around} {E : Value → Shared → Prop} {s : Shared}
theorem call_zipN {ls : List Addr} {Q : Value → Shared → Prop} (hne : ls ≠ []) (h6 : ls.length ≤ 6) (hT : ∀ l ∈ ls, ∃ items, s.heap.IsTuple l items)
    (h : ∀ h', ZNew s.heap h' ls → Q (.ref (s.heap.objs.size + ls.length + 2)) { s with heap := h' }) : wpAny (model prog w) A (call (.type "zip") (ls.map Value.ref)) Q E s := by
  obtain ⟨h1, h2, h3⟩ := zipN_type (ls.map Value.ref) (by rw [List.length_map]; exact h6) (fun e => hne (List.map_eq_nil_iff.mp e))
  refine callType_new F.called_zip (by decide) h1 h2 h3 F.entry_zip_new (meets_zipN_new ls (by omega)) ⟨⟨hne, hT⟩, fun h' z => ?_⟩
  obtain ⟨f0, f1, _, hz⟩ := z.1.z
  exact ⟨⟨_, hz, rfl⟩, h h' z⟩
theorem pyNext_zipN_item {B i : Nat} {ls : List Addr} {ys : List Value} {Q : Option Value → Shared → Prop} (Z : ZOk s.heap B ls i) (hzl : ls.length ≤ 1000) (hyl : ys.length = ls.length) (hy : ∀ (j : Nat) (l : Addr), ls[j]? = some l → ∃ (items : Array Value) (y : Value), s.heap.IsTuple l items ∧ items[i]? = some y ∧ ys[j]? = some y)
    (hQ : ∀ h', ZOk h' B ls (i + 1) → h'.get? s.heap.objs.size = some (tupO ys.toArray) → h'.objs.size = s.heap.objs.size + 1 → (∀ c o, (c < B ∨ B + ls.length + 2 < c) → s.heap.get? c = some o → h'.get? c = some o) → Q (some (.ref s.heap.objs.size)) { s with heap := h' }) :
    wpAny (model prog w) A (pyNext (.ref (B + ls.length + 2))) Q E s := by
  obtain ⟨f0, f1, _, hz⟩ := Z.z
  have hT : s.TypeIs (.ref (B + ls.length + 2)) "zip" := ⟨_, hz, rfl⟩
  unfold pyNext
  exact wpAny_bind (wpAny_attempt (wpAny_callSpecial?_slot (name := Str.ofString "__next__") hT F.slot_zip_next
    (wpAny_call_entry F.slot_zip_next hT F.entry_zip_next
      (zipN_next_item Z hzl hyl hy fun h' a1 a2 a3 a4 => wpAny_pure (hQ h' a1 a2 a3 a4)) (F.args_zip_next_1 _))))
theorem pyNext_zipN_end {B i : Nat} {ls : List Addr} {Q : Option Value → Shared → Prop} (hh : A.handled = none) (Z : ZOk s.heap B ls i) {l : Addr} {items : Array Value} (hl : ls[0]? = some l) (hI : s.heap.IsTuple l items) (hi : items[i]? = none)
    (hQ : ∀ h', (∀ c o, (c < B ∨ B + ls.length + 2 < c) → s.heap.get? c = some o → h'.get? c = some o) → Q none { s with heap := h' }) : wpAny (model prog w) A (pyNext (.ref (B + ls.length + 2))) Q E s := by
  obtain ⟨f0, f1, _, hz⟩ := Z.z
  have hT : s.TypeIs (.ref (B + ls.length + 2)) "zip" := ⟨_, hz, rfl⟩
  unfold pyNext
  refine wpAny_bind (wpAny_attempt (wpAny_callSpecial?_slot (name := Str.ofString "__next__") hT F.slot_zip_next
    (wpAny_call_entry F.slot_zip_next hT F.entry_zip_next (zipN_next_end hh Z hl hI hi fun h' e hk he => ?_) (F.args_zip_next_1 _))))
  obtain ⟨o, ho, hc⟩ := he
  refine wpAny_bind (wpAny_isInstance (T := "StopIteration") (b := true) ⟨o, ho, hc⟩ isSubtype_stop ?_)
  exact wpAny_pure (hQ _ hk)
theorem pyIter_zipN {B n : Nat} {f0 : Value} {f1 : Bool} {Q : Value → Shared → Prop} (hz : s.heap.get? (B + n + 2) = some (zipO f0 f1 B n)) (h : Q (.ref (B + n + 2)) s) : wpAny (model prog w) A (pyIter (.ref (B + n + 2))) Q E s := by
  have hT : s.TypeIs (.ref (B + n + 2)) "zip" := ⟨_, hz, rfl⟩
  refine wpAny_pyIter_slot hT F.slot_zip_iter (wpAny_call_entry F.slot_zip_iter hT F.entry_zip_iter ?_ (F.args_zip_iter_1 _))
  show wpAny _ _ (ret (.ref (B + n + 2))) _ _ s
  exact wpAny_pure ⟨_, rfl, "zip", _, hT, F.slot_zip_next.lookup, h⟩
end
def ItzN (K : PySem.W.Frag) (ls : List Addr) : It :=
  ⟨fun i H => ∀ l ∈ ls, ∃ (xs : List V) (x : V), SqT K H l xs ∧ xs[i]? = some x,
    fun i H v H' => ∃ (T : Addr) (vs : List V), v = .ref T ∧ H T = none ∧ H' = upd H T (.tup vs) ∧ vs.length = ls.length ∧ ∀ (j : Nat) (l : Addr) (xs : List V), ls[j]? = some l → SqT K H l xs → ∃ x, xs[i]? = some x ∧ vs[j]? = some x,
    fun i H => ∃ (l : Addr) (xs : List V), ls[0]? = some l ∧ SqT K H l xs ∧ xs.length ≤ i⟩
def fpN (B n : Nat) : List Addr := (List.range (n + 3)).map fun j => B + j
theorem mem_fpN {B n c : Nat} : c ∈ fpN B n ↔ B ≤ c ∧ c ≤ B + n + 2 := by
  unfold fpN
  rw [List.mem_map]
  constructor
  · rintro ⟨j, hj, rfl⟩
    have := List.mem_range.mp hj
    omega
  · intro h
    exact ⟨c - B, List.mem_range.mpr (by omega), by omega⟩
theorem cases_fp {B n c : Nat} (h : c ∈ fpN B n) : (∃ j, j < n ∧ B + j = c) ∨ c = B + n ∨ c = B + n + 1 ∨ c = B + n + 2 := by
  obtain ⟨h1, h2⟩ := mem_fpN.mp h
  by_cases h3 : c < B + n
  · exact .inl ⟨c - B, by omega, by omega⟩
  · omega
theorem out_fp {B n c : Nat} (h : c ∉ fpN B n) : c < B ∨ B + n + 2 < c := by
  refine Classical.not_not.mp fun hn => h (mem_fpN.mpr ?_)
  omega
/-- values for all places -/
theorem vals_pick {vs : Nat → V} {us : Nat → Value} (h : ∀ j, RelV (vs j) (us j)) : ∀ (l : List Nat), Vals (l.map vs) (l.map us)
  | [] => .nil
  | j :: l => .cons (h j) (vals_pick h l)
theorem turn_zipN {P : Program} {w : World} {K : PySem.W.Frag} {x : Str} {tpos : Pos} {B : Addr} {ls : List Addr} (h6 : ls.length ≤ 1000) :
    Turn P w K (.Name x tpos) (ItzN K ls) (fpN B ls.length) (B + ls.length + 2) (fun i h => ZOk h B ls i) where
  mem := mem_fpN.mpr ⟨by omega, Nat.le_refl _⟩
  obj := fun i h Z c hc => by
    obtain ⟨⟨hne, hlt, hit, hti⟩, ⟨vs0, hv0, hto⟩, f0, f1, hf0, hz⟩ := Z
    rcases cases_fp hc with ⟨j, hj, rfl⟩ | rfl | rfl | rfl
    · obtain ⟨o, e, _, d⟩ := hit j ls[j] (List.getElem?_eq_getElem hj)
      exact ⟨o, e, fun v q => by rw [d] at q; cases q⟩
    · exact ⟨_, hti, fun v q => nomatch q⟩
    · exact ⟨_, hto, fun v q => nomatch q⟩
    · exact ⟨_, hz, fun v q => nomatch q⟩
  keep := fun i h h' Z k => by
    obtain ⟨⟨hne, hlt, hit, hti⟩, ⟨vs0, hv0, hto⟩, f0, f1, hf0, hz⟩ := Z
    exact ⟨⟨hne, hlt, fun j l e => isTupleIter_at (hit j l e) fun o q => k _ (mem_fpN.mpr (by have := (List.getElem?_eq_some_iff.mp e).1; omega)) o q, k _ (mem_fpN.mpr (by omega)) _ hti⟩, ⟨vs0, hv0, k _ (mem_fpN.mpr (by omega)) _ hto⟩, f0, f1, hf0, k _ (mem_fpN.mpr (by omega)) _ hz⟩
  item := by
    intro X hP hw hK hc i pins s σ H E I hf Z hg
    subst hP hw hK
    have hz := Z.z
    have hgo : ∀ l ∈ ls, ∃ (xs : List V) (y : V) (items : Array Value) (u : Value), SqT X.K H l xs ∧ xs[i]? = some y ∧ s.heap.IsTuple l items ∧ items[i]? = some u ∧ RelV y u := fun l hl => by
      obtain ⟨xs, y, hq, hx⟩ := hg l hl
      obtain ⟨its, rv, p, _⟩ := I.tuple hq
      obtain ⟨u, hu, ru⟩ := rv.get hx
      exact ⟨xs, y, its.toArray, u, hq, hx, p, by simpa using hu, ru⟩
    have pick : ∃ (vs : List V) (us : List Value), Vals vs us ∧ vs.length = ls.length ∧ us.length = ls.length ∧ ∀ (j : Nat) (l : Addr), ls[j]? = some l → ∃ (xs : List V) (y : V) (items : Array Value) (u : Value), SqT X.K H l xs ∧ xs[i]? = some y ∧ vs[j]? = some y ∧ s.heap.IsTuple l items ∧ items[i]? = some u ∧ us[j]? = some u := by
      have : ∀ ks : List Addr, (∀ l ∈ ks, l ∈ ls) → ∃ (vs : List V) (us : List Value), Vals vs us ∧ vs.length = ks.length ∧ us.length = ks.length ∧ ∀ (j : Nat) (l : Addr), ks[j]? = some l → ∃ (xs : List V) (y : V) (items : Array Value) (u : Value), SqT X.K H l xs ∧ xs[i]? = some y ∧ vs[j]? = some y ∧ s.heap.IsTuple l items ∧ items[i]? = some u ∧ us[j]? = some u := by
        intro ks
        induction ks with
        | nil => intro _; exact ⟨[], [], .nil, rfl, rfl, fun j l e => by simp at e⟩
        | cons l ks ih =>
          intro hk
          obtain ⟨vs, us, h1, h2, h3, h4⟩ := ih fun l' hl' => hk l' (List.mem_cons_of_mem _ hl')
          obtain ⟨xs, y, items, u, q1, q2, q3, q4, q5⟩ := hgo l (hk l List.mem_cons_self)
          refine ⟨y :: vs, u :: us, .cons q5 h1, by simp [h2], by simp [h3], fun j l' e => ?_⟩
          cases j with
          | zero =>
            simp at e
            subst e
            exact ⟨xs, y, items, u, q1, q2, rfl, q3, q4, rfl⟩
          | succ j => exact h4 j l' (by simpa using e)
      exact this ls fun _ h => h
    obtain ⟨vs, us, hv, hvl, hul, hall⟩ := pick
    have hout : ∀ {c : Addr}, c ∉ fpN B ls.length → (c < B ∨ B + ls.length + 2 < c) := fun hcn => out_fp hcn
    refine pyNext_zipN_item Z h6 hul (fun j l e => by
      obtain ⟨xs, y, items, u, q1, q2, q3, q4, q5, q6⟩ := hall j l e
      exact ⟨items, u, q4, q5, q6⟩) fun h' Z' hT hsz hk => ?_
    refine ⟨_, rfl, ?_⟩
    show wpAny _ _ (pure ()) _ _ _
    have new : ObjOk X.prog X.w (upd H s.heap.objs.size (.tup vs)) h' s.heap.objs.size (.tup vs) :=
      ⟨by rw [hvl]; exact sz3 (by omega), us, hv, ⟨_, hT, rfl, _, rfl⟩⟩
    have I1 : Inv X pins σ (upd H s.heap.objs.size (.tup vs)) { s with heap := h' } :=
      I.turnedNew (t' := s.toks) (ch := fpN B ls.length) (fun c o hb q => hk c o (hout hb) q) hf (Nat.le_refl _) new
    refine wpAny_pure ⟨.ref s.heap.objs.size, _, I1, rfl, ⟨_, vs, rfl, I.hok.fresh (Nat.le_refl _), rfl, hvl, fun j l xs e hq => ?_⟩, Z', fun c hcm => ?_⟩
    · obtain ⟨xs', y, items, u, q1, q2, q3, _⟩ := hall j l e
      rw [I.tuple_inj hq q1]
      exact ⟨y, q2, q3⟩
    · obtain ⟨f0, f1, _, hz⟩ := Z.z
      have hzl : B + ls.length + 2 < s.heap.objs.size := Heap.lt_size hz
      obtain ⟨_, c2⟩ := mem_fpN.mp hcm
      rw [upd_ne (nne (.inl (Nat.lt_of_le_of_lt c2 hzl)))]
      exact (hf c hcm).1
  done := by
    intro X hP hw hK hc i pins s σ H E I hf Z hg
    subst hP hw hK
    obtain ⟨l, xs, hl, hq, hend⟩ := hg
    obtain ⟨its, rv, p, _⟩ := I.tuple hq
    have l1 := rv.length
    have hout : ∀ {c : Addr}, c ∉ fpN B ls.length → (c < B ∨ B + ls.length + 2 < c) := fun hcn => out_fp hcn
    exact pyNext_zipN_end (I.ok.hd hc) Z hl (show s.heap.IsTuple l its.toArray from p) (by simp; omega) fun h' hk => ⟨rfl, I.turnedL (t' := s.toks) (ch := fpN B ls.length) (fun c o hb q => hk c o (hout hb) q) hf⟩
  self := fun A i s Q E Z h => by
    obtain ⟨f0, f1, _, hz⟩ := Z.z
    exact pyIter_zipN hz h
def iZipN (K : PySem.W.Frag) (te : TE) : TI := fun σ H R => te σ H fun v H1 => ∃ (a : Addr) (ls : List Addr), v = .ref a ∧ SqT K H1 a (ls.map V.ref) ∧ ls ≠ [] ∧ ls.length ≤ 6 ∧ (∀ l ∈ ls, ∃ xs, SqT K H1 l xs) ∧ R (ItzN K ls) H1
theorem refsV : ∀ {ls : List Addr} {us : List Value}, Vals (ls.map V.ref) us → us = ls.map Value.ref
  | [], _, .nil => rfl
  | l :: ls, _, .cons r t => by
    cases r
    rw [refsV t] <;> rfl
theorem pi_zipN {X : Cx} {e : Expr} {te : TE} {x : Str} {p p2 pos tpos : Pos} (hg : Gl X "zip") (hm : X.mg "zip" = none) (he : PE X e te)
    (hs : starEach [.Starred e p2] X.env = [(true, eval e X.env)] := by rfl) :
    PI X (.Name x tpos) (.Call (.Name "zip" p) [.Starred e p2] [] pos) (iZipN X.K te) := by
  refine ⟨fun pins s σ H R I h => ?_⟩
  refine Call_ (ld_blt I hg hm PyProof.Rows.boot_zip ?_)
  rw [hs]
  refine PySem.W.ks_call (P := fun _ => True) rfl (fun h _ => ⟨.machine, .inr (.inl rfl), PySem.W.Looks.of_pure rfl⟩) (PySem.W.ks_lone (thn (he.run pins s σ H _ I h) fun v s1 ⟨y, H1, I1, ry, a, ls, ey, hq, hne, h6, hls, q1⟩ => ?_))
  subst ey
  obtain rfl : v = Value.ref a := ry
  refine StX.star_any I1 (.inl hq) fun us s2 I2 rv => ⟨trivial, ?_⟩
  have eu := refsV rv
  subst eu
  refine call_zipN hne h6 (fun l hl => ?_) fun h' Z => ?_
  · obtain ⟨xs, hx⟩ := hls l hl
    obtain ⟨its, _, p, _⟩ := I2.tuple hx
    exact ⟨_, p⟩
  obtain ⟨f0, f1, _, hz⟩ := Z.1.z
  refine pyIter_zipN hz ?_
  have I3 : Inv X pins σ H1 { s2 with heap := h' } := I2.kept (t' := s2.toks) Z.2
  exact ⟨_, fpN s2.heap.objs.size ls.length, _, _, H1, rfl, I3, turn_zipN (by omega), Z.1, fun c hcm => I2.fpOk (mem_fpN.mp hcm).1 (I2.hok.fresh (mem_fpN.mp hcm).1), q1⟩
end K78

-- part KP3
set_option Elab.async false
set_option linter.all false
set_option maxRecDepth 100000
set_option maxHeartbeats 4000000
/-! KP3: opens_room .. kept_private (but the dicts). -/
namespace K78
open PySem PySem.Spec PyProof.Rows L2
open Evl (Ex ex_t ex_l ex_rd fresh_back)
open Enc (enc)
section
variable {P : Program} {w : World} {K : PySem.W.Frag} {mg : Str → Option Value} {base : Heap}
def sp_opens_room (K : PySem.W.Frag) : Sp := spM (fun a : A_coo => ∃ n, Wf n (a.one :: a.common) ∧ a.other.length = n) (fun a => [ME K a.common, ME K a.one, ME K a.other]) (fun a => MB K (opens a.common a.one a.other))
theorem ok_opens_room (T : Tx K mg) : DefOk P w K mg base "opens_room" 4 (sp_opens_room K) := by
  obtain ⟨f, fd, F, hg⟩ := at_opens_room T
  have B := T.bl
  have D := ok_barring_pin (P := P) (w := w) (base := base) T
  refine fn_pure F sc_opens_room hg (fun _ => rfl) (fun _ _ _ _ _ _ us hl => match us, hl with | [_, _, _], _ => rfl) fun f cdv A outer s H E a hr hp => ?_
  obtain ⟨common, one, other⟩ := a
  refine ds_ret (DE.to (de_isN (d := enc (barring common one other)) (de_call D hr (⟨common, one, other⟩ : A_coo) (da_cons (de_v 0) (da_cons (de_v 1) (da_cons (de_v 2) da_nil))) hp)) ?_)
  rw [barring_none]
/-- keys of n pins, and one more -/
structure A_ckk where
  common : KEYS
  keys : KEYS
  key : KEY
def Wk (n : Nat) (a : A_ckk) : Prop := Wf n (a.key :: a.common) ∧ Wf n (a.key :: a.keys)
def openersOf (common keys : KEYS) (key : KEY) : KEYS := keys.filter fun o => opens common o key
def openedBy (common keys : KEYS) (key : KEY) : KEYS := keys.filter fun o => opens common key o
theorem ok_tupK (T : Tx K mg) : DefOk P w K mg base "tupled" 2 (spM (fun a : KEY => a.length ≤ 100000) (fun i => [ME K i]) (fun i => ME K i)) := ok_tupE T (α := Int) (k := 0) (ok_tupI T)
theorem spM_imp {α : Type} {pre pre' : α → Prop} {args : α → List MP} {res : α → MP} {x : Str} {k : Nat} (D : DefOk P w K mg base x k (spM pre args res)) (h : ∀ a, pre' a → pre a) : DefOk P w K mg base x k (spM pre' args res) := by
  obtain ⟨f, fd, ps, F, r⟩ := D.ex
  exact ⟨f, fd, ps, F.imp fun vs H Q E ⟨a, p, q⟩ => ⟨a, h a p, q⟩, r⟩
theorem ok_tupKs (T : Tx K mg) : DefOk P w K mg base "tupled" 3 (spM (fun a : KEYS => a.length ≤ 100000 ∧ ∀ x ∈ a, x.length ≤ 100000) (fun i => [ME K i]) (fun i => ME K i)) := ok_tupE' T (ok_tupK T)
theorem Wf.tl {n : Nat} {k : KEY} {ks : KEYS} (h : Wf n (k :: ks)) : Wf n ks := ⟨fun x hx => h.1 x (List.mem_cons_of_mem _ hx), by have := h.2.1; simp at this; omega, h.2.2⟩
theorem Wf.hd {n : Nat} {k : KEY} {ks : KEYS} (h : Wf n (k :: ks)) : k.length = n := h.1 k List.mem_cons_self
theorem Wf.sw {n : Nat} {k k' : KEY} {ks : KEYS} (h : Wf n (k :: ks)) (e : k'.length = n) : Wf n (k' :: ks) := ⟨fun x hx => by
  rcases List.mem_cons.mp hx with rfl | hx
  · exact e
  · exact h.1 x (List.mem_cons_of_mem _ hx), by simpa using h.2.1, h.2.2⟩
theorem Wf.tupd {n : Nat} {ks : KEYS} (h : Wf n ks) : ks.length ≤ 100000 ∧ ∀ x ∈ ks, x.length ≤ 100000 := ⟨by have := h.2.1; omega, fun x hx => by rw [h.1 x hx]; have := h.2.2; omega⟩
def sp_openers_of (K : PySem.W.Frag) : Sp := spM (fun a : A_ckk => ∃ n, Wk n a) (fun a => [ME K a.common, ME K a.keys, ME K a.key]) (fun a => ME K (openersOf a.common a.keys a.key))
theorem ok_openers_of (T : Tx K mg) : DefOk P w K mg base "openers_of" 5 (sp_openers_of K) := by
  obtain ⟨f, fd, F, hg⟩ := at_openers_of T
  have B := T.bl
  have D := ok_opens_room (P := P) (w := w) (base := base) T
  have D2 := ok_tupKs (P := P) (w := w) (base := base) T
  refine fn_pure F sc_openers_of hg (fun _ => rfl) (fun _ _ _ _ _ _ us hl => match us, hl with | [_, _, _], _ => rfl) fun f cdv A outer s H E a hr hp => ?_
  obtain ⟨common, keys, key⟩ := a
  obtain ⟨n, h1, h2⟩ := hp
  have h1 : Wf n (key :: common) := h1
  have h2 : Wf n (key :: keys) := h2
  refine ds_ret (de_tupleL B.tuple (de_lc keys enc (fun o => opens common o key) enc (fun o => [some (ME K common), some (ME K keys), some (ME K key), some (ME K o)]) [("one", 3)] rfl sc_openers_of.nd (di_tup (de_call D2 (hr.mono (by omega)) keys (da_cons (de_v 1) da_nil) h2.tl.tupd)) (blkOk_by (N := ["common", "keys", "key", "one"]) (sc := defScope s_openers_of) (by decide +kernel)) (fun _ _ _ _ _ => pg_name (i := 3) sc_openers_of.nd rfl (Or.inl rfl)) (fun o ho => tg_name)
    (fun o ho _ _ _ _ _ => dts_one (dt_val (de_call D hr (⟨common, o, key⟩ : A_coo) (da_cons (de_v 0) (da_cons (de_v 3) (da_cons (de_v 2) da_nil))) ⟨n, h1.sw (h2.tl.1 o ho), h1.hd⟩))) (fun p hp _ _ _ _ _ _ => de_v 3) (fun _ _ => Enc.to _) (by have := h2.tl.2.1; omega)))
def sp_opened_by (K : PySem.W.Frag) : Sp := spM (fun a : A_ckk => ∃ n, Wk n a) (fun a => [ME K a.common, ME K a.keys, ME K a.key]) (fun a => ME K (openedBy a.common a.keys a.key))
theorem ok_opened_by (T : Tx K mg) : DefOk P w K mg base "opened_by" 5 (sp_opened_by K) := by
  obtain ⟨f, fd, F, hg⟩ := at_opened_by T
  have B := T.bl
  have D := ok_opens_room (P := P) (w := w) (base := base) T
  have D2 := ok_tupKs (P := P) (w := w) (base := base) T
  refine fn_pure F sc_opened_by hg (fun _ => rfl) (fun _ _ _ _ _ _ us hl => match us, hl with | [_, _, _], _ => rfl) fun f cdv A outer s H E a hr hp => ?_
  obtain ⟨common, keys, key⟩ := a
  obtain ⟨n, h1, h2⟩ := hp
  have h1 : Wf n (key :: common) := h1
  have h2 : Wf n (key :: keys) := h2
  refine ds_ret (de_tupleL B.tuple (de_lc keys enc (fun o => opens common key o) enc (fun o => [some (ME K common), some (ME K keys), some (ME K key), some (ME K o)]) [("other", 3)] rfl sc_opened_by.nd (di_tup (de_call D2 (hr.mono (by omega)) keys (da_cons (de_v 1) da_nil) h2.tl.tupd)) (blkOk_by (N := ["common", "keys", "key", "other"]) (sc := defScope s_opened_by) (by decide +kernel)) (fun _ _ _ _ _ => pg_name (i := 3) sc_opened_by.nd rfl (Or.inl rfl)) (fun o ho => tg_name)
    (fun o ho _ _ _ _ _ => dts_one (dt_val (de_call D hr (⟨common, key, o⟩ : A_coo) (da_cons (de_v 0) (da_cons (de_v 2) (da_cons (de_v 3) da_nil))) ⟨n, h1, h2.tl.1 o ho⟩))) (fun p hp _ _ _ _ _ _ => de_v 3) (fun _ _ => Enc.to _) (by have := h2.tl.2.1; omega)))
/-- depths, common, own, key -/
structure A_dcok where
  depths : KEY
  common : KEYS
  own : KEYS
  key : KEY
def Wdk (n : Nat) (a : A_dcok) : Prop := Wf n (a.key :: a.common) ∧ Wf n (a.key :: a.own)
def args_dcok (K : PySem.W.Frag) (a : A_dcok) : List MP := [ME K a.depths, ME K a.common, ME K a.own, ME K a.key]
def whoBars (a : A_dcok) : KEYS × KEYS := (openedBy a.common a.own a.key, openersOf a.common a.own a.key)
def sp_who_bars (K : PySem.W.Frag) : Sp := spM (fun a : A_dcok => ∃ n, Wdk n a) (fun a => [ME K a.depths, ME K a.common, ME K a.own, ME K a.key]) (fun a => ME K (whoBars a))
theorem ok_who_bars (T : Tx K mg) : DefOk P w K mg base "who_bars" 6 (sp_who_bars K) := by
  obtain ⟨f, fd, F, hg⟩ := at_who_bars T
  have B := T.bl
  have D := ok_opened_by (P := P) (w := w) (base := base) T
  have D2 := ok_openers_of (P := P) (w := w) (base := base) T
  refine fn_pure F sc_who_bars hg (fun _ => rfl) (fun _ _ _ _ _ _ us hl => match us, hl with | [_, _, _, _], _ => rfl) fun f cdv A outer s H E a hr hp => ?_
  obtain ⟨depths, common, own, key⟩ := a
  obtain ⟨n, h1, h2⟩ := hp
  exact ds_ret (de_tup [enc (openedBy common own key), enc (openersOf common own key)] (da_cons (de_call D hr (⟨common, own, key⟩ : A_ckk) (da_cons (de_v 1) (da_cons (de_v 2) (da_cons (de_v 3) da_nil))) ⟨n, h1, h2⟩) (da_cons (de_call D2 hr (⟨common, own, key⟩ : A_ckk) (da_cons (de_v 1) (da_cons (de_v 2) (da_cons (de_v 3) da_nil))) ⟨n, h1, h2⟩) da_nil)) (by simp))
def isFurther (a : A_dcok) : Bool := decide (whoBars a = ([], []))
def sp_is_further (K : PySem.W.Frag) : Sp := spM (fun a : A_dcok => ∃ n, Wdk n a) (fun a => [ME K a.depths, ME K a.common, ME K a.own, ME K a.key]) (fun a => MB K (isFurther a))
theorem ok_is_further (T : Tx K mg) : DefOk P w K mg base "is_further" 7 (sp_is_further K) := by
  obtain ⟨f, fd, F, hg⟩ := at_is_further T
  have B := T.bl
  have D := ok_who_bars (P := P) (w := w) (base := base) T
  refine fn_pure F sc_is_further hg (fun _ => rfl) (fun _ _ _ _ _ _ us hl => match us, hl with | [_, _, _, _], _ => rfl) fun f cdv A outer s H E a hr hp => ?_
  exact ds_ret (de_eqE hr (de_call D hr a (da_cons (de_v 0) (da_cons (de_v 1) (da_cons (de_v 2) (da_cons (de_v 3) da_nil)))) hp) (y := (([], []) : KEYS × KEYS)) (de_tup [enc ([] : KEYS), enc ([] : KEYS)] (da_cons (de_tup [] da_nil) (da_cons (de_tup [] da_nil) da_nil)) (by simp)))
def isHarmless (a : A_dcok) : Bool := (!memE a.key a.common) && !(a.own.any fun o => opens a.common a.key o)
def sp_is_harmless (K : PySem.W.Frag) : Sp := spM (fun a : A_dcok => ∃ n, Wdk n a) (fun a => [ME K a.depths, ME K a.common, ME K a.own, ME K a.key]) (fun a => MB K (isHarmless a))
theorem ok_is_harmless (T : Tx K mg) : DefOk P w K mg base "is_harmless" 5 (sp_is_harmless K) := by
  obtain ⟨f, fd, F, hg⟩ := at_is_harmless T
  have B := T.bl
  have D := ok_opens_room (P := P) (w := w) (base := base) T
  have D2 := ok_tupKs (P := P) (w := w) (base := base) T
  have D3 := ok_tupK (P := P) (w := w) (base := base) T
  refine fn_pure F sc_is_harmless hg (fun _ => rfl) (fun _ _ _ _ _ _ us hl => match us, hl with | [_, _, _, _], _ => rfl) fun f cdv A outer s H E a hr hp => ?_
  obtain ⟨depths, common, own, key⟩ := a
  obtain ⟨n, h1, h2⟩ := hp
  have h1 : Wf n (key :: common) := h1
  have h2 : Wf n (key :: own) := h2
  refine ds_cons (d1_set 4 sc_is_harmless.nd (de_call D3 (hr.mono (by omega)) key (da_cons (de_v 3) da_nil) (by have := h1.hd; have := h1.2.2; omega))) ?_
  refine ds_ret (DE.to (d := .bool ((!memE key common) && !(own.any fun o => opens common key o))) (de_and (de_notInT hr (de_v 4) (de_call D2 (hr.mono (by omega)) common (da_cons (de_v 1) da_nil) h1.tl.tupd)) fun _ => de_one (de_not (de_any own _ rfl B.any
    (de_lc0 own enc (fun o => .bool (opens common key o)) (fun o => [some (ME K depths), some (ME K common), some (ME K own), some (ME K key), some (ME K key), some (ME K o)]) [("one", 5)] rfl sc_is_harmless.nd (di_tup (de_call D2 (hr.mono (by omega)) own (da_cons (de_v 2) da_nil) h2.tl.tupd)) (blkOk_by (N := ["depths", "common", "own", "key", "mine", "one"]) (sc := defScope s_is_harmless) (by decide +kernel)) (fun _ _ _ _ _ => pg_name (i := 5) sc_is_harmless.nd rfl (Or.inl rfl)) (fun o ho => tg_name)
    (fun o ho _ _ _ _ _ => de_call D hr (⟨common, key, o⟩ : A_coo) (da_cons (de_v 1) (da_cons (de_v 4) (da_cons (de_v 5) da_nil))) ⟨n, h1, h2.tl.1 o ho⟩) (fun _ _ => rfl) (by have := h2.tl.2.1; omega))))) rfl)
structure A_dcpk where
  depths : KEY
  common : KEYS
  priv : KEYS
  key : KEY
def keptPrivate (a : A_dcpk) : KEYS := a.priv.filter fun o => isHarmless ⟨a.depths, a.common, [a.key], o⟩
def sp_kept_private (K : PySem.W.Frag) : Sp := spM (fun a : A_dcpk => ∃ n, Wf n (a.key :: a.common) ∧ Wf n (a.key :: a.priv)) (fun a => [ME K a.depths, ME K a.common, ME K a.priv, ME K a.key]) (fun a => ME K (keptPrivate a))
theorem ok_kept_private (T : Tx K mg) : DefOk P w K mg base "kept_private" 6 (sp_kept_private K) := by
  obtain ⟨f, fd, F, hg⟩ := at_kept_private T
  have B := T.bl
  have D := ok_is_harmless (P := P) (w := w) (base := base) T
  have D2 := ok_tupKs (P := P) (w := w) (base := base) T
  refine fn_pure F sc_kept_private hg (fun _ => rfl) (fun _ _ _ _ _ _ us hl => match us, hl with | [_, _, _, _], _ => rfl) fun f cdv A outer s H E a hr hp => ?_
  obtain ⟨depths, common, priv, key⟩ := a
  obtain ⟨n, h1, h2⟩ := hp
  have h1 : Wf n (key :: common) := h1
  have h2 : Wf n (key :: priv) := h2
  refine ds_ret (de_tupleL B.tuple (de_lc priv enc (fun o => isHarmless ⟨depths, common, [key], o⟩) enc (fun o => [some (ME K depths), some (ME K common), some (ME K priv), some (ME K key), some (ME K o)]) [("one", 4)] rfl sc_kept_private.nd (di_tup (de_call D2 (hr.mono (by omega)) priv (da_cons (de_v 2) da_nil) h2.tl.tupd)) (blkOk_by (N := ["depths", "common", "private", "key", "one"]) (sc := defScope s_kept_private) (by decide +kernel)) (fun _ _ _ _ _ => pg_name (i := 4) sc_kept_private.nd rfl (Or.inl rfl)) (fun o ho => tg_name)
    (fun o ho _ _ _ _ _ => dts_one (dt_val (de_call D hr (⟨depths, common, [key], o⟩ : A_dcok) (da_cons (de_v 0) (da_cons (de_v 1) (da_cons (de_tup [enc key] (da_cons (de_v 3) da_nil) (by simp)) (da_cons (de_v 4) da_nil)))) ⟨n, h1.sw (h2.tl.1 o ho), ⟨fun x hx => ?_, ?_, h1.2.2⟩⟩))) (fun p hp _ _ _ _ _ _ => de_v 4) (fun _ _ => Enc.to _) (by have := h2.tl.2.1; omega)))
  · have hx : x = o ∨ x = key := by simpa using hx
    rcases hx with rfl | rfl
    · exact h2.tl.1 _ ho
    · exact h1.hd
  · show 2 ≤ 2000
    decide
end
end K78

-- part KP4
set_option Elab.async false
set_option linter.all false
set_option maxRecDepth 100000
set_option maxHeartbeats 4000000
/-! KP4: common_cuts, the boxes. -/
namespace K78
open PySem PySem.Spec PyProof.Rows L2
open Evl (Ex ex_t ex_l ex_rd fresh_back)
open Enc (enc)
theorem dp_refs {K : PySem.W.Frag} {H : Hp} {keys : KEYS} : ∀ {vs : List V}, DpAll K H vs (keys.map enc) → ∃ ls : List Addr, vs = ls.map V.ref ∧ ls.length = keys.length ∧ ∀ (j : Nat) (l : Addr), ls[j]? = some l → ∃ (k : KEY) (xs : List V), keys[j]? = some k ∧ SqT K H l xs ∧ DpAll K H xs (k.map .int) := by
  induction keys with
  | nil => intro vs h; cases h; exact ⟨[], rfl, rfl, fun j l e => by simp at e⟩
  | cons k keys ih =>
    intro vs h
    cases h with
    | cons h1 h2 =>
      obtain ⟨ls, rfl, e1, e2⟩ := ih h2
      obtain ⟨a, xs, rfl, hq, hd⟩ := dp_tup h1
      refine ⟨a :: ls, rfl, by simp [e1], fun j l e => ?_⟩
      cases j with
      | zero =>
        simp at e
        subst e
        exact ⟨k, xs, rfl, hq, hd⟩
      | succ j => exact e2 j l (by simpa using e)
def column (keys : KEYS) (p : Nat) : List Int := keys.map fun k => k.getD p 0
theorem di_zipN {X : Cx} {G : GP} {e : Expr} {x : Str} {p p2 pos tpos : Pos} {keys : KEYS} {m : Nat} (hm : X.mg "zip" = none) (he : DE X G e (ME X.K keys)) (hne : keys ≠ []) (h6 : keys.length ≤ 6) (hl : ∀ k ∈ keys, k.length = m) (hg : Gl X "zip" := by rfl) (hs : starEach [.Starred e p2] X.env = [(true, eval e X.env)] := by rfl) :
    DI X G (.Name x tpos) (.Call (.Name "zip" p) [.Starred e p2] [] pos) ((List.range m).map fun p => enc (column keys p)) :=
  pi_imp (pi_zipN hg hm he hs) fun σ H R q => ⟨q.1, fun v H1 x1 p1 => by
    obtain ⟨a, vs, rfl, hq, hd⟩ := dp_tup p1
    obtain ⟨ls, rfl, hll, hk⟩ := dp_refs hd
    have hlen : ∀ {H : Hp} {j : Nat} {l : Addr} {k : KEY} {xs : List V}, keys[j]? = some k → DpAll X.K H xs (k.map .int) → xs.length = m := fun {H j l k xs} e hdx => by
      rw [DpAll.length hdx, List.length_map]
      exact hl k (List.mem_of_getElem? e)
    refine ⟨a, ls, rfl, hq, fun e => hne (List.eq_nil_of_length_eq_zero (by rw [← hll, e]; rfl)), by omega, fun l hl => ?_, ?_⟩
    · obtain ⟨j, hj⟩ := List.getElem?_of_mem hl
      obtain ⟨k, xs, _, hx, _⟩ := hk j l hj
      exact ⟨xs, hx⟩
    have e0 : ((List.range m).map fun p => (enc (column keys p) : PyData)).length = m := by rw [List.length_map, List.length_range]
    have hpos : 0 < ls.length := by rw [hll]; exact List.length_pos_iff.mpr hne
    refine q.2 _ H1 (fun H => ∀ (j : Nat) (l : Addr), ls[j]? = some l → ∃ (k : KEY) (xs : List V), keys[j]? = some k ∧ SqT X.K H l xs ∧ DpAll X.K H xs (k.map .int)) (ItzN X.K ls).yld x1 (fun H1 H2 x z j l e => ?_) hk ?_ fun i H2 y H3 z hy => ?_
    · obtain ⟨k, xs, e1, e2, e3⟩ := z j l e
      exact ⟨k, xs, e1, ex_t x e2, DpAll.mono x _ _ e3⟩
    · rw [e0]
      refine ⟨fun i H hi z l hml => ?_, fun H z => ?_, fun i H v H' _ _ y => y⟩
      · obtain ⟨j, hj⟩ := List.getElem?_of_mem hml
        obtain ⟨k, xs, e1, e2, e3⟩ := z j l hj
        have h1 := hlen (l := l) e1 e3
        exact ⟨xs, xs[i], e2, List.getElem?_eq_getElem (by omega)⟩
      · obtain ⟨k, xs, e1, e2, e3⟩ := z 0 ls[0] (List.getElem?_eq_getElem hpos)
        have h1 := hlen (l := ls[0]) e1 e3
        exact ⟨ls[0], xs, List.getElem?_eq_getElem hpos, e2, by omega⟩
    · obtain ⟨T, vs, rfl, hT, rfl, hvl, hall⟩ := hy
      have him : i < m := by
        obtain ⟨k, xs, e1, e2, e3⟩ := z 0 ls[0] (List.getElem?_eq_getElem hpos)
        have h1 := hlen (l := ls[0]) e1 e3
        obtain ⟨x, ex, _⟩ := hall 0 ls[0] xs (List.getElem?_eq_getElem hpos) e2
        rw [← h1]
        exact (List.getElem?_eq_some_iff.mp ex).1
      refine ⟨_, by rw [List.getElem?_map, List.getElem?_range him]; rfl, Ex.new hT, dp_newT hT (dpAll_of ?_ fun j v d ev ed => ?_)⟩
      · rw [List.length_map, hvl, hll]
        unfold column
        rw [List.length_map]
      · have hj : j < ls.length := by rw [← hvl]; exact (List.getElem?_eq_some_iff.mp ev).1
        obtain ⟨k, xs, e1, e2, e3⟩ := z j ls[j] (List.getElem?_eq_getElem hj)
        obtain ⟨x, ex, evx⟩ := hall j ls[j] xs (List.getElem?_eq_getElem hj) e2
        rw [evx] at ev
        cases ev
        have hkm : k.length = m := hl k (List.mem_of_getElem? e1)
        obtain ⟨d', ed', hdx⟩ := e3.get ex
        unfold column at ed
        rw [List.getElem?_map, List.getElem?_map, e1] at ed
        rw [List.getElem?_map, List.getElem?_eq_getElem (by omega)] at ed'
        simp only [Option.map_some, Option.some.injEq] at ed ed'
        subst ed ed'
        have : k.getD i 0 = k[i] := by rw [List.getD_eq_getElem?_getD, List.getElem?_eq_getElem (by omega)]; rfl
        show Dp X.K H2 _ (.int (k.getD i 0))
        rw [this]
        exact hdx⟩
section
variable {P : Program} {w : World} {K : PySem.W.Frag} {mg : Str → Option Value} {base : Heap}
/-- keys of n pins: some, few -/
def Wc (n : Nat) (ks : KEYS) : Prop := ks ≠ [] ∧ ks.length ≤ 6 ∧ (∀ k ∈ ks, k.length = n) ∧ n ≤ 100
def cutsOf (common : KEYS) (n : Nat) : Box := (List.range n).map fun p => setOf (column common p)
def sp_common_cuts (K : PySem.W.Frag) : Sp := spM (fun a : KEYS × Nat => Wc a.2 a.1) (fun a => [ME K a.1]) (fun a => ME K (cutsOf a.1 a.2))
theorem ok_common_cuts (T : Tx K mg) : DefOk P w K mg base "common_cuts" 2 (sp_common_cuts K) := by
  obtain ⟨f, fd, F, hg⟩ := at_common_cuts T
  have B := T.bl
  have D := ok_set_of (P := P) (w := w) (base := base) T
  refine fn_pure F sc_common_cuts hg (fun _ => rfl) (fun _ _ _ _ _ _ us hl => match us, hl with | [_], _ => rfl) fun f cdv A outer s H E a hr hp => ?_
  obtain ⟨common, n⟩ := a
  obtain ⟨h1, h2, h3, h4⟩ := hp
  have h2 : common.length ≤ 6 := h2
  have h4 : n ≤ 100 := h4
  refine ds_ret (DE.to (de_tupleL B.tuple (de_lc0 (List.range n) (fun p => enc (column common p)) (fun p => enc (setOf (column common p))) (fun p => [some (ME K common), some (ME K (column common p))]) [("cuts", 1)] rfl sc_common_cuts.nd (di_zipN B.zip (de_v 0) h1 h2 h3) (blkOk_by (N := ["common", "cuts"]) (sc := defScope s_common_cuts) (by decide +kernel)) (fun _ _ _ _ _ => pg_name (i := 1) sc_common_cuts.nd rfl (Or.inl rfl)) (fun o ho => tg_name)
    (fun p hp _ _ _ _ _ => de_call D hr (column common p) (da_cons (de_v 1) da_nil) (by show (column common p).length < 64; unfold column; rw [List.length_map]; omega)) (fun _ _ => Enc.to _) (by rw [List.length_range]; omega))) ?_)
  show PyData.tuple _ = PyData.tuple ((cutsOf common n).map enc)
  unfold cutsOf
  rw [List.map_map]
  rfl
/-! ### boxes -/
def upTo (d : Int) : List Int := (List.range d.toNat).map fun (i : Nat) => (i : Int)
theorem upTo_enc (d : Int) : PyData.tuple (rangeD d.toNat) = enc (upTo d) := by
  show _ = PyData.tuple ((upTo d).map .int)
  unfold upTo rangeD
  rw [List.map_map]
  rfl
def wholeBox (depths : KEY) : Box := depths.map upTo
theorem zipD_enc {α β : Type} [Enc α] [Enc β] (l : List α) (l' : List β) (d : α) (d' : β) (n : Nat) (h : l.length = n) (h' : l'.length = n) : zipD (l.map enc) (l'.map enc) = (List.range n).map fun p => .tuple [enc (l.getD p d), enc (l'.getD p d')] := by
  refine List.ext_getElem? fun i => ?_
  by_cases hi : i < n
  · rw [zipD_get (get_enc (by omega) d) (get_enc (by omega) d'), List.getElem?_map, List.getElem?_range hi] <;> rfl
  · rw [List.getElem?_eq_none (by rw [zipD_length, List.length_map, List.length_map]; omega), List.getElem?_eq_none (by rw [List.length_map, List.length_range]; omega)]
def Wd (n : Nat) (depths : KEY) : Prop := depths.length = n ∧ ∀ d ∈ depths, 0 ≤ d ∧ d ≤ 100
def sp_whole_box (K : PySem.W.Frag) : Sp := spM (fun a : KEY => ∃ n, n ≤ 100 ∧ Wd n a) (fun a => [ME K a]) (fun a => ME K (wholeBox a))
theorem ok_whole_box (T : Tx K mg) : DefOk P w K mg base "whole_box" 1 (sp_whole_box K) := by
  obtain ⟨f, fd, F, hg⟩ := at_whole_box T
  have B := T.bl
  refine fn_pure F sc_whole_box hg (fun _ => rfl) (fun _ _ _ _ _ _ us hl => match us, hl with | [_], _ => rfl) fun f cdv A outer s H E depths hr hp => ?_
  obtain ⟨n, h0, h1, h2⟩ := hp
  refine ds_ret (DE.to (de_tupleL B.tuple (de_lc0 depths enc (fun d => .tuple (rangeD d.toNat)) (fun d => [some (ME K depths), some (ME K d)]) [("depth", 1)] rfl sc_whole_box.nd (di_tup (de_v 0)) (blkOk_by (N := ["depths", "depth"]) (sc := defScope s_whole_box) (by decide +kernel)) (fun _ _ _ _ _ => pg_name (i := 1) sc_whole_box.nd rfl (Or.inl rfl)) (fun o ho => tg_name)
    (fun d hd _ _ _ _ _ => de_tupRange rfl B (de_v 1) (h2 d hd).1 (by have := (h2 d hd).2; omega)) (fun d _ => by rw [upTo_enc]; exact Enc.to _) (by omega))) ?_)
  show PyData.tuple _ = PyData.tuple ((wholeBox depths).map enc)
  unfold wholeBox
  rw [List.map_map]
  exact congrArg PyData.tuple (List.map_congr_left fun d _ => upTo_enc d)
theorem insI_len (x : Int) : ∀ l : List Int, (insI x l).length ≤ l.length + 1
  | [] => by simp [insI]
  | y :: l => by
    unfold insI
    split
    · simp
    · split
      · simp
      · have := insI_len x l
        simp only [List.length_cons]
        omega
theorem setOf_len : ∀ l : List Int, (setOf l).length ≤ l.length
  | [] => by simp [setOf]
  | x :: l => by
    have h1 := setOf_len l
    have h2 := insI_len x (setOf l)
    show (insI x (setOf l)).length ≤ _
    simp only [List.length_cons]
    omega
structure A_cnk where
  n : Nat
  common : KEYS
  key : KEY
def Wcn (a : A_cnk) : Prop := Wc a.n a.common ∧ a.key.length = a.n
def openingBox (a : A_cnk) : Box := (List.range a.n).map fun p => setOf (setOf (column a.common p) ++ [a.key.getD p 0])
theorem cutsOf_get {common : KEYS} {n p : Nat} (h : p < n) : (cutsOf common n).getD p [] = setOf (column common p) := by
  unfold cutsOf
  rw [List.getD_eq_getElem?_getD, List.getElem?_map, List.getElem?_range h]
  rfl
theorem cutsOf_len (common : KEYS) (n : Nat) : (cutsOf common n).length = n := by unfold cutsOf; rw [List.length_map, List.length_range]
def sp_opening_box (K : PySem.W.Frag) : Sp := spM Wcn (fun a => [ME K a.common, ME K a.key]) (fun a => ME K (openingBox a))
theorem ok_opening_box (T : Tx K mg) : DefOk P w K mg base "opening_box" 3 (sp_opening_box K) := by
  obtain ⟨f, fd, F, hg⟩ := at_opening_box T
  have B := T.bl
  have D := ok_common_cuts (P := P) (w := w) (base := base) T
  have D2 := ok_set_of (P := P) (w := w) (base := base) T
  refine fn_pure F sc_opening_box hg (fun _ => rfl) (fun _ _ _ _ _ _ us hl => match us, hl with | [_, _], _ => rfl) fun f cdv A outer s H E a hr hp => ?_
  obtain ⟨n, common, key⟩ := a
  obtain ⟨hw, hk⟩ := hp
  have hw' := hw
  obtain ⟨h1, h2, h3, h4⟩ := hw
  have h2 : common.length ≤ 6 := h2
  have h4 : n ≤ 100 := h4
  have hk : key.length = n := hk
  refine ds_ret (DE.to (de_tupleL B.tuple (de_lc0 (List.range n) (fun p => .tuple [enc ((cutsOf common n).getD p []), enc (key.getD p 0)]) (fun p => enc (setOf ((cutsOf common n).getD p [] ++ [key.getD p 0]))) (fun p => [some (ME K common), some (ME K key), some (ME K ((cutsOf common n).getD p [])), some (ME K (key.getD p 0))]) [("cuts", 2), ("cut", 3)] rfl sc_opening_box.nd
    ((di_zipT B.zip (de_call D hr (common, n) (da_cons (de_v 0) da_nil) hw') (de_v 1)).to (zipD_enc (cutsOf common n) key [] 0 n (cutsOf_len common n) hk)) (blkOk_by (N := ["common", "key", "cuts", "cut"]) (sc := defScope s_opening_box) (by decide +kernel)) (fun _ _ _ _ _ => pg_tup rfl (pgs_cons (pg_name (i := 2) sc_opening_box.nd rfl (Or.inl rfl)) (pgs_cons (pg_name (i := 3) sc_opening_box.nd rfl (Or.inl rfl)) pgs_nil))) (fun o ho => tg_tup (js := [2, 3]) rfl)
    (fun p hp _ _ _ _ _ => de_call D2 (hr.mono (by omega)) ((cutsOf common n).getD p [] ++ [key.getD p 0]) (da_cons (DE.to (de_tup (((cutsOf common n).getD p []).map enc ++ [enc (key.getD p 0)]) ((da_starT (de_v 2) (da_cons (de_v 3) da_nil)).to (by show _ ++ List.map (MP.d K) [enc (key.getD p 0)] = _; exact List.map_append.symm)) ?hz) ?eq) da_nil) ?pre) (fun _ _ => Enc.to _) (by rw [List.length_range]; omega))) ?_)
  case hz =>
    rw [cutsOf_get (List.mem_range.mp hp), List.length_append, List.length_map]
    have := setOf_len (column common p)
    have e : (column common p).length = common.length := by unfold column; rw [List.length_map]
    simp only [List.length_singleton]
    omega
  case eq =>
    show PyData.tuple (_ ++ [enc (key.getD p 0)]) = PyData.tuple (List.map enc (_ ++ _))
    rw [List.map_append]
    rfl
  case pre =>
    rw [cutsOf_get (List.mem_range.mp hp)]
    show List.length (_ ++ _) < 64
    rw [List.length_append]
    have := setOf_len (column common p)
    have e : (column common p).length = common.length := by unfold column; rw [List.length_map]
    simp only [List.length_singleton]
    omega
  show PyData.tuple _ = PyData.tuple ((openingBox ⟨n, common, key⟩).map enc)
  unfold openingBox
  rw [List.map_map]
  refine congrArg PyData.tuple (List.map_congr_left fun p hp => ?_)
  rw [cutsOf_get (List.mem_range.mp hp)]
  rfl
end
end K78

-- part KP5
set_option Elab.async false
set_option linter.all false
set_option maxRecDepth 100000
set_option maxHeartbeats 4000000
/-! KP5: opened_box, alike_box, ranks_in, total, ranks_of. -/
namespace K78
open PySem PySem.Spec PyProof.Rows L2
open Evl (Ex ex_t ex_l ex_rd fresh_back)
open Enc (enc)
section
variable {P : Program} {w : World} {K : PySem.W.Frag} {mg : Str → Option Value} {base : Heap}
def cellOf (o : Option Int) (c : List Int) : List Int := match o with
  | none => c
  | some x => [x]
theorem isNone_opt (o : Option Int) : isNone (enc o) = o.isNone := by cases o <;> rfl
theorem row_len (common : KEYS) (key : KEY) : (rowOf common key).length = key.length := by unfold rowOf; rw [List.length_map, List.length_range]
theorem Wc.wf {n : Nat} {common : KEYS} {key : KEY} (h : Wc n common) (hk : key.length = n) : Wf n (key :: common) := by
  obtain ⟨h1, h2, h3, h4⟩ := h
  refine ⟨fun x hx => ?_, by simp only [List.length_cons]; omega, h4⟩
  rcases List.mem_cons.mp hx with rfl | hx
  · exact hk
  · exact h3 x hx
structure A_dcnk where
  n : Nat
  depths : KEY
  common : KEYS
  key : KEY
def Wdc (a : A_dcnk) : Prop := Wc a.n a.common ∧ a.key.length = a.n ∧ Wd a.n a.depths
def openedBox (a : A_dcnk) : Box := (List.range a.n).map fun p => cellOf ((rowOf a.common a.key).getD p none) (upTo (a.depths.getD p 0))
def sp_opened_box (K : PySem.W.Frag) : Sp := spM Wdc (fun a => [ME K a.depths, ME K a.common, ME K a.key]) (fun a => ME K (openedBox a))
theorem ok_opened_box (T : Tx K mg) : DefOk P w K mg base "opened_box" 3 (sp_opened_box K) := by
  obtain ⟨f, fd, F, hg⟩ := at_opened_box T
  have B := T.bl
  have D := ok_row_of (P := P) (w := w) (base := base) T
  refine fn_pure F sc_opened_box hg (fun _ => rfl) (fun _ _ _ _ _ _ us hl => match us, hl with | [_, _, _], _ => rfl) fun f cdv A outer s H E a hr hp => ?_
  obtain ⟨n, depths, common, key⟩ := a
  obtain ⟨hw, hk, hd1, hd2⟩ := hp
  have h4 : n ≤ 100 := hw.2.2.2
  have hk : key.length = n := hk
  have hd1 : depths.length = n := hd1
  have hd2 : ∀ d ∈ depths, 0 ≤ d ∧ d ≤ 100 := hd2
  have hdp : ∀ p ∈ List.range n, 0 ≤ depths.getD p 0 ∧ depths.getD p 0 ≤ 100 := fun p hp => by
    have hp := List.mem_range.mp hp
    rw [List.getD_eq_getElem?_getD, List.getElem?_eq_getElem (by omega)]
    exact hd2 _ (List.getElem_mem _)
  refine ds_ret (DE.to (de_tupleL B.tuple (de_lc0 (List.range n) (fun p => .tuple [enc (depths.getD p 0), enc ((rowOf common key).getD p none)]) (fun p => enc (cellOf ((rowOf common key).getD p none) (upTo (depths.getD p 0)))) (fun p => [some (ME K depths), some (ME K common), some (ME K key), some (ME K (depths.getD p 0)), some (ME K ((rowOf common key).getD p none))]) [("depth", 3), ("cut", 4)] rfl sc_opened_box.nd
    ((di_zipT B.zip (de_v 0) (de_call D hr (⟨common, key⟩ : A_ck) (da_cons (de_v 1) (da_cons (de_v 2) da_nil)) ⟨n, hw.wf hk⟩)).to (zipD_enc depths (rowOf common key) 0 none n hd1 (by rw [row_len, hk]))) (blkOk_by (N := ["depths", "common", "key", "depth", "cut"]) (sc := defScope s_opened_box) (by decide +kernel)) (fun _ _ _ _ _ => pg_tup rfl (pgs_cons (pg_name (i := 3) sc_opened_box.nd rfl (Or.inl rfl)) (pgs_cons (pg_name (i := 4) sc_opened_box.nd rfl (Or.inl rfl)) pgs_nil))) (fun o ho => tg_tup (js := [3, 4]) rfl)
    (fun p hp _ _ _ _ _ => de_ifExp (k := ((rowOf common key).getD p none).isNone) ((dt_isN (de_v 4)).to (isNone_opt _)) (fun e => (de_tupRange rfl B (de_v 3) (hdp p hp).1 (by have := (hdp p hp).2; omega)).to ?c1) (fun e => (de_tup [enc ((rowOf common key).getD p none)] (da_cons (de_v 4) da_nil) (by simp)).to ?c2)) (fun _ _ => Enc.to _) (by rw [List.length_range]; omega))) ?_)
  case c1 =>
    rw [Option.isNone_iff_eq_none.mp e, upTo_enc]
    rfl
  case c2 =>
    cases h : (rowOf common key).getD p none with
    | none => rw [h] at e; cases e
    | some x => rfl
  show PyData.tuple _ = PyData.tuple ((openedBox ⟨n, depths, common, key⟩).map enc)
  unfold openedBox
  rw [List.map_map]
  rfl
def alikeBox (a : A_cnk) : Box := (List.range a.n).map fun p => cellOf ((rowOf a.common a.key).getD p none) (setOf (column a.common p))
def sp_alike_box (K : PySem.W.Frag) : Sp := spM Wcn (fun a => [ME K a.common, ME K a.key]) (fun a => ME K (alikeBox a))
theorem ok_alike_box (T : Tx K mg) : DefOk P w K mg base "alike_box" 3 (sp_alike_box K) := by
  obtain ⟨f, fd, F, hg⟩ := at_alike_box T
  have B := T.bl
  have D := ok_row_of (P := P) (w := w) (base := base) T
  have D2 := ok_common_cuts (P := P) (w := w) (base := base) T
  refine fn_pure F sc_alike_box hg (fun _ => rfl) (fun _ _ _ _ _ _ us hl => match us, hl with | [_, _], _ => rfl) fun f cdv A outer s H E a hr hp => ?_
  obtain ⟨n, common, key⟩ := a
  obtain ⟨hw, hk⟩ := hp
  have h4 : n ≤ 100 := hw.2.2.2
  have hk : key.length = n := hk
  refine ds_ret (DE.to (de_tupleL B.tuple (de_lc0 (List.range n) (fun p => .tuple [enc ((cutsOf common n).getD p []), enc ((rowOf common key).getD p none)]) (fun p => enc (cellOf ((rowOf common key).getD p none) ((cutsOf common n).getD p []))) (fun p => [some (ME K common), some (ME K key), some (ME K ((cutsOf common n).getD p [])), some (ME K ((rowOf common key).getD p none))]) [("cuts", 2), ("cut", 3)] rfl sc_alike_box.nd
    ((di_zipT B.zip (de_call D2 hr (common, n) (da_cons (de_v 0) da_nil) hw) (de_call D hr (⟨common, key⟩ : A_ck) (da_cons (de_v 0) (da_cons (de_v 1) da_nil)) ⟨n, hw.wf hk⟩)).to (zipD_enc (cutsOf common n) (rowOf common key) [] none n (cutsOf_len common n) (by rw [row_len, hk]))) (blkOk_by (N := ["common", "key", "cuts", "cut"]) (sc := defScope s_alike_box) (by decide +kernel)) (fun _ _ _ _ _ => pg_tup rfl (pgs_cons (pg_name (i := 2) sc_alike_box.nd rfl (Or.inl rfl)) (pgs_cons (pg_name (i := 3) sc_alike_box.nd rfl (Or.inl rfl)) pgs_nil))) (fun o ho => tg_tup (js := [2, 3]) rfl)
    (fun p hp _ _ _ _ _ => de_ifExp (k := ((rowOf common key).getD p none).isNone) ((dt_isN (de_v 3)).to (isNone_opt _)) (fun e => (de_v 2).to ?c1) (fun e => (de_tup [enc ((rowOf common key).getD p none)] (da_cons (de_v 3) da_nil) (by simp)).to ?c2)) (fun _ _ => Enc.to _) (by rw [List.length_range]; omega))) ?_)
  case c1 =>
    rw [Option.isNone_iff_eq_none.mp e]
    rfl
  case c2 =>
    cases h : (rowOf common key).getD p none with
    | none => rw [h] at e; cases e
    | some x => rfl
  show PyData.tuple _ = PyData.tuple ((alikeBox ⟨n, common, key⟩).map enc)
  unfold alikeBox
  rw [List.map_map]
  refine congrArg PyData.tuple (List.map_congr_left fun p hp => ?_)
  rw [cutsOf_get (List.mem_range.mp hp)]
  rfl
end
end K78

-- part KP6
set_option Elab.async false
set_option linter.all false
set_option maxRecDepth 100000
set_option maxHeartbeats 4000000
/-! KP6: meeting, added, together. -/
namespace K78
open PySem PySem.Spec PyProof.Rows L2
open Evl (Ex ex_t ex_l ex_rd fresh_back)
open Enc (enc)
def meetC (p : List Int × List Int) : List Int := if p.1 = p.2 then p.1 else p.1.filter fun c => memE c p.2
def meetL (one other : Box) : Box := (one.zip other).map meetC
def meetB (one other : Box) : Option Box := if memE [] (meetL one other) = true then none else some (meetL one other)
def optD : Option Box → PyData
  | none => .none
  | some b => enc b
/-- a box's size -/
def Bz (b : Box) : Prop := b.length ≤ 8 ∧ ∀ c ∈ b, c.length ≤ 8
theorem zip_enc (one other : Box) : zipD (one.map enc) (other.map enc) = (one.zip other).map fun p => .tuple [enc p.1, enc p.2] := by
  unfold zipD
  rw [List.zip_map, List.map_map]
  rfl
section
variable {P : Program} {w : World} {K : PySem.W.Frag} {mg : Str → Option Value} {base : Heap}
def sp_meeting (K : PySem.W.Frag) : Sp := spM (fun a : Box × Box => Bz a.1 ∧ Bz a.2) (fun a => [ME K a.1, ME K a.2]) (fun a => MP.d K (optD (meetB a.1 a.2)))
theorem ok_meeting (T : Tx K mg) : DefOk P w K mg base "meeting" 1 (sp_meeting K) := by
  obtain ⟨f, fd, F, hg⟩ := at_meeting T
  have B := T.bl
  refine fn_pure F sc_meeting hg (fun _ => rfl) (fun _ _ _ _ _ _ us hl => match us, hl with | [_, _], _ => rfl) fun f cdv A outer s H E a hr hp => ?_
  obtain ⟨one, other⟩ := a
  obtain ⟨h1, h2⟩ := hp
  have h1 : Bz one := h1
  refine ds_body fun BB => ?_
  show HS _ (GB BB [some ((ME K one).at BB), some ((ME K other).at BB), none, none, none, none]) _ _ _
  refine hs_cons (h1_set 2 sc_meeting.nd (de_newL [] da_nil)) ?_
  refine hs_pre (G := fun σ H => ∃ L, BB L = none ∧ GB BB [some ((ME K one).at BB), some ((ME K other).at BB), some (MLat K L []), none, none, none] σ H) (hs_ex fun L => hs_pure fun hL => ?_) (fun σ H g => gb_newL (i := 2) (Γ := [some ((ME K one).at BB), some ((ME K other).at BB), none, none, none, none]) (by show 2 < 6; omega) g)
  have hlen : ((one.zip other).map fun p => PyData.tuple [enc p.1, enc p.2]).length = (one.zip other).length := List.length_map ..
  refine hs_cons (h1_forL (vs := [3, 4]) (L := L) (ds := (one.zip other).map fun p => PyData.tuple [enc p.1, enc p.2]) (g := gTup K 2 (gNs [3, 4])) (fun i => [some ((ME K one).at BB), some ((ME K other).at BB), some (MLat K L (((one.zip other).take i).map fun p => enc (meetC p))), none, none, none]) hL rfl PassesOwn.never ?hi (pg_tup rfl (pgs_cons (pg_name (i := 3) sc_meeting.nd rfl (by first | exact Or.inl rfl | exact Or.inr rfl)) (pgs_cons (pg_name (i := 4) sc_meeting.nd rfl (by first | exact Or.inl rfl | exact Or.inr rfl)) pgs_nil))) (fun _ _ h => h) (fun B1 hB1 hL1 i d hd => ?_)) ?_
  case hi => exact PI.to (dx_zipT (L := L) (fun σ H g => gb_nt (i := 2) g rfl) B.zip (de_gb (de_v0 0)) (de_gb (de_v0 1)) (encs_to one) (encs_to other)) (zip_enc one other)
  · rw [List.getElem?_map] at hd
    obtain ⟨p, hpi, rfl⟩ := Option.map_eq_some_iff.mp hd
    have hpm := List.of_mem_zip (List.mem_of_getElem? hpi)
    have hcl : p.1.length ≤ 8 := h1.2 _ hpm.1
    have hil : i < (one.zip other).length := (List.getElem?_eq_some_iff.mp hpi).1
    have hzl : (one.zip other).length ≤ 100 := by rw [List.length_zip]; have := h1.1; omega
    refine ⟨[some ((ME K one).at BB), some ((ME K other).at BB), some (MLat K L (((one.zip other).take i).map fun p => enc (meetC p))), some (ME K p.1), some (ME K p.2), none], tg_tup (js := [3, 4]) rfl, hs_one (h1_post (h1_append 2 (d := enc (meetC p)) rfl hL1 (de_v 2)
      (de_gb (DE.to (de_ifExp (dt_eqE hr (de_v 3) (de_v 4)) (fun e => (de_v 3).to ?c1) (fun e => (de_tupleL B.tuple (de_lc p.1 enc (fun c => memE c p.2) enc (fun c => [some ((ME K one).at BB), some ((ME K other).at BB), some (MLat K L (((one.zip other).take i).map fun p => enc (meetC p))), some (ME K p.1), some (ME K p.2), some (ME K c)]) [("cut", 5)] rfl sc_meeting.nd (di_tup (de_v 3)) (blkOk_by (N := ["one", "other", "found", "mine", "its", "cut"]) (sc := defScope s_meeting) (by decide +kernel)) (fun _ _ _ _ _ => pg_name (i := 5) sc_meeting.nd rfl (by first | exact Or.inl rfl | exact Or.inr rfl)) (fun o ho => tg_name)
        (fun c hc _ _ _ _ _ => dts_one (dt_inT hr (de_v 5) (de_v 4))) (fun c hc _ _ _ _ _ _ => de_v 5) (fun _ _ => Enc.to _) (by omega))).to ?c2)) rfl))
      (tOs_all.mpr fun d hd => ?to) (Enc.to _) (by rw [List.length_map, List.length_take]; omega) (.cons (stb_at hL) (.cons (stb_at hL) (.skip (.cons stb_e (.cons stb_e (.skip .nil)))))))  fun σ H g => ?post)⟩
    case c1 =>
      have e : p.1 = p.2 := of_decide_eq_true e
      unfold meetC
      rw [if_pos e]
    case c2 =>
      have e : ¬ p.1 = p.2 := of_decide_eq_false e
      unfold meetC
      rw [if_neg e]
      rfl
    case to =>
      obtain ⟨q, _, rfl⟩ := List.mem_map.mp hd
      exact Enc.to _
    case post =>
      refine ⟨g.1, ?_⟩
      have := (g.2.drop 3).drop 4
      rw [List.take_add_one, hpi, List.map_append]
      exact this
  · rw [hlen, List.take_length]
    refine hs_one (h1_ret (M := MP.d K (optD (meetB one other))) (de_gb (de_ifExp (k := memE [] (meetL one other)) (dt_inL hr (x := ([] : List Int)) (y := meetL one other) (de_tup [] da_nil) ((de_v 2).cast fun v H p => ?m)) (fun e => de_non.to ?c) (fun e => (de_tupleL B.tuple ((de_v 2).cast fun v H p => MLat.dp p)).to ?d))) fun v σ H H' g x p => ⟨g.1.trans x, p⟩)
    case m =>
      have h := MLat.dp p
      show Dp K H v (.list ((meetL one other).map enc))
      unfold meetL
      rw [List.map_map]
      exact h
    case c =>
      have e : memE [] (meetL one other) = true := e
      unfold meetB
      rw [if_pos e]
      rfl
    case d =>
      have e : memE [] (meetL one other) = false := e
      unfold meetB
      rw [if_neg (by rw [e]; decide)]
      show PyData.tuple _ = PyData.tuple ((meetL one other).map enc)
      unfold meetL
      rw [List.map_map]
      rfl
end
end K78

-- part KP7
set_option Elab.async false
set_option linter.all false
set_option maxRecDepth 100000
set_option maxHeartbeats 4000000
/-! KP7: added, together. -/
namespace K78
open PySem PySem.Spec PyProof.Rows L2
open Evl (Ex ex_t ex_l ex_rd fresh_back)
open Enc (enc)
def addStep (times : Int) (acc : Cnt) (p : Box × Int) : Cnt := putC acc p.1 (getC acc p.1 + times * p.2)
def addC (counts others : Cnt) (times : Int) : Cnt := others.foldl (addStep times) counts
theorem addC_take {others : Cnt} {i : Nat} {p : Box × Int} (counts : Cnt) (times : Int) (h : others[i]? = some p) : addC counts (others.take (i + 1)) times = addStep times (addC counts (others.take i) times) p := by
  unfold addC
  rw [List.take_add_one, h, List.foldl_append]
  rfl
theorem addC_len (times : Int) : ∀ (others counts : Cnt), (addC counts others times).length ≤ counts.length + others.length
  | [], counts => by simp [addC]
  | p :: others, counts => by
    have h1 := addC_len times others (addStep times counts p)
    have h2 := putC_length counts p.1 (getC counts p.1 + times * p.2)
    show (addC (addStep times counts p) others times).length ≤ _
    unfold addStep at h1 ⊢
    simp only [List.length_cons]
    omega
section
variable {P : Program} {w : World} {K : PySem.W.Frag} {mg : Str → Option Value} {base : Heap}
structure A_add where
  counts : Cnt
  others : Cnt
  times : Int
def sp_added (K : PySem.W.Frag) (P : Program) (w : World) : Sp := spM (fun a : A_add => HashOk P w a.counts ∧ a.counts.length + a.others.length ≤ 50000 ∧ -10 ≤ a.times ∧ a.times ≤ 10) (fun a => [MP.dic K P w a.counts, MP.dic K P w a.others, MI K a.times]) (fun a => MP.dic K P w (addC a.counts a.others a.times))
theorem ok_added (T : Tx K mg) : DefOk P w K mg base "added" 1 (sp_added K P w) := by
  obtain ⟨f, fd, F, hg⟩ := at_added T
  have B := T.bl
  refine fn_pure F sc_added hg (fun _ => rfl) (fun _ _ _ _ _ _ us hl => match us, hl with | [_, _, _], _ => rfl) fun f cdv A outer s H E a hr hp => ?_
  obtain ⟨counts, others, times⟩ := a
  obtain ⟨hh, hlen, ht1, ht2⟩ := hp
  have hlen : counts.length + others.length ≤ 50000 := hlen
  have ht1 : -10 ≤ times := ht1
  have ht2 : times ≤ 10 := ht2
  refine ds_body fun BB => ?_
  show HS _ (GB BB [some ((MP.dic K P w counts).at BB), some ((MP.dic K P w others).at BB), some ((MI K times).at BB), none, none, none]) _ _ _
  refine hs_cons (h1_set 3 sc_added.nd (de_dictB hr B.dict (de_v0 0) hh)) ?_
  refine hs_pre (G := fun σ H => ∃ L, BB L = none ∧ GB BB [some ((MP.dic K P w counts).at BB), some ((MP.dic K P w others).at BB), some ((MI K times).at BB), some (MDat K P w L counts), none, none] σ H) (hs_ex fun L => hs_pure fun hL => ?_) (fun σ H g => gb_newD (i := 3) (Γ := [some ((MP.dic K P w counts).at BB), some ((MP.dic K P w others).at BB), some ((MI K times).at BB), none, none, none]) (by show 3 < 6; omega) g)
  refine hs_cons (h1_forL (vs := [4, 5]) (L := L) (ds := cntD others) (g := gTup K 2 (gNs [4, 5])) (fun i => [some ((MP.dic K P w counts).at BB), some ((MP.dic K P w others).at BB), some ((MI K times).at BB), some (MDat K P w L (addC counts (others.take i) times)), none, none]) hL rfl PassesOwn.never ?hi (pg_tup rfl (pgs_cons (pg_name (i := 4) sc_added.nd rfl (by first | exact Or.inl rfl | exact Or.inr rfl)) (pgs_cons (pg_name (i := 5) sc_added.nd rfl (by first | exact Or.inl rfl | exact Or.inr rfl)) pgs_nil))) (fun _ _ h => h) (fun B1 hB1 hL1 i d hd => ?_)) ?_
  case hi =>
    refine dx_items (M := (MP.dic K P w others).at BB) (de_gb (de_v 1)) fun σ v H g p => ?_
    obtain ⟨xb, d, xs, ep, rfl, h1, h2⟩ := p
    exact ⟨d, xs, ep, rfl, xb _ _ h1, ex_del xb hL _ _ h1, h2.tsub (TupSub.ofEx (ex_del xb hL)), h2.tsub (TupSub.ofEx xb)⟩
  · unfold cntD at hd
    rw [List.getElem?_map] at hd
    obtain ⟨p, hpi, rfl⟩ := Option.map_eq_some_iff.mp hd
    have hil : i < others.length := (List.getElem?_eq_some_iff.mp hpi).1
    have hal := addC_len times (others.take i) counts
    rw [List.length_take] at hal
    refine ⟨[some ((MP.dic K P w counts).at BB), some ((MP.dic K P w others).at BB), some ((MI K times).at BB), some (MDat K P w L (addC counts (others.take i) times)), some (ME K p.1), some (MI K p.2)], tg_tup (js := [4, 5]) rfl, hs_one (h1_post (h1_store 3 (n := getC (addC counts (others.take i) times) p.1 + times * p.2) hr rfl hL1 (de_v 3) (de_v 4)
      (de_add (de_get hr ((de_v 3).cast fun v H p => MDat.dic p) (de_v 4)) (de_mul (de_v0 2) (de_v 5) (.inl ⟨by omega, by omega⟩))) (by omega) (.cons (stb_at hL) (.cons (stb_at hL) (.cons (stb_at hL) (.skip (.cons stb_e (.cons (stb_d rfl) .nil))))))) fun σ H g => ?post)⟩
    case post =>
      refine ⟨g.1, ?_⟩
      rw [addC_take counts times hpi]
      exact (g.2.drop 4).drop 5
  · rw [cntD_length, List.take_length]
    exact hs_one (h1_ret (M := MP.dic K P w (addC counts others times)) (de_gb ((de_v 3).cast fun v H p => MDat.dic p)) fun v σ H H' g x p => ⟨g.1.trans x, p⟩)
end
end K78

-- part KP8
set_option Elab.async false
set_option linter.all false
set_option maxRecDepth 100000
set_option maxHeartbeats 4000000
/-! KP8: together. -/
namespace K78
open PySem PySem.Spec PyProof.Rows L2
open Evl (Ex ex_t ex_l ex_rd fresh_back)
open Enc (enc)
def freshStep (box : Box) (acc : Cnt) (p : Box × Int) : Cnt := match meetB box p.1 with
  | none => acc
  | some both => putC acc both (getC acc both - p.2)
def freshC (box : Box) (found : Cnt) : Cnt := found.foldl (freshStep box) [(box, 1)]
def mergeC (found fresh : Cnt) : Cnt := fresh.foldl (fun acc p => putC acc p.1 (getC acc p.1 + p.2)) found
def nonZ (p : Box × Int) : Bool := !decide (p.2 = 0)
def stepC (found : Cnt) (box : Box) : Cnt := (mergeC found (freshC box found)).filter nonZ
def togetherC (boxes : List Box) : Cnt := boxes.foldl stepC []
/-- counts with keys apart, not too many, of good boxes -/
structure CntOk (m : Nat) (l : Cnt) : Prop where
  nd : (l.map (·.1)).Nodup
  len : l.length ≤ m
  bz : ∀ p ∈ l, Bz p.1
theorem putC_mem {l : Cnt} {b : Box} {n : Int} {p : Box × Int} (h : p ∈ putC l b n) : p.1 = b ∨ p.1 ∈ l.map (·.1) := by
  have : p.1 ∈ (putC l b n).map (·.1) := List.mem_map.mpr ⟨p, h, rfl⟩
  rw [putC_keys] at this
  split at this
  · exact .inr this
  · rcases List.mem_append.mp this with h | h
    · exact .inr h
    · exact .inl (by simpa using h)
theorem CntOk.put {m : Nat} {l : Cnt} (h : CntOk m l) {b : Box} (hb : Bz b) (n : Int) : CntOk (m + 1) (putC l b n) :=
  ⟨putC_nodup h.nd b n, Nat.le_trans (putC_length l b n) (Nat.succ_le_succ h.len), fun p hp => by
    rcases putC_mem hp with e | e
    · rw [e]; exact hb
    · obtain ⟨q, hq, e⟩ := List.mem_map.mp e
      rw [← e]
      exact h.bz q hq⟩
theorem CntOk.mono {m m' : Nat} {l : Cnt} (h : CntOk m l) (e : m ≤ m') : CntOk m' l := ⟨h.nd, Nat.le_trans h.len e, h.bz⟩
theorem CntOk.filt {m : Nat} {l : Cnt} (h : CntOk m l) (f : Box × Int → Bool) : CntOk m (l.filter f) :=
  ⟨List.Pairwise.sublist (List.Sublist.map _ List.filter_sublist) h.nd, Nat.le_trans (List.length_filter_le _ _) h.len, fun p hp => h.bz p (List.mem_filter.mp hp).1⟩
theorem bz_meet {one other b : Box} (h : Bz one) (e : meetB one other = some b) : Bz b := by
  unfold meetB at e
  split at e
  · cases e
  · cases e
    refine ⟨?_, fun c hc => ?_⟩
    · unfold meetL
      rw [List.length_map, List.length_zip]
      have := h.1
      omega
    · unfold meetL at hc
      obtain ⟨p, hp, rfl⟩ := List.mem_map.mp hc
      have := h.2 _ (List.of_mem_zip hp).1
      unfold meetC
      split
      · exact this
      · exact Nat.le_trans (List.length_filter_le _ _) this
theorem fresh_ok {box : Box} (hb : Bz box) : ∀ {m k : Nat} (l : Cnt) (acc : Cnt), CntOk m acc → l.length ≤ k → CntOk (m + k) (l.foldl (freshStep box) acc)
  | m, k, [], acc, h, _ => h.mono (by omega)
  | m, k, p :: l, acc, h, hl => by
    have hl : l.length + 1 ≤ k := hl
    have step : CntOk (m + 1) (freshStep box acc p) := by
      unfold freshStep
      split
      · exact h.mono (by omega)
      · rename_i b e
        exact h.put (bz_meet hb e) _
    exact (fresh_ok hb (k := k - 1) l _ step (by omega)).mono (by omega)
theorem one_ok {box : Box} (hb : Bz box) : CntOk 1 [(box, 1)] := ⟨by simp, by simp, fun p hp => by
  have : p = (box, 1) := by simpa using hp
  rw [this]
  exact hb⟩
theorem freshC_ok {box : Box} (hb : Bz box) {m : Nat} {l : Cnt} (h : CntOk m l) (i : Nat) : CntOk (m + 1) (freshC box (l.take i)) := (fresh_ok hb (k := m) (l.take i) _ (one_ok hb) (by rw [List.length_take]; have := h.len; omega)).mono (by omega)
theorem merge_ok : ∀ {m k : Nat} (fresh acc : Cnt), CntOk m acc → CntOk k fresh → CntOk (m + k) (fresh.foldl (fun acc p => putC acc p.1 (getC acc p.1 + p.2)) acc)
  | m, k, [], acc, h, _ => h.mono (by omega)
  | m, k, p :: l, acc, h, h2 => by
    have hl : l.length + 1 ≤ k := h2.len
    have nd := h2.nd
    rw [List.map_cons, List.nodup_cons] at nd
    exact (merge_ok (k := k - 1) l _ (h.put (h2.bz p List.mem_cons_self) _) ⟨nd.2, by omega, fun q hq => h2.bz q (List.mem_cons_of_mem _ hq)⟩).mono (by omega)
theorem CntOk.take {m : Nat} {l : Cnt} (h : CntOk m l) (i : Nat) : CntOk m (l.take i) :=
  ⟨List.Pairwise.sublist (List.Sublist.map _ (List.take_sublist i l)) h.nd, by rw [List.length_take]; have := h.len; omega, fun p hp => h.bz p (List.mem_of_mem_take hp)⟩
theorem stepC_ok {box : Box} (hb : Bz box) {m : Nat} {l : Cnt} (h : CntOk m l) : CntOk (2 * m + 1) (stepC l box) := by
  have h1 := freshC_ok hb h l.length
  rw [List.take_length] at h1
  exact ((merge_ok _ _ h h1).filt _).mono (by omega)
theorem together_ok : ∀ (boxes : List Box), (∀ b ∈ boxes, Bz b) → ∀ i, CntOk (2 ^ i - 1) (togetherC (boxes.take i))
  | boxes, hb, 0 => ⟨by simp [togetherC], by simp [togetherC], fun p hp => by simp [togetherC] at hp⟩
  | boxes, hb, i + 1 => by
    have ih := together_ok boxes hb i
    by_cases hi : i < boxes.length
    · have e : togetherC (boxes.take (i + 1)) = stepC (togetherC (boxes.take i)) boxes[i] := by
        unfold togetherC
        rw [List.take_add_one, List.getElem?_eq_getElem hi, List.foldl_append]
        rfl
      rw [e]
      have h2 : 2 ^ (i + 1) = 2 * 2 ^ i := by rw [Nat.pow_succ]; omega
      have h3 : 0 < 2 ^ i := Nat.pow_pos (by omega)
      exact (stepC_ok (hb _ (List.getElem_mem hi)) ih).mono (by omega)
    · rw [List.take_of_length_le (by omega)]
      rw [List.take_of_length_le (by omega)] at ih
      exact ih.mono (by
        have h2 : 2 ^ (i + 1) = 2 * 2 ^ i := by rw [Nat.pow_succ]; omega
        omega)
theorem freshC_take {box : Box} {l : Cnt} {i : Nat} {p : Box × Int} (h : l[i]? = some p) : freshC box (l.take (i + 1)) = freshStep box (freshC box (l.take i)) p := by
  unfold freshC
  rw [List.take_add_one, h, List.foldl_append]
  rfl
theorem mergeC_take {found l : Cnt} {i : Nat} {p : Box × Int} (h : l[i]? = some p) : mergeC found (l.take (i + 1)) = putC (mergeC found (l.take i)) p.1 (getC (mergeC found (l.take i)) p.1 + p.2) := by
  unfold mergeC
  rw [List.take_add_one, h, List.foldl_append]
  rfl
section
variable {P : Program} {w : World} {K : PySem.W.Frag} {mg : Str → Option Value} {base : Heap}
def sp_together (K : PySem.W.Frag) (P : Program) (w : World) : Sp := spM (fun a : List Box => (∀ b ∈ a, Bz b) ∧ a.length ≤ 12) (fun a => [ML K a]) (fun a => MP.dic K P w (togetherC a))
theorem ok_together (T : Tx K mg) : DefOk P w K mg base "together" 2 (sp_together K P w) := by
  obtain ⟨f, fd, F, hg⟩ := at_together T
  have B := T.bl
  have D := ok_meeting (P := P) (w := w) (base := base) T
  refine fn_pure F sc_together hg (fun _ => rfl) (fun _ _ _ _ _ _ us hl => match us, hl with | [_], _ => rfl) fun f cdv A outer s H E boxes hr hp => ?_
  obtain ⟨hbz, hlen⟩ := hp
  refine ds_body fun BB => ?_
  show HS _ (GB BB [some ((ML K boxes).at BB), none, none, none, none, none, none, none]) _ _ _
  refine hs_cons (h1_set 1 sc_together.nd de_dnewB) ?_
  refine hs_cons (N' := fun σ H => ∃ d, BB d = none ∧ GB BB [some ((ML K boxes).at BB), some (MDat K P w d (togetherC boxes)), none, none, none, none, none, none] σ H)
    (h1_forX (vs := [2]) (ds := boxes.map enc) (g := gName 2) (fun _ => BB) (fun B1 => B1 = BB) (fun B1 i σ H => ∃ d, BB d = none ∧ GB BB [some ((ML K boxes).at BB), some (MDat K P w d (togetherC (boxes.take i))), none, none, none, none, none, none] σ H ∧ Ex B1 H) (fun σ H' g => ⟨rfl, g.1⟩) rfl PassesOwn.never
      (dx_list0 (B := BB) (fun σ H H' _ _ => Ex.refl BB) (de_gb (de_v 0))) (pg_name sc_together.nd rfl (.inl rfl)) (fun B1 σ H e x g => ?h0) (fun B1 i σ H ⟨d, _, _, x⟩ => x) (fun B1 i σ H H' x ⟨d, h, g, xb⟩ => ⟨d, h, MG.mono x g, xb.trans x⟩) (fun B1 e i dd hd => ?body) (fun B1 σ H e ⟨d, h, g, _⟩ => ⟨d, h, ?fin⟩)) ?ret
  case h0 =>
    obtain ⟨d, h, g'⟩ := gb_newD (i := 1) (Γ := [some ((ML K boxes).at BB), none, none, none, none, none, none, none]) (by show 1 < 8; omega) g
    exact ⟨d, h, g', x⟩
  case fin =>
    rw [List.length_map, List.take_length] at g
    exact g
  case ret =>
    exact hs_ex fun d => hs_pure fun _ => hs_one (h1_ret (M := MP.dic K P w (togetherC boxes)) (de_gb ((de_v 1).cast fun v H p => MDat.dic p)) fun v σ H H' g x p => ⟨g.1.trans x, p⟩)
  case body =>
    subst e
    rw [List.getElem?_map] at hd
    obtain ⟨box, hbi, rfl⟩ := Option.map_eq_some_iff.mp hd
    have hb : Bz box := hbz box (List.mem_of_getElem? hbi)
    have hil : i < boxes.length := (List.getElem?_eq_some_iff.mp hbi).1
    have hok := together_ok boxes hbz i
    have hsz : 2 ^ i ≤ 4096 := Nat.le_trans (Nat.pow_le_pow_right (by omega) (show i ≤ 12 by omega)) (by decide)
    have hnext : togetherC (boxes.take (i + 1)) = stepC (togetherC (boxes.take i)) box := by
      unfold togetherC
      rw [List.take_add_one, hbi, List.foldl_append]
      rfl
    rw [hnext]
    generalize togetherC (boxes.take i) = l at hok ⊢
    generalize hm : 2 ^ i - 1 = m at hok
    have hm' : m ≤ 4095 := by omega
    refine ⟨fun σ H => ∃ d, B1 d = none ∧ GB B1 [some ((ML K boxes).at B1), some (MDat K P w d l), some (ME K box), none, none, none, none, none] σ H, tg_ex fun d => ?_, hs_ex fun d => hs_pure fun hd => ?_⟩
    · intro v σ H Q p g q
      exact tg_gb (B := B1) (tg_name (vs := [2]) (j := 2)) v σ H Q p g.2.1 fun σ' g' w' => q σ' ⟨g.1, g'⟩ w'
    have hlm := hok.len
    refine hs_cons (N' := fun σ H => ∃ f, (f ≠ d ∧ B1 f = none) ∧ GB B1 [some ((ML K boxes).at B1), some (MDat K P w d l), some (ME K box), some (MDat K P w f [(box, 1)]), none, none, none, none] σ H) (h1_now fun σ0 H0 g0 => ?s1) (hs_ex fun f => hs_pure fun hf => ?_)
    case s1 =>
      have hd0 : ∃ u, H0 d = some u := (gb_dat (i := 1) g0 rfl).2
      refine h1_post (h1_pre (h1_set (B := H0) (Γ := [some ((ML K boxes).at B1), some (MDat K P w d l), some (ME K box), none, none, none, none, none]) 3 sc_together.nd (de_disp1B hr (de_v 2) de_int)) (fun σ H e => by obtain ⟨rfl, rfl⟩ := e; exact ⟨Ex.refl _, g0.2⟩)) (fun σ H g => ?_)
      obtain ⟨f, hf, g'⟩ := gb_newD (i := 3) (Γ := [some ((ML K boxes).at B1), some (MDat K P w d l), some (ME K box), none, none, none, none, none]) (by show 3 < 8; omega) g
      obtain ⟨u, hu⟩ := hd0
      exact ⟨f, ⟨fun e => (by subst e; rw [hf] at hu; cases hu), b_none g0.1 hf⟩, g0.1.trans g'.1, g'.2⟩
    refine hs_cons (h1_forL (vs := [4, 5]) (L := f) (ds := cntD l) (g := gTup K 2 (gNs [4, 5])) (fun i => [some ((ML K boxes).at B1), some (MDat K P w d l), some (ME K box), some (MDat K P w f (freshC box (l.take i))), none, none, none, none]) hf.2 rfl PassesOwn.never ?hi1 (pg_tup rfl (pgs_cons (pg_name (i := 4) sc_together.nd rfl (by first | exact Or.inl rfl | exact Or.inr rfl)) (pgs_cons (pg_name (i := 5) sc_together.nd rfl (by first | exact Or.inl rfl | exact Or.inr rfl)) pgs_nil))) (fun _ _ h => h) (fun B2 hB2 hL2 j dd hj => ?b1)) ?_
    case hi1 =>
      refine dx_items (M := MDat K P w d l) (de_gb (de_v 1)) fun σ v H g p => ?_
      obtain ⟨rfl, xs, ep, h1, h2⟩ := p
      exact ⟨d, xs, ep, rfl, h1, (del_ne hf.1.symm).trans h1, h2.tsub (tup_del (gb_dat (i := 3) g rfl).1), h2⟩
    case b1 =>
      unfold cntD at hj
      rw [List.getElem?_map] at hj
      obtain ⟨p, hpj, rfl⟩ := Option.map_eq_some_iff.mp hj
      have hpm : p ∈ l := List.mem_of_getElem? hpj
      have hfo := freshC_ok hb hok j
      have hfl := hfo.len
      refine ⟨[some ((ML K boxes).at B1), some (MDat K P w d l), some (ME K box), some (MDat K P w f (freshC box (l.take j))), some (ME K p.1), some (MI K p.2), none, none], tg_tup (js := [4, 5]) rfl, ?_⟩
      refine hs_cons (h1_set 6 sc_together.nd (de_gb (de_call D hr (box, p.1) (da_cons (de_v 2) (da_cons (de_v 4) da_nil)) ⟨hb, hok.bz p hpm⟩))) ?_
      show HS _ (GB B2 [some ((ML K boxes).at B1), some (MDat K P w d l), some (ME K box), some (MDat K P w f (freshC box (l.take j))), some (ME K p.1), some (MI K p.2), some (MP.d K (optD (meetB box p.1))), none]) _ _ _
      rw [freshC_take hpj]
      cases hmb : meetB box p.1 with
      | none =>
        have es : freshStep box (freshC box (l.take j)) p = freshC box (l.take j) := by unfold freshStep; rw [hmb]
        rw [es]
        exact hs_one (h1_if (dt_gb (dt_notN (d := optD none) (de_v 6))) (fun e => nomatch e) fun _ => hs_nil fun σ H g => ⟨g.1, ((g.2.drop 4).drop 5).drop 6⟩)
      | some both =>
        have es : freshStep box (freshC box (l.take j)) p = putC (freshC box (l.take j)) both (getC (freshC box (l.take j)) both - p.2) := by unfold freshStep; rw [hmb]
        rw [es]
        exact hs_one (h1_if (dt_gb (dt_notN (d := optD (some both)) (de_v 6))) (fun _ => hs_one (h1_post (h1_store 3 (b := both) (n := getC (freshC box (l.take j)) both - p.2) hr rfl hL2 (de_v 3) (de_v 6)
          (de_sub (de_get hr ((de_v 3).cast fun v H p => MDat.dic p) (de_v 6)) (de_v 5)) (by omega) (.cons (stb_at hf.2) (.cons (stb_dat hf.1.symm) (.cons stb_e (.skip (.cons stb_e (.cons (stb_d rfl) (.cons (stb_d (Enc.to both)) (.skip .nil))))))))) fun σ H g => ⟨g.1, ((g.2.drop 4).drop 5).drop 6⟩)) fun e => nomatch e)
    rw [cntD_length, List.take_length]
    have hfo : CntOk (m + 1) (freshC box l) := by
      have := freshC_ok hb hok l.length
      rw [List.take_length] at this
      exact this
    show HS _ _ _ (fun σ H => ∃ d, B1 d = none ∧ GB B1 [some ((ML K boxes).at B1), some (MDat K P w d ((mergeC l (freshC box l)).filter nonZ)), none, none, none, none, none, none] σ H ∧ Ex B1 H) _
    generalize freshC box l = fr at hfo ⊢
    have hfl := hfo.len
    refine hs_cons (h1_forL (vs := [7, 5]) (L := d) (ds := cntD fr) (g := gTup K 2 (gNs [7, 5])) (fun i => [some ((ML K boxes).at B1), some (MDat K P w d (mergeC l (fr.take i))), some (ME K box), some (MDat K P w f fr), none, none, none, none]) hd rfl PassesOwn.never ?hi2 (pg_tup rfl (pgs_cons (pg_name (i := 7) sc_together.nd rfl (by first | exact Or.inl rfl | exact Or.inr rfl)) (pgs_cons (pg_name (i := 5) sc_together.nd rfl (by first | exact Or.inl rfl | exact Or.inr rfl)) pgs_nil))) (fun _ _ h => h) (fun B2 hB2 hL2 j dd hj => ?b2)) ?_
    case hi2 =>
      refine dx_items (M := MDat K P w f fr) (de_gb (de_v 3)) fun σ v H g p => ?_
      obtain ⟨rfl, xs, ep, h1, h2⟩ := p
      exact ⟨f, xs, ep, rfl, h1, (del_ne hf.1).trans h1, h2.tsub (tup_del (gb_dat (i := 1) g rfl).1), h2⟩
    case b2 =>
      unfold cntD at hj
      rw [List.getElem?_map] at hj
      obtain ⟨p, hpj, rfl⟩ := Option.map_eq_some_iff.mp hj
      have hmo : (mergeC l (fr.take j)).length ≤ 9000 := by
        have := (merge_ok _ _ hok (hfo.take j)).len
        unfold mergeC
        omega
      refine ⟨[some ((ML K boxes).at B1), some (MDat K P w d (mergeC l (fr.take j))), some (ME K box), some (MDat K P w f fr), none, some (MI K p.2), none, some (ME K p.1)], tg_tup (js := [7, 5]) rfl, ?_⟩
      rw [mergeC_take hpj]
      exact hs_one (h1_post (h1_store 1 (b := p.1) (n := getC (mergeC l (fr.take j)) p.1 + p.2) hr rfl hL2 (de_v 1) (de_v 7)
          (de_add (de_get hr ((de_v 1).cast fun v H p => MDat.dic p) (de_v 7)) (de_v 5)) (by omega) (.cons (stb_at hd) (.skip (.cons stb_e (.cons (stb_dat hf.1) (.skip (.cons (stb_d rfl) (.skip (.cons stb_e .nil))))))))) fun σ H g => ⟨g.1, (g.2.drop 5).drop 7⟩)
    rw [cntD_length, List.take_length]
    have hmo : CntOk 9000 (mergeC l fr) := (merge_ok _ _ hok hfo).mono (by omega)
    generalize mergeC l fr = l2 at hmo ⊢
    have hl2 := hmo.len
    refine hs_one (h1_post (h1_setC 1 (dc_dcF (l := l2) (Γ := [some ((ML K boxes).at B1), some (MDat K P w d l2), some (ME K box), some (MDat K P w f fr), none, none, none, none]) [("part", 7), ("often", 5)] nonZ (fun z => [some ((ML K boxes).at B1), some (MDat K P w d l2), some (ME K box), some (MDat K P w f fr), none, some (MI K z.2), none, some (ME K z.1)]) hr rfl sc_together.nd
      (di_items ((de_v 1).cast fun v H p => MDat.dic p)) hmo.nd (by omega) (blkOk_by (N := ["boxes", "found", "box", "fresh", "other", "often", "both", "part"]) (sc := defScope s_together) (by decide +kernel)) (fun _ _ _ _ _ => pg_tup rfl (pgs_cons (pg_name (i := 7) sc_together.nd rfl (by first | exact Or.inl rfl | exact Or.inr rfl)) (pgs_cons (pg_name (i := 5) sc_together.nd rfl (by first | exact Or.inl rfl | exact Or.inr rfl)) pgs_nil))) (fun z hz => tg_tup (js := [7, 5]) rfl) (fun z hz _ _ _ _ _ => dts_one (dt_neE hr (x := z.2) (y := (0 : Int)) (de_v 5) de_int)) (fun z hz _ _ _ _ _ => de_v 7) (fun z hz _ _ _ _ _ => de_v 5))) fun σ H g => ?_)
    obtain ⟨d', hd', g'⟩ := gb_newD (i := 1) (Γ := [some ((ML K boxes).at B1), some (MDat K P w d l2), some (ME K box), some (MDat K P w f fr), none, none, none, none]) (by show 1 < 8; omega) g
    exact ⟨d', hd', ⟨g'.1, (g'.2.drop 2).drop 3⟩, g'.1⟩
end
end K78

-- part KP9
set_option Elab.async false
set_option linter.all false
set_option maxRecDepth 100000
set_option maxHeartbeats 4000000
/-! KP9: total, ranks_in, ranks_of. -/
namespace K78
open PySem PySem.Spec PyProof.Rows L2
open Evl (Ex ex_t ex_l ex_rd fresh_back)
open Enc (enc)
def volI (b : Box) : Int := prodI (b.map fun c => (c.length : Int))
def totalC (l : Cnt) : Int := (l.map fun p => p.2 * volI p.1).sum
theorem prodI_bd : ∀ (ns : List Int), (∀ n ∈ ns, 0 ≤ n ∧ n ≤ 8) → ∀ a : Int, 0 ≤ a → 0 ≤ ns.foldl (· * ·) a ∧ ns.foldl (· * ·) a ≤ a * 8 ^ ns.length
  | [], _, a, ha => ⟨ha, by simp⟩
  | n :: ns, h, a, ha => by
    obtain ⟨h1, h2⟩ := h n List.mem_cons_self
    obtain ⟨k1, k2⟩ := prodI_bd ns (fun m hm => h m (List.mem_cons_of_mem _ hm)) (a * n) (Int.mul_nonneg ha h1)
    refine ⟨k1, Int.le_trans k2 ?_⟩
    rw [List.length_cons, Int.pow_succ]
    have e : a * (8 ^ ns.length * 8) = (a * 8) * 8 ^ ns.length := by rw [Int.mul_comm ((8 : Int) ^ ns.length) 8, Int.mul_assoc]
    rw [e]
    exact Int.mul_le_mul_of_nonneg_right (Int.mul_le_mul_of_nonneg_left h2 ha) (Int.pow_nonneg (by omega))
theorem vol_bd {b : Box} (h : Bz b) : 0 ≤ volI b ∧ volI b ≤ 16777216 := by
  obtain ⟨h1, h2⟩ := prodI_bd (b.map fun c => (c.length : Int)) (fun n hn => by
    obtain ⟨c, hc, rfl⟩ := List.mem_map.mp hn
    have := h.2 c hc
    omega) 1 (by omega)
  refine ⟨h1, Int.le_trans h2 ?_⟩
  rw [List.length_map, Int.one_mul]
  have e1 : ((8 : Int) ^ b.length) = ((8 ^ b.length : Nat) : Int) := by rw [Int.natCast_pow]; rfl
  rw [e1]
  have : 8 ^ b.length ≤ 8 ^ 8 := Nat.pow_le_pow_right (by omega) h.1
  have e2 : (8 : Nat) ^ 8 = 16777216 := by decide
  omega
section
variable {P : Program} {w : World} {K : PySem.W.Frag} {mg : Str → Option Value} {base : Heap}
def sp_total (K : PySem.W.Frag) (P : Program) (w : World) : Sp := spM (fun l : Cnt => CntOk 50000 l) (fun a => [MP.dic K P w a]) (fun a => MI K (totalC a))
theorem ok_total (T : Tx K mg) : DefOk P w K mg base "total" 2 (sp_total K P w) := by
  obtain ⟨f, fd, F, hg⟩ := at_total T
  have B := T.bl
  have D := ok_product (P := P) (w := w) (base := base) T
  refine fn_pure F sc_total hg (fun _ => rfl) (fun _ _ _ _ _ _ us hl => match us, hl with | [_], _ => rfl) fun f cdv A outer s H E l hr hp => ?_
  obtain ⟨h1, h2, h3⟩ := hp
  refine ds_ret (de_sum l (fun p => p.2 * volI p.1) rfl B.sum (de_lc0 l (fun p => .tuple [enc p.1, .int p.2]) (fun p => .int (p.2 * volI p.1)) (fun p => [some (MP.dic K P w l), none, some (ME K p.1), some (MI K p.2)]) [("box", 2), ("often", 3), ("cuts", 1)] rfl sc_total.nd
    (di_items (de_v 0)) (blkOk_by (N := ["counts", "cuts", "box", "often"]) (sc := defScope s_total) (by decide +kernel)) (fun _ _ _ _ _ => pg_tup rfl (pgs_cons (pg_name (i := 2) sc_total.nd rfl (by first | exact Or.inl rfl | exact Or.inr rfl)) (pgs_cons (pg_name (i := 3) sc_total.nd rfl (by first | exact Or.inl rfl | exact Or.inr rfl)) pgs_nil))) (fun z hz => tg_tup (js := [2, 3]) rfl) (fun p hp _ _ _ _ _ => ?el) (fun _ _ => rfl) (by omega)))
  have hb := h3 p hp
  have hv := vol_bd hb
  refine de_mul (de_v 3) (de_call D hr (p.1.map fun c => (c.length : Int)) (da_cons (DE.to (de_lc0 p.1 enc (fun c => .int (c.length : Int)) (fun c => [some (MP.dic K P w l), some (ME K c), some (ME K p.1), some (MI K p.2)]) [("cuts", 1)] rfl sc_total.nd (di_tup (de_v 2)) (blkOk_by (by kernel_rfl)) (fun _ _ _ _ _ => pg_name (i := 1) sc_total.nd rfl (by first | exact Or.inl rfl | exact Or.inr rfl)) (fun o ho => tg_name)
    (fun c hc _ _ _ _ _ => de_lenE B.len (de_v 1)) (fun _ _ => rfl) (by have := hb.1; omega)) ?e) da_nil) ?pre) (.inr ⟨?b1, ?b2⟩)
  case e => rw [List.map_map]; rfl
  case pre =>
    intro n hn
    obtain ⟨c, hc, rfl⟩ := List.mem_map.mp hn
    have := hb.2 c hc
    omega
  case b1 =>
    show -(2 ^ 64) < volI p.1
    omega
  case b2 =>
    show volI p.1 < 2 ^ 64
    omega
end
end K78

-- part KP10
set_option Elab.async false
set_option linter.all false
set_option maxRecDepth 100000
set_option maxHeartbeats 4000000
/-! KP10: ranks_in, ranks_of. -/
namespace K78
open PySem PySem.Spec PyProof.Rows L2
open Evl (Ex ex_t ex_l ex_rd fresh_back)
open Enc (enc)
theorem zip_encG {α β : Type} [Enc α] [Enc β] (a : List α) (b : List β) : zipD (a.map enc) (b.map enc) = (a.zip b).map fun p => .tuple [enc p.1, enc p.2] := by
  unfold zipD
  rw [List.zip_map, List.map_map]
  rfl
def manyC (cuts ours : List Int) : Nat := (cuts.filter fun c => memE c ours).length
def rstep (found : List Int) (p : List Int × List Int) : List Int := ((found ++ [0]).zip (0 :: found)).map fun (q : Int × Int) => (manyC p.1 p.2 : Int) * q.1 + ((p.1.length : Int) - (manyC p.1 p.2 : Int)) * q.2
def ranksIn (box shared : Box) : List Int := (box.zip shared).foldl rstep [1]
theorem rstep_len (found : List Int) (p : List Int × List Int) : (rstep found p).length = found.length + 1 := by
  unfold rstep
  simp
theorem ranks_len (l : List (List Int × List Int)) : ∀ found : List Int, (l.foldl rstep found).length = found.length + l.length := by
  induction l with
  | nil => intro found; rfl
  | cons p l ih =>
    intro found
    rw [List.foldl_cons, ih, rstep_len, List.length_cons]
    omega
theorem ranks_take {l : List (List Int × List Int)} {i : Nat} {p : List Int × List Int} (h : l[i]? = some p) : (l.take (i + 1)).foldl rstep [1] = rstep ((l.take i).foldl rstep [1]) p := by
  rw [List.take_add_one, h, List.foldl_append]
  rfl
section
variable {P : Program} {w : World} {K : PySem.W.Frag} {mg : Str → Option Value} {base : Heap}
def sp_ranks_in (K : PySem.W.Frag) : Sp := spM (fun a : Box × Box => Bz a.1) (fun a => [ME K a.1, ME K a.2]) (fun a => ML K (ranksIn a.1 a.2))
theorem ok_ranks_in (T : Tx K mg) : DefOk P w K mg base "ranks_in" 1 (sp_ranks_in K) := by
  obtain ⟨f, fd, F, hg⟩ := at_ranks_in T
  have B := T.bl
  refine fn_pure F sc_ranks_in hg (fun _ => rfl) (fun _ _ _ _ _ _ us hl => match us, hl with | [_, _], _ => rfl) fun f cdv A outer s H E a hr hp => ?_
  obtain ⟨box, shared⟩ := a
  have hb : Bz box := hp
  refine ds_cons (d1_set 2 sc_ranks_in.nd (M := ML K ([1] : List Int)) (de_lst [.int 1] (da_cons de_int da_nil) (by simp))) ?_
  refine ds_cons (d1_for (vs := [3, 4]) (ds := (box.zip shared).map fun p => PyData.tuple [enc p.1, enc p.2]) (g := gTup K 2 (gNs [3, 4])) (Gi := fun i => EnvOk [some (ME K box), some (ME K shared), some (ML K (((box.zip shared).take i).foldl rstep [1])), none, none, none, none, none, none, none]) (N := EnvOk [some (ME K box), some (ME K shared), some (ML K (ranksIn box shared)), none, none, none, none, none, none, none]) rfl PassesOwn.never
    ((di_zipT B.zip (de_v 0) (de_v 1)).to (zip_encG box shared)) (pg_tup rfl (pgs_cons (pg_name (i := 3) sc_ranks_in.nd rfl (by first | exact Or.inl rfl | exact Or.inr rfl)) (pgs_cons (pg_name (i := 4) sc_ranks_in.nd rfl (by first | exact Or.inl rfl | exact Or.inr rfl)) pgs_nil))) (fun _ _ h => h) (fun i σ H H' x h => MG.mono x h) (fun i d hd => ?body) (fun σ H h => ?fin)) (ds_ret (de_v 2))
  case fin =>
    rw [List.length_map, List.take_length] at h
    exact h
  case body =>
    rw [List.getElem?_map] at hd
    obtain ⟨p, hpi, rfl⟩ := Option.map_eq_some_iff.mp hd
    have hpm := List.of_mem_zip (List.mem_of_getElem? hpi)
    have hc := hb.2 _ hpm.1
    have hmc : manyC p.1 p.2 ≤ p.1.length := List.length_filter_le _ _
    have hzl : ((box.zip shared).take i).length ≤ 8 := by rw [List.length_take, List.length_zip]; have := hb.1; omega
    have hfl := ranks_len ((box.zip shared).take i) [1]
    rw [ranks_take hpi]
    generalize ((box.zip shared).take i).foldl rstep [1] = found at hfl ⊢
    have hfl : found.length ≤ 9 := by simp at hfl; rw [List.length_take, List.length_zip] at hzl; omega
    refine ⟨EnvOk [some (ME K box), some (ME K shared), some (ML K found), some (ME K p.1), some (ME K p.2), none, none, none, none, none], tg_tup (js := [3, 4]) rfl, ?_⟩
    refine ds_cons (d1_set 5 sc_ranks_in.nd (M := ME K (manyC p.1 p.2)) (de_lenLE B.len (l := p.1.filter fun c => memE c p.2) (de_lc p.1 enc (fun c => memE c p.2) enc (fun c => [some (ME K box), some (ME K shared), some (ML K found), some (ME K p.1), some (ME K p.2), none, some (ME K c), none, none, none]) [("cut", 6)] rfl sc_ranks_in.nd (di_tup (de_v 3)) (blkOk_by (N := ["box", "shared", "found", "cuts", "ours", "many", "cut", "free", "one", "other"]) (sc := defScope s_ranks_in) (by decide +kernel)) (fun _ _ _ _ _ => pg_name (i := 6) sc_ranks_in.nd rfl (by first | exact Or.inl rfl | exact Or.inr rfl)) (fun o ho => tg_name)
        (fun c hc _ _ _ _ _ => dts_one (dt_inT hr (de_v 6) (de_v 4))) (fun c hc _ _ _ _ _ _ => de_v 6) (fun _ _ => Enc.to _) (by omega)))) ?_
    refine ds_cons (d1_set 7 sc_ranks_in.nd (M := MI K ((p.1.length : Int) - (manyC p.1 p.2 : Int))) (de_sub (de_lenE B.len (de_v 3)) (de_v 5))) ?_
    refine ds_post (ds_one (d1_setC 2 (DC.to (dc_lc0 ((found ++ [0]).zip (0 :: found)) (fun q => .tuple [enc q.1, enc q.2]) (fun q => enc ((manyC p.1 p.2 : Int) * q.1 + ((p.1.length : Int) - (manyC p.1 p.2 : Int)) * q.2)) (fun q => [some (ME K box), some (ME K shared), some (ML K found), some (ME K p.1), some (ME K p.2), some (ME K (manyC p.1 p.2)), none, some (MI K ((p.1.length : Int) - (manyC p.1 p.2 : Int))), some (MI K q.1), some (MI K q.2)]) [("one", 8), ("other", 9)] rfl sc_ranks_in.nd
      ((di_zipL B.zip (de_lst (found.map enc ++ [PyData.int 0]) ((da_starL (de_v 2) (da_cons de_int da_nil)).to (by show _ ++ List.map (MP.d K) [PyData.int 0] = _; exact List.map_append.symm)) (by rw [List.length_append, List.length_map]; simp; omega)) (de_lst (PyData.int 0 :: (found.map enc ++ [])) (da_cons de_int ((da_starL (de_v 2) da_nil).to (by show _ ++ List.map (MP.d K) [] = _; exact List.map_append.symm))) (by rw [List.length_cons, List.length_append, List.length_map]; simp; omega))).to ?dz) (blkOk_by (N := ["box", "shared", "found", "cuts", "ours", "many", "cut", "free", "one", "other"]) (sc := defScope s_ranks_in) (by decide +kernel)) (fun _ _ _ _ _ => pg_tup rfl (pgs_cons (pg_name (i := 8) sc_ranks_in.nd rfl (by first | exact Or.inl rfl | exact Or.inr rfl)) (pgs_cons (pg_name (i := 9) sc_ranks_in.nd rfl (by first | exact Or.inl rfl | exact Or.inr rfl)) pgs_nil))) (fun q hq => tg_tup (js := [8, 9]) rfl)
      (fun q hq _ _ _ _ _ => de_add (de_mul (de_v 5) (de_v 8) (.inl ⟨?m1, ?m2⟩)) (de_mul (de_v 7) (de_v 9) (.inl ⟨?m3, ?m4⟩))) (fun _ _ => Enc.to _) ?len) ?eq))) fun σ H h => ((((h.drop 3).drop 4).drop 5).drop 7)
    case dz =>
      rw [List.append_nil, ← zip_encG (found ++ [0]) (0 :: found), List.map_append]
      rfl
    case m1 => show -(2 ^ 64) < ((manyC p.1 p.2 : Nat) : Int); omega
    case m2 => show ((manyC p.1 p.2 : Nat) : Int) < 2 ^ 64; omega
    case m3 => show -(2 ^ 64) < ((p.1.length : Int) - (manyC p.1 p.2 : Int)); omega
    case m4 => show ((p.1.length : Int) - (manyC p.1 p.2 : Int)) < 2 ^ 64; omega
    case len => rw [List.length_zip, List.length_append, List.length_cons]; simp; omega
    case eq =>
      show PyData.list _ = PyData.list ((rstep found p).map enc)
      unfold rstep
      rw [List.map_map]
      rfl
end
end K78

-- part KP11
set_option Elab.async false
set_option linter.all false
set_option maxRecDepth 100000
set_option maxHeartbeats 4000000
/-! KP11: ranks_of, further_counts .. how_many_harmless. -/
namespace K78
open PySem PySem.Spec PyProof.Rows L2
open Evl (Ex ex_t ex_l ex_rd fresh_back)
open Enc (enc)
section
variable {X : Cx} {G : GP} [MG G] {pos : Pos} {a b : Expr} {es : List Expr}
theorem de_lstF (ds : List PyData) (h : DA X G es (ds.map (MP.d X.K))) (hz : ds.length ≤ 100000 := by decide) : DE X G (.List es pos) (MFl X.K ds) :=
  de_of (pe_lst h) fun σ H Q g q => ⟨g, fun vs H1 x1 p1 => by
    have hd := AllP.datas p1
    exact ⟨sz3 (by rw [hd.length]; exact hz), fun l hl => q _ _ (x1.trans (Ex.new hl)) ⟨l, rfl, vs, upd_same, DpAll.mono (Ex.new hl) _ _ hd⟩⟩⟩
theorem de_rep {d : PyData} {n : Nat} (ha : DE X G a (MFl X.K [d])) (hb : DE X G b (MI X.K (n : Int))) (hn : n ≤ 100000) : DE X G (.BinOp a .Mult b pos) (MP.d X.K (.list (List.replicate n d))) :=
  de_bin op_rep (fun x y H Q p1 p2 q => by
    obtain ⟨L, rfl, us, h1, h2⟩ := p1
    have e := dp_int p2
    subst e
    obtain ⟨v, rfl, hv⟩ : ∃ v, us = [v] ∧ Dp X.K H v d := by
      cases h2 with
      | cons hv ht =>
        cases ht
        exact ⟨_, rfl, hv⟩
    refine ⟨L, (n : Int), [v], rfl, rfl, h1, by omega, by omega, ?_, fun p hp => q _ _ (Ex.new hp) (dp_newL hp ?_)⟩
    · show 1 * (n : Int).toNat ≤ sizeLine
      exact sz3 (by omega)
    · have : ∀ n : Nat, DpAll X.K H (List.replicate n [v]).flatten (List.replicate n d) := by
        intro n
        induction n with
        | zero => exact .nil
        | succ n ih => rw [List.replicate_succ, List.replicate_succ, List.flatten_cons]; exact .cons hv ih
      exact this n) ha hb
end
theorem rstep_bd {found : List Int} {p : List Int × List Int} {M : Int} (hM : 0 ≤ M) (hp : p.1.length ≤ 8) (h : ∀ x ∈ found, 0 ≤ x ∧ x ≤ M) : ∀ x ∈ rstep found p, 0 ≤ x ∧ x ≤ 8 * M := by
  intro x hx
  unfold rstep at hx
  obtain ⟨q, hq, rfl⟩ := List.mem_map.mp hx
  have hz := List.of_mem_zip hq
  have h1 : 0 ≤ q.1 ∧ q.1 ≤ M := by
    rcases List.mem_append.mp hz.1 with h1 | h1
    · exact h _ h1
    · have : q.1 = 0 := by simpa using h1
      omega
  have h2 : 0 ≤ q.2 ∧ q.2 ≤ M := by
    rcases List.mem_cons.mp hz.2 with h1 | h1
    · omega
    · exact h _ h1
  have hmc : manyC p.1 p.2 ≤ p.1.length := List.length_filter_le _ _
  generalize hm : manyC p.1 p.2 = m at hmc ⊢
  generalize p.1.length = k at hp hmc ⊢
  have a1 : 0 ≤ (m : Int) * q.1 := Int.mul_nonneg (by omega) h1.1
  have a2 : 0 ≤ ((k : Int) - (m : Int)) * q.2 := Int.mul_nonneg (by omega) h2.1
  have a3 : (m : Int) * q.1 ≤ (m : Int) * M := Int.mul_le_mul_of_nonneg_left h1.2 (by omega)
  have a4 : ((k : Int) - (m : Int)) * q.2 ≤ ((k : Int) - (m : Int)) * M := Int.mul_le_mul_of_nonneg_left h2.2 (by omega)
  have a5 : (m : Int) * M + ((k : Int) - (m : Int)) * M = (k : Int) * M := by rw [← Int.add_mul]; congr 1; omega
  have a6 : (k : Int) * M ≤ 8 * M := Int.mul_le_mul_of_nonneg_right (by omega) hM
  omega
theorem ranks_bd : ∀ (l : List (List Int × List Int)) (found : List Int) (M : Int), 0 ≤ M → (∀ p ∈ l, p.1.length ≤ 8) → (∀ x ∈ found, 0 ≤ x ∧ x ≤ M) → ∀ x ∈ l.foldl rstep found, 0 ≤ x ∧ x ≤ 8 ^ l.length * M
  | [], found, M, hM, _, h => by simpa using h
  | p :: l, found, M, hM, hp, h => by
    have ih := ranks_bd l (rstep found p) (8 * M) (by omega) (fun q hq => hp q (List.mem_cons_of_mem _ hq)) (rstep_bd hM (hp p List.mem_cons_self) h)
    intro x hx
    have := ih x hx
    rw [List.length_cons, Int.pow_succ, Int.mul_assoc]
    exact this
theorem ranksIn_bd {box shared : Box} (h : Bz box) : ∀ x ∈ ranksIn box shared, 0 ≤ x ∧ x ≤ 16777216 := by
  have h1 := ranks_bd (box.zip shared) [1] 1 (by omega) (fun p hp => h.2 _ (List.of_mem_zip hp).1) (by simp)
  intro x hx
  obtain ⟨a, b⟩ := h1 x hx
  refine ⟨a, Int.le_trans b ?_⟩
  rw [Int.mul_one]
  have e1 : ((8 : Int) ^ (box.zip shared).length) = ((8 ^ (box.zip shared).length : Nat) : Int) := by rw [Int.natCast_pow]; rfl
  rw [e1]
  have : 8 ^ (box.zip shared).length ≤ 8 ^ 8 := Nat.pow_le_pow_right (by omega) (by rw [List.length_zip]; have := h.1; omega)
  have e2 : (8 : Nat) ^ 8 = 16777216 := by decide
  omega
def rofStep (shared : Box) (acc : List Int) (p : Box × Int) : List Int := (acc.zip (ranksIn p.1 shared)).map fun (q : Int × Int) => q.1 + p.2 * q.2
def ranksOf (l : Cnt) (common : KEYS) (n : Nat) : List Int := l.foldl (rofStep (cutsOf common n)) (List.replicate (n + 1) 0)
theorem rof_len (shared : Box) : ∀ (l : Cnt) (acc : List Int), (l.foldl (rofStep shared) acc).length ≤ acc.length
  | [], acc => Nat.le_refl _
  | p :: l, acc => by
    refine Nat.le_trans (rof_len shared l _) ?_
    unfold rofStep
    rw [List.length_map, List.length_zip]
    omega
structure A_lcn where
  l : Cnt
  common : KEYS
  n : Nat
section
variable {P : Program} {w : World} {K : PySem.W.Frag} {mg : Str → Option Value} {base : Heap}
def sp_ranks_of (K : PySem.W.Frag) (P : Program) (w : World) : Sp := spM (fun a : A_lcn => CntOk 50000 a.l ∧ Wc a.n a.common) (fun a => [MP.dic K P w a.l, ME K a.common]) (fun a => ME K (ranksOf a.l a.common a.n))
theorem ok_ranks_of (T : Tx K mg) : DefOk P w K mg base "ranks_of" 3 (sp_ranks_of K P w) := by
  obtain ⟨f, fd, F, hg⟩ := at_ranks_of T
  have B := T.bl
  have D := ok_ranks_in (P := P) (w := w) (base := base) T
  have D2 := ok_common_cuts (P := P) (w := w) (base := base) T
  refine fn_pure F sc_ranks_of hg (fun _ => rfl) (fun _ _ _ _ _ _ us hl => match us, hl with | [_, _], _ => rfl) fun f cdv A outer s H E a hr hp => ?_
  obtain ⟨l, common, n⟩ := a
  obtain ⟨hl, hw⟩ := hp
  have hn : n ≤ 100 := hw.2.2.2
  have hl : CntOk 50000 l := hl
  refine ds_cons (d1_set 2 sc_ranks_of.nd (de_call D2 hr (common, n) (da_cons (de_v 1) da_nil) hw)) ?_
  refine ds_cons (d1_set 3 sc_ranks_of.nd (M := ML K (List.replicate (n + 1) (0 : Int))) (DE.to (de_rep (d := .int 0) (n := n + 1) (de_lstF [.int 0] (da_cons de_int da_nil) (by simp)) (DE.to (de_add (de_lenE (l := cutsOf common n) B.len (de_v 2)) (de_int)) ?e1) (by omega)) ?e2)) ?_
  case e1 => rw [cutsOf_len]; rfl
  case e2 =>
    rw [List.map_replicate]
    rfl
  refine ds_cons (d1_for (vs := [4, 5]) (ds := cntD l) (g := gTup K 2 (gNs [4, 5])) (Gi := fun i => EnvOk [some (MP.dic K P w l), some (ME K common), some (ME K (cutsOf common n)), some (ML K ((l.take i).foldl (rofStep (cutsOf common n)) (List.replicate (n + 1) 0))), none, none, none, none]) (N := EnvOk [some (MP.dic K P w l), some (ME K common), some (ME K (cutsOf common n)), some (ML K (ranksOf l common n)), none, none, none, none]) rfl PassesOwn.never
    (di_items (de_v 0)) (pg_tup rfl (pgs_cons (pg_name (i := 4) sc_ranks_of.nd rfl (by first | exact Or.inl rfl | exact Or.inr rfl)) (pgs_cons (pg_name (i := 5) sc_ranks_of.nd rfl (by first | exact Or.inl rfl | exact Or.inr rfl)) pgs_nil))) (fun _ _ h => h) (fun i σ H H' x h => MG.mono x h) (fun i d hd => ?body) (fun σ H h => ?fin)) (ds_ret (de_tupleL B.tuple (de_v 3)))
  case fin =>
    rw [cntD_length, List.take_length] at h
    exact h
  case body =>
    unfold cntD at hd
    rw [List.getElem?_map] at hd
    obtain ⟨p, hpi, rfl⟩ := Option.map_eq_some_iff.mp hd
    have hb := hl.bz p (List.mem_of_getElem? hpi)
    have hfl := rof_len (cutsOf common n) (l.take i) (List.replicate (n + 1) 0)
    rw [List.length_replicate] at hfl
    have hnx : (l.take (i + 1)).foldl (rofStep (cutsOf common n)) (List.replicate (n + 1) 0) = rofStep (cutsOf common n) ((l.take i).foldl (rofStep (cutsOf common n)) (List.replicate (n + 1) 0)) p := by
      rw [List.take_add_one, hpi, List.foldl_append]
      rfl
    rw [hnx]
    generalize (l.take i).foldl (rofStep (cutsOf common n)) (List.replicate (n + 1) 0) = found at hfl ⊢
    refine ⟨EnvOk [some (MP.dic K P w l), some (ME K common), some (ME K (cutsOf common n)), some (ML K found), some (ME K p.1), some (MI K p.2), none, none], tg_tup (js := [4, 5]) rfl, ?_⟩
    refine ds_post (ds_one (d1_setC 3 (DC.to (dc_lc0 (found.zip (ranksIn p.1 (cutsOf common n))) (fun q => .tuple [enc q.1, enc q.2]) (fun q => enc (q.1 + p.2 * q.2)) (fun q => [some (MP.dic K P w l), some (ME K common), some (ME K (cutsOf common n)), some (ML K found), some (ME K p.1), some (MI K p.2), some (MI K q.1), some (MI K q.2)]) [("one", 6), ("other", 7)] rfl sc_ranks_of.nd
      ((di_zipL B.zip (de_v 3) (de_call D (hr.mono (by omega)) (p.1, cutsOf common n) (da_cons (de_v 4) (da_cons (de_v 2) da_nil)) hb)).to (zip_encG found (ranksIn p.1 (cutsOf common n)))) (blkOk_by (N := ["counts", "common", "shared", "found", "box", "often", "one", "other"]) (sc := defScope s_ranks_of) (by decide +kernel)) (fun _ _ _ _ _ => pg_tup rfl (pgs_cons (pg_name (i := 6) sc_ranks_of.nd rfl (by first | exact Or.inl rfl | exact Or.inr rfl)) (pgs_cons (pg_name (i := 7) sc_ranks_of.nd rfl (by first | exact Or.inl rfl | exact Or.inr rfl)) pgs_nil))) (fun q hq => tg_tup (js := [6, 7]) rfl)
      (fun q hq _ _ _ _ _ => de_add (de_v 6) (de_mul (de_v 5) (de_v 7) (.inr ⟨?m1, ?m2⟩))) (fun _ _ => Enc.to _) ?len) ?eq))) fun σ H h => ((h.drop 4).drop 5)
    case m1 =>
      have := ranksIn_bd (shared := cutsOf common n) hb q.2 (List.of_mem_zip hq).2
      omega
    case m2 =>
      have := ranksIn_bd (shared := cutsOf common n) hb q.2 (List.of_mem_zip hq).2
      omega
    case len => rw [List.length_zip]; omega
    case eq =>
      show PyData.list _ = PyData.list ((rofStep (cutsOf common n) found p).map enc)
      unfold rofStep
      rw [List.map_map]
      rfl
end
end K78

-- part KP12
set_option Elab.async false
set_option linter.all false
set_option maxRecDepth 100000
set_option maxHeartbeats 4000000
/-! KP12: further_counts .. how_many_harmless. -/
namespace K78
open PySem PySem.Spec PyProof.Rows L2
open Evl (Ex ex_t ex_l ex_rd fresh_back)
open Enc (enc)
structure A_dco where
  n : Nat
  depths : KEY
  common : KEYS
  own : KEYS
structure Wo (a : A_dco) : Prop where
  c : Wc a.n a.common
  n8 : a.n ≤ 8
  d : a.depths.length = a.n ∧ ∀ d ∈ a.depths, 0 ≤ d ∧ d ≤ 8
  o : ∀ k ∈ a.own, k.length = a.n
  ol : a.own.length ≤ 6
def openingsOf (a : A_dco) : List Box := a.own.map fun k => openingBox ⟨a.n, a.common, k⟩
def openedsOf (a : A_dco) : List Box := a.own.map fun k => openedBox ⟨a.n, a.depths, a.common, k⟩
def alikesOf (a : A_dco) : List Box := a.own.map fun k => alikeBox ⟨a.n, a.common, k⟩
def fc0 (a : A_dco) : Cnt := [(wholeBox a.depths, 1)]
def fc1 (a : A_dco) : Cnt := addC (fc0 a) (togetherC (openingsOf a)) (-1)
def fc2 (a : A_dco) : Cnt := addC (fc1 a) (togetherC (openedsOf a)) (-1)
def furtherC (a : A_dco) : Cnt := addC (fc2 a) (togetherC (alikesOf a)) 1
theorem Wo.wd {a : A_dco} (h : Wo a) : Wd a.n a.depths := ⟨h.d.1, fun d hd => by have := h.d.2 d hd; omega⟩
theorem Wo.wk {a : A_dco} (h : Wo a) {k : KEY} (hk : k ∈ a.own) : Wcn ⟨a.n, a.common, k⟩ := ⟨h.c, h.o k hk⟩
theorem col_len {common : KEYS} {p : Nat} (h : common.length ≤ 6) : (setOf (column common p)).length ≤ 6 := Nat.le_trans (setOf_len _) (by unfold column; rw [List.length_map]; exact h)
theorem cell_len {o : Option Int} {c : List Int} {m : Nat} (h : c.length ≤ m) (hm : 1 ≤ m) : (cellOf o c).length ≤ m := by
  cases o with
  | none => exact h
  | some x => exact hm
theorem bz_range {n : Nat} {F : Nat → List Int} (hn : n ≤ 8) (h : ∀ p, p < n → (F p).length ≤ 8) : Bz ((List.range n).map F) := ⟨by rw [List.length_map, List.length_range]; exact hn, fun c hc => by
  obtain ⟨p, hp, rfl⟩ := List.mem_map.mp hc
  exact h p (List.mem_range.mp hp)⟩
theorem upTo_len {d : Int} (h : d ≤ 8) : (upTo d).length ≤ 8 := by
  unfold upTo
  rw [List.length_map, List.length_range]
  omega
theorem bz_opening {a : A_dco} (h : Wo a) : ∀ b ∈ openingsOf a, Bz b := fun b hb => by
  obtain ⟨k, hk, rfl⟩ := List.mem_map.mp hb
  refine bz_range h.n8 fun p hp => Nat.le_trans (setOf_len _) ?_
  rw [List.length_append]
  have := col_len (p := p) h.c.2.1
  simp only [List.length_singleton]
  show (setOf (column a.common p)).length + 1 ≤ 8
  omega
theorem bz_opened {a : A_dco} (h : Wo a) : ∀ b ∈ openedsOf a, Bz b := fun b hb => by
  obtain ⟨k, hk, rfl⟩ := List.mem_map.mp hb
  refine bz_range h.n8 fun p hp => cell_len (upTo_len ?_) (by omega)
  show a.depths.getD p 0 ≤ 8
  have hd := h.d
  have hp : p < a.n := hp
  rw [List.getD_eq_getElem?_getD, List.getElem?_eq_getElem (by omega)]
  exact (hd.2 _ (List.getElem_mem _)).2
theorem bz_alike {a : A_dco} (h : Wo a) : ∀ b ∈ alikesOf a, Bz b := fun b hb => by
  obtain ⟨k, hk, rfl⟩ := List.mem_map.mp hb
  exact bz_range h.n8 fun p hp => cell_len (Nat.le_trans (col_len h.c.2.1) (by omega)) (by omega)
theorem bz_whole {a : A_dco} (h : Wo a) : Bz (wholeBox a.depths) := ⟨by unfold wholeBox; rw [List.length_map, h.d.1]; exact h.n8, fun c hc => by
  obtain ⟨d, hd, rfl⟩ := List.mem_map.mp hc
  exact upTo_len (h.d.2 d hd).2⟩
theorem tog_ok {boxes : List Box} (h : ∀ b ∈ boxes, Bz b) (hl : boxes.length ≤ 12) : CntOk 4096 (togetherC boxes) := by
  have := together_ok boxes h boxes.length
  rw [List.take_length] at this
  exact this.mono (Nat.le_trans (Nat.sub_le _ _) (Nat.le_trans (Nat.pow_le_pow_right (by omega) hl) (by decide)))
theorem addC_ok (times : Int) : ∀ {m : Nat} (others counts : Cnt), CntOk m counts → (∀ p ∈ others, Bz p.1) → CntOk (m + others.length) (addC counts others times)
  | m, [], counts, h, _ => h
  | m, p :: others, counts, h, hb => by
    have := addC_ok times others (addStep times counts p) (h.put (hb p List.mem_cons_self) _) (fun q hq => hb q (List.mem_cons_of_mem _ hq))
    rw [List.length_cons]
    exact this.mono (by omega)
theorem addC_ok' {times : Int} {m k : Nat} {others counts : Cnt} (h : CntOk m counts) (h2 : CntOk k others) : CntOk (m + k) (addC counts others times) := (addC_ok times others counts h h2.bz).mono (by have := h2.len; omega)
theorem fc0_ok {a : A_dco} (h : Wo a) : CntOk 1 (fc0 a) := one_ok (bz_whole h)
theorem fc1_ok {a : A_dco} (h : Wo a) : CntOk 4097 (fc1 a) := (addC_ok' (fc0_ok h) (tog_ok (bz_opening h) (by unfold openingsOf; rw [List.length_map]; have := h.ol; omega))).mono (by omega)
theorem fc2_ok {a : A_dco} (h : Wo a) : CntOk 8193 (fc2 a) := (addC_ok' (fc1_ok h) (tog_ok (bz_opened h) (by unfold openedsOf; rw [List.length_map]; have := h.ol; omega))).mono (by omega)
theorem fc3_ok {a : A_dco} (h : Wo a) : CntOk 12289 (furtherC a) := (addC_ok' (fc2_ok h) (tog_ok (bz_alike h) (by unfold alikesOf; rw [List.length_map]; have := h.ol; omega))).mono (by omega)
theorem hash_one {P : Program} {w : World} (p : Box × Int) : HashOk P w [p] := by unfold HashOk; simp
/-- the dicts copied have keys that hash apart -/
def HashF (P : Program) (w : World) (a : A_dco) : Prop := HashOk P w (fc1 a) ∧ HashOk P w (fc2 a)
section
variable {P : Program} {w : World} {K : PySem.W.Frag} {mg : Str → Option Value} {base : Heap}
theorem addPre {c o : Cnt} {t : Int} (h1 : HashOk P w c) (h2 : c.length + o.length ≤ 50000) (h3 : -10 ≤ t) (h4 : t ≤ 10) : HashOk P w (⟨c, o, t⟩ : A_add).counts ∧ (⟨c, o, t⟩ : A_add).counts.length + (⟨c, o, t⟩ : A_add).others.length ≤ 50000 ∧ -10 ≤ (⟨c, o, t⟩ : A_add).times ∧ (⟨c, o, t⟩ : A_add).times ≤ 10 := ⟨h1, h2, h3, h4⟩
def args_dco (K : PySem.W.Frag) (a : A_dco) : List MP := [ME K a.depths, ME K a.common, ME K a.own]
def sp_further_counts (K : PySem.W.Frag) (P : Program) (w : World) : Sp := spM (fun a : A_dco => Wo a ∧ HashF P w a) (fun a => [ME K a.depths, ME K a.common, ME K a.own]) (fun a => MP.dic K P w (furtherC a))
theorem ok_further_counts (T : Tx K mg) : DefOk P w K mg base "further_counts" 4 (sp_further_counts K P w) := by
  obtain ⟨f, fd, F, hg⟩ := at_further_counts T
  have B := T.bl
  have D1 := ok_tupKs (P := P) (w := w) (base := base) T
  have D2 := ok_whole_box (P := P) (w := w) (base := base) T
  have D3 := ok_added (P := P) (w := w) (base := base) T
  have D4 := ok_together (P := P) (w := w) (base := base) T
  have D5 := ok_opening_box (P := P) (w := w) (base := base) T
  have D6 := ok_opened_box (P := P) (w := w) (base := base) T
  have D7 := ok_alike_box (P := P) (w := w) (base := base) T
  refine fn_pure F sc_further_counts hg (fun _ => rfl) (fun _ _ _ _ _ _ us hl => match us, hl with | [_, _, _], _ => rfl) fun f cdv A outer s H E a hr hp => ?_
  obtain ⟨h, hh1, hh2⟩ := hp
  have c1 := fc1_ok h
  have c2 := fc2_ok h
  have l1 := c1.len
  have l2 := c2.len
  have t1 := tog_ok (bz_opening h) (by unfold openingsOf; rw [List.length_map]; have := h.ol; omega)
  have t2 := tog_ok (bz_opened h) (by unfold openedsOf; rw [List.length_map]; have := h.ol; omega)
  have t3 := tog_ok (bz_alike h) (by unfold alikesOf; rw [List.length_map]; have := h.ol; omega)
  have m1 := t1.len
  have m2 := t2.len
  have m3 := t3.len
  have hol := h.ol
  have hn8 := h.n8
  refine ds_cons (d1_set 3 sc_further_counts.nd (de_call D1 (hr.mono (by omega)) a.own (da_cons (de_v 2) da_nil) ⟨by omega, fun x hx => by rw [h.o x hx]; omega⟩)) ?_
  refine ds_cons (d1_set 4 sc_further_counts.nd (M := MP.dic K P w (fc0 a)) (de_disp1 hr (de_call D2 (hr.mono (by omega)) a.depths (da_cons (de_v 0) da_nil) ⟨a.n, by omega, h.wd⟩) de_int)) ?_
  refine ds_cons (d1_set 4 sc_further_counts.nd (M := MP.dic K P w (fc1 a)) (de_call D3 (hr.mono (by omega)) (⟨fc0 a, togetherC (openingsOf a), -1⟩ : A_add) (da_cons (de_v 4) (da_cons (de_call D4 (hr.mono (by omega)) (openingsOf a) (da_cons (DE.to (de_lc0 a.own enc (fun k => enc (openingBox ⟨a.n, a.common, k⟩)) (fun k => [some (ME K a.depths), some (ME K a.common), some (ME K a.own), some (ME K a.own), some (MP.dic K P w (fc0 a)), some (ME K k)]) [("key", 5)] rfl sc_further_counts.nd (di_tup (de_v 3)) (blkOk_by (N := ["depths", "common", "own", "keys", "found", "key"]) (sc := defScope s_further_counts) (by decide +kernel)) (fun _ _ _ _ _ => pg_name (i := 5) sc_further_counts.nd rfl (by first | exact Or.inl rfl | exact Or.inr rfl)) (fun o ho => tg_name)
      (fun k hk _ _ _ _ _ => de_call D5 hr (⟨a.n, a.common, k⟩ : A_cnk) (da_cons (de_v 1) (da_cons (de_v 5) da_nil)) (h.wk hk)) (fun _ _ => Enc.to _) (by omega)) (by unfold openingsOf; rw [List.map_map]; rfl)) da_nil) ⟨bz_opening h, by unfold openingsOf; rw [List.length_map]; omega⟩) (da_cons (de_neg de_int) da_nil))) (addPre (hash_one _) (by show 1 + (togetherC (openingsOf a)).length ≤ 50000; omega) (by decide) (by decide)))) ?_
  refine ds_cons (d1_set 4 sc_further_counts.nd (M := MP.dic K P w (fc2 a)) (de_call D3 (hr.mono (by omega)) (⟨fc1 a, togetherC (openedsOf a), -1⟩ : A_add) (da_cons (de_v 4) (da_cons (de_call D4 (hr.mono (by omega)) (openedsOf a) (da_cons (DE.to (de_lc0 a.own enc (fun k => enc (openedBox ⟨a.n, a.depths, a.common, k⟩)) (fun k => [some (ME K a.depths), some (ME K a.common), some (ME K a.own), some (ME K a.own), some (MP.dic K P w (fc1 a)), some (ME K k)]) [("key", 5)] rfl sc_further_counts.nd (di_tup (de_v 3)) (blkOk_by (N := ["depths", "common", "own", "keys", "found", "key"]) (sc := defScope s_further_counts) (by decide +kernel)) (fun _ _ _ _ _ => pg_name (i := 5) sc_further_counts.nd rfl (by first | exact Or.inl rfl | exact Or.inr rfl)) (fun o ho => tg_name)
      (fun k hk _ _ _ _ _ => de_call D6 hr (⟨a.n, a.depths, a.common, k⟩ : A_dcnk) (da_cons (de_v 0) (da_cons (de_v 1) (da_cons (de_v 5) da_nil))) ⟨h.c, h.o k hk, h.wd⟩) (fun _ _ => Enc.to _) (by omega)) (by unfold openedsOf; rw [List.map_map]; rfl)) da_nil) ⟨bz_opened h, by unfold openedsOf; rw [List.length_map]; omega⟩) (da_cons (de_neg de_int) da_nil))) (addPre hh1 (by omega) (by decide) (by decide)))) ?_
  exact ds_ret (de_call D3 (hr.mono (by omega)) (⟨fc2 a, togetherC (alikesOf a), 1⟩ : A_add) (da_cons (de_v 4) (da_cons (de_call D4 (hr.mono (by omega)) (alikesOf a) (da_cons (DE.to (de_lc0 a.own enc (fun k => enc (alikeBox ⟨a.n, a.common, k⟩)) (fun k => [some (ME K a.depths), some (ME K a.common), some (ME K a.own), some (ME K a.own), some (MP.dic K P w (fc2 a)), some (ME K k)]) [("key", 5)] rfl sc_further_counts.nd (di_tup (de_v 3)) (blkOk_by (N := ["depths", "common", "own", "keys", "found", "key"]) (sc := defScope s_further_counts) (by decide +kernel)) (fun _ _ _ _ _ => pg_name (i := 5) sc_further_counts.nd rfl (by first | exact Or.inl rfl | exact Or.inr rfl)) (fun o ho => tg_name)
      (fun k hk _ _ _ _ _ => de_call D7 hr (⟨a.n, a.common, k⟩ : A_cnk) (da_cons (de_v 1) (da_cons (de_v 5) da_nil)) (h.wk hk)) (fun _ _ => Enc.to _) (by omega)) (by unfold alikesOf; rw [List.map_map]; rfl)) da_nil) ⟨bz_alike h, by unfold alikesOf; rw [List.length_map]; omega⟩) (da_cons de_int da_nil))) (addPre hh2 (by omega) (by decide) (by decide)))
def sp_how_many_further (K : PySem.W.Frag) (P : Program) (w : World) : Sp := spM (fun a : A_dco => Wo a ∧ HashF P w a) (fun a => [ME K a.depths, ME K a.common, ME K a.own]) (fun a => MI K (totalC (furtherC a)))
theorem ok_how_many_further (T : Tx K mg) : DefOk P w K mg base "how_many_further" 5 (sp_how_many_further K P w) := by
  obtain ⟨f, fd, F, hg⟩ := at_how_many_further T
  have B := T.bl
  have D := ok_further_counts (P := P) (w := w) (base := base) T
  have D2 := ok_total (P := P) (w := w) (base := base) T
  refine fn_pure F sc_how_many_further hg (fun _ => rfl) (fun _ _ _ _ _ _ us hl => match us, hl with | [_, _, _], _ => rfl) fun f cdv A outer s H E a hr hp => ?_
  exact ds_ret (de_call D2 (hr.mono (by omega)) (furtherC a) (da_cons (de_call D hr a (da_cons (de_v 0) (da_cons (de_v 1) (da_cons (de_v 2) da_nil))) hp) da_nil) ((fc3_ok hp.1).mono (by omega)))
def sp_further_ranks (K : PySem.W.Frag) (P : Program) (w : World) : Sp := spM (fun a : A_dco => Wo a ∧ HashF P w a) (fun a => [ME K a.depths, ME K a.common, ME K a.own]) (fun a => ME K (ranksOf (furtherC a) a.common a.n))
theorem ok_further_ranks (T : Tx K mg) : DefOk P w K mg base "further_ranks" 5 (sp_further_ranks K P w) := by
  obtain ⟨f, fd, F, hg⟩ := at_further_ranks T
  have B := T.bl
  have D := ok_further_counts (P := P) (w := w) (base := base) T
  have D2 := ok_ranks_of (P := P) (w := w) (base := base) T
  refine fn_pure F sc_further_ranks hg (fun _ => rfl) (fun _ _ _ _ _ _ us hl => match us, hl with | [_, _, _], _ => rfl) fun f cdv A outer s H E a hr hp => ?_
  exact ds_ret (de_call D2 (hr.mono (by omega)) (⟨furtherC a, a.common, a.n⟩ : A_lcn) (da_cons (de_call D hr a (da_cons (de_v 0) (da_cons (de_v 1) (da_cons (de_v 2) da_nil))) hp) (da_cons (de_v 1) da_nil)) ⟨(fc3_ok hp.1).mono (by omega), hp.1.c⟩)
/-! ### harmless -/
def onlyOf (k : KEY) : Box := k.map fun c => [c]
def harmB (a : A_dco) : List Box := openingsOf a ++ a.common.map onlyOf
def harmlessC (a : A_dco) : Cnt := addC (fc0 a) (togetherC (harmB a)) (-1)
theorem bz_harm {a : A_dco} (h : Wo a) : ∀ b ∈ harmB a, Bz b := fun b hb => by
  rcases List.mem_append.mp hb with hb | hb
  · exact bz_opening h b hb
  · obtain ⟨k, hk, rfl⟩ := List.mem_map.mp hb
    refine ⟨by unfold onlyOf; rw [List.length_map, h.c.2.2.1 k hk]; exact h.n8, fun c hc => ?_⟩
    obtain ⟨x, _, rfl⟩ := List.mem_map.mp hc
    simp
theorem harm_len {a : A_dco} (h : Wo a) : (harmB a).length ≤ 12 := by
  unfold harmB openingsOf
  rw [List.length_append, List.length_map, List.length_map]
  have h1 := h.ol
  have h2 := h.c.2.1
  omega
theorem harm_ok {a : A_dco} (h : Wo a) : CntOk 4097 (harmlessC a) := (addC_ok' (fc0_ok h) (tog_ok (bz_harm h) (harm_len h))).mono (by omega)
def sp_harmless_counts (K : PySem.W.Frag) (P : Program) (w : World) : Sp := spM (fun a : A_dco => Wo a) (fun a => [ME K a.depths, ME K a.common, ME K a.own]) (fun a => MP.dic K P w (harmlessC a))
theorem ok_harmless_counts (T : Tx K mg) : DefOk P w K mg base "harmless_counts" 4 (sp_harmless_counts K P w) := by
  obtain ⟨f, fd, F, hg⟩ := at_harmless_counts T
  have B := T.bl
  have D1 := ok_tupKs (P := P) (w := w) (base := base) T
  have D2 := ok_whole_box (P := P) (w := w) (base := base) T
  have D3 := ok_added (P := P) (w := w) (base := base) T
  have D4 := ok_together (P := P) (w := w) (base := base) T
  have D5 := ok_opening_box (P := P) (w := w) (base := base) T
  refine fn_pure F sc_harmless_counts hg (fun _ => rfl) (fun _ _ _ _ _ _ us hl => match us, hl with | [_, _, _], _ => rfl) fun f cdv A outer s H E a hr hp => ?_
  have h : Wo a := hp
  have hol := h.ol
  have hn8 := h.n8
  have hcl := h.c.2.1
  have th := tog_ok (bz_harm h) (harm_len h)
  have ml := th.len
  refine ds_body fun BB => ?_
  show HS _ (GB BB [some ((ME K a.depths).at BB), some ((ME K a.common).at BB), some ((ME K a.own).at BB), none, none, none]) _ _ _
  refine hs_cons (h1_setC 3 (LcX.new (LcX.to (ds' := (openingsOf a).map enc) (dc_lcX a.own enc (fun _ => true) (fun k => enc (openingBox ⟨a.n, a.common, k⟩)) (fun k => [some ((ME K a.depths).at BB), some ((ME K a.common).at BB), some ((ME K a.own).at BB), none, some (ME K k), none]) [("key", 4)] rfl sc_harmless_counts.nd (di_tup (de_call D1 (hr.mono (by omega)) a.own (da_cons (de_v0 2) da_nil) ⟨by omega, fun x hx => by rw [h.o x hx]; omega⟩)) (blkOk_by (N := ["depths", "common", "own", "boxes", "key", "cut"]) (sc := defScope s_harmless_counts) (by decide +kernel)) (fun _ _ _ _ _ => pg_name (i := 4) sc_harmless_counts.nd rfl (by first | exact Or.inl rfl | exact Or.inr rfl)) (fun o ho => tg_name)
      (fun z hz _ _ _ _ _ => dts_nil) (fun k hk _ _ _ _ _ _ => de_call D5 hr (⟨a.n, a.common, k⟩ : A_cnk) (da_cons (de_v0 1) (da_cons (de_v 4) da_nil)) (h.wk hk)) (fun _ _ => Enc.to _) (by omega)) ?e1))) ?_
  case e1 =>
    rw [filter_true]
    unfold openingsOf
    rw [List.map_map]
    rfl
  refine hs_pre (G := fun σ H => ∃ L, BB L = none ∧ GB BB [some ((ME K a.depths).at BB), some ((ME K a.common).at BB), some ((ME K a.own).at BB), some (MLat K L ((openingsOf a).map enc)), none, none] σ H) (hs_ex fun L => hs_pure fun hL => ?_) (fun σ H g => gb_newL (i := 3) (Γ := [some ((ME K a.depths).at BB), some ((ME K a.common).at BB), some ((ME K a.own).at BB), none, none, none]) (by show 3 < 6; omega) g)
  refine hs_cons (h1_extend 3 (ds' := (a.common.map onlyOf).map enc) rfl hL (de_v 3) (LcX.fl (LcX.to (dc_lcX a.common enc (fun _ => true) (fun k => enc (onlyOf k)) (fun k => [some ((ME K a.depths).at BB), some ((ME K a.common).at BB), some ((ME K a.own).at BB), some (MLat K L ((openingsOf a).map enc)), some (ME K k), none]) [("key", 4), ("cut", 5)] rfl sc_harmless_counts.nd (di_tup (de_call D1 (hr.mono (by omega)) a.common (da_cons (de_v0 1) da_nil) ⟨by omega, fun x hx => by rw [h.c.2.2.1 x hx]; omega⟩)) (blkOk_by (N := ["depths", "common", "own", "boxes", "key", "cut"]) (sc := defScope s_harmless_counts) (by decide +kernel)) (fun _ _ _ _ _ => pg_name (i := 4) sc_harmless_counts.nd rfl (by first | exact Or.inl rfl | exact Or.inr rfl)) (fun o ho => tg_name)
      (fun z hz _ _ _ _ _ => dts_nil) (fun k hk _ _ _ _ _ _ => ?el) (fun _ _ => Enc.to _) (by omega)) ?e2)) (encs_to _) (encs_to _) (by rw [List.length_map, List.length_map, List.length_map]; unfold openingsOf; rw [List.length_map]; omega) (.cons (stb_at hL) (.cons (stb_at hL) (.cons (stb_at hL) (.skip (.skip (.skip .nil))))))) ?_
  case e2 =>
    rw [filter_true, List.map_map]
    rfl
  case el =>
    refine DE.to (de_tupleL B.tuple (de_lc0 k enc (fun c => enc [c]) (fun c => [some ((ME K a.depths).at BB), some ((ME K a.common).at BB), some ((ME K a.own).at BB), some (MLat K L ((openingsOf a).map enc)), some (ME K k), some (ME K c)]) [("cut", 5)] rfl sc_harmless_counts.nd (di_tup (de_v 4)) (blkOk_by (by kernel_rfl)) (fun _ _ _ _ _ => pg_name (i := 5) sc_harmless_counts.nd rfl (by first | exact Or.inl rfl | exact Or.inr rfl)) (fun o ho => tg_name)
      (fun c hc _ _ _ _ _ => de_tup [enc c] (da_cons (de_v 5) da_nil) (by simp)) (fun _ _ => Enc.to _) (by rw [h.c.2.2.1 k hk]; omega))) ?e3
    show PyData.tuple _ = PyData.tuple ((onlyOf k).map enc)
    unfold onlyOf
    rw [List.map_map]
    rfl
  refine hs_one (h1_ret (M := MP.dic K P w (harmlessC a)) (de_gb (de_call D3 (hr.mono (by omega)) (⟨fc0 a, togetherC (harmB a), -1⟩ : A_add) (da_cons (de_disp1 hr (de_call D2 (hr.mono (by omega)) a.depths (da_cons (de_v0 0) da_nil) ⟨a.n, by omega, h.wd⟩) de_int) (da_cons (de_call D4 (hr.mono (by omega)) (harmB a) (da_cons (((de_v 3).cast fun v H p => MLat.dp p).to ?e4) da_nil) ⟨bz_harm h, harm_len h⟩) (da_cons (de_neg de_int) da_nil))) (addPre (hash_one _) (by show 1 + (togetherC (harmB a)).length ≤ 50000; omega) (by decide) (by decide)))) fun v σ H H' g x p => ⟨g.1.trans x, p⟩)
  show PyData.list _ = PyData.list ((harmB a).map enc)
  unfold harmB
  rw [List.map_append]
def sp_how_many_harmless (K : PySem.W.Frag) : Sp := spM (fun a : A_dco => Wo a) (fun a => [ME K a.depths, ME K a.common, ME K a.own]) (fun a => MI K (totalC (harmlessC a)))
theorem ok_how_many_harmless (T : Tx K mg) : DefOk P w K mg base "how_many_harmless" 5 (sp_how_many_harmless K) := by
  obtain ⟨f, fd, F, hg⟩ := at_how_many_harmless T
  have B := T.bl
  have D := ok_harmless_counts (P := P) (w := w) (base := base) T
  have D2 := ok_total (P := P) (w := w) (base := base) T
  refine fn_pure F sc_how_many_harmless hg (fun _ => rfl) (fun _ _ _ _ _ _ us hl => match us, hl with | [_, _, _], _ => rfl) fun f cdv A outer s H E a hr hp => ?_
  exact ds_ret (de_call D2 (hr.mono (by omega)) (harmlessC a) (da_cons (de_call D hr a (da_cons (de_v 0) (da_cons (de_v 1) (da_cons (de_v 2) da_nil))) hp) da_nil) ((harm_ok hp).mono (by omega)))
end
end K78

-- part KP13
set_option Elab.async false
set_option linter.all false
set_option maxRecDepth 100000
set_option maxHeartbeats 4000000
/-! KP13: breach, is_house_closed. -/
namespace K78
open PySem PySem.Spec PyProof.Rows L2
open Evl (Ex ex_t ex_l ex_rd fresh_back)
open Enc (enc)
structure A_dcop where
  depths : KEY
  common : KEYS
  own : KEYS
  priv : KEYS
structure Wp (a : A_dcop) : Prop where
  n : ∃ n, n ≤ 100 ∧ (∀ k ∈ a.common, k.length = n) ∧ (∀ k ∈ a.own, k.length = n) ∧ ∀ k ∈ a.priv, k.length = n
  cl : a.common.length ≤ 100
  ol : a.own.length ≤ 100
  pl : a.priv.length ≤ 100
def br1 (a : A_dcop) : List (KEY × KEY) := a.own.flatMap fun o => (a.own.filter fun p => (!decide (o = p)) && opens a.common o p).map fun p => (o, p)
def br2 (a : A_dcop) : List (KEY × KEY) := a.priv.flatMap fun o => (a.own.filter fun p => opens a.common o p).map fun p => (o, p)
def br3 (a : A_dcop) : List (KEY × KEY) := (a.priv.filter fun o => memE o a.own || memE o a.common).map fun o => (o, o)
def breachL (a : A_dcop) : List (KEY × KEY) := (br1 a ++ br2 a) ++ br3 a
def closedB (a : A_dcop) : Bool := decide (breachL a = [])
theorem flat_len {β γ : Type} (F : β → List γ) (m : Nat) : ∀ l : List β, (∀ x ∈ l, (F x).length ≤ m) → (l.flatMap F).length ≤ l.length * m
  | [], _ => by simp
  | x :: l, h => by
    have h1 := flat_len F m l fun y hy => h y (List.mem_cons_of_mem _ hy)
    have h2 := h x List.mem_cons_self
    rw [List.flatMap_cons, List.length_append, List.length_cons, Nat.succ_mul]
    omega
theorem map_flat {β γ δ : Type} (F : β → List γ) (g : γ → δ) (l : List β) : (l.flatMap F).map g = l.flatMap fun x => (F x).map g := by
  induction l with
  | nil => rfl
  | cons x l ih => rw [List.flatMap_cons, List.map_append, ih, List.flatMap_cons]
section
variable {P : Program} {w : World} {K : PySem.W.Frag} {mg : Str → Option Value} {base : Heap}
def sp_breach (K : PySem.W.Frag) : Sp := spM Wp (fun a => [ME K a.depths, ME K a.common, ME K a.own, ME K a.priv]) (fun a => MNonIff (breachL a = []))
theorem ok_breach (T : Tx K mg) : DefOk P w K mg base "breach" 5 (sp_breach K) := by
  obtain ⟨f, fd, F, hg⟩ := at_breach T
  have B := T.bl
  have D1 := ok_tupKs (P := P) (w := w) (base := base) T
  have D := ok_opens_room (P := P) (w := w) (base := base) T
  refine fn_pure F sc_breach hg (fun _ => rfl) (fun _ _ _ _ _ _ us hl => match us, hl with | [_, _, _, _], _ => rfl) fun f cdv A outer s H E a hr hp => ?_
  obtain ⟨depths, common, own, priv⟩ := a
  obtain ⟨⟨n, hn, hc, ho, hp⟩, cl, ol, pl⟩ := hp
  have hc : ∀ k ∈ common, k.length = n := hc
  have ho : ∀ k ∈ own, k.length = n := ho
  have hp : ∀ k ∈ priv, k.length = n := hp
  have cl : common.length ≤ 100 := cl
  have ol : own.length ≤ 100 := ol
  have pl : priv.length ≤ 100 := pl
  have wfo : ∀ k, k.length = n → Wf n (k :: common) := fun k hk => ⟨fun x hx => by
    rcases List.mem_cons.mp hx with rfl | hx
    · exact hk
    · exact hc x hx, by simp only [List.length_cons]; omega, hn⟩
  refine ds_body fun BB => ?_
  show HS _ (GB BB [some ((ME K depths).at BB), some ((ME K common).at BB), some ((ME K own).at BB), some ((ME K priv).at BB), none, none, none, none, none, none]) _ _ _
  refine hs_cons (h1_of (Γ' := [some ((ME K depths).at BB), some ((ME K common).at BB), some ((ME K own).at BB), some ((ME K priv).at BB), some (ME K own), some (ME K priv), some (ME K common), none, none, none]) (d1_asg (d := .tuple [enc own, enc priv, enc common]) (vs := [4, 5, 6])
    (de_tup [enc own, enc priv, enc common] (da_cons (de_call D1 (hr.mono (by omega)) own (da_cons (de_v0 2) da_nil) ⟨by omega, fun x hx => by rw [ho x hx]; omega⟩) (da_cons (de_call D1 (hr.mono (by omega)) priv (da_cons (de_v0 3) da_nil) ⟨by omega, fun x hx => by rw [hp x hx]; omega⟩) (da_cons (de_call D1 (hr.mono (by omega)) common (da_cons (de_v0 1) da_nil) ⟨by omega, fun x hx => by rw [hc x hx]; omega⟩) da_nil))) (by simp))
    (pg_tup rfl (pgs_cons (pg_name (i := 4) sc_breach.nd rfl (by first | exact Or.inl rfl | exact Or.inr rfl)) (pgs_cons (pg_name (i := 5) sc_breach.nd rfl (by first | exact Or.inl rfl | exact Or.inr rfl)) (pgs_cons (pg_name (i := 6) sc_breach.nd rfl (by first | exact Or.inl rfl | exact Or.inr rfl)) pgs_nil)))) (tg_tup (js := [4, 5, 6]) rfl))) ?_
  refine hs_cons (h1_setC 7 (LcX.new (LcX.to (ds' := (br1 ⟨depths, common, own, priv⟩).map enc) (dc_lc2X own enc own enc (fun o p => (!decide (o = p)) && opens common o p) (fun o p => enc (o, p)) 8 (fun o p => [some ((ME K depths).at BB), some ((ME K common).at BB), some ((ME K own).at BB), some ((ME K priv).at BB), some (ME K own), some (ME K priv), some (ME K common), none, some (ME K o), some (ME K p)]) [("one", 8), ("other", 9)] [9] rfl sc_breach.nd (di_tup (de_v 4)) (blkOk_by (N := ["depths", "common", "own", "private", "homes", "lone", "masters", "found", "one", "other"]) (sc := defScope s_breach) (by decide +kernel)) (by decide) (by decide) (fun _ _ _ _ _ => pg_name (i := 8) sc_breach.nd rfl (by first | exact Or.inl rfl | exact Or.inr rfl)) (fun _ _ _ _ _ => pg_name (i := 9) sc_breach.nd rfl (by first | exact Or.inl rfl | exact Or.inr rfl))
      (fun z hz _ _ _ _ _ => dt_tup (de_v 4) (encs_to own)) (fun z hz w hw => tg_name) (fun z hz w hw _ _ _ _ _ => dts_one (DW.t (dw_and (dt_neE hr (de_v 8) (de_v 9)) fun _ => dw_and1 (dt_val (de_call D hr (⟨common, z, w⟩ : A_coo) (da_cons (de_v0 1) (da_cons (de_v 8) (da_cons (de_v 9) da_nil))) ⟨n, wfo z (ho z hz), ho w hw⟩)))))
      (fun z hz w hw _ _ _ _ _ _ => de_tup [enc z, enc w] (da_cons (de_v 8) (da_cons (de_v 9) da_nil)) (by simp)) (fun _ _ _ _ => Enc.to _) (fun _ _ => Enc.to _) (Nat.le_trans (Nat.mul_le_mul ol ol) (by omega))) ?e1))) ?_
  case e1 =>
    unfold br1
    rw [map_flat]
    simp only [List.map_map]
    rfl
  refine hs_pre (G := fun σ H => ∃ L, BB L = none ∧ GB BB [some ((ME K depths).at BB), some ((ME K common).at BB), some ((ME K own).at BB), some ((ME K priv).at BB), some (ME K own), some (ME K priv), some (ME K common), some (MLat K L ((br1 ⟨depths, common, own, priv⟩).map enc)), none, none] σ H) (hs_ex fun L => hs_pure fun hL => ?_) (fun σ H g => gb_newL (i := 7) (Γ := [some ((ME K depths).at BB), some ((ME K common).at BB), some ((ME K own).at BB), some ((ME K priv).at BB), some (ME K own), some (ME K priv), some (ME K common), none, none, none]) (by show 7 < 10; omega) g)
  have b1 : (br1 ⟨depths, common, own, priv⟩).length ≤ 10000 := Nat.le_trans (flat_len _ 100 own fun x _ => by rw [List.length_map]; exact Nat.le_trans (List.length_filter_le _ _) ol) (by omega)
  have b2 : (br2 ⟨depths, common, own, priv⟩).length ≤ 10000 := Nat.le_trans (flat_len _ 100 priv fun x _ => by rw [List.length_map]; exact Nat.le_trans (List.length_filter_le _ _) ol) (by omega)
  have b3 : (br3 ⟨depths, common, own, priv⟩).length ≤ 100 := by
    unfold br3
    rw [List.length_map]
    exact Nat.le_trans (List.length_filter_le _ _) pl
  refine hs_cons (h1_extend 7 (ds' := (br2 ⟨depths, common, own, priv⟩).map enc) rfl hL (de_v 7) (LcX.fl (LcX.to (dc_lc2X priv enc own enc (fun o p => opens common o p) (fun o p => enc (o, p)) 8 (fun o p => [some ((ME K depths).at BB), some ((ME K common).at BB), some ((ME K own).at BB), some ((ME K priv).at BB), some (ME K own), some (ME K priv), some (ME K common), some (MLat K L ((br1 ⟨depths, common, own, priv⟩).map enc)), some (ME K o), some (ME K p)]) [("one", 8), ("other", 9)] [9] rfl sc_breach.nd (di_tup (de_v 5)) (blkOk_by (N := ["depths", "common", "own", "private", "homes", "lone", "masters", "found", "one", "other"]) (sc := defScope s_breach) (by decide +kernel)) (by decide) (by decide) (fun _ _ _ _ _ => pg_name (i := 8) sc_breach.nd rfl (by first | exact Or.inl rfl | exact Or.inr rfl)) (fun _ _ _ _ _ => pg_name (i := 9) sc_breach.nd rfl (by first | exact Or.inl rfl | exact Or.inr rfl))
      (fun z hz _ _ _ _ _ => dt_tup (de_v 4) (encs_to own)) (fun z hz w hw => tg_name) (fun z hz w hw _ _ _ _ _ => dts_one (dt_val (de_call D hr (⟨common, z, w⟩ : A_coo) (da_cons (de_v0 1) (da_cons (de_v 8) (da_cons (de_v 9) da_nil))) ⟨n, wfo z (hp z hz), ho w hw⟩)))
      (fun z hz w hw _ _ _ _ _ _ => de_tup [enc z, enc w] (da_cons (de_v 8) (da_cons (de_v 9) da_nil)) (by simp)) (fun _ _ _ _ => Enc.to _) (fun _ _ => Enc.to _) (Nat.le_trans (Nat.mul_le_mul pl ol) (by omega))) ?e2)) (encs_to _) (encs_to _) (by rw [List.length_map, List.length_map]; omega) (.cons (stb_at hL) (.cons (stb_at hL) (.cons (stb_at hL) (.cons (stb_at hL) (.cons stb_e (.cons stb_e (.cons stb_e (.skip (.skip (.skip .nil))))))))))) ?_
  case e2 =>
    unfold br2
    rw [map_flat]
    simp only [List.map_map]
    rfl
  refine hs_cons (h1_extend 7 (ds' := (br3 ⟨depths, common, own, priv⟩).map enc) rfl hL (de_v 7) (LcX.fl (LcX.to (dc_lcX priv enc (fun o => memE o own || memE o common) (fun o => enc (o, o)) (fun o => [some ((ME K depths).at BB), some ((ME K common).at BB), some ((ME K own).at BB), some ((ME K priv).at BB), some (ME K own), some (ME K priv), some (ME K common), some (MLat K L ((br1 ⟨depths, common, own, priv⟩).map enc ++ (br2 ⟨depths, common, own, priv⟩).map enc)), some (ME K o), none]) [("one", 8)] rfl sc_breach.nd (di_tup (de_v 5)) (blkOk_by (N := ["depths", "common", "own", "private", "homes", "lone", "masters", "found", "one", "other"]) (sc := defScope s_breach) (by decide +kernel)) (fun _ _ _ _ _ => pg_name (i := 8) sc_breach.nd rfl (by first | exact Or.inl rfl | exact Or.inr rfl)) (fun z hz => tg_name)
      (fun z hz _ _ _ _ _ => dts_one (DW.t (dw_or (dt_inT hr (de_v 8) (de_v 4)) fun _ => dw_or1 (dt_inT hr (de_v 8) (de_v 6)))))
      (fun z hz _ _ _ _ _ _ => de_tup [enc z, enc z] (da_cons (de_v 8) (da_cons (de_v 8) da_nil)) (by simp)) (fun _ _ => Enc.to _) (by omega)) ?e3)) (tOs_app.mpr ⟨encs_to _, encs_to _⟩) (encs_to _) (by rw [List.length_append, List.length_map, List.length_map, List.length_map]; omega) (.cons (stb_at hL) (.cons (stb_at hL) (.cons (stb_at hL) (.cons (stb_at hL) (.cons stb_e (.cons stb_e (.cons stb_e (.skip (.skip (.skip .nil))))))))))) ?_
  case e3 =>
    unfold br3
    rw [List.map_map]
    rfl
  refine hs_one (h1_ret (M := MNonIff (breachL ⟨depths, common, own, priv⟩ = [])) (de_gb (de_minD hr rfl B.min (l := breachL ⟨depths, common, own, priv⟩) (((de_v 7).cast fun v H p => MLat.dp p).to ?e4) alike_pairs)) fun v σ H H' g x p => ⟨g.1.trans x, p⟩)
  · show PyData.list _ = PyData.list ((breachL ⟨depths, common, own, priv⟩).map enc)
    unfold breachL
    rw [List.map_append, List.map_append]
def sp_is_house_closed (K : PySem.W.Frag) : Sp := spM Wp (fun a => [ME K a.depths, ME K a.common, ME K a.own, ME K a.priv]) (fun a => MB K (closedB a))
theorem de_isNon {X : Cx} {G : GP} [MG G] {φ : Prop} [Decidable φ] {a : Expr} {pos p' : Pos} {j} (ha : DE X G a (MNonIff φ)) : DE X G (.Compare a [.Is] [.Constant .none j p'] pos) (MB X.K (decide φ)) :=
  de_of (pe_cmp (pc_isN ha) rfl) fun σ H Q g q => ⟨g, fun v H1 x1 p1 => q _ H1 x1 (by
    have e : decide (v = .non) = decide φ := by
      by_cases h : φ
      · rw [decide_eq_true h, decide_eq_true (p1.mpr h)]
      · rw [decide_eq_false h, decide_eq_false (fun z => h (p1.mp z))]
    rw [e]
    exact .bl _)⟩
theorem ok_is_house_closed (T : Tx K mg) : DefOk P w K mg base "is_house_closed" 6 (sp_is_house_closed K) := by
  obtain ⟨f, fd, F, hg⟩ := at_is_house_closed T
  have B := T.bl
  have D := ok_breach (P := P) (w := w) (base := base) T
  refine fn_pure F sc_is_house_closed hg (fun _ => rfl) (fun _ _ _ _ _ _ us hl => match us, hl with | [_, _, _, _], _ => rfl) fun f cdv A outer s H E a hr hp => ?_
  exact ds_ret (de_isNon (φ := breachL a = []) (de_call D hr a (da_cons (de_v 0) (da_cons (de_v 1) (da_cons (de_v 2) (da_cons (de_v 3) da_nil)))) hp))
end
end K78

-- part KBox
set_option Elab.async false
set_option linter.all false
set_option maxRecDepth 100000
set_option maxHeartbeats 4000000
/-! KBox: the box of draws: defs that change it. -/
namespace K78
open PySem PySem.Spec PyProof.Rows L2
open Evl (Ex ex_t ex_l ex_rd fresh_back)
open Enc (enc)
theorem dpAll_set {K : PySem.W.Frag} {H : Hp} {v : V} {d : PyData} : ∀ {us : List V} {ds : List PyData}, DpAll K H us ds → Dp K H v d → ∀ j, DpAll K H (us.set j v) (ds.set j d)
  | _, _, .nil, _, _ => .nil
  | _, _, .cons h1 h2, hv, 0 => .cons hv h2
  | _, _, .cons h1 h2, hv, j + 1 => .cons h1 (dpAll_set h2 hv j)
def lim : Nat := 2 ^ 40
def MBox (b : Addr) (n : Nat) : MP := ⟨fun v H => v = .ref b ∧ ∃ x y z : Int, H b = some (.lst [.int x, .int y, .int z]) ∧ 33 ≤ y ∧ 0 ≤ z ∧ z ≤ (n : Int), fun x ⟨e, a, c, d, h, r⟩ => ⟨e, a, c, d, x _ _ h, r⟩⟩
def MRef (b : Addr) : MP := ⟨fun v _ => v = .ref b, fun _ h => h⟩
theorem mbox_nt {b : Addr} {n : Nat} {v : V} {H : Hp} (h : (MBox b n).P v H) : NT H b := by
  obtain ⟨_, x, y, z, h, _⟩ := h
  exact NT.lst h
theorem mbox_le {b : Addr} {n m : Nat} {v : V} {H : Hp} (h : (MBox b n).P v H) (e : n ≤ m) : (MBox b m).P v H := by
  obtain ⟨e1, x, y, z, h, h0, h1, h2⟩ := h
  exact ⟨e1, x, y, z, h, h0, h1, by omega⟩
theorem stb_box {B : Hp} {b D : Addr} {n : Nat} (hne : b ≠ D) : Stb B D (MBox b n) := fun v H H' xb _ k ⟨e, x, y, z, h, r⟩ => ⟨e, x, y, z, k _ _ hne h, r⟩
theorem stb_ref {B : Hp} {b D : Addr} : Stb B D (MRef b) := fun v H H' xb _ k e => e
/-- the promise of a def that changes the box, nothing else -/
def spB {α : Type} (pre : α → Prop) (cost : Nat) (args : α → List MP) (res : α → MP) : Sp := fun vs H Q _ => ∃ b n a us, vs = .ref b :: us ∧ (MBox b n).P (.ref b) H ∧ n + cost ≤ lim ∧ AllP (args a) us (del b H) ∧ pre a ∧ ∀ v H', Kp b H H' → (MBox b (n + cost)).P (.ref b) H' → (res a).P v H' → Q v H'
section
variable {P : Program} {w : World} {K : PySem.W.Frag} {mg : Str → Option Value} {base : Heap}
theorem kp_of_del {b : Addr} {H H' : Hp} (x : Ex (del b H) H') : Kp b H H' := fun a u ne e => x a u (by rw [del_ne ne]; exact e)
theorem AllP.at {B H : Hp} (x : Ex B H) : ∀ {Ms : List MP} {vs : List V}, AllP Ms vs B → AllP (Ms.map (·.at B)) vs H
  | [], _, .nil => .nil
  | M :: Ms, _, .cons h1 h2 => .cons ⟨x, h1⟩ (AllP.at x h2)
theorem fn_box {x : Str} {st : Stmt} {f : Addr} {fd : FuncData} {N ps : List Str} {k : Nat} {α : Type} {pre : α → Prop} {cost : Nat} {args : α → List MP} {res : α → MP} (F : FnP K x st f fd) (S : FnScope N ps (defScope st)) (hg : mg x = some (.ref f)) (len : ∀ a, (args a).length + 1 = ps.length)
    (hb : ∀ (kV doc pm : Value) (an : Option Addr) (cdv ct : Value) (us : List Value), us.length = ps.length → bindArgs (PySem.W.fnOf x x (defArgs st) (defBody st) (defScope st) .none kV doc pm an cdv ct) ⟨us, []⟩ = pure (ps.zip us))
    (body : ∀ (f : Addr) (cdv : Value) (A : Around) (outer : List Env) (s : Shared) (H : Hp) (E : XK) (a : α) (B : Hp) (b : Addr) (n : Nat), Room k (A.deeper (envOfC x (defScope st) s.heap.objs.size f cdv)) → pre a → B b = none → n + cost ≤ lim →
      HS (cxOf CX0 P w K mg base N x (defScope st) f cdv A outer s H E).nox (GB B (startG N (MBox b n :: (args a).map (·.at B)))) (defBody st) (fun _ _ => False) (fun v H' => Ex B H' ∧ (MBox b (n + cost)).P (.ref b) H' ∧ (res a).P v H')) : DefOk P w K mg base x (k + 1) (spB pre cost args res) :=
  fn_raw F S hg (fun vs H Q E ⟨b, n, a, us, e, _, _, p, _⟩ => by rw [e, List.length_cons, p.length, len a]) hb fun f cdv A outer s H E vs Q hr ⟨b, n, a, us, e, hbx, hn, p, hp, q⟩ =>
    ⟨_, body f cdv A outer s H E a (del b H) b n hr hp del_self hn, ⟨del_ex, by rw [e]; exact EnvOk.start (.cons hbx (AllP.at del_ex p))⟩, fun _ _ z => z.elim, fun v H' ⟨x, h1, h2⟩ => q v H' (kp_of_del x) h1 h2⟩
end
/-! ### expressions that change the box -/
def tEB (B : Hp) (b : Addr) (Γ Γ' : En) (M : MP) : TE := fun σ H Q => GB B Γ σ H ∧ ∀ v H', Kp b H H' → GB B Γ' σ H' → M.P v H' → Q v H'
abbrev EB (X : Cx) (B : Hp) (b : Addr) (Γ : En) (e : Expr) (Γ' : En) (M : MP) : Prop := PE X e (tEB B b Γ Γ' M)
abbrev AEB (X : Cx) (B : Hp) (b : Addr) (Γ : En) (es : List Expr) (Γ' : En) (Ms : List MP) : Prop := PA X es (fun σ H Q => GB B Γ σ H ∧ ∀ vs H', Kp b H H' → GB B Γ' σ H' → AllP Ms vs H' → Q vs H')
abbrev TB (X : Cx) (B : Hp) (b : Addr) (Γ : En) (e : Expr) (Γ' : En) (k : Bool) : Prop := PT X e (fun σ H Q => GB B Γ σ H ∧ ∀ H', Kp b H H' → GB B Γ' σ H' → Q k H')
/-- stands when the box changes -/
def StK (b : Addr) (M : MP) : Prop := ∀ v H H', NT H b → Kp b H H' → M.P v H → M.P v H'
def StD (b : Addr) (M M' : MP) : Prop := ∀ v H, NT H b → M.P v H → M'.P v (del b H)
section
variable {b : Addr} {K : PySem.W.Frag}
theorem stk_d {d : PyData} (h : tO d = true) : StK b (MP.d K d) := fun v H H' n k p => Dp.tsub (k.sub n) _ _ h p
theorem stk_ref {c : Addr} : StK b (MRef c) := fun v H H' n k p => p
theorem std_d {d : PyData} (h : tO d = true) : StD b (MP.d K d) (MP.d K d) := fun v H n p => Dp.tsub (tup_del n) _ _ h p
end
section
variable {X : Cx} {B : Hp} {b : Addr} {Γ Γ' Γ'' : En} {e c : Expr} {es : List Expr} {M M' : MP} {Ms : List MP} {pos p : Pos} {G N : GP} {R : V → Hp → Prop}
theorem eb_of {te : TE} (h : PE X e te) (k : ∀ σ H Q, GB B Γ σ H → (∀ v H', Kp b H H' → GB B Γ' σ H' → M.P v H' → Q v H') → te σ H Q) : EB X B b Γ e Γ' M := pe_imp h fun σ H Q q => k σ H Q q.1 q.2
theorem eb_pure (h : DE X (EnvOk Γ) e M) : EB X B b Γ e Γ M := eb_of h fun σ H Q g q => ⟨g.2, fun v H' x p => q v H' (Kp.ex x) (MG.mono x g) p⟩
theorem eb_cast (h : EB X B b Γ e Γ' M) (k : ∀ v H, M.P v H → M'.P v H) : EB X B b Γ e Γ' M' := eb_of h fun σ H Q g q => ⟨g, fun v H' x g' p => q v H' x g' (k v H' p)⟩
theorem aeb_nil : AEB X B b Γ [] Γ [] := pa_imp pa_nil fun σ H Q q => q.2 [] H (Kp.ex (Ex.refl H)) q.1 .nil
/-- the box's slot -/
def BoxIn (b : Addr) (Γ : En) : Prop := ∃ n, Γ[0]? = some (some (MBox b n))
theorem boxin_nt {σ : L2.St} {H : Hp} (h : BoxIn b Γ) (g : GB B Γ σ H) : NT H b := by
  obtain ⟨n, h⟩ := h
  obtain ⟨v, _, p⟩ := g.2.get 0 _ h
  exact mbox_nt p
theorem aeb_pure (hb : BoxIn b Γ) (he : DE X (EnvOk Γ) e M) (hr : AEB X B b Γ es Γ' Ms) (hk : StK b M) (hs : starEach (e :: es) X.env = (false, eval e X.env) :: starEach es X.env := by rfl) : AEB X B b Γ (e :: es) Γ' (M :: Ms) :=
  pa_imp (pa_cons he hr hs) fun σ H Q q => ⟨q.1.2, fun v H1 x1 p1 => ⟨MG.mono x1 q.1, fun vs H2 x2 g2 p2 => q.2 _ H2 ((Kp.ex x1).trans x2) g2 (.cons (hk v H1 H2 (boxin_nt hb (MG.mono x1 q.1)) x2 p1) p2)⟩⟩
theorem aeb_last (he : EB X B b Γ e Γ' M) (hs : starEach [e] X.env = (false, eval e X.env) :: starEach [] X.env := by rfl) : AEB X B b Γ [e] Γ' [M] :=
  pa_imp (pa_cons he pa_nil hs) fun σ H Q q => ⟨q.1, fun v H1 x1 g1 p1 => q.2 [v] H1 x1 g1 (.cons p1 .nil)⟩
/-- a call of a def that changes the box -/
theorem eb_call {α : Type} {pre : α → Prop} {cost n k : Nat} {args : α → List MP} {res : α → MP} {x : Str} (D : DefOk X.prog X.w X.K X.mg X.base x k (spB pre cost args res)) (hr : Room k X.A) (ha : AEB X B b Γ (e :: es) Γ' (MRef b :: Ms)) (h0 : Γ'[0]? = some (some (MBox b n))) (hn : n + cost ≤ lim) (hB : B b = none)
    (hM : ∀ us H, NT H b → AllP Ms us H → ∃ y, pre y ∧ AllP (args y) us (del b H) ∧ ∀ v H', (res y).P v H' → M.P v H') (hs : AllS (Stb B b) (Γ'.set 0 none))
    (hg : Gl X x := by rfl) (hdb : (x == ("__debug__" : Str)) = false := by decide) (he : starEach (e :: es) X.env = (false, eval e X.env) :: starEach es X.env := by rfl) (hpl : (backTo pos (starEach es X.env)).any (·.1) = false := by rfl) :
    EB X B b Γ (.Call (.Name x p) (e :: es) [] pos) (Γ'.set 0 (some (MBox b (n + cost)))) M := by
  obtain ⟨f, fd, ps, F, hm, hk, hb⟩ := D.ex
  refine eb_of (pe_call (E := E0) F hr hg hm hk hb .nil pass0 ha hdb he hpl) fun σ H Q g q => ⟨g, fun vs H1 x1 g1 p1 => ?_⟩
  show spB pre cost args res (vs ++ []) H1 Q E0
  rw [List.append_nil]
  obtain ⟨v0, ev, pv⟩ := g1.2.get 0 _ h0
  cases p1 with
  | @cons _ _ v vs _ h1 h2 =>
    obtain rfl : v = .ref b := h1
    obtain ⟨rfl, pv'⟩ := pv
    have hnt := mbox_nt (v := .ref b) ⟨rfl, pv'⟩
    obtain ⟨y, hy, hay, hres⟩ := hM vs H1 hnt h2
    refine ⟨b, n, y, vs, rfl, ⟨rfl, pv'⟩, hn, hay, hy, fun v H2 k2 hb2 r2 => q v H2 (x1.trans k2) ⟨ex_kp g1.1 hB k2, ?_⟩ (hres v H2 r2)⟩
    have il : 0 < Γ'.length := (List.getElem?_eq_some_iff.mp h0).1
    have g4 : EnvOk (Γ'.set 0 none) σ H2 := (g1.2.drop 0).kp hs g1.1 hnt k2
    have g5 := g4.set 0 (M := MBox b (n + cost)) (v := .ref b) hb2
    rw [List.set_set] at g5
    have e1 : σ.set 0 (some (.ref b)) = σ := by
      obtain ⟨hlt, e2⟩ := List.getElem?_eq_some_iff.mp ev
      rw [← e2]
      exact List.set_getElem_self hlt
    rw [e1] at g5
    exact g5
/-- a built-in of one value -/
theorem eb_callB1 {id : String} {x : Str} {r : List V → Hp → VK → Prop} (hc : CallR X (.builtin id) r) (hv : CVal r [M] M') (hm : X.mg x = none) (hb : bootBuiltins x = some (.builtin id)) (ha : EB X B b Γ e Γ' M) (hg : Gl X x := by rfl) (hn : x ≠ "__name__" := by decide) (hdb : (x == ("__debug__" : Str)) = false := by decide)
    (hs2 : starEach [e] X.env = (false, eval e X.env) :: starEach [] X.env := by rfl) : EB X B b Γ (.Call (.Name x p) [e] [] pos) Γ' M' :=
  eb_of (pe_callB hc hg hm hb (aeb_last ha hs2) hn hdb hs2) fun σ H Q g q => ⟨g, fun vs H1 x1 g1 p1 => hv vs H1 Q p1 fun z H2 x2 p2 => q z H2 (x1.trans (Kp.ex x2)) (MG.mono x2 g1) p2⟩
theorem eb_callTy1 {T : String} {x : Str} {r : List V → Hp → VK → Prop} (hc : CallR X (.type T) r) (hv : CVal r [M] M') (hm : X.mg x = none) (hb : bootBuiltins x = some (.type T)) (ha : EB X B b Γ e Γ' M) (hg : Gl X x := by rfl) (hn : x ≠ "__name__" := by decide) (hdb : (x == ("__debug__" : Str)) = false := by decide)
    (hs2 : starEach [e] X.env = (false, eval e X.env) :: starEach [] X.env := by rfl) : EB X B b Γ (.Call (.Name x p) [e] [] pos) Γ' M' :=
  eb_of (pe_callTy hc hg hm hb (aeb_last ha hs2) hn hdb hs2) fun σ H Q g q => ⟨g, fun vs H1 x1 g1 p1 => hv vs H1 Q p1 fun z H2 x2 p2 => q z H2 (x1.trans (Kp.ex x2)) (MG.mono x2 g1) p2⟩
/-- statements -/
theorem h1_setE (i : Nat) {x : Str} {pos' : Pos} (hN : X.N.Nodup) (he : EB X B b Γ e Γ' M) (hi : X.N[i]? = some x := by rfl) (hx : Loc X.env.scope x := by first | exact Or.inl rfl | exact Or.inr rfl)
    (hs : swapsWith e (some (.Name x pos')) pos.line X.env = pure false := by rfl) (hf : X.fn x = true ∨ X.env.scope.names.lookup x = some .local := by first | exact .inl rfl | exact .inr rfl | assumption) :
    H1 X (GB B Γ) (.Assign [.Name x pos'] e pos) (GB B (Γ'.set i (some M))) R := ps_imp (ps_set hN hi hx he hs hf) fun D σ H q =>
  ⟨q.1, fun v H' x g p => q.2.1 _ H' ⟨g.1, g.2.set i p⟩⟩
theorem h1_retE (h : EB X B b Γ e Γ' M) (k : ∀ v σ H', GB B Γ' σ H' → M.P v H' → R v H') : H1 X (GB B Γ) (.Return (some e) pos) N R := ps_imp (ps_ret h) fun D σ H q => ⟨q.1, fun v H' x g p => q.2.2 v H' (k v σ H' g p)⟩
def EC (X : Cx) (B : Hp) (b : Addr) (Γ : En) (e : Expr) (Γ' : En) (M : MP) : Prop := ∃ te, CompOk X e te ∧ ∀ σ H Q, GB B Γ σ H → (∀ v H', Kp b H H' → GB B Γ' σ H' → M.P v H' → Q v H') → te σ H Q
theorem EC.eb (h : EC X B b Γ e Γ' M) : EB X B b Γ e Γ' M := let ⟨_, c, k⟩ := h; eb_of c.val k
theorem h1_setEC (i : Nat) {x : Str} {pos' : Pos} (he : EC X B b Γ e Γ' M) (hi : X.N[i]? = some x := by rfl) (hx : X.env.scope.names.lookup x = some .local := by rfl) (hs : swapsWith e (some (.Name x pos')) pos.line X.env = pure true := by rfl) :
    H1 X (GB B Γ) (.Assign [.Name x pos'] e pos) (GB B (Γ'.set i (some M))) R := let ⟨_, c, k⟩ := he; ps_imp (c.asg i x pos' pos hi hx hs) fun D σ H q =>
  k σ H _ q.1 fun v H' x g p => q.2.1 _ H' ⟨g.1, g.2.set i p⟩
/-- o[i] = e, a list of one's own -/
theorem h1_setL (i : Nat) {L : Addr} {ds : List PyData} {d : PyData} {j : Nat} {o c : Expr} {tpos : Pos} (hi : Γ[i]? = some (some (MLat X.K L ds))) (hL : B L = none) (ho : DE X (EnvOk Γ) o (MLat X.K L ds)) (hc : DE X (EnvOk Γ) c (MI X.K (j : Int))) (he : DE X (EnvOk Γ) e (MP.d X.K d)) (hj : j < ds.length) (ht : tO.tOs ds = true) (htd : tO d = true) (hs : AllS (Stb B L) (Γ.set i none))
    (ha : ∀ v, assign (.Subscript o c tpos) X.env v = (do
      let ov ← holding [v] (eval o X.env)
      let iv ← holding [v, ov] (eval c X.env)
      standAt tpos
      holding [v, ov, iv] (setItem ov iv v)
      release [v, ov, iv] []) := by intro _; rfl)
    (hsw : swapsWithSole [.Subscript o c tpos] e pos.line X.env = pure false := by rfl) (hw : swappedStores [.Subscript o c tpos] e X.env = pure none := by rfl) :
    H1 X (GB B Γ) (.Assign [.Subscript o c tpos] e pos) (GB B (Γ.set i (some (MLat X.K L (ds.set j d))))) R := by
  refine ps_imp (ps_asg (de_gb (B := B) he) (pg_sub (de_gb (B := B) ho) (de_gb (B := B) hc) set_list ha) hsw hw) fun D σ H q => ?_
  refine ⟨q.1, fun v1 H1 x1 p1 => ?_⟩
  refine ⟨MG.mono x1 q.1, fun v2 H2 x2 p2 => ⟨MG.mono (x1.trans x2) q.1, fun v3 H3 x3 p3 => ?_⟩⟩
  obtain ⟨rfl, us, h1, hda⟩ := p2
  have g3 : GB B Γ σ H3 := MG.mono ((x1.trans x2).trans x3) q.1
  have h3 := x3 _ _ h1
  have hda3 := DpAll.mono x3 _ _ hda
  have hul := hda.length
  refine ⟨L, us, (j : Int), j, rfl, dp_int p3, h3, ?_, ?_⟩
  · unfold ixN
    first
      | (rw [if_pos (by omega)]; rfl)
      | (simp; omega)
  obtain ⟨xb, g4⟩ := g3
  obtain ⟨v0, ev, pv⟩ := g4.get i _ hi
  obtain ⟨rfl, _⟩ := pv
  refine q.2.1 σ _ ⟨ex_kp xb hL Kp.upd, ?_⟩
  have g5 : EnvOk (Γ.set i none) σ (upd H3 L (.lst (us.set j v1))) := (g4.drop i).kp hs xb (NT.lst h3) Kp.upd
  have hset : DpAll X.K H3 (us.set j v1) (ds.set j d) := by
    have p1' := Dp.mono (x2.trans x3) _ _ p1
    exact dpAll_set hda3 p1' j
  have htS : tO.tOs (ds.set j d) = true := tOs_all.mpr fun x hx => by
    rcases List.mem_or_eq_of_mem_set hx with hx | rfl
    · exact tOs_all.mp ht x hx
    · exact htd
  have g6 := g5.set i (M := MLat X.K L (ds.set j d)) (v := .ref L) ⟨rfl, us.set j v1, upd_same, DpAll.tsub (Kp.upd.sub (NT.lst h3)) _ _ htS hset⟩
  rw [List.set_set] at g6
  have e1 : σ.set i (some (.ref L)) = σ := by
    obtain ⟨hlt, e2⟩ := List.getElem?_eq_some_iff.mp ev
    rw [← e2]
    exact List.set_getElem_self hlt
  rw [e1] at g6
  exact g6
end
end K78

-- part KBox2
set_option Elab.async false
set_option linter.all false
set_option maxRecDepth 100000
set_option maxHeartbeats 4000000
/-! KBox2: comprehensions whose element changes the box. -/
namespace K78
open PySem PySem.Spec PyProof.Rows L2
open Evl (Ex ex_t ex_l ex_rd fresh_back)
open Enc (enc)
/-- some datum with φ -/
def MSat (K : PySem.W.Frag) (φ : PyData → Prop) : MP := ⟨fun v H => ∃ d, φ d ∧ tO d = true ∧ Dp K H v d, fun x ⟨d, h, t, p⟩ => ⟨d, h, t, Dp.mono x _ _ p⟩⟩
def MLx {β : Type} (K : PySem.W.Frag) (Φ : β → PyData → Prop) (zs : List β) : MP := ⟨fun v H => ∃ ds, Paired Φ zs ds ∧ tO.tOs ds = true ∧ Dp K H v (.list ds), fun x ⟨ds, h, t, p⟩ => ⟨ds, h, t, Dp.mono x _ _ p⟩⟩
def MTx {β : Type} (K : PySem.W.Frag) (Φ : β → PyData → Prop) (zs : List β) : MP := ⟨fun v H => ∃ ds, Paired Φ zs ds ∧ tO.tOs ds = true ∧ Dp K H v (.tuple ds), fun x ⟨ds, h, t, p⟩ => ⟨ds, h, t, Dp.mono x _ _ p⟩⟩
theorem paired_len {α β : Type} {F : α → β → Prop} : ∀ {l : List α} {m : List β}, Paired F l m → l.length = m.length
  | _, _, .nil => rfl
  | _, _, .cons _ t => by rw [List.length_cons, List.length_cons, paired_len t]
theorem paired_app {α β : Type} {F : α → β → Prop} : ∀ {l l' : List α} {m m' : List β}, Paired F l m → Paired F l' m' → Paired F (l ++ l') (m ++ m')
  | _, _, _, _, .nil, h => h
  | _, _, _, _, .cons r t, h => .cons r (paired_app t h)
section
variable {X : Cx} {G : GP} {tg e : Expr} {pos p : Pos} {B : Hp} {b : Addr}
/-- range, walked whatever happens -/
theorem dt_range {n : Nat} (hm : X.mg "range" = none) [MG G] (h : DE X G e (ME X.K n)) (h1 : n < 2 ^ 60 := by omega) (hg : Gl X "range" := by rfl) (hs : starEach [e] X.env = [(false, eval e X.env)] := by rfl)
    (hs2 : starEach [e] X.env = (false, eval e X.env) :: starEach [] X.env := by rfl) : PI X tg (.Call (.Name "range" p) [e] [] pos) (iTp X.K G ((List.range n).map enc)) :=
  pi_imp (pi_range1 hg hm (da_cons h da_nil hs2) hs) fun σ H R q => ⟨q.1, fun vs H1 x1 p1 => by
    cases p1 with
    | cons p1 p2 =>
      cases p2
      have e := dp_int p1
      subst e
      have hl : (((List.range n).map enc : List PyData)).length = n := by rw [List.length_map, List.length_range]
      refine ⟨(n : Int), rfl, by omega, by omega, ?_⟩
      refine q.2 _ H1 (fun _ => True) (fun i H x H' => i < n ∧ H' = H ∧ x = .int (i : Int)) x1 (fun _ _ _ z => z) trivial (by rw [hl]; exact walk_range.mono (fun H z => z) (fun i H x H' hi _ y => ⟨by simpa using hi, y.1, y.2.trans (by show V.int (0 + (i : Int)) = V.int (i : Int); rw [Int.zero_add])⟩)) fun i H1 x H2 _ y => ?_
      obtain ⟨hi, rfl, rfl⟩ := y
      exact ⟨_, by rw [List.getElem?_map, List.getElem?_range hi]; rfl, Ex.refl _, .int _⟩⟩
/-- what is walked, behind an expression that changes the box -/
def iTb (K : PySem.W.Frag) (B : Hp) (b : Addr) (Γ Γ' : En) (ds : List PyData) : TI := fun σ H R => GB B Γ σ H ∧ ∀ (J : It) (H' : Hp) (Gs : Hp → Prop) (Y : Nat → Hp → V → Hp → Prop), Kp b H H' → GB B Γ' σ H' → (∀ H2, Kp b H' H2 → TupSub H' H2 → Gs H2) → Gs H' → L2.Walk J ds.length Gs Y →
  (∀ i H1 x H2, Gs H1 → Y i H1 x H2 → ∃ d, ds[i]? = some d ∧ Ex H1 H2 ∧ Dp K H2 x d) → R J H'
theorem itb_of {Γ : En} {ds : List PyData} (h : PI X tg e (iTp X.K (GB B Γ) ds)) : PI X tg e (iTb X.K B b Γ Γ ds) := pi_imp h fun σ H R q => ⟨q.1, fun J H' Gs Y x m g W y => q.2 J H' Gs Y (Kp.ex x) (MG.mono x q.1) (fun H2 _ ts => m H' H2 ts g) g W y⟩
theorem ec_lc {β : Type} {Γ0 Γ : En} {n c : Nat} (zs : List β) (hd : β → PyData) (Φ : β → PyData → Prop) (Γ' Γ'' : Nat → β → En) {elt tg iter : Expr} {scope : Scope} {g : TG} (own : List (Str × Nat)) (hc : X.calm = true) (hN : X.N.Nodup) (h0 : Γ[0]? = some (some (MBox b n))) (hB : B b = none)
    (hi : PI X tg iter (iTb X.K B b Γ0 Γ (zs.map hd))) (ok : BlkOk X.N X.env.scope scope own) (hg : AllB X scope fun Y => PG Y tg g) (hst : AllS (Stb B b) (Γ.set 0 none))
    (htg : ∀ i z, zs[i]? = some z → Tg X.K g (own.map (·.2)) (hd z) (EnvOk (wipeG (Γ.set 0 (some (MBox b (n + i * c)))) (own.map (·.2)))) (EnvOk (Γ' i z)))
    (he : ∀ i z, zs[i]? = some z → AllB X scope fun Y => EB Y B b (Γ' i z) elt (Γ'' i z) (MSat X.K (Φ z)))
    (h2 : ∀ i z, zs[i]? = some z → (Γ'' i z)[0]? = some (some (MBox b (n + (i + 1) * c)))) (hz : zs.length ≤ 100000) (hs : ∀ x, foldedSetIterable iter X.env x = pure x := by intro _; rfl) :
    EC X B b Γ0 (.ListComp elt [⟨tg, iter, [], 0⟩] scope pos) (Γ.set 0 (some (MBox b (n + zs.length * c)))) (MLx X.K Φ zs) := by
  have HT : AllB X scope fun Y => PTs Y [] (fun σ H Q => Q true H) := fun s H C cl fp => pts_nil
  have HE : AllB X scope fun Y => PE Y elt (fun σ H Q => ∃ i, ∃ z, ∃ _ : zs[i]? = some z, tEB B b (Γ' i z) (Γ'' i z) (MSat X.K (Φ z)) σ H Q) := fun s H C cl fp => ⟨fun pins s' σ H' Q I ⟨i, z, hz, q⟩ => (he i z hz s H C cl fp).run pins s' σ H' Q I q⟩
  refine ⟨_, ⟨pe_lc (own := own) hc hN hi ok hg HT HE hs, fun i y py spos hy hl hsw => ps_setLc (own := own) hc hN hy hl hsw hi ok hg HT HE hs⟩, fun σ H Q g0 q => ⟨g0, fun J H1 Gs Y x1 g1 mono gs1 W yd => ?_⟩⟩
  intro D hD
  rw [List.length_map] at W
  obtain ⟨v0, ev, pv⟩ := g1.2.get 0 _ h0
  have hb1 : ∃ u, H1 b = some u := by obtain ⟨_, x, y, z, h, _⟩ := pv; exact ⟨_, h⟩
  have hbD : b ≠ D := fun e => by subst e; obtain ⟨u, h⟩ := hb1; rw [hD] at h; cases h
  have hnt1 : NT H1 b := mbox_nt pv
  obtain ⟨rfl, _⟩ := id pv
  have hBD : B D = none := b_none g1.1 hD
  have env : ∀ {H' : Hp} {m : Nat}, Kp b H1 H' → (MBox b m).P (.ref b) H' → EnvOk (Γ.set 0 (some (MBox b m))) σ H' := fun {H' m} k hm => by
    have g4 : EnvOk (Γ.set 0 none) σ H' := (g1.2.drop 0).kp hst g1.1 hnt1 k
    have g5 := g4.set 0 (M := MBox b m) (v := .ref b) hm
    rw [List.set_set] at g5
    have e1 : σ.set 0 (some (.ref b)) = σ := by
      obtain ⟨hlt, e2⟩ := List.getElem?_eq_some_iff.mp ev
      rw [← e2]
      exact List.set_getElem_self hlt
    rw [e1] at g5
    exact g5
  have kpD : ∀ {H' : Hp} {o : HO}, Kp b H1 H' → Kp b H1 (upd H' D o) := fun {H' o} k a u ne e => by
    have ne2 : a ≠ D := fun z => by subst z; rw [hD] at e; cases e
    rw [upd_ne ne2]
    exact k a u ne e
  have boxD : ∀ {H' : Hp} {o : HO} {m : Nat}, (MBox b m).P (.ref b) H' → (MBox b m).P (.ref b) (upd H' D o) := fun {H' o m} ⟨e, x, y, z, h, r⟩ => ⟨e, x, y, z, by rw [upd_ne hbD]; exact h, r⟩
  refine ⟨fun i m H => m = zs.length - i ∧ i ≤ zs.length ∧ Ex B H ∧ Kp b H1 H ∧ TupSub H1 H ∧ (MBox b (n + i * c)).P (.ref b) H ∧ ∃ us ds, H D = some (.lst us) ∧ us.length ≤ i ∧ Paired Φ (zs.take i) ds ∧ tO.tOs ds = true ∧ DpAll X.K H us ds,
    ⟨zs.length, by simp, Nat.zero_le _, ex_kp g1.1 hBD Kp.upd, kpD (fun _ _ _ e => e), TupSub.ofEx (Ex.new hD), by rw [Nat.zero_mul, Nat.add_zero]; exact boxD pv, [], [], upd_same, Nat.le_refl _, .nil, rfl, .nil⟩, ?_⟩
  rintro i m H2 ⟨rfl, hi2, xb2, k2, ts2, hm2, us, ds, hu, hul, hpr, hto, hda⟩
  have gs := mono _ k2 ts2
  by_cases hlt : i < zs.length
  · refine .inr ⟨W.goes i H2 hlt gs, fun H => Ex B H ∧ Kp b H1 H ∧ TupSub H1 H ∧ (MBox b (n + (i + 1) * c)).P (.ref b) H ∧ ∃ us ds, H D = some (.lst us) ∧ us.length ≤ i + 1 ∧ Paired Φ (zs.take (i + 1)) ds ∧ tO.tOs ds = true ∧ DpAll X.K H us ds, fun H' h => ⟨zs.length - (i + 1), by omega, rfl, hlt, h⟩, fun x H3 y => ?_⟩
    obtain ⟨d, e1, x3, p3⟩ := yd i H2 x H3 gs (W.yields i H2 x H3 hlt gs y)
    rw [List.getElem?_map] at e1
    obtain ⟨z, e4, e2⟩ := Option.map_eq_some_iff.mp e1
    subst e2
    have k3 : Kp b H1 H3 := k2.trans (Kp.ex x3)
    have hm3 : (MBox b (n + i * c)).P (.ref b) H3 := (MBox b (n + i * c)).mono x3 hm2
    refine htg i z e4 x (wipe σ (own.map (·.2))) H3 _ p3 ((env k3 hm3).wipe _) ?_
    intro σ' g' w'
    refine ⟨w'.trans (wipe_wipe _ _), ?_⟩
    dsimp only
    rw [if_pos rfl]
    refine ⟨i, z, e4, ⟨xb2.trans x3, g'⟩, fun v H4 x4 g4 ⟨d4, hd4, ht4, p4⟩ => ?_⟩
    obtain ⟨v4, ev4, pv4⟩ := g4.2.get 0 _ (h2 i z e4)
    have hv4 : v4 = .ref b := pv4.1
    subst hv4
    have hu4 : H4 D = some (.lst us) := x4 D _ (fun e => hbD e.symm) (x3 _ _ hu)
    have nt3 : NT H3 b := mbox_nt hm3
    have ts4 : TupSub H3 H4 := x4.sub nt3
    refine ⟨us, hu4, Nat.lt_of_le_of_lt (Nat.le_trans hul (Nat.le_of_lt hlt)) (Nat.lt_of_le_of_lt hz (by decide)), ?_⟩
    have tsD : TupSub H4 (upd H4 D (.lst (us ++ [v]))) := TupSub.lst hu4
    refine ⟨ex_kp g4.1 hBD Kp.upd, kpD (k3.trans x4), ((ts2.trans (TupSub.ofEx x3)).trans ts4).trans tsD, boxD pv4, us ++ [v], ds ++ [d4], upd_same, by rw [List.length_append]; show us.length + 1 ≤ i + 1; omega, ?_, tOs_app.mpr ⟨hto, by simp [tO.tOs, ht4]⟩, ?_⟩
    · rw [List.take_add_one, e4]
      exact paired_app hpr (.cons hd4 .nil)
    · exact DpAll.append (DpAll.tsub ((TupSub.ofEx x3).trans (ts4.trans tsD)) _ _ hto hda) (.cons (Dp.tsub tsD _ _ ht4 p4) .nil)
  · have e : i = zs.length := by omega
    subst e
    refine .inl ⟨W.stops H2 gs, q _ H2 (x1.trans k2) ⟨xb2, env k2 hm2⟩ ⟨ds, ?_, hto, .lst (SqL.of hu) hda⟩⟩
    rw [List.take_length] at hpr
    exact hpr
/-- .. so many turns as some number with φ -/
def iTm (K : PySem.W.Frag) (B : Hp) (b : Addr) (Γ Γ' : En) (φ : Nat → Prop) (ds : List PyData) : TI := fun σ H R => GB B Γ σ H ∧ ∀ (m : Nat) (J : It) (H' : Hp) (Gs : Hp → Prop) (Y : Nat → Hp → V → Hp → Prop), φ m → m ≤ ds.length → Kp b H H' → GB B Γ' σ H' → (∀ H1 H2, TupSub H1 H2 → Gs H1 → Gs H2) → Gs H' → L2.Walk J m Gs Y →
  (∀ i H1 x H2, Gs H1 → Y i H1 x H2 → ∃ d, ds[i]? = some d ∧ Ex H1 H2 ∧ Dp K H2 x d) → R J H'
def MLm {β : Type} (K : PySem.W.Frag) (φ : Nat → Prop) (Φ : β → PyData → Prop) (zs : List β) : MP := ⟨fun v H => ∃ m ds, φ m ∧ m ≤ zs.length ∧ Paired Φ (zs.take m) ds ∧ tO.tOs ds = true ∧ Dp K H v (.list ds), fun x ⟨m, ds, h0, hm, h, t, p⟩ => ⟨m, ds, h0, hm, h, t, Dp.mono x _ _ p⟩⟩
theorem dm_range {Γ Γ' : En} {φ : Nat → Prop} {M : Nat} (hm : X.mg "range" = none) (h : EB X B b Γ e Γ' (MSat X.K fun d => ∃ m : Nat, d = .int (m : Int) ∧ φ m ∧ m ≤ M)) (h1 : M < 2 ^ 60) (hg : Gl X "range" := by rfl) (hs : starEach [e] X.env = [(false, eval e X.env)] := by rfl)
    (hs2 : starEach [e] X.env = (false, eval e X.env) :: starEach [] X.env := by rfl) : PI X tg (.Call (.Name "range" p) [e] [] pos) (iTm X.K B b Γ Γ' φ ((List.range M).map enc)) :=
  pi_imp (pi_range1 hg hm (aeb_last h hs2) hs) fun σ H R q => ⟨q.1, fun vs H1 x1 g1 p1 => by
    cases p1 with
    | cons p1 p2 =>
      cases p2
      obtain ⟨d, ⟨m, rfl, hφ, hM⟩, _, pd⟩ := p1
      have e := dp_int pd
      subst e
      have hl : (((List.range M).map enc : List PyData)).length = M := by rw [List.length_map, List.length_range]
      refine ⟨(m : Int), rfl, by omega, by omega, ?_⟩
      refine q.2 m _ H1 (fun _ => True) (fun i H x H' => i < m ∧ H' = H ∧ x = .int (i : Int)) hφ (by rw [hl]; exact hM) x1 g1 (fun _ _ _ z => z) trivial (walk_range.mono (fun H z => z) (fun i H x H' hi _ y => ⟨by simpa using hi, y.1, y.2.trans (by show V.int (0 + (i : Int)) = V.int (i : Int); rw [Int.zero_add])⟩)) fun i H1 x H2 _ y => ?_
      obtain ⟨hi, rfl, rfl⟩ := y
      exact ⟨_, by rw [List.getElem?_map, List.getElem?_range (by omega)]; rfl, Ex.refl _, .int _⟩⟩
theorem ec_lcM {β : Type} {Γ0 Γ : En} {n c : Nat} (φ : Nat → Prop) (zs : List β) (hd : β → PyData) (Φ : β → PyData → Prop) (Γ' Γ'' : Nat → β → En) {elt tg iter : Expr} {scope : Scope} {g : TG} (own : List (Str × Nat)) (hc : X.calm = true) (hN : X.N.Nodup) (h0 : Γ[0]? = some (some (MBox b n))) (hB : B b = none)
    (hi : PI X tg iter (iTm X.K B b Γ0 Γ φ (zs.map hd))) (ok : BlkOk X.N X.env.scope scope own) (hg : AllB X scope fun Y => PG Y tg g) (hst : AllS (Stb B b) (Γ.set 0 none))
    (htg : ∀ i z, zs[i]? = some z → Tg X.K g (own.map (·.2)) (hd z) (EnvOk (wipeG (Γ.set 0 (some (MBox b (n + i * c)))) (own.map (·.2)))) (EnvOk (Γ' i z)))
    (he : ∀ i z, zs[i]? = some z → AllB X scope fun Y => EB Y B b (Γ' i z) elt (Γ'' i z) (MSat X.K (Φ z)))
    (h2 : ∀ i z, zs[i]? = some z → (Γ'' i z)[0]? = some (some (MBox b (n + (i + 1) * c)))) (hz : zs.length ≤ 100000) (hs : ∀ x, foldedSetIterable iter X.env x = pure x := by intro _; rfl) :
    EC X B b Γ0 (.ListComp elt [⟨tg, iter, [], 0⟩] scope pos) (Γ.set 0 (some (MBox b (n + zs.length * c)))) (MLm X.K φ Φ zs) := by
  have HT : AllB X scope fun Y => PTs Y [] (fun σ H Q => Q true H) := fun s H C cl fp => pts_nil
  have HE : AllB X scope fun Y => PE Y elt (fun σ H Q => ∃ i, ∃ z, ∃ _ : zs[i]? = some z, tEB B b (Γ' i z) (Γ'' i z) (MSat X.K (Φ z)) σ H Q) := fun s H C cl fp => ⟨fun pins s' σ H' Q I ⟨i, z, hz, q⟩ => (he i z hz s H C cl fp).run pins s' σ H' Q I q⟩
  refine ⟨_, ⟨pe_lc (own := own) hc hN hi ok hg HT HE hs, fun i y py spos hy hl hsw => ps_setLc (own := own) hc hN hy hl hsw hi ok hg HT HE hs⟩, fun σ H Q g0 q => ⟨g0, fun mm J H1 Gs Y hφ hmm x1 g1 mono gs1 W yd => ?_⟩⟩
  intro D hD
  rw [List.length_map] at hmm
  obtain ⟨v0, ev, pv⟩ := g1.2.get 0 _ h0
  have hb1 : ∃ u, H1 b = some u := by obtain ⟨_, x, y, z, h, _⟩ := pv; exact ⟨_, h⟩
  have hbD : b ≠ D := fun e => by subst e; obtain ⟨u, h⟩ := hb1; rw [hD] at h; cases h
  have hnt1 : NT H1 b := mbox_nt pv
  obtain ⟨rfl, _⟩ := id pv
  have hBD : B D = none := b_none g1.1 hD
  have env : ∀ {H' : Hp} {m : Nat}, Kp b H1 H' → (MBox b m).P (.ref b) H' → EnvOk (Γ.set 0 (some (MBox b m))) σ H' := fun {H' m} k hm => by
    have g4 : EnvOk (Γ.set 0 none) σ H' := (g1.2.drop 0).kp hst g1.1 hnt1 k
    have g5 := g4.set 0 (M := MBox b m) (v := .ref b) hm
    rw [List.set_set] at g5
    have e1 : σ.set 0 (some (.ref b)) = σ := by
      obtain ⟨hlt, e2⟩ := List.getElem?_eq_some_iff.mp ev
      rw [← e2]
      exact List.set_getElem_self hlt
    rw [e1] at g5
    exact g5
  have kpD : ∀ {H' : Hp} {o : HO}, Kp b H1 H' → Kp b H1 (upd H' D o) := fun {H' o} k a u ne e => by
    have ne2 : a ≠ D := fun z => by subst z; rw [hD] at e; cases e
    rw [upd_ne ne2]
    exact k a u ne e
  have boxD : ∀ {H' : Hp} {o : HO} {m : Nat}, (MBox b m).P (.ref b) H' → (MBox b m).P (.ref b) (upd H' D o) := fun {H' o m} ⟨e, x, y, z, h, r⟩ => ⟨e, x, y, z, by rw [upd_ne hbD]; exact h, r⟩
  refine ⟨fun i m H => m = mm - i ∧ i ≤ mm ∧ Ex B H ∧ Kp b H1 H ∧ TupSub H1 H ∧ (MBox b (n + i * c)).P (.ref b) H ∧ ∃ us ds, H D = some (.lst us) ∧ us.length ≤ i ∧ Paired Φ (zs.take i) ds ∧ tO.tOs ds = true ∧ DpAll X.K H us ds,
    ⟨mm, by simp, Nat.zero_le _, ex_kp g1.1 hBD Kp.upd, kpD (fun _ _ _ e => e), TupSub.ofEx (Ex.new hD), by rw [Nat.zero_mul, Nat.add_zero]; exact boxD pv, [], [], upd_same, Nat.le_refl _, .nil, rfl, .nil⟩, ?_⟩
  rintro i m H2 ⟨rfl, hi2, xb2, k2, ts2, hm2, us, ds, hu, hul, hpr, hto, hda⟩
  have gs := mono _ _ ts2 gs1
  by_cases hlt : i < mm
  · refine .inr ⟨W.goes i H2 hlt gs, fun H => Ex B H ∧ Kp b H1 H ∧ TupSub H1 H ∧ (MBox b (n + (i + 1) * c)).P (.ref b) H ∧ ∃ us ds, H D = some (.lst us) ∧ us.length ≤ i + 1 ∧ Paired Φ (zs.take (i + 1)) ds ∧ tO.tOs ds = true ∧ DpAll X.K H us ds, fun H' h => ⟨mm - (i + 1), by omega, rfl, hlt, h⟩, fun x H3 y => ?_⟩
    obtain ⟨d, e1, x3, p3⟩ := yd i H2 x H3 gs (W.yields i H2 x H3 hlt gs y)
    rw [List.getElem?_map] at e1
    obtain ⟨z, e4, e2⟩ := Option.map_eq_some_iff.mp e1
    subst e2
    have k3 : Kp b H1 H3 := k2.trans (Kp.ex x3)
    have hm3 : (MBox b (n + i * c)).P (.ref b) H3 := (MBox b (n + i * c)).mono x3 hm2
    refine htg i z e4 x (wipe σ (own.map (·.2))) H3 _ p3 ((env k3 hm3).wipe _) ?_
    intro σ' g' w'
    refine ⟨w'.trans (wipe_wipe _ _), ?_⟩
    dsimp only
    rw [if_pos rfl]
    refine ⟨i, z, e4, ⟨xb2.trans x3, g'⟩, fun v H4 x4 g4 ⟨d4, hd4, ht4, p4⟩ => ?_⟩
    obtain ⟨v4, ev4, pv4⟩ := g4.2.get 0 _ (h2 i z e4)
    have hv4 : v4 = .ref b := pv4.1
    subst hv4
    have hu4 : H4 D = some (.lst us) := x4 D _ (fun e => hbD e.symm) (x3 _ _ hu)
    have nt3 : NT H3 b := mbox_nt hm3
    have ts4 : TupSub H3 H4 := x4.sub nt3
    refine ⟨us, hu4, Nat.lt_of_le_of_lt (Nat.le_trans hul (Nat.le_trans (Nat.le_of_lt hlt) hmm)) (Nat.lt_of_le_of_lt hz (by decide)), ?_⟩
    have tsD : TupSub H4 (upd H4 D (.lst (us ++ [v]))) := TupSub.lst hu4
    refine ⟨ex_kp g4.1 hBD Kp.upd, kpD (k3.trans x4), ((ts2.trans (TupSub.ofEx x3)).trans ts4).trans tsD, boxD pv4, us ++ [v], ds ++ [d4], upd_same, by rw [List.length_append]; show us.length + 1 ≤ i + 1; omega, ?_, tOs_app.mpr ⟨hto, by simp [tO.tOs, ht4]⟩, ?_⟩
    · rw [List.take_add_one, e4]
      exact paired_app hpr (.cons hd4 .nil)
    · exact DpAll.append (DpAll.tsub ((TupSub.ofEx x3).trans (ts4.trans tsD)) _ _ hto hda) (.cons (Dp.tsub tsD _ _ ht4 p4) .nil)
  · have e : i = mm := by omega
    subst e
    refine .inl ⟨W.stops H2 gs, q _ H2 (x1.trans k2) ⟨xb2, env k2 (mbox_le hm2 (Nat.add_le_add_left (Nat.mul_le_mul_right c hmm) n))⟩ ⟨i, ds, hφ, hmm, hpr, hto, .lst (SqL.of hu) hda⟩⟩
/-- e1 + e2, the right one changes the box -/
theorem eb_addI {Γ Γ' : En} {a e2 : Expr} {i : Int} {φ : Int → Prop} (ha : DE X (EnvOk Γ) a (MI X.K i)) (hb : EB X B b Γ e2 Γ' (MSat X.K fun d => ∃ j, d = .int j ∧ φ j)) : EB X B b Γ (.BinOp a .Add e2 pos) Γ' (MSat X.K fun d => ∃ j, d = .int (i + j) ∧ φ j) :=
  eb_of (pe_op op_add ha hb) fun σ H Q g q => ⟨g.2, fun v H1 x1 p1 => ⟨MG.mono x1 g, fun u H2 x2 g2 p2 => by
    obtain ⟨d, ⟨j, rfl, hj⟩, _, pd⟩ := p2
    exact ⟨i, j, dp_int p1, dp_int pd, q _ H2 ((Kp.ex x1).trans x2) g2 ⟨_, ⟨j, rfl, hj⟩, rfl, .int _⟩⟩⟩⟩
end
end K78

-- part KL1
set_option Elab.async false
set_option linter.all false
set_option maxRecDepth 100000
set_option maxHeartbeats 4000000
/-! KL1: the law's defs that change nothing. -/
namespace K78
open PySem PySem.Spec PyProof.Rows L2
open Evl (Ex ex_t ex_l ex_rd fresh_back)
open Enc (enc)
/-! ### _law_same of two that are alike -/
def sameOk : Nat → PyData → Prop
  | 0, d => (∃ i, d = .int i) ∨ ∃ b, d = .bool b
  | n + 1, d => sameOk n d ∨ ∃ ds, (d = .list ds ∨ d = .tuple ds) ∧ ds.length ≤ 1000 ∧ ∀ x ∈ ds, sameOk n x
theorem kit_ib : kitB "int" "bool" = some false := by decide +kernel
theorem kit_is : kitB "int" "str" = some false := by decide +kernel
theorem kit_ii : kitB "int" "int" = some true := by decide +kernel
theorem kit_id : kitB "int" "dict" = some false := by decide +kernel
theorem kit_bl : kitB "bool" "list" = some false := by decide +kernel
theorem kit_bt : kitB "bool" "tuple" = some false := by decide +kernel
theorem kit_bd : kitB "bool" "dict" = some false := by decide +kernel
theorem kit_bb : kitB "bool" "bool" = some true := by decide +kernel
theorem kit_bs : kitB "bool" "str" = some false := by decide +kernel
theorem kit_ll : kitB "list" "list" = some true := by decide +kernel
theorem kit_lt : kitB "list" "tuple" = some false := by decide +kernel
theorem zip_self {γ : Type} (ds : List PyData) : zipD ds ds = ds.map fun d => .tuple [d, d] := by
  induction ds with
  | nil => rfl
  | cons d ds ih =>
    unfold zipD at ih ⊢
    rw [List.zip_cons_cons, List.map_cons, ih, List.map_cons]
theorem sameOk_mono {n : Nat} {d : PyData} (h : sameOk n d) : sameOk (n + 1) d := .inl h
section
variable {X : Cx} {G : GP} {pos : Pos} {a b : Expr} [MG G] {k : Nat}
theorem rv_eqI {K : PySem.W.Frag} {i j : Int} : RVal (rEqD K) (MI K i) (MI K j) (MB K (decide (i = j))) := rv_eqE (x := i) (y := j)
theorem rv_eqB {K : PySem.W.Frag} {i j : Bool} : RVal (rEqD K) (MB K i) (MB K j) (MB K (decide (i = j))) := fun x y H Q p1 p2 q => by
  refine ⟨.bool i, .bool j, p1, p2, by cases i <;> decide, by cases j <;> decide, ?_⟩
  have e : PyData.eqv (.bool i) (.bool j) = decide (i = j) := by cases i <;> cases j <;> decide
  rw [e]
  exact q _ H (Ex.refl H) (.bl _)
theorem rv_neB {K : PySem.W.Frag} {i j : Bool} : RVal (rNeD K) (MB K i) (MB K j) (MB K (!decide (i = j))) := fun x y H Q p1 p2 q => by
  refine ⟨.bool i, .bool j, p1, p2, by cases i <;> decide, by cases j <;> decide, ?_⟩
  have e : PyData.eqv (.bool i) (.bool j) = decide (i = j) := by cases i <;> cases j <;> decide
  rw [e]
  exact q _ H (Ex.refl H) (.bl _)
theorem de_eqB (hr : Room k X.A) {i j : Bool} (ha : DE X G a (MB X.K i)) (hb : DE X G b (MB X.K j)) : DE X G (.Compare a [.Eq] [b] pos) (MB X.K (decide (i = j))) := de_cmp (op_eqD hr.units) rv_eqB ha hb (nomark _)
theorem dt_neB (hr : Room k X.A) {i j : Bool} (ha : DE X G a (MB X.K i)) (hb : DE X G b (MB X.K j)) : DT X G (.Compare a [.NotEq] [b] pos) (!decide (i = j)) := dt_cmp (op_neD hr.units) rv_neB ha hb (nomark _)
end
section
variable {P : Program} {w : World} {K : PySem.W.Frag} {mg : Str → Option Value} {base : Heap}
def sp_same (K : PySem.W.Frag) (n : Nat) : Sp := spM (sameOk n) (fun d => [MP.d K d, MP.d K d]) (fun _ => MB K true)
theorem same_body (T : Tx K mg) (n : Nat) (D : ∀ m, n = m + 1 → DefOk P w K mg base "_law_same" (m + 1) (sp_same K m)) : DefOk P w K mg base "_law_same" (n + 1) (sp_same K n) := by
  obtain ⟨f, fd, F, hg⟩ := at__law_same T
  have B := T.bl
  refine fn_pure F sc__law_same hg (fun _ => rfl) (fun _ _ _ _ _ _ us hl => match us, hl with | [_, _], _ => rfl) fun f cdv A outer s H E d hr hp => ?_
  have base0 : sameOk 0 d → DS (cxOf CX0 P w K mg base ["_law_got", "_law_due", "_law_mine", "_law_its", "_law_lot_so"] "_law_same" (defScope s__law_same) f cdv A outer s H E).nox (EnvOk [some (MP.d K d), some (MP.d K d), none, none, none]) (defBody s__law_same) (fun _ _ => False) (MB K true).P := by
    rintro (⟨i, rfl⟩ | ⟨b, rfl⟩)
    · refine ds_cons (d1_if (N := EnvOk [some (MI K i), some (MI K i), none, none, none]) (dt_val (de_isi2 (d := .int i) B.isinstance (de_v 1) B.list B.tuple bt_list bt_tuple kit_il kit_it)) (fun e => nomatch e) fun _ => ds_nil fun _ _ h => h) ?_
      refine ds_cons (d1_if (N := EnvOk [some (MI K i), some (MI K i), none, none, none]) (dt_val (de_isi1 (d := .int i) B.isinstance (de_v 1) B.dict bt_dict kit_id)) (fun e => nomatch e) fun _ => ds_nil fun _ _ h => h) ?_
      refine ds_cons (d1_if (N := EnvOk [some (MI K i), some (MI K i), none, none, none]) (DW.t (dw_or (dt_isN (d := .int i) (de_v 1)) fun _ => dw_or1 (dt_val (de_isi2 (d := .int i) B.isinstance (de_v 1) B.bool B.str bt_bool bt_str kit_ib kit_is)))) (fun e => nomatch e) fun _ => ds_nil fun _ _ h => h) ?_
      refine ds_ret (DE.to (de_and (de_isi1 (d := .int i) B.isinstance (de_v 0) B.int bt_int kit_ii) fun _ => de_and (de_not (de_isi1 (d := .int i) B.isinstance (de_v 0) B.bool bt_bool kit_ib)) fun _ => de_one (de_eqE hr (x := i) (y := i) (de_v 0) (de_v 1))) ?_)
      simp
    · refine ds_cons (d1_if (N := EnvOk [some (MB K b), some (MB K b), none, none, none]) (dt_val (de_isi2 (d := .bool b) B.isinstance (de_v 1) B.list B.tuple bt_list bt_tuple kit_bl kit_bt)) (fun e => nomatch e) fun _ => ds_nil fun _ _ h => h) ?_
      refine ds_cons (d1_if (N := EnvOk [some (MB K b), some (MB K b), none, none, none]) (dt_val (de_isi1 (d := .bool b) B.isinstance (de_v 1) B.dict bt_dict kit_bd)) (fun e => nomatch e) fun _ => ds_nil fun _ _ h => h) ?_
      refine ds_cons (d1_if (N := fun _ _ => False) (DW.t (dw_or (dt_isN (d := .bool b) (de_v 1)) fun _ => dw_or1 (dt_val (de_isi2 (d := .bool b) B.isinstance (de_v 1) B.bool B.str bt_bool bt_str kit_bb kit_bs)))) (fun _ => ?_) fun e => nomatch e) ⟨fun pins s σ H D I q => q.1.elim⟩
      refine ds_ret (DE.to (de_and (de_eqB hr (i := b) (j := b) (de_v 0) (de_v 1)) fun _ => de_and (de_eqB hr (de_isi1 (d := .bool b) B.isinstance (de_v 0) B.bool bt_bool kit_bb) (de_isi1 (d := .bool b) B.isinstance (de_v 1) B.bool bt_bool kit_bb)) fun _ => de_one (de_eqB hr (de_isN (d := .bool b) (de_v 0)) (de_isN (d := .bool b) (de_v 1)))) ?_)
      simp
  have deep : ∀ m, n = m + 1 → ∀ ds, (d = .list ds ∨ d = .tuple ds) → ds.length ≤ 1000 → (∀ x ∈ ds, sameOk m x) → DS (cxOf CX0 P w K mg base ["_law_got", "_law_due", "_law_mine", "_law_its", "_law_lot_so"] "_law_same" (defScope s__law_same) f cdv A outer s H E).nox (EnvOk [some (MP.d K d), some (MP.d K d), none, none, none]) (defBody s__law_same) (fun _ _ => False) (MB K true).P := by
    rintro m rfl ds hd hl hx
    have D := D m rfl
    rcases hd with rfl | rfl
    · refine ds_cons (d1_if (N := fun _ _ => False) (dt_val (de_isi2 (d := .list ds) B.isinstance (de_v 1) B.list B.tuple bt_list bt_tuple kit_ll kit_lt)) (fun _ => ?_) fun e => nomatch e) ⟨fun pins s σ H D I q => q.1.elim⟩
      refine ds_cons (d1_if (N := EnvOk [some (MP.d K (.list ds)), some (MP.d K (.list ds)), none, none, none]) (k := false) (DT.to (DW.t (dw_or (dt_neB hr (de_isi1 (d := .list ds) B.isinstance (de_v 0) B.list bt_list kit_ll) (de_isi1 (d := .list ds) B.isinstance (de_v 1) B.list bt_list kit_ll)) fun _ => dw_or1 (dt_neB hr (de_isi1 (d := .list ds) B.isinstance (de_v 0) B.tuple bt_tuple kit_lt) (de_isi1 (d := .list ds) B.isinstance (de_v 1) B.tuple bt_tuple kit_lt)))) (by simp)) (fun e => nomatch e) fun _ => ds_nil fun _ _ h => h) ?_
      refine ds_ret (DE.to (de_and (de_eqE hr (x := (ds.length : Int)) (y := (ds.length : Int)) (de_lenL B.len (de_v 0)) (de_lenL B.len (de_v 1))) fun _ => de_one (de_all ds (fun _ => true) rfl B.all (de_lc0 ds (fun d => .tuple [d, d]) (fun _ => .bool true) (fun d => [some (MP.d K (.list ds)), some (MP.d K (.list ds)), some (MP.d K d), some (MP.d K d), none]) [("_law_mine", 2), ("_law_its", 3)] rfl sc__law_same.nd
        ((di_zipL B.zip (de_v 0) (de_v 1)).to (zip_self (γ := Unit) ds)) (blkOk_by (N := ["_law_got", "_law_due", "_law_mine", "_law_its", "_law_lot_so"]) (sc := defScope s__law_same) (by decide +kernel)) (fun _ _ _ _ _ => pg_tup rfl (pgs_cons (pg_name (i := 2) sc__law_same.nd rfl (by first | exact Or.inl rfl | exact Or.inr rfl)) (pgs_cons (pg_name (i := 3) sc__law_same.nd rfl (by first | exact Or.inl rfl | exact Or.inr rfl)) pgs_nil))) (fun d hd => tg_tup (js := [2, 3]) rfl) (fun d hd _ _ _ _ _ => de_call D hr d (da_cons (de_v 2) (da_cons (de_v 3) da_nil)) (hx d hd)) (fun _ _ => rfl) (by omega)))) ?_)
      simp
    · refine ds_cons (d1_if (N := fun _ _ => False) (dt_val (de_isi2 (d := .tuple ds) B.isinstance (de_v 1) B.list B.tuple bt_list bt_tuple kit_tl kit_tt)) (fun _ => ?_) fun e => nomatch e) ⟨fun pins s σ H D I q => q.1.elim⟩
      refine ds_cons (d1_if (N := EnvOk [some (MP.d K (.tuple ds)), some (MP.d K (.tuple ds)), none, none, none]) (k := false) (DT.to (DW.t (dw_or (dt_neB hr (de_isi1 (d := .tuple ds) B.isinstance (de_v 0) B.list bt_list kit_tl) (de_isi1 (d := .tuple ds) B.isinstance (de_v 1) B.list bt_list kit_tl)) fun _ => dw_or1 (dt_neB hr (de_isi1 (d := .tuple ds) B.isinstance (de_v 0) B.tuple bt_tuple kit_tt) (de_isi1 (d := .tuple ds) B.isinstance (de_v 1) B.tuple bt_tuple kit_tt)))) (by simp)) (fun e => nomatch e) fun _ => ds_nil fun _ _ h => h) ?_
      refine ds_ret (DE.to (de_and (de_eqE hr (x := (ds.length : Int)) (y := (ds.length : Int)) (de_lenT B.len (de_v 0)) (de_lenT B.len (de_v 1))) fun _ => de_one (de_all ds (fun _ => true) rfl B.all (de_lc0 ds (fun d => .tuple [d, d]) (fun _ => .bool true) (fun d => [some (MP.d K (.tuple ds)), some (MP.d K (.tuple ds)), some (MP.d K d), some (MP.d K d), none]) [("_law_mine", 2), ("_law_its", 3)] rfl sc__law_same.nd
        ((di_zipT B.zip (de_v 0) (de_v 1)).to (zip_self (γ := Unit) ds)) (blkOk_by (N := ["_law_got", "_law_due", "_law_mine", "_law_its", "_law_lot_so"]) (sc := defScope s__law_same) (by decide +kernel)) (fun _ _ _ _ _ => pg_tup rfl (pgs_cons (pg_name (i := 2) sc__law_same.nd rfl (by first | exact Or.inl rfl | exact Or.inr rfl)) (pgs_cons (pg_name (i := 3) sc__law_same.nd rfl (by first | exact Or.inl rfl | exact Or.inr rfl)) pgs_nil))) (fun d hd => tg_tup (js := [2, 3]) rfl) (fun d hd _ _ _ _ _ => de_call D hr d (da_cons (de_v 2) (da_cons (de_v 3) da_nil)) (hx d hd)) (fun _ _ => rfl) (by omega)))) ?_)
      simp
  have go : ∀ m, m ≤ n → sameOk m d → DS (cxOf CX0 P w K mg base ["_law_got", "_law_due", "_law_mine", "_law_its", "_law_lot_so"] "_law_same" (defScope s__law_same) f cdv A outer s H E).nox (EnvOk [some (MP.d K d), some (MP.d K d), none, none, none]) (defBody s__law_same) (fun _ _ => False) (MB K true).P := by
    intro m
    induction m with
    | zero => exact fun _ h => base0 h
    | succ m ih =>
      rintro hm (h | ⟨ds, hd, hl, hx⟩)
      · exact ih (by omega) h
      · obtain ⟨q, rfl⟩ : ∃ q, n = q + 1 := ⟨n - 1, by omega⟩
        have lift : ∀ (j i : Nat) (x : PyData), sameOk i x → sameOk (i + j) x := by
          intro j
          induction j with
          | zero => exact fun i x h => h
          | succ j ih2 => exact fun i x h => .inl (ih2 i x h)
        exact deep q rfl ds hd hl fun x hxm => by
          have := lift (q - m) m x (hx x hxm)
          rw [show m + (q - m) = q by omega] at this
          exact this
  exact go n (Nat.le_refl n) hp
theorem ok_same (T : Tx K mg) : ∀ n, DefOk P w K mg base "_law_same" (n + 1) (sp_same K n)
  | 0 => same_body T 0 fun m e => nomatch e
  | n + 1 => same_body T (n + 1) fun m e => by
    cases e
    exact ok_same T n
end
end K78

-- part KL2
set_option Elab.async false
set_option linter.all false
set_option maxRecDepth 100000
set_option maxHeartbeats 4000000
/-! KL2: _law_stars, _law_lets, _law_loud, _law_teeth, _law_named. -/
namespace K78
open PySem PySem.Spec PyProof.Rows L2
open Evl (Ex ex_t ex_l ex_rd fresh_back)
open Enc (enc)
def starAt (chief : KEYS) (tooth : KEY) (k : Nat) : Bool := decide ((chief.filter fun m => decide (m.getD k 0 = tooth.getD k 0)) = [])
def starsL (chief : KEYS) (tooth : KEY) : List (Nat × Int) := ((List.range tooth.length).filter (starAt chief tooth)).map fun k => (k, tooth.getD k 0)
def letsB (chief : KEYS) (one two : KEY) : Bool := decide (((starsL chief one).filter fun b => !decide (two.getD b.1 0 = b.2)) = [])
def loudOne (chief bunch : KEYS) (t : KEY) : List (KEY × KEY) := (bunch.filter fun m => (!decide (m = t)) && letsB chief t m).map fun m => (t, m)
def loudL (chief bunch : KEYS) : List (KEY × KEY) := bunch.flatMap (loudOne chief bunch)
theorem star_lt {chief : KEYS} {tooth : KEY} {b : Nat × Int} (h : b ∈ starsL chief tooth) : b.1 < tooth.length ∧ b.2 = tooth.getD b.1 0 := by
  obtain ⟨k, hk, rfl⟩ := List.mem_map.mp h
  exact ⟨List.mem_range.mp (List.mem_filter.mp hk).1, rfl⟩
def teethStep (acc : KEYS) (high : Int) : KEYS := acc.flatMap fun t => (upTo high).map fun c => t ++ [c]
def teethL (deep : KEY) : KEYS := deep.foldl teethStep [[]]
theorem teethStep_len {acc : KEYS} {high : Int} (h : 0 ≤ high ∧ high ≤ 4) : (teethStep acc high).length ≤ acc.length * 4 := by
  refine flat_len _ 4 acc fun t _ => ?_
  rw [List.length_map]
  unfold upTo
  rw [List.length_map, List.length_range]
  omega
theorem teeth_len : ∀ (deep : KEY) (acc : KEYS), (∀ d ∈ deep, 0 ≤ d ∧ d ≤ 4) → (deep.foldl teethStep acc).length ≤ acc.length * 4 ^ deep.length
  | [], acc, _ => by simp
  | d :: deep, acc, h => by
    have h1 := teeth_len deep (teethStep acc d) fun x hx => h x (List.mem_cons_of_mem _ hx)
    have h2 := teethStep_len (acc := acc) (h d List.mem_cons_self)
    rw [List.length_cons, Nat.pow_succ]
    refine Nat.le_trans h1 (Nat.le_trans (Nat.mul_le_mul_right _ h2) ?_)
    rw [Nat.mul_assoc, Nat.mul_comm 4]
    exact Nat.le_refl _
/-- the names of cuts, pin by pin -/
abbrev NAMES := List (List Int)
def namesD (names : NAMES) : PyData := .list (names.map fun l => .list (l.map .int))
def renK (names : NAMES) (k : KEY) : KEY := (List.range k.length).map fun p => (names.getD p []).getD (k.getD p 0).toNat 0
def namedK (names : NAMES) (ks : KEYS) : KEYS := sortE (ks.map (renK names))
theorem renK_len (names : NAMES) (k : KEY) : (renK names k).length = k.length := by unfold renK; rw [List.length_map, List.length_range]
section
variable {P : Program} {w : World} {K : PySem.W.Frag} {mg : Str → Option Value} {base : Heap}
def sp_stars (K : PySem.W.Frag) : Sp := spM (fun a : A_ck => ∃ n, Wf n (a.key :: a.common)) (fun a => [ME K a.common, ME K a.key]) (fun a => ML K (starsL a.common a.key))
theorem ok_stars (T : Tx K mg) : DefOk P w K mg base "_law_stars" 1 (sp_stars K) := by
  obtain ⟨f, fd, F, hg⟩ := at__law_stars T
  have B := T.bl
  refine fn_pure F sc__law_stars hg (fun _ => rfl) (fun _ _ _ _ _ _ us hl => match us, hl with | [_, _], _ => rfl) fun f cdv A outer s H E a hr hp => ?_
  obtain ⟨chief, tooth⟩ := a
  obtain ⟨n, hw1, hw2, hw3⟩ := hp
  have hkl : tooth.length = n := hw1 tooth List.mem_cons_self
  have hw2 : chief.length + 1 ≤ 2000 := hw2
  refine ds_ret (DE.to (de_lc (List.range tooth.length) (fun p => .tuple [.int (p : Int), enc (tooth.getD p 0)]) (starAt chief tooth) (fun p => enc (p, tooth.getD p 0)) (fun p => [some (ME K chief), some (ME K tooth), some (ME K p), some (ME K (tooth.getD p 0)), none]) [("_law_k", 2), ("_law_cut", 3), ("_law_mate", 4)] rfl sc__law_stars.nd
    ((di_enumT B.enumerate (de_v 1)).to (enumD_enc tooth 0)) (blkOk_by (N := ["_law_chief_here", "_law_tooth_here", "_law_k", "_law_cut", "_law_mate"]) (sc := defScope s__law_stars) (by decide +kernel)) (fun _ _ _ _ _ => pg_tup rfl (pgs_cons (pg_name (i := 2) sc__law_stars.nd rfl (by first | exact Or.inl rfl | exact Or.inr rfl)) (pgs_cons (pg_name (i := 3) sc__law_stars.nd rfl (by first | exact Or.inl rfl | exact Or.inr rfl)) pgs_nil))) (fun o ho => tg_tup (js := [2, 3]) rfl)
    (fun p hp _ _ _ _ _ => dts_one (dt_eqL hr (x := chief.filter fun m => decide (m.getD p 0 = tooth.getD p 0)) (y := []) (de_lc chief enc (fun m => decide (m.getD p 0 = tooth.getD p 0)) enc (fun m => [some (ME K chief), some (ME K tooth), some (ME K p), some (ME K (tooth.getD p 0)), some (ME K m)]) [("_law_mate", 4)] rfl sc__law_stars.nd (di_tup (de_v 0)) (blkOk_by (by kernel_rfl)) (fun _ _ _ _ _ => pg_name (i := 4) sc__law_stars.nd rfl (by first | exact Or.inl rfl | exact Or.inr rfl)) (fun o ho => tg_name)
        (fun m hm _ _ _ _ _ => dts_one (dt_eqE hr (de_ixE 0 (de_v 4) (de_v 2) (by rw [hw1 m (List.mem_cons_of_mem _ hm)]; have := List.mem_range.mp hp; omega)) (de_v 3))) (fun m hm _ _ _ _ _ _ => de_v 4) (fun _ _ => Enc.to _) (by omega)) (de_lst [] da_nil)))
    (fun p hp _ _ _ _ _ _ => de_tup [enc p, enc (tooth.getD p 0)] (da_cons (de_v 2) (da_cons (de_v 3) da_nil)) (by simp)) (fun _ _ => Enc.to _) (by rw [List.length_range]; omega)) ?_)
  show PyData.list _ = PyData.list ((starsL chief tooth).map enc)
  unfold starsL
  rw [List.map_map]
  rfl
def sp_lets (K : PySem.W.Frag) : Sp := spM (fun a : A_coo => ∃ n, Wf n (a.one :: a.common) ∧ a.other.length = n) (fun a => [ME K a.common, ME K a.one, ME K a.other]) (fun a => MB K (letsB a.common a.one a.other))
theorem ok_lets (T : Tx K mg) : DefOk P w K mg base "_law_lets" 2 (sp_lets K) := by
  obtain ⟨f, fd, F, hg⟩ := at__law_lets T
  have B := T.bl
  have D := ok_stars (P := P) (w := w) (base := base) T
  refine fn_pure F sc__law_lets hg (fun _ => rfl) (fun _ _ _ _ _ _ us hl => match us, hl with | [_, _, _], _ => rfl) fun f cdv A outer s H E a hr hp => ?_
  obtain ⟨chief, one, two⟩ := a
  obtain ⟨n, hw, ho⟩ := hp
  have h1 : one.length = n := hw.1 one List.mem_cons_self
  have ho : two.length = n := ho
  have hn : n ≤ 100 := hw.2.2
  have hsl : (starsL chief one).length ≤ 100 := by
    unfold starsL
    rw [List.length_map]
    refine Nat.le_trans (List.length_filter_le _ _) ?_
    rw [List.length_range]
    omega
  exact ds_ret (de_eqL hr (x := (starsL chief one).filter fun b => !decide (two.getD b.1 0 = b.2)) (y := []) (de_lc (starsL chief one) enc (fun b => !decide (two.getD b.1 0 = b.2)) enc (fun b => [some (ME K chief), some (ME K one), some (ME K two), some (ME K b)]) [("_law_bit", 3)] rfl sc__law_lets.nd (di_list (de_call D hr (⟨chief, one⟩ : A_ck) (da_cons (de_v 0) (da_cons (de_v 1) da_nil)) ⟨n, hw⟩)) (blkOk_by (N := ["_law_chief_here", "_law_one_so", "_law_two_so", "_law_bit"]) (sc := defScope s__law_lets) (by decide +kernel)) (fun _ _ _ _ _ => pg_name (i := 3) sc__law_lets.nd rfl (by first | exact Or.inl rfl | exact Or.inr rfl)) (fun o ho => tg_name)
    (fun b hb _ _ _ _ _ => dts_one (dt_neE hr (x := two.getD b.1 0) (y := b.2) (de_ixE 0 (i := b.1) (de_v 2) (de_ixT 0 (ds := [enc b.1, enc b.2]) (de_v 3) de_int rfl rfl) (by have := (star_lt hb).1; omega)) (de_ixT 1 (ds := [enc b.1, enc b.2]) (de_v 3) de_int rfl rfl))) (fun b hb _ _ _ _ _ _ => de_v 3) (fun _ _ => Enc.to _) (by omega)) (de_lst [] da_nil))
def sp_loud (K : PySem.W.Frag) : Sp := spM (fun a : KEYS × KEYS => (∃ n, Wf n a.1 ∧ Wf n a.2) ∧ a.2.length ≤ 100 ∧ a.1.length ≤ 1000) (fun a => [ME K a.1, ML K a.2]) (fun a => ML K (sortE (loudL a.1 a.2)))
theorem ok_loud (T : Tx K mg) : DefOk P w K mg base "_law_loud" 3 (sp_loud K) := by
  obtain ⟨f, fd, F, hg⟩ := at__law_loud T
  have B := T.bl
  have D := ok_lets (P := P) (w := w) (base := base) T
  refine fn_pure F sc__law_loud hg (fun _ => rfl) (fun _ _ _ _ _ _ us hl => match us, hl with | [_, _], _ => rfl) fun f cdv A outer s H E a hr hp => ?_
  obtain ⟨chief, bunch⟩ := a
  obtain ⟨⟨n, h1, h2⟩, hl, hcl⟩ := hp
  have h1 : Wf n chief := h1
  have h2 : Wf n bunch := h2
  have hcl : chief.length ≤ 1000 := hcl
  have hl : bunch.length ≤ 100 := hl
  have one_len : ∀ t, (loudOne chief bunch t).length ≤ 100 := fun t => by
    unfold loudOne
    rw [List.length_map]
    exact Nat.le_trans (List.length_filter_le _ _) hl
  have wf1 : ∀ k, k ∈ bunch → Wf n (k :: chief) := fun k hk => ⟨fun x hx => by
    rcases List.mem_cons.mp hx with rfl | hx
    · exact h2.1 _ hk
    · exact h1.1 x hx, by simp only [List.length_cons]; omega, h1.2.2⟩
  refine ds_cons (d1_set 2 sc__law_loud.nd (M := ML K ([] : List (KEY × KEY))) (de_lst [] da_nil)) ?_
  refine ds_cons (d1_for (vs := [3]) (ds := bunch.map enc) (g := gName 3) (Gi := fun i => EnvOk [some (ME K chief), some (ML K bunch), some (ML K ((bunch.take i).flatMap (loudOne chief bunch))), none, none]) (N := EnvOk [some (ME K chief), some (ML K bunch), some (ML K (loudL chief bunch)), none, none]) rfl PassesOwn.never
    (di_list (de_v 1)) (pg_name sc__law_loud.nd rfl (by first | exact Or.inl rfl | exact Or.inr rfl)) (fun _ _ h => h) (fun i σ H H' x h => MG.mono x h) (fun i d hd => ?body) (fun σ H h => ?fin)) (ds_ret (de_sortP hr B.sorted ?len (de_v 2)))
  case fin =>
    rw [List.length_map, List.take_length] at h
    exact h
  case len => exact Nat.le_trans (flat_len _ 100 bunch fun t _ => one_len t) (by omega)
  case body =>
    rw [List.getElem?_map] at hd
    obtain ⟨t, hti, rfl⟩ := Option.map_eq_some_iff.mp hd
    have htm : t ∈ bunch := List.mem_of_getElem? hti
    have hil : i < bunch.length := (List.getElem?_eq_some_iff.mp hti).1
    have hacc : ((bunch.take i).flatMap (loudOne chief bunch)).length ≤ 10000 := Nat.le_trans (flat_len _ 100 _ fun t _ => one_len t) (by rw [List.length_take]; omega)
    rw [flat_take _ hti]
    generalize (bunch.take i).flatMap (loudOne chief bunch) = acc at hacc ⊢
    refine ⟨EnvOk [some (ME K chief), some (ML K bunch), some (ML K acc), some (ME K t), none], tg_name, ds_post (ds_one (d1_set 2 sc__law_loud.nd (DE.to (de_catL (de_v 2) (de_lc bunch enc (fun m => (!decide (m = t)) && letsB chief t m) (fun m => enc (t, m)) (fun m => [some (ME K chief), some (ML K bunch), some (ML K acc), some (ME K t), some (ME K m)]) [("_law_mate", 4)] rfl sc__law_loud.nd (di_list (de_v 1)) (blkOk_by (N := ["_law_chief_here", "_law_bunch", "_law_found", "_law_tooth_here", "_law_mate"]) (sc := defScope s__law_loud) (by decide +kernel)) (fun _ _ _ _ _ => pg_name (i := 4) sc__law_loud.nd rfl (by first | exact Or.inl rfl | exact Or.inr rfl)) (fun o ho => tg_name)
        (fun m hm _ _ _ _ _ => dts_one (DW.t (dw_and (dt_neE hr (de_v 4) (de_v 3)) fun _ => dw_and1 (dt_val (de_call D hr (⟨chief, t, m⟩ : A_coo) (da_cons (de_v 0) (da_cons (de_v 3) (da_cons (de_v 4) da_nil))) ⟨n, wf1 t htm, h2.1 m hm⟩)))))
        (fun m hm _ _ _ _ _ _ => de_tup [enc t, enc m] (da_cons (de_v 3) (da_cons (de_v 4) da_nil)) (by simp)) (fun _ _ => Enc.to _) (by omega)) ?len2) ?eq))) fun σ H h => h.drop 3⟩
    case len2 =>
      rw [List.length_map, List.length_map]
      have := List.length_filter_le (fun m => (!decide (m = t)) && letsB chief t m) bunch
      omega
    case eq =>
      show PyData.list _ = PyData.list ((acc ++ loudOne chief bunch t).map enc)
      unfold loudOne
      rw [List.map_append, List.map_map]
      rfl
def sp_teeth (K : PySem.W.Frag) : Sp := spM (fun a : KEY => a.length ≤ 4 ∧ ∀ d ∈ a, 0 ≤ d ∧ d ≤ 4) (fun a => [ME K a]) (fun a => ML K (teethL a))
theorem ok_teeth (T : Tx K mg) : DefOk P w K mg base "_law_teeth" 1 (sp_teeth K) := by
  obtain ⟨f, fd, F, hg⟩ := at__law_teeth T
  have B := T.bl
  refine fn_pure F sc__law_teeth hg (fun _ => rfl) (fun _ _ _ _ _ _ us hl => match us, hl with | [_], _ => rfl) fun f cdv A outer s H E deep hr hp => ?_
  obtain ⟨hl, hd4⟩ := hp
  refine ds_cons (d1_set 1 sc__law_teeth.nd (M := ML K ([[]] : KEYS)) (de_lst [enc ([] : KEY)] (da_cons (de_tup [] da_nil) da_nil) (by simp))) ?_
  refine ds_cons (d1_for (vs := [2]) (ds := deep.map enc) (g := gName 2) (Gi := fun i => EnvOk [some (ME K deep), some (ML K (teethL (deep.take i))), none, none, none, none]) (N := EnvOk [some (ME K deep), some (ML K (teethL deep)), none, none, none, none]) rfl PassesOwn.never
    (di_tup (de_v 0)) (pg_name sc__law_teeth.nd rfl (by first | exact Or.inl rfl | exact Or.inr rfl)) (fun _ _ h => h) (fun i σ H H' x h => MG.mono x h) (fun i d hd => ?body) (fun σ H h => ?fin)) (ds_ret (de_v 1))
  case fin =>
    rw [List.length_map, List.take_length] at h
    exact h
  case body =>
    rw [List.getElem?_map] at hd
    obtain ⟨high, hhi, rfl⟩ := Option.map_eq_some_iff.mp hd
    have hb := hd4 high (List.mem_of_getElem? hhi)
    have hacc : (teethL (deep.take i)).length ≤ 256 := by
      refine Nat.le_trans (teeth_len (deep.take i) [[]] fun d hd => hd4 d (List.mem_of_mem_take hd)) ?_
      have : 4 ^ (deep.take i).length ≤ 4 ^ 4 := Nat.pow_le_pow_right (by omega) (by rw [List.length_take]; omega)
      have e : (4 : Nat) ^ 4 = 256 := by decide
      simp only [List.length_singleton, Nat.one_mul]
      omega
    have hlen8 : ∀ t ∈ teethL (deep.take i), t.length ≤ 100 := by
      have : ∀ (l : KEY) (acc : KEYS) (m : Nat), (∀ t ∈ acc, t.length ≤ m) → ∀ t ∈ l.foldl teethStep acc, t.length ≤ m + l.length := by
        intro l
        induction l with
        | nil => intro acc m h t ht; exact h t ht
        | cons x l ih =>
          intro acc m h t ht
          have := ih (teethStep acc x) (m + 1) (fun t ht => by
            unfold teethStep at ht
            obtain ⟨t', ht', hc⟩ := List.mem_flatMap.mp ht
            obtain ⟨c, _, rfl⟩ := List.mem_map.mp hc
            have := h t' ht'
            simp only [List.length_append, List.length_singleton]
            omega) t ht
          simp only [List.length_cons]
          omega
      intro t ht
      have := this (deep.take i) [[]] 0 (by simp) t ht
      rw [List.length_take] at this
      omega
    have hnx : teethL (deep.take (i + 1)) = teethStep (teethL (deep.take i)) high := by
      unfold teethL
      rw [List.take_add_one, hhi, List.foldl_append]
      rfl
    rw [hnx]
    generalize teethL (deep.take i) = found at hacc hlen8 ⊢
    have hrow : ∀ t : KEY, ((upTo high).map fun c => t ++ [c]).length ≤ 4 := fun t => by
      rw [List.length_map]
      unfold upTo
      rw [List.length_map, List.length_range]
      omega
    refine ⟨EnvOk [some (ME K deep), some (ML K found), some (MI K high), none, none, none], tg_name, ?_⟩
    refine ds_cons (d1_set 3 sc__law_teeth.nd (M := ML K ([] : KEYS)) (de_lst [] da_nil)) ?_
    refine ds_cons (d1_for (vs := [4]) (ds := found.map enc) (g := gName 4) (Gi := fun j => EnvOk [some (ME K deep), some (ML K found), some (MI K high), some (ML K ((found.take j).flatMap fun t => (upTo high).map fun c => t ++ [c])), none, none]) (N := EnvOk [some (ME K deep), some (ML K found), some (MI K high), some (ML K (teethStep found high)), none, none]) rfl PassesOwn.never
      (di_list (de_v 1)) (pg_name sc__law_teeth.nd rfl (by first | exact Or.inl rfl | exact Or.inr rfl)) (fun _ _ h => h) (fun i σ H H' x h => MG.mono x h) (fun j d hj => ?body2) (fun σ H h => ?fin2)) (ds_post (ds_one (d1_set 1 sc__law_teeth.nd (de_v 3))) fun σ H h => (h.drop 2).drop 3)
    case fin2 =>
      rw [List.length_map, List.take_length] at h
      exact h
    case body2 =>
      rw [List.getElem?_map] at hj
      obtain ⟨t, htj, rfl⟩ := Option.map_eq_some_iff.mp hj
      have htm : t ∈ found := List.mem_of_getElem? htj
      have hjl : j < found.length := (List.getElem?_eq_some_iff.mp htj).1
      have hro : ((found.take j).flatMap fun t => (upTo high).map fun c => t ++ [c]).length ≤ 4000 := Nat.le_trans (flat_len _ 4 _ fun t _ => hrow t) (by rw [List.length_take]; omega)
      rw [flat_take _ htj]
      generalize ((found.take j).flatMap fun t => (upTo high).map fun c => t ++ [c]) = rows at hro ⊢
      refine ⟨EnvOk [some (ME K deep), some (ML K found), some (MI K high), some (ML K rows), some (ME K t), none], tg_name, ds_post (ds_one (d1_set 3 sc__law_teeth.nd (DE.to (de_catL (de_v 3) (de_lc0 (upTo high) enc (fun c => enc (t ++ [c])) (fun c => [some (ME K deep), some (ML K found), some (MI K high), some (ML K rows), some (ME K t), some (MI K c)]) [("_law_cut", 5)] rfl sc__law_teeth.nd ((di_range B.range (de_v 2) hb.1 (by omega)).to ?rg) (blkOk_by (N := ["_law_deep_here", "_law_found", "_law_high_so", "_law_rows_so", "_law_tooth_here", "_law_cut"]) (sc := defScope s__law_teeth) (by decide +kernel)) (fun _ _ _ _ _ => pg_name (i := 5) sc__law_teeth.nd rfl (by first | exact Or.inl rfl | exact Or.inr rfl)) (fun o ho => tg_name)
          (fun c hc _ _ _ _ _ => DE.to (de_catT (de_v 4) (de_tup [enc c] (da_cons (de_v 5) da_nil) (by simp)) (by rw [List.length_map]; have := hlen8 t htm; simp only [List.length_singleton]; omega)) ?cat) (fun _ _ => Enc.to _) ?l3) ?l4) ?eq2))) fun σ H h => h.drop 4⟩
      case rg =>
        unfold rangeD upTo
        rw [List.map_map]
        rfl
      case cat =>
        show PyData.tuple _ = PyData.tuple ((t ++ [c]).map enc)
        rw [List.map_append]
        rfl
      case l3 =>
        have := hrow t
        rw [List.length_map] at this
        omega
      case l4 =>
        have := hrow t
        rw [List.length_map] at this ⊢
        rw [List.length_map]
        omega
      case eq2 =>
        show PyData.list _ = PyData.list ((rows ++ (upTo high).map fun c => t ++ [c]).map enc)
        rw [List.map_append, List.map_map]
        rfl
/-- every key's cuts have names -/
def NamesOk (n : Nat) (names : NAMES) (ks : KEYS) : Prop := names.length = n ∧ ∀ k ∈ ks, k.length = n ∧ ∀ p, p < n → 0 ≤ k.getD p 0 ∧ (k.getD p 0).toNat < (names.getD p []).length
structure A_nk where
  n : Nat
  names : NAMES
  ks : KEYS
def sp_named (K : PySem.W.Frag) : Sp := spM (fun a : A_nk => NamesOk a.n a.names a.ks ∧ 1 ≤ a.n ∧ a.n ≤ 100 ∧ a.ks.length ≤ 1000) (fun a => [MP.d K (namesD a.names), ME K a.ks]) (fun a => ME K (namedK a.names a.ks))
theorem ok_named (T : Tx K mg) : DefOk P w K mg base "_law_named" 1 (sp_named K) := by
  obtain ⟨f, fd, F, hg⟩ := at__law_named T
  have B := T.bl
  refine fn_pure F sc__law_named hg (fun _ => rfl) (fun _ _ _ _ _ _ us hl => match us, hl with | [_, _], _ => rfl) fun f cdv A outer s H E a hr hp => ?_
  obtain ⟨n, names, ks⟩ := a
  obtain ⟨⟨h1, h2⟩, h3, h4, h5⟩ := hp
  have h1 : names.length = n := h1
  have h2 : ∀ k ∈ ks, k.length = n ∧ ∀ p, p < n → 0 ≤ k.getD p 0 ∧ (k.getD p 0).toNat < (names.getD p []).length := h2
  have h3 : 1 ≤ n := h3
  have h4 : n ≤ 100 := h4
  have h5 : ks.length ≤ 1000 := h5
  refine ds_ret (de_tupleL B.tuple (de_sortK (n := n) hr B.sorted h3 (fun k hk => ?wl) (by rw [List.length_map]; omega) (.inl (DE.to (de_lc0 ks enc (fun k => enc (renK names k)) (fun k => [some (MP.d K (namesD names)), some (ME K ks), none, none, some (ME K k)]) [("_law_tooth_here", 4), ("_law_k", 2), ("_law_cut", 3)] rfl sc__law_named.nd (di_tup (de_v 1)) (blkOk_by (N := ["_law_names_so", "_law_bunch", "_law_k", "_law_cut", "_law_tooth_here"]) (sc := defScope s__law_named) (by decide +kernel)) (fun _ _ _ _ _ => pg_name (i := 4) sc__law_named.nd rfl (by first | exact Or.inl rfl | exact Or.inr rfl)) (fun o ho => tg_name)
    (fun k hk _ _ _ _ _ => ?el) (fun _ _ => Enc.to _) (by omega)) ?e0))))
  case wl =>
    obtain ⟨k', hk', rfl⟩ := List.mem_map.mp hk
    rw [renK_len]
    exact (h2 k' hk').1
  case e0 => rw [List.map_map]; rfl
  case el =>
    obtain ⟨hkl, hkb⟩ := h2 k hk
    refine DE.to (de_tupleL B.tuple (de_lc0 (List.range k.length) (fun p => .tuple [.int (p : Int), enc (k.getD p 0)]) (fun p => enc ((names.getD p []).getD (k.getD p 0).toNat 0)) (fun p => [some (MP.d K (namesD names)), some (ME K ks), some (ME K p), some (ME K (k.getD p 0)), some (ME K k)]) [("_law_k", 2), ("_law_cut", 3)] rfl sc__law_named.nd
      ((di_enumT B.enumerate (de_v 4)).to (enumD_enc k 0)) (blkOk_by (by kernel_rfl)) (fun _ _ _ _ _ => pg_tup rfl (pgs_cons (pg_name (i := 2) sc__law_named.nd rfl (by first | exact Or.inl rfl | exact Or.inr rfl)) (pgs_cons (pg_name (i := 3) sc__law_named.nd rfl (by first | exact Or.inl rfl | exact Or.inr rfl)) pgs_nil))) (fun o ho => tg_tup (js := [2, 3]) rfl)
      (fun p hp _ _ _ _ _ => ?inn) (fun _ _ => Enc.to _) (by rw [List.length_range]; omega))) ?e1
    case inn =>
      have hp := List.mem_range.mp hp
      have hb := hkb p (by omega)
      refine de_ixL (k.getD p 0).toNat (ds := (names.getD p []).map .int) (de_ixL p (ds := names.map fun l => .list (l.map .int)) (d := .list ((names.getD p []).map .int)) (de_v 0) (de_v 2) rfl ?g1) (de_v 3) ?g2 ?g3
      case g1 =>
        rw [List.getElem?_map, List.getElem?_eq_getElem (by omega), List.getD_eq_getElem?_getD, List.getElem?_eq_getElem (by omega)]
        rfl
      case g2 => omega
      case g3 => exact get_enc hb.2 0
    case e1 =>
      show PyData.tuple _ = PyData.tuple ((renK names k).map enc)
      unfold renK
      rw [List.map_map]
      rfl
end
end K78

-- part KL3
set_option Elab.async false
set_option linter.all false
set_option maxRecDepth 100000
set_option maxHeartbeats 4000000
/-! KL3: _law_take, _law_of, _law_tooth, _law_deep. -/
namespace K78
open PySem PySem.Spec PyProof.Rows L2
open Evl (Ex ex_t ex_l ex_rd fresh_back)
open Enc (enc)
def dig (top : Int) (d : PyData) : Prop := ∃ i, d = .int i ∧ (0 ≤ i ∧ i < top)
/-- some x with φ -/
def MEx (K : PySem.W.Frag) {α : Type} [Enc α] (φ : α → Prop) : MP := ⟨fun v H => ∃ x, φ x ∧ (ME K x).P v H, fun x ⟨a, h, p⟩ => ⟨a, h, (ME K a).mono x p⟩⟩
theorem gb_ex {K : PySem.W.Frag} {α : Type} [Enc α] {φ : α → Prop} {B : Hp} {Γ : En} {i : Nat} {σ : L2.St} {H : Hp} (hi : i < Γ.length) (g : GB B (Γ.set i (some (MEx K φ))) σ H) : ∃ x, φ x ∧ GB B (Γ.set i (some (ME K x))) σ H := by
  obtain ⟨xb, g⟩ := g
  obtain ⟨v, e, x, hx, p⟩ := g.get i _ (List.getElem?_set_self hi)
  refine ⟨x, hx, xb, ⟨by rw [g.len, List.length_set, List.length_set], fun j M h => ?_⟩⟩
  by_cases hj : i = j
  · subst hj
    rw [List.getElem?_set_self hi] at h
    cases h
    exact ⟨v, e, p⟩
  · rw [List.getElem?_set_ne hj] at h
    exact g.get j M (by rw [List.getElem?_set_ne hj]; exact h)
section
variable {P : Program} {w : World} {K : PySem.W.Frag} {mg : Str → Option Value} {base : Heap}
def sp_take (K : PySem.W.Frag) : Sp := spB (fun top : Int => 0 < top ∧ top < 2 ^ 29) 1 (fun top => [MI K top]) (fun top => MSat K (dig top))
theorem ok_take (T : Tx K mg) : DefOk P w K mg base "_law_take" 1 (sp_take K) := by
  obtain ⟨f, fd, F, hg⟩ := at__law_take T
  have B := T.bl
  refine fn_box F sc__law_take hg (fun _ => rfl) (fun _ _ _ _ _ _ us hl => match us, hl with | [_, _], _ => rfl) fun f cdv A outer s H E top BB b n hr hp hB hn => ?_
  obtain ⟨ht1, ht2⟩ := hp
  have hn : n + 1 ≤ 2 ^ 40 := hn
  refine hs_pre (G := fun σ H => ∃ x y z : Int, (33 ≤ y ∧ 0 ≤ z ∧ z ≤ (n : Int)) ∧ GB BB [some (MLat K b [.int x, .int y, .int z]), some ((MI K top).at BB), none, none, none, none] σ H) (hs_ex fun x => hs_ex fun y => hs_ex fun z => hs_pure fun hz => ?_) (fun σ H g => ?pre)
  case pre =>
    obtain ⟨v, ev, hv⟩ := g.2.get 0 _ rfl
    obtain ⟨rfl, x, y, z, h, h0, h1, h2⟩ := hv
    refine ⟨x, y, z, ⟨h0, h1, h2⟩, g.1, ⟨g.2.len, fun j M e => ?_⟩⟩
    cases j with
    | zero =>
      cases e
      exact ⟨_, ev, rfl, _, h, .cons (.int _) (.cons (.int _) (.cons (.int _) .nil))⟩
    | succ j => exact g.2.get (j + 1) M e
  have fin : ∀ {σ H} {Γ : En} {x y z : Int}, GB BB Γ σ H → Γ[0]? = some (some (MLat K b [.int x, .int y, .int z])) → 33 ≤ y → 0 ≤ z → z ≤ (n : Int) + 1 → Ex BB H ∧ (MBox b (n + 1)).P (.ref b) H := fun {σ H Γ x y z} g h0 hy h1 h2 => by
    obtain ⟨v, ev, hv⟩ := g.2.get 0 _ h0
    obtain ⟨rfl, us, h, hd⟩ := hv
    refine ⟨g.1, rfl, x, y, z, ?_, hy, h1, by omega⟩
    have e := DpAll.ints (ns := [x, y, z]) hd
    rw [h, e]
    rfl
  have bx : ∀ {X : Cx} {Γ : En} {x y z : Int} (p : Pos) (hK : X.K = K) (hd : DE X (EnvOk Γ) (.Name "_law_box_here" p) (MLat X.K b [.int x, .int y, .int z])), DE X (EnvOk Γ) (.Name "_law_box_here" p) (MP.d X.K (.list [.int x, .int y, .int z])) := fun p hK hd => hd.cast fun v H q => MLat.dp q
  refine hs_cons (h1_if (k := decide (0 < x)) (dt_gb (dt_gt (de_ixL 0 ((de_v 0).cast fun v H q => MLat.dp q) de_int rfl rfl) de_int)) (fun e => ?big) fun e => hs_nil fun _ _ g => g) ?_
  case big =>
    refine hs_cons (h1_of (Γ' := [some (MLat K b [.int x, .int y, .int z]), some ((MI K top).at BB), some (MI K (x % top)), none, none, none]) (d1_set 2 sc__law_take.nd (de_mod (de_intI B.int (de_ixL 0 ((de_v 0).cast fun v H q => MLat.dp q) de_int rfl rfl)) (de_v0 1) ht1))) ?_
    refine hs_cons (h1_setL 0 (L := b) (j := 0) (d := .int (x / top)) rfl hB (de_v 0) de_int (de_fdiv (de_ixL 0 ((de_v 0).cast fun v H q => MLat.dp q) de_int rfl rfl) (de_v0 1) ⟨ht1, by omega⟩) (by show 0 < 3; omega) rfl rfl (.skip (.cons (stb_at hB) (.cons (stb_d rfl) (.skip (.skip (.skip .nil))))))) ?_
    refine hs_one (h1_ret (M := MI K (x % top)) (de_gb (de_v 2)) fun v σ H H' g xx p => ?_)
    obtain ⟨h1, h2⟩ := fin (MG.mono xx g) rfl hz.1 hz.2.1 (by omega)
    exact ⟨h1, h2, .int (x % top), ⟨_, rfl, Int.emod_nonneg _ (by omega), Int.emod_lt_of_pos _ ht1⟩, rfl, p⟩
  have hz2 := hz.2.2
  have hz1 := hz.2.1
  refine hs_cons (h1_setL 0 (L := b) (j := 2) (d := .int (z + 1)) rfl hB (de_v 0) de_int (de_add (de_ixL 2 ((de_v 0).cast fun v H q => MLat.dp q) de_int rfl rfl) de_int) (by show 2 < 3; omega) rfl rfl (.skip (.cons (stb_at hB) (.skip (.skip (.skip (.skip .nil))))))) ?_
  show HS _ (GB BB [some (MLat K b [.int x, .int y, .int (z + 1)]), some ((MI K top).at BB), none, none, none, none]) _ _ _
  refine hs_cons (h1_of (Γ' := [some (MLat K b [.int x, .int y, .int (z + 1)]), some ((MI K top).at BB), none, some (MI K (((y + 48271 * (z + 1)) * (39373 + (z + 1))) % 2147483647)), none, none]) (d1_set 3 sc__law_take.nd (de_mod (de_intI B.int (de_mul (de_add (de_ixL 1 ((de_v 0).cast fun v H q => MLat.dp q) de_int rfl rfl) (de_mul de_int (de_ixL 2 ((de_v 0).cast fun v H q => MLat.dp q) de_int rfl rfl) (.inl (by decide)))) (de_add de_int (de_ixL 2 ((de_v 0).cast fun v H q => MLat.dp q) de_int rfl rfl)) (.inr ⟨by omega, by omega⟩))) de_int (by decide)))) ?_
  generalize ho : ((y + 48271 * (z + 1)) * (39373 + (z + 1))) % 2147483647 = once
  refine hs_cons (h1_of (Γ' := [some (MLat K b [.int x, .int y, .int (z + 1)]), some ((MI K top).at BB), none, some (MI K once), some (MI K (once % 40009 + 7)), none]) (d1_set 4 sc__law_take.nd (de_add (de_mod (de_intI B.int (de_v 3)) de_int (by decide)) de_int))) ?_
  have hf1 : 0 ≤ once % 40009 := Int.emod_nonneg _ (by decide)
  have hf2 : once % 40009 < 40009 := Int.emod_lt_of_pos _ (by decide)
  have hf3 : 0 ≤ once % 40009 + 7 ∧ once % 40009 + 7 < 100000 := by omega
  generalize once % 40009 + 7 = far at hf3 ⊢
  refine hs_cons (h1_of (Γ' := [some (MLat K b [.int x, .int y, .int (z + 1)]), some ((MI K top).at BB), none, some (MI K once), some (MI K far), some (MI K (((once + (z + 1) + y / 1000003) * far) % 2147483629))]) (d1_set 5 sc__law_take.nd (de_mod (de_intI B.int (de_mul (de_add (de_add (de_v 3) (de_ixL 2 ((de_v 0).cast fun v H q => MLat.dp q) de_int rfl rfl)) (de_fdiv (de_ixL 1 ((de_v 0).cast fun v H q => MLat.dp q) de_int rfl rfl) de_int ⟨by decide, by decide⟩)) (de_v 4) (.inr ⟨?f1, ?f2⟩))) de_int (by decide)))) ?_
  case f1 => omega
  case f2 => omega
  generalize ((once + (z + 1) + y / 1000003) * far) % 2147483629 = twice
  refine hs_one (h1_ret (M := MI K (((twice * 48271 + once) % 2147483587 / 64) % top)) (de_gb (de_mod (de_intI B.int (de_fdiv (de_mod (de_intI B.int (de_add (de_mul (de_v 5) de_int (.inr (by decide))) (de_v 3))) de_int (by decide)) de_int ⟨by decide, by decide⟩)) (de_v0 1) ht1)) fun v σ H H' g xx p => ?_)
  obtain ⟨h1, h2⟩ := fin (MG.mono xx g) rfl hz.1 (by omega) (by omega)
  exact ⟨h1, h2, .int _, ⟨_, rfl, Int.emod_nonneg _ (by omega), Int.emod_lt_of_pos _ ht1⟩, rfl, p⟩
/-! ### a tooth -/
def KeyIn (deep : KEY) (k : KEY) : Prop := k.length = deep.length ∧ ∀ p, p < deep.length → 0 ≤ k.getD p 0 ∧ k.getD p 0 < deep.getD p 0
def DeepOk (deep : KEY) : Prop := 1 ≤ deep.length ∧ deep.length ≤ 4 ∧ ∀ d ∈ deep, 2 ≤ d ∧ d ≤ 4
theorem paired_ints {deep : KEY} : ∀ {ds : List PyData}, Paired dig deep ds → ∃ k : KEY, ds = k.map .int ∧ KeyIn deep k := by
  induction deep with
  | nil => intro ds h; cases h; exact ⟨[], rfl, rfl, fun p hp => absurd hp (Nat.not_lt_zero p)⟩
  | cons d deep ih =>
    intro ds h
    cases h with
    | cons h1 h2 =>
      obtain ⟨i, rfl, hi⟩ := h1
      obtain ⟨k, rfl, hk1, hk2⟩ := ih h2
      refine ⟨i :: k, rfl, by simp [hk1], fun p hp => ?_⟩
      cases p with
      | zero => exact hi
      | succ p => exact hk2 p (by simpa using hp)
theorem take_arg {b : Addr} {top : Int} (h : 0 < top ∧ top < 2 ^ 29) : ∀ us H, NT H b → AllP [MI K top] us H → ∃ y : Int, (0 < y ∧ y < 2 ^ 29) ∧ AllP [MI K y] us (del b H) ∧ ∀ v H', (MSat K (dig y)).P v H' → (MSat K (dig top)).P v H' := fun us H n p => ⟨top, h, by
  cases p with
  | cons h1 h2 =>
    cases h2
    exact .cons (std_d rfl _ _ n h1) .nil, fun v H' p => p⟩
end
/-- a list, a tuple of data with φ -/
def MSL (K : PySem.W.Frag) (φ : List PyData → Prop) : MP := ⟨fun v H => ∃ ds, φ ds ∧ tO.tOs ds = true ∧ Dp K H v (.list ds), fun x ⟨ds, h, t, p⟩ => ⟨ds, h, t, Dp.mono x _ _ p⟩⟩
def MST (K : PySem.W.Frag) (φ : List PyData → Prop) : MP := ⟨fun v H => ∃ ds, φ ds ∧ tO.tOs ds = true ∧ Dp K H v (.tuple ds), fun x ⟨ds, h, t, p⟩ => ⟨ds, h, t, Dp.mono x _ _ p⟩⟩
section
variable {X : Cx} {B : Hp} {b : Addr} {Γ Γ' : En} {e : Expr} {pos p : Pos}
theorem de_ref {n : Nat} {x : Str} (h : Γ[0]? = some (some (MBox b n)) := by rfl) (hN : X.N[0]? = some x := by rfl) (hv : Vis X.env.scope x := by first | exact Or.inl rfl | exact Or.inr (Or.inl rfl) | exact Or.inr (Or.inr rfl)) (hd : (x == ("__debug__" : Str)) = false := by decide)
    (hcd : (x == ("__classdict__" : Str)) = false := by decide) : DE X (EnvOk Γ) (.Name x p) (MRef b) := (de_v (M := MBox b n) 0 h hN hv hd hcd).cast fun v H q => q.1
/-- t[e], e changes the box -/
theorem eb_ixT {α : Type} [Enc α] {l : List α} {a e2 : Expr} (hb0 : BoxIn b Γ) (ha : DE X (EnvOk Γ) a (ME X.K l)) (hb : EB X B b Γ e2 Γ' (MSat X.K (dig l.length))) (hs : PlainIx e2 := by exact fun _ _ => rfl) : EB X B b Γ (.Subscript a e2 pos) Γ' (MEx X.K (fun x : α => x ∈ l)) :=
  eb_of (pe_ix ix_tup ha hb hs) fun σ H Q g q => ⟨g.2, fun v H1 x1 p1 => ⟨MG.mono x1 g, fun u H2 k2 g2 p2 => by
    have p1' := stk_d (Enc.to l) v H1 H2 (boxin_nt hb0 (MG.mono x1 g)) k2 p1
    obtain ⟨t, us, rfl, hq, hd⟩ := dp_tup p1'
    obtain ⟨d, ⟨i, rfl, h1, h2⟩, _, pd⟩ := p2
    have hlt : i.toNat < l.length := by omega
    obtain ⟨y, ey, py⟩ := hd.get' (i := i.toNat) (d := enc l[i.toNat]) (by rw [List.getElem?_map, List.getElem?_eq_getElem hlt]; rfl)
    have hi : i = ((i.toNat : Nat) : Int) := by omega
    exact ⟨t, us, i, y, rfl, dp_int pd, hq, by rw [hi]; exact atI_nat ey, q _ H2 ((Kp.ex x1).trans k2) g2 ⟨_, List.getElem_mem hlt, py⟩⟩⟩⟩
theorem eb_tupleS {φ : List PyData → Prop} (hm : X.mg "tuple" = none) (h : EB X B b Γ e Γ' (MSL X.K φ)) (hg : Gl X "tuple" := by rfl) (hs2 : starEach [e] X.env = (false, eval e X.env) :: starEach [] X.env := by rfl) : EB X B b Γ (.Call (.Name "tuple" p) [e] [] pos) Γ' (MST X.K φ) :=
  eb_callTy1 call_tuple_of (fun vs H Q p q => by
    obtain ⟨v, rfl, ds, h, ht, hp⟩ := allP1 p
    obtain ⟨a, us, rfl, hq, hd⟩ := dp_lst hp
    exact ⟨a, us, rfl, .inl ⟨hq, fun l hl => q _ _ (Ex.new hl) ⟨ds, h, ht, dp_newT hl hd⟩⟩⟩) hm bt_tuple h hg (by decide) (by decide) hs2
end
section
variable {P : Program} {w : World} {K : PySem.W.Frag} {mg : Str → Option Value} {base : Heap}
def sp_tooth (K : PySem.W.Frag) : Sp := spB DeepOk 10 (fun deep => [ME K deep]) (fun deep => MEx K (KeyIn deep))
theorem ok_tooth (T : Tx K mg) : DefOk P w K mg base "_law_tooth" 2 (sp_tooth K) := by
  obtain ⟨f, fd, F, hg⟩ := at__law_tooth T
  have B := T.bl
  have D := ok_take (P := P) (w := w) (base := base) T
  refine fn_box F sc__law_tooth hg (fun _ => rfl) (fun _ _ _ _ _ _ us hl => match us, hl with | [_, _], _ => rfl) fun f cdv A outer s H E deep BB b n hr hp hB hn => ?_
  obtain ⟨h1, h2, h3⟩ := hp
  have hn : n + 10 ≤ 2 ^ 40 := hn
  refine hs_one (h1_retE (M := MST K (Paired dig deep)) (Γ' := [some (MBox b (n + deep.length * 1)), some ((ME K deep).at BB), none]) (eb_tupleS B.tuple (EC.eb (ec_lc (n := n) (c := 1) deep enc dig (fun i d => [some (MBox b (n + i * 1)), some ((ME K deep).at BB), some (MI K d)]) (fun i d => [some (MBox b (n + i * 1 + 1)), some ((ME K deep).at BB), some (MI K d)]) [("_law_high_so", 2)] rfl sc__law_tooth.nd rfl hB (itb_of (dt_tup (de_gb (de_v0 1)) (encs_to deep))) (blkOk_by (N := ["_law_box_here", "_law_deep_here", "_law_high_so"]) (sc := defScope s__law_tooth) (by decide +kernel)) (fun _ _ _ _ _ => pg_name (i := 2) sc__law_tooth.nd rfl (by first | exact Or.inl rfl | exact Or.inr rfl)) (.skip (.cons (stb_at hB) (.skip .nil)))
    (fun i d hd => tg_name) (fun i d hd _ _ _ _ _ => ?el) (fun i d hd => by show some (some (MBox b (n + i * 1 + 1))) = _; rw [Nat.add_mul, Nat.add_assoc]) (by omega)))) fun v σ H' g p => ?fin)
  case el =>
    have hdm := h3 d (List.mem_of_getElem? hd)
    have hil : i < deep.length := (List.getElem?_eq_some_iff.mp hd).1
    exact eb_call (Ms := [MI K d]) (n := n + i * 1) D hr (aeb_pure ⟨_, rfl⟩ de_ref (aeb_pure ⟨_, rfl⟩ (de_v 2) aeb_nil (stk_d rfl)) stk_ref) rfl (by show _ ≤ 2 ^ 40; omega) hB (take_arg ⟨by omega, by omega⟩) (.skip (.cons (stb_at hB) (.cons (stb_d rfl) .nil)))
  case fin =>
    obtain ⟨ds, hd, _, hp⟩ := p
    obtain ⟨k, rfl, hk⟩ := paired_ints hd
    obtain ⟨v0, _, hb0⟩ := g.2.get 0 _ rfl
    obtain ⟨rfl, _⟩ := id hb0
    exact ⟨g.1, mbox_le hb0 (by omega), k, hk, hp⟩
def sp_of (K : PySem.W.Frag) : Sp := spB (fun ks : KEYS => 1 ≤ ks.length ∧ ks.length ≤ 100) 1 (fun ks => [ME K ks]) (fun ks => MEx K (fun k => k ∈ ks))
theorem ok_of (T : Tx K mg) : DefOk P w K mg base "_law_of" 2 (sp_of K) := by
  obtain ⟨f, fd, F, hg⟩ := at__law_of T
  have B := T.bl
  have D := ok_take (P := P) (w := w) (base := base) T
  refine fn_box F sc__law_of hg (fun _ => rfl) (fun _ _ _ _ _ _ us hl => match us, hl with | [_, _], _ => rfl) fun f cdv A outer s H E ks BB b n hr hp hB hn => ?_
  obtain ⟨h1, h2⟩ := hp
  have hn : n + 1 ≤ 2 ^ 40 := hn
  refine hs_one (h1_retE (M := MEx K (fun k => k ∈ ks)) (Γ' := [some (MBox b (n + 1)), some ((ME K ks).at BB)]) (eb_ixT (l := ks) ⟨_, rfl⟩ (de_v0 1) (eb_call (Ms := [MI K (ks.length : Int)]) (n := n) D hr (aeb_pure ⟨_, rfl⟩ de_ref (aeb_pure ⟨_, rfl⟩ (de_lenE B.len (de_v0 1)) aeb_nil (stk_d rfl)) stk_ref) rfl (by show _ ≤ 2 ^ 40; omega) hB (take_arg ⟨by omega, by omega⟩) (.skip (.cons (stb_at hB) .nil)))) fun v σ H' g p => ?fin)
  obtain ⟨v0, _, hb0⟩ := g.2.get 0 _ rfl
  obtain ⟨rfl, _⟩ := id hb0
  exact ⟨g.1, hb0, p⟩
end
end K78

-- part KL4
set_option Elab.async false
set_option linter.all false
set_option maxRecDepth 100000
set_option maxHeartbeats 4000000
/-! KL4: _law_deep, _law_chief. -/
namespace K78
open PySem PySem.Spec PyProof.Rows L2
open Evl (Ex ex_t ex_l ex_rd fresh_back)
open Enc (enc)
def two3 (d : PyData) : Prop := ∃ j, d = .int (2 + j) ∧ (0 ≤ j ∧ j < 3)
theorem paired_two3 {γ : Type} : ∀ {zs : List γ} {ds : List PyData}, Paired (fun _ => two3) zs ds → ∃ k : KEY, ds = k.map .int ∧ k.length = zs.length ∧ ∀ d ∈ k, 2 ≤ d ∧ d ≤ 4
  | _, _, .nil => ⟨[], rfl, rfl, by simp⟩
  | _, _, .cons ⟨j, e, hj⟩ t => by
    obtain ⟨k, rfl, h1, h2⟩ := paired_two3 t
    subst e
    refine ⟨(2 + j) :: k, rfl, by simp [h1], fun d hd => ?_⟩
    rcases List.mem_cons.mp hd with rfl | hd
    · omega
    · exact h2 d hd
section
variable {P : Program} {w : World} {K : PySem.W.Frag} {mg : Str → Option Value} {base : Heap}
theorem msat_num {lo M : Nat} {c : Int} (hc : c = (lo : Int)) {top : Int} (hM : (lo : Int) + top ≤ (M : Int) + 1) : ∀ v H, (MSat K fun d => ∃ j, d = .int (c + j) ∧ (0 ≤ j ∧ j < top)).P v H → (MSat K fun d => ∃ m : Nat, d = .int (m : Int) ∧ (lo ≤ m ∧ m ≤ M) ∧ m ≤ M).P v H := by
  rintro v H ⟨d, ⟨j, rfl, h1, h2⟩, ht, p⟩
  refine ⟨_, ⟨(c + j).toNat, ?_, ⟨by omega, by omega⟩, by omega⟩, ht, p⟩
  rw [show (((c + j).toNat : Nat) : Int) = c + j by omega]
def sp_deep (K : PySem.W.Frag) : Sp := spB (fun _ : Unit => True) 10 (fun _ => [MI K 4, MI K 4]) (fun _ => MEx K DeepOk)
theorem ok_deep (T : Tx K mg) : DefOk P w K mg base "_law_deep" 2 (sp_deep K) := by
  obtain ⟨f, fd, F, hg⟩ := at__law_deep T
  have B := T.bl
  have D := ok_take (P := P) (w := w) (base := base) T
  refine fn_box F sc__law_deep hg (fun _ => rfl) (fun _ _ _ _ _ _ us hl => match us, hl with | [_, _, _], _ => rfl) fun f cdv A outer s H E u BB b n hr hp hB hn => ?_
  have hn : n + 10 ≤ 2 ^ 40 := hn
  refine hs_one (h1_retE (M := MST K (fun ds => ∃ m, (1 ≤ m ∧ m ≤ 4) ∧ m ≤ (List.range 4).length ∧ Paired (fun _ => two3) ((List.range 4).take m) ds)) (Γ' := [some (MBox b (n + 1 + (List.range 4).length * 1)), some ((MI K 4).at BB), some ((MI K 4).at BB), none]) (eb_tupleS B.tuple (eb_cast (EC.eb (ec_lcM (Γ := [some (MBox b (n + 1)), some ((MI K 4).at BB), some ((MI K 4).at BB), none]) (n := n + 1) (c := 1) (fun m => 1 ≤ m ∧ m ≤ 4) (List.range 4) enc (fun _ => two3) (fun i d => [some (MBox b (n + 1 + i * 1)), some ((MI K 4).at BB), some ((MI K 4).at BB), some (ME K d)]) (fun i d => [some (MBox b (n + 1 + i * 1 + 1)), some ((MI K 4).at BB), some ((MI K 4).at BB), some (ME K d)]) [("_law_lap", 3)] rfl sc__law_deep.nd rfl hB
    (dm_range (M := 4) B.range (eb_cast (eb_addI (i := 1) (φ := fun j => 0 ≤ j ∧ j < 4) de_int (eb_call (Ms := [MI K 4]) (n := n) D hr (aeb_pure ⟨_, rfl⟩ de_ref (aeb_pure ⟨_, rfl⟩ (de_v0 1) aeb_nil (stk_d rfl)) stk_ref) rfl (by show _ ≤ 2 ^ 40; omega) hB (take_arg ⟨by decide, by decide⟩) (.skip (.cons (stb_at hB) (.cons (stb_at hB) (.skip .nil)))))) (msat_num (lo := 1) (M := 4) (top := 4) rfl (by decide))) (by decide))
    (blkOk_by (N := ["_law_box_here", "_law_pins", "_law_most", "_law_lap"]) (sc := defScope s__law_deep) (by decide +kernel)) (fun _ _ _ _ _ => pg_name (i := 3) sc__law_deep.nd rfl (by first | exact Or.inl rfl | exact Or.inr rfl)) (.skip (.cons (stb_at hB) (.cons (stb_at hB) (.skip .nil)))) (fun i d hd => tg_name)
    (fun i d hd _ _ _ _ _ => ?el) (fun i d hd => by show some (some (MBox b (n + 1 + i * 1 + 1))) = _; rw [Nat.add_mul, Nat.add_assoc]) (by decide))) fun v H p => ?ca)) fun v σ H' g p => ?fin)
  case el =>
    have hil : i < 4 := by have := (List.getElem?_eq_some_iff.mp hd).1; simpa using this
    exact eb_addI (i := 2) (φ := fun j => 0 ≤ j ∧ j < 3) de_int (eb_call (Ms := [MI K 3]) (n := n + 1 + i * 1) D hr (aeb_pure ⟨_, rfl⟩ de_ref (aeb_pure ⟨_, rfl⟩ (DE.to (de_sub (i := 4) (j := 1) (de_v0 2) de_int) rfl) aeb_nil (stk_d rfl)) stk_ref) rfl (by show _ ≤ 2 ^ 40; omega) hB (take_arg ⟨by decide, by decide⟩) (.skip (.cons (stb_at hB) (.cons (stb_at hB) (.cons (stb_d rfl) .nil)))))
  case ca =>
    obtain ⟨m, ds, h1, h2, h3, h4, h5⟩ := p
    exact ⟨ds, ⟨m, h1, h2, h3⟩, h4, h5⟩
  case fin =>
    obtain ⟨ds, ⟨m, hm, hml, hd⟩, _, hp⟩ := p
    obtain ⟨k, rfl, hk, hk2⟩ := paired_two3 hd
    obtain ⟨v0, _, hb0⟩ := g.2.get 0 _ rfl
    obtain ⟨rfl, _⟩ := id hb0
    rw [List.length_take, List.length_range] at hk
    exact ⟨g.1, mbox_le hb0 (by rw [List.length_range]; omega), k, ⟨by omega, by omega, hk2⟩, hp⟩
end
/-! ### the chief: sorted(set([..])) of teeth -/
theorem dp_keys {K : PySem.W.Frag} {H : Hp} {keys : KEYS} : ∀ {vs : List V}, DpAll K H vs (keys.map enc) → ∃ L : List (Addr × List Int), vs = L.map (fun p => V.ref p.1) ∧ L.map (·.2) = keys ∧ ∀ p ∈ L, SqT K H p.1 (p.2.map V.int) := by
  induction keys with
  | nil => intro vs h; cases h; exact ⟨[], rfl, rfl, by simp⟩
  | cons k keys ih =>
    intro vs h
    cases h with
    | cons h1 h2 =>
      obtain ⟨L, rfl, e1, e2⟩ := ih h2
      obtain ⟨a, xs, rfl, hq, hd⟩ := dp_tup h1
      have e := DpAll.ints hd
      subst e
      refine ⟨(a, k) :: L, rfl, by simp [e1], fun p hp => ?_⟩
      rcases List.mem_cons.mp hp with rfl | hp
      · exact hq
      · exact e2 p hp
theorem keys_dp {K : PySem.W.Frag} {H : Hp} : ∀ (L : List (Addr × List Int)), (∀ p ∈ L, SqT K H p.1 (p.2.map V.int)) → DpAll K H (L.map fun p => V.ref p.1) ((L.map (·.2)).map enc)
  | [], _ => .nil
  | p :: L, h => .cons (.tup (h p List.mem_cons_self) (DpAll.ofInts _)) (keys_dp L fun q hq => h q (List.mem_cons_of_mem _ hq))
theorem nodup_sub_len {α : Type} [DecidableEq α] : ∀ {l m : List α}, l.Nodup → (∀ x ∈ l, x ∈ m) → l.length ≤ m.length
  | [], _, _, _ => Nat.zero_le _
  | x :: l, m, hn, hs => by
    obtain ⟨h1, h2⟩ := List.nodup_cons.mp hn
    have hx := hs x List.mem_cons_self
    have := nodup_sub_len (m := m.erase x) h2 fun y hy => by
      have hne : y ≠ x := fun e => h1 (e ▸ hy)
      exact (List.mem_erase_of_ne hne).mpr (hs y (List.mem_cons_of_mem _ hy))
    rw [List.length_erase_of_mem hx] at this
    have hp : 0 < m.length := List.length_pos_of_mem hx
    rw [List.length_cons]
    omega
/-- lists of keys with ψ -/
def KsP (ψ : KEYS → Prop) (ds : List PyData) : Prop := ∃ ks : KEYS, ds = ks.map enc ∧ ψ ks
def MSetT (K : PySem.W.Frag) (P : Program) (w : World) (ψ : KEYS → Prop) : MP := ⟨fun v H => ∃ (a : Addr) (L : List (Addr × List Int)), v = .ref a ∧ H a = some (SetTO P w a L) ∧ (∀ p ∈ L, SqT K H p.1 (p.2.map V.int)) ∧ ∃ ks, ψ ks ∧ (∀ p ∈ L, p.2 ∈ ks) ∧ ∀ k ∈ ks, k ∈ L.map (fun q : Addr × List Int => q.2), fun x ⟨a, L, e, h, s, r⟩ => ⟨a, L, e, x _ _ h, fun p hp => ex_t x (s p hp), r⟩⟩
/-- what is left of ks when its doubles are gone -/
def Dedup (ψ : KEYS → Prop) (ks' : KEYS) : Prop := ∃ ks, ψ ks ∧ ks'.Nodup ∧ (∀ k ∈ ks', k ∈ ks) ∧ ∀ k ∈ ks, k ∈ ks'
section
variable {X : Cx} {B : Hp} {b : Addr} {Γ Γ' : En} {e : Expr} {pos p : Pos}
theorem eb_setT {ψ : KEYS → Prop} {k : Nat} (hr : Room k X.A) (hc : X.calm = true) (hm : X.mg "set" = none) (hl : ∀ ks, ψ ks → ks.length < 64) (h : EB X B b Γ e Γ' (MSL X.K (KsP ψ))) (hg : Gl X "set" := by rfl) (hs2 : starEach [e] X.env = (false, eval e X.env) :: starEach [] X.env := by rfl) :
    EB X B b Γ (.Call (.Name "set" p) [e] [] pos) Γ' (MSetT X.K X.prog X.w ψ) :=
  eb_callTy1 (cr_setOfT hc (by have := un65 hr; omega)) (fun vs H Q p q => by
    obtain ⟨v, rfl, ds, ⟨ks, rfl, hψ⟩, ht, hp⟩ := allP1 p
    obtain ⟨a, us, rfl, hq, hd⟩ := dp_lst hp
    obtain ⟨L, rfl, e1, e2⟩ := dp_keys hd
    have hlen : L.length = ks.length := by rw [← e1, List.length_map]
    refine ⟨a, L, rfl, hq, e2, by rw [hlen]; exact hl ks hψ, fun s L' hs h1 h2 => q _ _ (Ex.new hs) ⟨s, L', rfl, upd_same, fun p hp => ex_t (Ex.new hs) (e2 p (h1 p hp)), ks, hψ, fun p hp => ?_, fun k hk => ?_⟩⟩
    · rw [← e1]
      exact List.mem_map.mpr ⟨p, h1 p hp, rfl⟩
    · rw [← e1] at hk
      obtain ⟨p, hp, rfl⟩ := List.mem_map.mp hk
      exact h2 p hp) hm bt_set h hg (by decide) (by decide) hs2
theorem eb_sortT {ψ : KEYS → Prop} {d : Nat} {M : Int} (hc : X.calm = true) (hm : X.mg "sorted" = none) (hd : 1 ≤ d) (hψ : ∀ ks, ψ ks → ∀ k ∈ ks, k.length = d ∧ TS.Bd M k) (h : EB X B b Γ e Γ' (MSetT X.K X.prog X.w ψ)) (hg : Gl X "sorted" := by rfl) (hs2 : starEach [e] X.env = (false, eval e X.env) :: starEach [] X.env := by rfl) :
    EB X B b Γ (.Call (.Name "sorted" p) [e] [] pos) Γ' (MSL X.K (KsP (Dedup ψ))) :=
  eb_callB1 (cr_sortedT hc) (fun vs H Q p q => by
    obtain ⟨v, rfl, a, L, rfl, hH, hs, ks, hk, h1, h2⟩ := allP1 p
    refine ⟨a, L, d, M, rfl, hH, hs, hd, fun p hp => hψ ks hk _ (h1 p hp), fun L' s hp hn _ _ hs' => q _ _ (Ex.new hs') ⟨(L'.map (·.2)).map enc, ⟨L'.map (·.2), rfl, ks, hk, hn, fun k hk' => ?_, fun k hk' => ?_⟩, encs_to _, dp_newL hs' (keys_dp L' fun p hp' => hs p (hp.mem_iff.mp hp'))⟩⟩
    · obtain ⟨p, hp', rfl⟩ := List.mem_map.mp hk'
      exact h1 p (hp.mem_iff.mp hp')
    · obtain ⟨p, hp', rfl⟩ := List.mem_map.mp (h2 k hk')
      exact List.mem_map.mpr ⟨p, hp.mem_iff.mpr hp', rfl⟩) hm bt_sorted h hg (by decide) (by decide) hs2
end
def ChiefOk (deep : KEY) (ks : KEYS) : Prop := 1 ≤ ks.length ∧ ks.length ≤ 3 ∧ ∀ k ∈ ks, KeyIn deep k
theorem paired_keys {γ : Type} {φ : KEY → Prop} : ∀ {zs : List γ} {ds : List PyData}, Paired (fun _ d => ∃ k : KEY, d = enc k ∧ φ k) zs ds → ∃ ks : KEYS, ds = ks.map enc ∧ ks.length = zs.length ∧ ∀ k ∈ ks, φ k
  | _, _, .nil => ⟨[], rfl, rfl, by simp⟩
  | _, _, .cons ⟨k, e, hk⟩ t => by
    obtain ⟨ks, rfl, h1, h2⟩ := paired_keys t
    subst e
    refine ⟨k :: ks, rfl, by simp [h1], fun d hd => ?_⟩
    rcases List.mem_cons.mp hd with rfl | hd
    · exact hk
    · exact h2 d hd
theorem keyIn_bd {deep k : KEY} (hd : DeepOk deep) (h : KeyIn deep k) : k.length = deep.length ∧ TS.Bd 4 k := by
  refine ⟨h.1, fun x hx => ?_⟩
  obtain ⟨p, hp, rfl⟩ := List.mem_iff_getElem.mp hx
  have h1 := h.2 p (by rw [← h.1]; exact hp)
  have e : k.getD p 0 = k[p] := by rw [List.getD_eq_getElem?_getD, List.getElem?_eq_getElem hp]; rfl
  have hp' : p < deep.length := by rw [← h.1]; exact hp
  have e2 : deep.getD p 0 = deep[p] := by rw [List.getD_eq_getElem?_getD, List.getElem?_eq_getElem hp']; rfl
  have := hd.2.2 deep[p] (List.getElem_mem _)
  rw [e, e2] at h1
  omega
section
variable {P : Program} {w : World} {K : PySem.W.Frag} {mg : Str → Option Value} {base : Heap}
theorem mex_msat {φ : KEY → Prop} : ∀ v H, (MEx K φ).P v H → (MSat K fun d => ∃ k : KEY, d = enc k ∧ φ k).P v H := fun v H ⟨k, hk, p⟩ => ⟨_, ⟨k, rfl, hk⟩, Enc.to k, p⟩
theorem tooth_arg {b : Addr} {deep : KEY} (h : DeepOk deep) : ∀ us H, NT H b → AllP [ME K deep] us H → ∃ y : KEY, DeepOk y ∧ AllP [ME K y] us (del b H) ∧ ∀ v H', (MEx K (KeyIn y)).P v H' → (MEx K (KeyIn deep)).P v H' := fun us H n p => ⟨deep, h, by
  cases p with
  | cons h1 h2 =>
    cases h2
    exact .cons (std_d (Enc.to _) _ _ n h1) .nil, fun v H' p => p⟩
def sp_chief (K : PySem.W.Frag) : Sp := spB DeepOk 50 (fun deep => [ME K deep, MI K 3]) (fun deep => MEx K (ChiefOk deep))
theorem ok_chief (T : Tx K mg) : DefOk P w K mg base "_law_chief" 3 (sp_chief K) := by
  obtain ⟨f, fd, F, hg⟩ := at__law_chief T
  have B := T.bl
  have D := ok_take (P := P) (w := w) (base := base) T
  have D2 := ok_tooth (P := P) (w := w) (base := base) T
  refine fn_box F sc__law_chief hg (fun _ => rfl) (fun _ _ _ _ _ _ us hl => match us, hl with | [_, _, _], _ => rfl) fun f cdv A outer s H E deep BB b n hr hp hB hn => ?_
  have hp : DeepOk deep := hp
  have hn : n + 50 ≤ 2 ^ 40 := hn
  have hψ : ∀ ks : KEYS, ((1 ≤ ks.length ∧ ks.length ≤ 3) ∧ ∀ k ∈ ks, KeyIn deep k) → ∀ k ∈ ks, k.length = deep.length ∧ TS.Bd 4 k := fun ks h k hk => keyIn_bd hp (h.2 k hk)
  refine hs_one (h1_retE (M := MST K (KsP (Dedup fun ks => (1 ≤ ks.length ∧ ks.length ≤ 3) ∧ ∀ k ∈ ks, KeyIn deep k))) (Γ' := [some (MBox b (n + 1 + (List.range 3).length * 10)), some ((ME K deep).at BB), some ((MI K 3).at BB), none]) (eb_tupleS B.tuple (eb_sortT (d := deep.length) (M := 4) rfl B.sorted hp.1 hψ (eb_setT hr rfl B.set (fun ks h => by omega) (eb_cast (EC.eb (ec_lcM (Γ := [some (MBox b (n + 1)), some ((ME K deep).at BB), some ((MI K 3).at BB), none]) (n := n + 1) (c := 10) (fun m => 1 ≤ m ∧ m ≤ 3) (List.range 3) enc (fun _ d => ∃ k : KEY, d = enc k ∧ KeyIn deep k) (fun i d => [some (MBox b (n + 1 + i * 10)), some ((ME K deep).at BB), some ((MI K 3).at BB), some (ME K d)]) (fun i d => [some (MBox b (n + 1 + i * 10 + 10)), some ((ME K deep).at BB), some ((MI K 3).at BB), some (ME K d)]) [("_law_lap", 3)] rfl sc__law_chief.nd rfl hB
    (dm_range (M := 3) B.range (eb_cast (eb_addI (i := 1) (φ := fun j => 0 ≤ j ∧ j < 3) de_int (eb_call (Ms := [MI K 3]) (n := n) D (hr.mono (by omega)) (aeb_pure ⟨_, rfl⟩ de_ref (aeb_pure ⟨_, rfl⟩ (de_v0 2) aeb_nil (stk_d rfl)) stk_ref) rfl (by show _ ≤ 2 ^ 40; omega) hB (take_arg ⟨by decide, by decide⟩) (.skip (.cons (stb_at hB) (.cons (stb_at hB) (.skip .nil)))))) (msat_num (lo := 1) (M := 3) (top := 3) rfl (by decide))) (by decide))
    (blkOk_by (N := ["_law_box_here", "_law_deep_here", "_law_most", "_law_lap"]) (sc := defScope s__law_chief) (by decide +kernel)) (fun _ _ _ _ _ => pg_name (i := 3) sc__law_chief.nd rfl (by first | exact Or.inl rfl | exact Or.inr rfl)) (.skip (.cons (stb_at hB) (.cons (stb_at hB) (.skip .nil)))) (fun i d hd => tg_name)
    (fun i d hd _ _ _ _ _ => ?el) (fun i d hd => by show some (some (MBox b (n + 1 + i * 10 + 10))) = _; rw [Nat.add_mul, Nat.add_assoc]) (by decide))) fun v H p => ?ca)))) fun v σ H' g p => ?fin)
  case el =>
    have hil : i < 3 := by have := (List.getElem?_eq_some_iff.mp hd).1; simpa using this
    exact eb_cast (eb_call (M := MEx K (KeyIn deep)) (Ms := [ME K deep]) (n := n + 1 + i * 10) D2 hr (aeb_pure ⟨_, rfl⟩ de_ref (aeb_pure ⟨_, rfl⟩ (de_v0 1) aeb_nil (stk_d (Enc.to _))) stk_ref) rfl (by show _ ≤ 2 ^ 40; omega) hB (tooth_arg hp) (.skip (.cons (stb_at hB) (.cons (stb_at hB) (.cons (stb_d rfl) .nil))))) mex_msat
  case ca =>
    obtain ⟨m, ds, h1, h2, h3, h4, h5⟩ := p
    obtain ⟨ks, rfl, hl, hk⟩ := paired_keys h3
    rw [List.length_take, List.length_range] at hl
    exact ⟨_, ⟨ks, rfl, by omega, hk⟩, h4, h5⟩
  case fin =>
    obtain ⟨ds, ⟨ks', rfl, ks, ⟨⟨h1, h2⟩, h3⟩, hn', hs1, hs2⟩, _, hp'⟩ := p
    obtain ⟨v0, _, hb0⟩ := g.2.get 0 _ rfl
    obtain ⟨rfl, _⟩ := id hb0
    refine ⟨g.1, mbox_le hb0 (by rw [List.length_range]; omega), ks', ⟨?_, ?_, fun k hk => h3 k (hs1 k hk)⟩, hp'⟩
    · cases ks with
      | nil => simp at h1
      | cons k ks =>
        have := hs2 k List.mem_cons_self
        exact List.length_pos_of_mem this
    · exact Nat.le_trans (nodup_sub_len hn' hs1) h2
end
end K78

-- part KL5
set_option Elab.async false
set_option linter.all false
set_option maxRecDepth 100000
set_option maxHeartbeats 4000000
/-! KL5: _law_pick. -/
namespace K78
open PySem PySem.Spec PyProof.Rows L2
open Evl (Ex ex_t ex_l ex_rd fresh_back)
open Enc (enc)
theorem dpAll_erase {K : PySem.W.Frag} {H : Hp} : ∀ {us : List V} {ds : List PyData}, DpAll K H us ds → ∀ j, DpAll K H (us.eraseIdx j) (ds.eraseIdx j)
  | _, _, .nil, _ => .nil
  | _, _, .cons h1 h2, 0 => h2
  | _, _, .cons h1 h2, j + 1 => .cons h1 (dpAll_erase h2 j)
theorem erase_perm {α : Type} : ∀ (l : List α) (j : Nat) (h : j < l.length), (l[j] :: l.eraseIdx j).Perm l
  | x :: l, 0, _ => .refl _
  | x :: l, j + 1, h => by
    have h' : j < l.length := by simpa using h
    have ih := erase_perm l j h'
    show (l[j] :: x :: l.eraseIdx j).Perm (x :: l)
    exact (List.Perm.swap ..).trans (ih.cons x)
theorem env_put {K : PySem.W.Frag} {B : Hp} {Γ : En} {σ : L2.St} {H : Hp} {i : Nat} {L : Addr} {ds ds' : List PyData} {us us' : List V} (g : EnvOk Γ σ H) (hi : Γ[i]? = some (some (MLat K L ds))) (xb : Ex B H) (h : H L = some (.lst us)) (hd : DpAll K H us' ds') (ht : tO.tOs ds' = true) (hs : AllS (Stb B L) (Γ.set i none)) : EnvOk (Γ.set i (some (MLat K L ds'))) σ (upd H L (.lst us')) := by
  obtain ⟨v0, ev, pv⟩ := g.get i _ hi
  obtain ⟨rfl, _⟩ := pv
  have il : i < Γ.length := (List.getElem?_eq_some_iff.mp hi).1
  have g4 : EnvOk (Γ.set i none) σ (upd H L (.lst us')) := (g.drop i).kp hs xb (NT.lst h) Kp.upd
  have g5 := g4.set i (M := MLat K L ds') (v := .ref L) ⟨rfl, us', upd_same, DpAll.tsub (Kp.upd.sub (NT.lst h)) _ _ ht hd⟩
  rw [List.set_set] at g5
  have e1 : σ.set i (some (.ref L)) = σ := by
    obtain ⟨hlt, e2⟩ := List.getElem?_eq_some_iff.mp ev
    rw [← e2]
    exact List.set_getElem_self hlt
  rw [e1] at g5
  exact g5
section
variable {X : Cx} {B : Hp} {Γ : En} {e a b : Expr} {pos p : Pos} {R : V → Hp → Prop}
theorem de_listN {ds : List PyData} (hm : X.mg "list" = none) (h : DE X (EnvOk Γ) e (MP.d X.K (.list ds))) (hg : Gl X "list" := by rfl)
    (hs2 : starEach [e] X.env = (false, eval e X.env) :: starEach [] X.env := by rfl) : DE X (GB B Γ) (.Call (.Name "list" p) [e] [] pos) (MNewL X.K B ds) :=
  de_of (pe_callTy call_list_of hg hm bt_list (da_cons (de_gb (B := B) h) da_nil hs2) (by decide) (by decide) hs2) fun σ H Q g q => ⟨g, fun vs H1 x1 p1 => by
    obtain ⟨v, rfl, h⟩ := allP1 p1
    obtain ⟨a, us, rfl, hq, hd⟩ := dp_lst h
    exact ⟨a, us, rfl, .inl hq, fun l hl => q _ _ (x1.trans (Ex.new hl)) ⟨l, b_none (g.1.trans x1) hl, rfl, us, upd_same, DpAll.mono (Ex.new hl) _ _ hd⟩⟩⟩
/-- a, b = x, y, new things -/
theorem h1_par2 {M1 M2 : MP} (i j : Nat) {x y : Str} {px py pt : Pos} {kt k2 pt2} (hc : X.calm = true) (hN : X.N.Nodup) (ha : DE X (GB B Γ) a M1) (hb : DE X (GB B Γ) b M2) (hi : X.N[i]? = some x := by rfl) (hj : X.N[j]? = some y := by rfl) (hij : i ≠ j := by decide)
    (hx : X.env.scope.names.lookup x = some .local := by rfl) (hy : X.env.scope.names.lookup y = some .local := by rfl)
    (hs1 : starEach [a, b] X.env = (false, eval a X.env) :: starEach [b] X.env := by rfl) (hs2 : starEach [b] X.env = (false, eval b X.env) :: starEach [] X.env := by rfl)
    (hw : swappedStores [.Tuple [.Name x px, .Name y py] kt pt] (.Tuple [a, b] k2 pt2) X.env = pure (some [x, y]) := by rfl)
    (hs : swapsWithSole [.Tuple [.Name x px, .Name y py] kt pt] (.Tuple [a, b] k2 pt2) pos.line X.env = pure false := by rfl) :
    H1 X (GB B Γ) (.Assign [.Tuple [.Name x px, .Name y py] kt pt] (.Tuple [a, b] k2 pt2) pos) (GB B ((Γ.set i (some M1)).set j (some M2))) R :=
  ps_imp (ps_par hc hN hi hj hij hx hy (da_cons ha (da_cons hb da_nil hs2) hs1) hw hs) fun D σ H q => ⟨q.1, fun vs H' x p => by
    obtain ⟨v, w, rfl, p1, p2⟩ := allP2 p
    exact ⟨v, w, rfl, q.2.1 _ H' ⟨q.1.1.trans x, ((MG.mono x q.1.2).set i p1).set j p2⟩⟩⟩
end
structure A_pick where
  ds : List PyData
  size : Int
def Picked (a : A_pick) (ds' : List PyData) : Prop := ∃ rest, (ds' ++ rest).Perm a.ds ∧ ds'.length = min a.size.toNat a.ds.length
section
variable {P : Program} {w : World} {K : PySem.W.Frag} {mg : Str → Option Value} {base : Heap}
def sp_pick (K : PySem.W.Frag) : Sp := spB (fun a : A_pick => a.ds ≠ [] ∧ tO.tOs a.ds = true ∧ a.ds.length ≤ 1000 ∧ 0 ≤ a.size) 1000 (fun a => [MP.d K (.list a.ds), MI K a.size]) (fun a => MSL K (Picked a))
theorem ok_pick (T : Tx K mg) : DefOk P w K mg base "_law_pick" 2 (sp_pick K) := by
  obtain ⟨f, fd, F, hg⟩ := at__law_pick T
  have B := T.bl
  have D := ok_take (P := P) (w := w) (base := base) T
  refine fn_box F sc__law_pick hg (fun _ => rfl) (fun _ _ _ _ _ _ us hl => match us, hl with | [_, _, _], _ => rfl) fun f cdv A outer s H E a BB b n hr hp hB hn => ?_
  obtain ⟨ds, size⟩ := a
  obtain ⟨hne, hto, hlen, hsz⟩ := hp
  have hne : ds ≠ [] := hne
  have hto : tO.tOs ds = true := hto
  have hlen : ds.length ≤ 1000 := hlen
  have hsz : 0 ≤ size := hsz
  have hn : n + 1000 ≤ 2 ^ 40 := hn
  show HS _ (GB BB [some (MBox b n), some ((MP.d K (.list ds)).at BB), some ((MI K size).at BB), none, none, none]) _ _ _
  refine hs_cons (N' := fun σ H => ∃ L1 L2, (L1 ≠ L2 ∧ L1 ≠ b ∧ L2 ≠ b ∧ BB L1 = none ∧ BB L2 = none) ∧ GB BB [some (MBox b n), some ((MP.d K (.list ds)).at BB), some ((MI K size).at BB), some (MLat K L1 ds), some (MLat K L2 []), none] σ H) (h1_now fun σ0 H0 g0 => ?s1) (hs_ex fun L1 => hs_ex fun L2 => hs_pure fun hL => ?_)
  case s1 =>
    obtain ⟨v0, ev0, hv0⟩ := g0.2.get 0 _ rfl
    obtain ⟨rfl, x, y, z, hbx, _⟩ := hv0
    refine h1_post (h1_pre (h1_par2 (B := H0) (Γ := [some (MBox b n), some ((MP.d K (.list ds)).at BB), some ((MI K size).at BB), none, none, none]) 3 4 rfl sc__law_pick.nd (de_listN B.list (de_v0 1)) (de_newL [] da_nil)) (fun σ H e => by obtain ⟨rfl, rfl⟩ := e; exact ⟨Ex.refl _, g0.2⟩)) (fun σ H g => ?_)
    obtain ⟨v3, e3, L1, h31, h32⟩ := g.2.get 3 _ rfl
    obtain ⟨v4, e4, L2, h41, h42⟩ := g.2.get 4 _ rfl
    obtain ⟨rfl, us1, k1, d1⟩ := id h32
    obtain ⟨rfl, us2, k2, d2⟩ := id h42
    refine ⟨L1, L2, ⟨fun e => ?_, fun e => ?_, fun e => ?_, b_none g0.1 h31, b_none g0.1 h41⟩, g0.1.trans g.1, ⟨g.2.len, fun j M e => ?_⟩⟩
    · subst e
      rw [k1] at k2
      cases k2
      cases d2
      have := d1.length
      exact hne (List.eq_nil_of_length_eq_zero this.symm)
    · subst e; rw [hbx] at h31; cases h31
    · subst e; rw [hbx] at h41; cases h41
    · match j, e with
      | 3, e => cases e; exact ⟨_, e3, h32⟩
      | 4, e => cases e; exact ⟨_, e4, h42⟩
      | 0, e => exact g.2.get 0 M e
      | 1, e => exact g.2.get 1 M e
      | 2, e => exact g.2.get 2 M e
      | 5, e => exact g.2.get 5 M e
      | j + 6, e => exact g.2.get (j + 6) M e
  obtain ⟨hL12, hL1b, hL2b, hB1, hB2⟩ := hL
  generalize hm : min size.toNat ds.length = m
  have hml : m ≤ ds.length := by omega
  refine hs_cons (h1_forX (vs := [5]) (ds := (List.range m).map enc) (g := gName 5) (fun _ => BB) (fun B1 => B1 = BB) (fun B1 i σ H => Ex B1 H ∧ ∃ (rd sd : List PyData), ((sd ++ rd).Perm ds ∧ sd.length = i) ∧ GB BB [some (MBox b (n + i)), some ((MP.d K (.list ds)).at BB), some ((MI K size).at BB), some (MLat K L1 rd), some (MLat K L2 sd), none] σ H) (N := fun σ H => ∃ (rd sd : List PyData), ((sd ++ rd).Perm ds ∧ sd.length = m) ∧ GB BB [some (MBox b (n + m)), some ((MP.d K (.list ds)).at BB), some ((MI K size).at BB), some (MLat K L1 rd), some (MLat K L2 sd), none] σ H)
    (fun σ H' g => ⟨rfl, g.1⟩) rfl PassesOwn.never (dx_range B.range (de_gb (DE.to (de_min2 (i := size) (j := (ds.length : Int)) rfl B.min (de_v0 2) (de_lenL B.len ((de_v 3).cast fun v H p => MLat.dp p))) ?mn)) (by omega)) (pg_name sc__law_pick.nd rfl (by first | exact Or.inl rfl | exact Or.inr rfl))
    (fun B1 σ H e x g => ⟨x, ds, [], ⟨by simp, rfl⟩, g⟩) (fun B1 i σ H h => h.1) (fun B1 i σ H H' x ⟨xb, rd, sd, h, g⟩ => ⟨xb.trans x, rd, sd, h, MG.mono x g⟩) (fun B1 e i d hd => ?body) (fun B1 σ H e ⟨_, rd, sd, h, g⟩ => ?fin)) ?ret
  case mn =>
    show PyData.int _ = PyData.int ((m : Nat) : Int)
    congr 1
    split <;> omega
  case fin =>
    rw [List.length_map, List.length_range] at h g
    exact ⟨rd, sd, h, g⟩
  case ret =>
    refine hs_ex fun rd => hs_ex fun sd => hs_pure fun h => hs_one (h1_ret (M := MLat K L2 sd) (de_gb (de_v 4)) fun v σ H H' g x p => ?_)
    obtain ⟨v0, _, hb0⟩ := (MG.mono x g : GB BB _ σ H').2.get 0 _ rfl
    obtain ⟨rfl, _⟩ := id hb0
    refine ⟨g.1.trans x, mbox_le hb0 (by omega), sd, ⟨rd, h.1, h.2.trans hm.symm⟩, ?_, MLat.dp p⟩
    exact (tOs_app.mp (tOs_all.mpr fun d hd => tOs_all.mp hto d (h.1.mem_iff.mp hd))).1
  case body =>
    subst e
    rw [List.getElem?_map] at hd
    obtain ⟨i', hi', rfl⟩ := Option.map_eq_some_iff.mp hd
    have him : i < m := by have := (List.getElem?_eq_some_iff.mp hi').1; simpa using this
    refine ⟨fun σ H => ∃ (rd sd : List PyData), ((sd ++ rd).Perm ds ∧ sd.length = i) ∧ GB B1 [some (MBox b (n + i)), some ((MP.d K (.list ds)).at B1), some ((MI K size).at B1), some (MLat K L1 rd), some (MLat K L2 sd), some (ME K i')] σ H, ?_, hs_ex fun rd => hs_ex fun sd => hs_pure fun h => hs_one ?_⟩
    · rintro v σ H Q p ⟨_, rd, sd, h, g⟩ q
      exact tg_gb (B := B1) (tg_name (vs := [5]) (j := 5)) v σ H Q p g fun σ' g' w' => q σ' ⟨rd, sd, h, g'⟩ w'
    obtain ⟨hpm, hsl⟩ := h
    have htr : tO.tOs rd = true ∧ tO.tOs sd = true := by
      have := tOs_app.mp (tOs_all.mpr fun d hd => tOs_all.mp hto d (hpm.mem_iff.mp hd))
      exact ⟨this.2, this.1⟩
    have hrl : rd.length = ds.length - i := by
      have := hpm.length_eq
      rw [List.length_append] at this
      omega
    refine ps_imp (ps_expr (pe_bm PySem.F.plainAttrs_list PySem.F.slot_list_append PySem.F.type_list_append mt_append (de_gb (B := B1) (Γ := [some (MBox b (n + i)), some ((MP.d K (.list ds)).at B1), some ((MI K size).at B1), some (MLat K L1 rd), some (MLat K L2 sd), some (ME K i')]) (de_v (M := MLat K L2 sd) 4)) (pa_cons (pe_bm PySem.F.plainAttrs_list PySem.F.slot_list_pop PySem.F.type_list_pop mt_popAt (de_gb (B := B1) (Γ := [some (MBox b (n + i)), some ((MP.d K (.list ds)).at B1), some ((MI K size).at B1), some (MLat K L1 rd), some (MLat K L2 sd), some (ME K i')]) (de_v (M := MLat K L1 rd) 3))
      (aeb_last (eb_call (Γ := [some (MBox b (n + i)), some ((MP.d K (.list ds)).at B1), some ((MI K size).at B1), some (MLat K L1 rd), some (MLat K L2 sd), some (ME K i')]) (Γ' := [some (MBox b (n + i)), some ((MP.d K (.list ds)).at B1), some ((MI K size).at B1), some (MLat K L1 rd), some (MLat K L2 sd), some (ME K i')]) (M := MSat K (dig (rd.length : Int))) (Ms := [MI K (rd.length : Int)]) (n := n + i) D hr (aeb_pure ⟨_, rfl⟩ de_ref (aeb_pure ⟨_, rfl⟩ (de_lenL B.len ((de_v 3).cast fun v H p => MLat.dp p)) aeb_nil (stk_d rfl)) stk_ref) rfl (by show _ ≤ 2 ^ 40; omega) hB (take_arg ⟨by omega, by omega⟩) (.skip (.cons (stb_at hB) (.cons (stb_at hB) (.cons (stb_l hL1b htr.1) (.cons (stb_l hL2b htr.2) (.cons stb_e .nil))))))))) pa_nil))) fun D' σ H q => ?_
    refine ⟨q.1, fun v H1 x1 p1 => ?_⟩
    obtain ⟨rfl, us2, k2, d2⟩ := p1
    refine ⟨.inl ⟨rfl, us2, SqL.of k2⟩, MG.mono x1 q.1, fun v2 H2 x2 p2 => ?_⟩
    obtain ⟨rfl, us1, k1, d1⟩ := p2
    refine ⟨.inl ⟨rfl, us1, SqL.of k1⟩, MG.mono (x1.trans x2) q.1, fun vs H3 x3 g3 p3 => ?_⟩
    obtain ⟨v4, rfl, d4, ⟨j, rfl, hj1, hj2⟩, _, p4⟩ := allP1 p3
    obtain ⟨w3, _, rfl, us1', k1', d1'⟩ := g3.2.get 3 _ rfl
    obtain ⟨w4, _, rfl, us2', k2', d2'⟩ := g3.2.get 4 _ rfl
    have hul := d1'.length
    have hul2 := d2'.length
    have hjn : j.toNat < rd.length := by omega
    obtain ⟨y, ey, py⟩ := d1'.get' (List.getElem?_eq_getElem hjn)
    refine ⟨L1, us1', j, j.toNat, y, rfl, by rw [dp_int p4], k1', by omega, by omega, ?_, ey, ?_⟩
    · rw [seqIndex_of hj1 (by omega)]
    have k2u : (upd H3 L1 (.lst (us1'.eraseIdx j.toNat))) L2 = some (.lst us2') := by rw [upd_ne hL12.symm]; exact k2'
    have tdy : tO rd[j.toNat] = true := tOs_all.mp htr.1 _ (List.getElem_mem _)
    have hte : tO.tOs (rd.eraseIdx j.toNat) = true := tOs_all.mpr fun d hd => tOs_all.mp htr.1 d (List.mem_of_mem_eraseIdx hd)
    have hta : tO.tOs (sd ++ [rd[j.toNat]]) = true := tOs_app.mpr ⟨htr.2, by simp [tO.tOs, tdy]⟩
    refine ⟨L2, us2', y, rfl, rfl, k2u, Nat.lt_of_lt_of_le (show us2'.length < 100000 by omega) (by decide), ?_⟩
    have ts1 : TupSub H3 (upd H3 L1 (.lst (us1'.eraseIdx j.toNat))) := TupSub.lst k1'
    have e1 := env_put (i := 3) g3.2 rfl g3.1 k1' (dpAll_erase d1' j.toNat) hte (.cons (stb_box (Ne.symm hL1b)) (.cons (stb_at hB1) (.cons (stb_at hB1) (.skip (.cons (stb_l hL12.symm htr.2) (.cons stb_e .nil))))))
    have xb1 : Ex B1 (upd H3 L1 (.lst (us1'.eraseIdx j.toNat))) := ex_kp g3.1 hB1 Kp.upd
    have e2 := env_put (i := 4) e1 rfl xb1 k2u (DpAll.append (DpAll.tsub ts1 _ _ htr.2 d2') (.cons (Dp.tsub ts1 _ _ tdy py) .nil)) hta (.cons (stb_box (Ne.symm hL2b)) (.cons (stb_at hB2) (.cons (stb_at hB2) (.cons (stb_l hL12 hte) (.skip (.cons stb_e .nil))))))
    refine q.2.1 σ _ ⟨ex_kp xb1 hB2 Kp.upd, rd.eraseIdx j.toNat, sd ++ [rd[j.toNat]], ⟨?_, by rw [List.length_append, hsl]; rfl⟩, ex_kp xb1 hB2 Kp.upd, e2.drop 5⟩
    refine List.Perm.trans ?_ hpm
    rw [List.append_assoc]
    exact (erase_perm rd j.toNat hjn).append_left sd
end
end K78

-- part KL6
set_option Elab.async false
set_option linter.all false
set_option maxRecDepth 100000
set_option maxHeartbeats 4000000
/-! KL6: _law_quiet. -/
namespace K78
open PySem PySem.Spec PyProof.Rows L2
open Evl (Ex ex_t ex_l ex_rd fresh_back)
open Enc (enc)
structure A_dch where
  deep : KEY
  chief : KEYS
def BunchOk (deep : KEY) (m : Nat) (ks : KEYS) : Prop := ks.length ≤ m ∧ ∀ k ∈ ks, KeyIn deep k
theorem sortE_mem {α : Type} [Enc α] {l : List α} {x : α} : x ∈ sortE l ↔ x ∈ l := (sortE_perm l).mem_iff
theorem sortE_len {α : Type} [Enc α] (l : List α) : (sortE l).length = l.length := (sortE_perm l).length_eq
section
variable {P : Program} {w : World} {K : PySem.W.Frag} {mg : Str → Option Value} {base : Heap}
def sp_quiet (K : PySem.W.Frag) : Sp := spB (fun a : A_dch => DeepOk a.deep ∧ ChiefOk a.deep a.chief) 100 (fun a => [ME K a.deep, ME K a.chief, MI K 4]) (fun a => MEx K (BunchOk a.deep 4))
theorem ok_quiet (T : Tx K mg) : DefOk P w K mg base "_law_quiet" 4 (sp_quiet K) := by
  obtain ⟨f, fd, F, hg⟩ := at__law_quiet T
  have B := T.bl
  have D := ok_tooth (P := P) (w := w) (base := base) T
  have D2 := ok_loud (P := P) (w := w) (base := base) T
  refine fn_box F sc__law_quiet hg (fun _ => rfl) (fun _ _ _ _ _ _ us hl => match us, hl with | [_, _, _, _], _ => rfl) fun f cdv A outer s H E a BB b n hr hp hB hn => ?_
  obtain ⟨deep, chief⟩ := a
  obtain ⟨hd, hc1, hc2, hc3⟩ := hp
  have hd : DeepOk deep := hd
  have hc2 : chief.length ≤ 3 := hc2
  have hc3 : ∀ k ∈ chief, KeyIn deep k := hc3
  have hn : n + 100 ≤ 2 ^ 40 := hn
  show HS _ (GB BB [some (MBox b n), some ((ME K deep).at BB), some ((ME K chief).at BB), some ((MI K 4).at BB), none, none, none]) _ _ _
  refine hs_cons (N' := fun σ H => ∃ L, (L ≠ b ∧ BB L = none) ∧ GB BB [some (MBox b n), some ((ME K deep).at BB), some ((ME K chief).at BB), some ((MI K 4).at BB), some (MLat K L []), none, none] σ H) (h1_now fun σ0 H0 g0 => ?s1) (hs_ex fun L => hs_pure fun hL => ?_)
  case s1 =>
    obtain ⟨v0, ev0, hv0⟩ := g0.2.get 0 _ rfl
    obtain ⟨rfl, x, y, z, hbx, _⟩ := hv0
    refine h1_post (h1_pre (h1_set (B := H0) (Γ := [some (MBox b n), some ((ME K deep).at BB), some ((ME K chief).at BB), some ((MI K 4).at BB), none, none, none]) 4 sc__law_quiet.nd (de_newL [] da_nil)) (fun σ H e => by obtain ⟨rfl, rfl⟩ := e; exact ⟨Ex.refl _, g0.2⟩)) (fun σ H g => ?_)
    obtain ⟨L, hL, g'⟩ := gb_newL (i := 4) (Γ := [some (MBox b n), some ((ME K deep).at BB), some ((ME K chief).at BB), some ((MI K 4).at BB), none, none, none]) (by show 4 < 7; omega) g
    exact ⟨L, ⟨fun e => (by subst e; rw [hbx] at hL; cases hL), b_none g0.1 hL⟩, g0.1.trans g'.1, g'.2⟩
  obtain ⟨hLb, hBL⟩ := hL
  refine hs_cons (h1_forX (vs := [5]) (ds := (List.range 8).map enc) (g := gName 5) (fun _ => BB) (fun B1 => B1 = BB) (fun B1 i σ H => Ex B1 H ∧ ∃ (fd : KEYS), BunchOk deep 4 fd ∧ GB BB [some (MBox b (n + i * 10)), some ((ME K deep).at BB), some ((ME K chief).at BB), some ((MI K 4).at BB), some (MLat K L (fd.map enc)), none, none] σ H) (N := fun σ H => ∃ (fd : KEYS), BunchOk deep 4 fd ∧ GB BB [some (MBox b (n + 80)), some ((ME K deep).at BB), some ((ME K chief).at BB), some ((MI K 4).at BB), some (MLat K L (fd.map enc)), none, none] σ H)
    (fun σ H' g => ⟨rfl, g.1⟩) rfl PassesOwn.never (dx_range (n := 8) B.range (de_gb (DE.to (de_mul (i := 2) (j := 4) de_int (de_v0 3) (.inl ⟨by decide, by decide⟩)) rfl)) (by decide)) (pg_name sc__law_quiet.nd rfl (by first | exact Or.inl rfl | exact Or.inr rfl))
    (fun B1 σ H e x g => ⟨x, [], ⟨by simp, by simp⟩, by rw [Nat.zero_mul, Nat.add_zero]; exact g⟩) (fun B1 i σ H h => h.1) (fun B1 i σ H H' x ⟨xb, fd, h, g⟩ => ⟨xb.trans x, fd, h, MG.mono x g⟩) (fun B1 e i d hd' => ?body) (fun B1 σ H e ⟨_, fd, h, g⟩ => ⟨fd, h, g⟩)) ?ret
  case ret =>
    refine hs_ex fun fd => hs_pure fun h => hs_one (h1_ret (M := ME K (sortE fd)) (de_gb (de_tupleL B.tuple (de_sortK (ks := fd) (n := deep.length) hr B.sorted hd.1 (fun k hk => (h.2 k hk).1) (by have := h.1; omega) (.inl ((de_v 4).cast fun v H p => MLat.dp p))))) fun v σ H H' g x p => ?_)
    obtain ⟨v0, _, hb0⟩ := (MG.mono x g : GB BB _ σ H').2.get 0 _ rfl
    obtain ⟨rfl, _⟩ := id hb0
    exact ⟨g.1.trans x, mbox_le hb0 (by omega), sortE fd, ⟨by rw [sortE_len]; exact h.1, fun k hk => h.2 k (sortE_mem.mp hk)⟩, p⟩
  case body =>
    subst e
    rw [List.getElem?_map] at hd'
    obtain ⟨i', hi', rfl⟩ := Option.map_eq_some_iff.mp hd'
    have hil : i < 8 := by have := (List.getElem?_eq_some_iff.mp hi').1; simpa using this
    refine ⟨fun σ H => ∃ (fd : KEYS), BunchOk deep 4 fd ∧ GB B1 [some (MBox b (n + i * 10)), some ((ME K deep).at B1), some ((ME K chief).at B1), some ((MI K 4).at B1), some (MLat K L (fd.map enc)), some (ME K i'), none] σ H, ?_, hs_ex fun fd => hs_pure fun h => ?_⟩
    · rintro v σ H Q p ⟨_, fd, h, g⟩ q
      exact tg_gb (B := B1) (tg_name (vs := [5]) (j := 5)) v σ H Q p g fun σ' g' w' => q σ' ⟨fd, h, g'⟩ w'
    have hfl := h.1
    refine hs_cons (N' := fun σ H => ∃ k : KEY, KeyIn deep k ∧ GB B1 [some (MBox b (n + i * 10 + 10)), some ((ME K deep).at B1), some ((ME K chief).at B1), some ((MI K 4).at B1), some (MLat K L (fd.map enc)), some (ME K i'), some (ME K k)] σ H) (h1_post (h1_setE 6 sc__law_quiet.nd (eb_call (Γ := [some (MBox b (n + i * 10)), some ((ME K deep).at B1), some ((ME K chief).at B1), some ((MI K 4).at B1), some (MLat K L (fd.map enc)), some (ME K i'), none]) (Γ' := [some (MBox b (n + i * 10)), some ((ME K deep).at B1), some ((ME K chief).at B1), some ((MI K 4).at B1), some (MLat K L (fd.map enc)), some (ME K i'), none]) (M := MEx K (KeyIn deep)) (Ms := [ME K deep]) (n := n + i * 10) D (hr.mono (by omega)) (aeb_pure ⟨_, rfl⟩ de_ref (aeb_pure ⟨_, rfl⟩ (de_v0 1) aeb_nil (stk_d (Enc.to _))) stk_ref) rfl (by show _ ≤ 2 ^ 40; omega) hB (tooth_arg hd) (.skip (.cons (stb_at hB) (.cons (stb_at hB) (.cons (stb_at hB) (.cons (stb_l hLb (encs_to _)) (.cons stb_e (.skip .nil))))))))) fun σ H g => gb_ex (i := 6) (Γ := [some (MBox b (n + i * 10 + 10)), some ((ME K deep).at B1), some ((ME K chief).at B1), some ((MI K 4).at B1), some (MLat K L (fd.map enc)), some (ME K i'), none]) (by show 6 < 7; omega) g) (hs_ex fun k => hs_pure fun hk => ?_)
    have wf : ∀ ks : KEYS, (∀ k ∈ ks, KeyIn deep k) → ks.length ≤ 100 → Wf deep.length ks := fun ks hks hl => ⟨fun k hk => (hks k hk).1, by omega, by have := hd.2.1; omega⟩
    have hall : ∀ x ∈ fd ++ [k], KeyIn deep x := fun x hx => by
      rcases List.mem_append.mp hx with hx | hx
      · exact h.2 x hx
      · rw [List.mem_singleton.mp hx]; exact hk
    have next : ∀ {σ H} {fd' : KEYS}, BunchOk deep 4 fd' → GB B1 [some (MBox b (n + i * 10 + 10)), some ((ME K deep).at B1), some ((ME K chief).at B1), some ((MI K 4).at B1), some (MLat K L (fd'.map enc)), some (ME K i'), some (ME K k)] σ H → Ex B1 H ∧ ∃ (fd : KEYS), BunchOk deep 4 fd ∧ GB B1 [some (MBox b (n + (i + 1) * 10)), some ((ME K deep).at B1), some ((ME K chief).at B1), some ((MI K 4).at B1), some (MLat K L (fd.map enc)), none, none] σ H := fun {σ H fd'} hf g => ⟨g.1, fd', hf, g.1, by
      have := (g.2.drop 5).drop 6
      rw [show n + i * 10 + 10 = n + (i + 1) * 10 by omega] at this
      exact this⟩
    refine hs_one (h1_if (k := decide ((fd.length : Int) < 4) && ((!memE k fd) && decide (sortE (loudL chief (fd ++ [k])) = []))) (dt_gb (DW.t (dw_and (dt_lt (j := 4) (de_lenLE (l := fd) B.len ((de_v 4).cast fun v H p => MLat.dp p)) (de_v0 3)) fun _ => dw_and (dt_notInL hr (x := k) (y := fd) (de_v 6) ((de_v 4).cast fun v H p => MLat.dp p)) fun _ => dw_and1 (dt_eqL hr (x := sortE (loudL chief (fd ++ [k]))) (y := []) (de_call D2 hr (chief, fd ++ [k]) (da_cons (de_v0 2) (da_cons (DE.to (de_catL ((de_v 4).cast fun v H p => MLat.dp p) (de_lst [enc k] (da_cons (de_v 6) da_nil) (by simp)) ?cz) ?ce) da_nil)) ⟨⟨deep.length, wf chief hc3 (by omega), wf _ hall (by rw [List.length_append]; simp; omega)⟩, by rw [List.length_append]; simp; omega, by show chief.length ≤ 1000; omega⟩) (de_lst [] da_nil))))) (fun e => ?yes) fun e => hs_nil fun σ H g => next h g)
    case cz => rw [List.length_map]; simp; omega
    case ce =>
      show PyData.list _ = PyData.list ((fd ++ [k]).map enc)
      rw [List.map_append]
      rfl
    case yes =>
      have e1 : fd.length < 4 := by
        have := (Bool.and_eq_true_iff.mp e).1
        have := of_decide_eq_true this
        omega
      refine hs_one (h1_post (h1_append 4 (d := enc k) rfl hBL (de_v 4) (de_gb (de_v 6)) (encs_to _) (Enc.to _) (by rw [List.length_map]; omega) (.cons (stb_box (Ne.symm hLb)) (.cons (stb_at hBL) (.cons (stb_at hBL) (.cons (stb_at hBL) (.skip (.cons stb_e (.cons stb_e .nil)))))))) fun σ H g => next (fd' := fd ++ [k]) ⟨by rw [List.length_append]; simp; omega, hall⟩ ?_)
      rw [List.map_append]
      exact g
end
end K78

-- part KMd
set_option Elab.async false
set_option linter.all false
set_option maxRecDepth 100000
set_option maxHeartbeats 4000000
/-! KMd: the words of the mathematics. -/
namespace K78
open PySem PySem.Spec PyProof.Rows L2
def aB (deep : KEY) (chief bunch : KEYS) : A_dco := ⟨deep.length, deep, chief, bunch⟩
def pinC (chief : KEYS) : KEYS := sortE (chief.map (fun k => k ++ [(0 : Int)]) ++ [chief.headD [] ++ [(1 : Int)]])
def pinB (bunch : KEYS) : KEYS := bunch.map fun k => k ++ [(1 : Int)]
def aP (deep : KEY) (chief bunch : KEYS) : A_dco := ⟨deep.length + 1, deep ++ [2], pinC chief, pinB bunch⟩
def Mate (deep : KEY) (chief : KEYS) (mate : KEY) : Prop := mate.length = deep.length ∧ ∀ p, p < deep.length → mate.getD p 0 ∈ column chief p
def aM (deep : KEY) (chief bunch : KEYS) (mate : KEY) : A_dco := ⟨deep.length, deep, sortE (chief ++ [mate]), bunch⟩
/-- names: the cuts of each pin in some order -/
def NamesP (deep : KEY) (names : NAMES) : Prop := names.length = deep.length ∧ ∀ p, p < deep.length → (names.getD p []).Perm (upTo (deep.getD p 0))
def aN (deep : KEY) (chief bunch : KEYS) (names : NAMES) : A_dco := ⟨deep.length, deep, namedK names chief, namedK names bunch⟩
structure Legit (deep : KEY) (chief bunch lone : KEYS) : Prop where
  d : DeepOk deep
  c : ChiefOk deep chief
  b : BunchOk deep 4 bunch
  l : BunchOk deep 6 lone
end K78

-- part KM1
set_option Elab.async false
set_option linter.all false
/-! KM1: sums over keys; boxes; volumes. -/
namespace K78
open PySem
/-! ### sums -/
def sumI {α : Type} (l : List α) (f : α → Int) : Int := (l.map f).sum
theorem sumI_nil {α : Type} (f : α → Int) : sumI [] f = 0 := rfl
theorem sumI_cons {α : Type} (x : α) (l : List α) (f : α → Int) : sumI (x :: l) f = f x + sumI l f := by
  unfold sumI
  rw [List.map_cons, List.sum_cons]
theorem sumI_congr {α : Type} {l : List α} {f g : α → Int} (h : ∀ x ∈ l, f x = g x) : sumI l f = sumI l g := by
  unfold sumI
  rw [List.map_congr_left h]
theorem sumI_add {α : Type} (l : List α) (f g : α → Int) : sumI l (fun x => f x + g x) = sumI l f + sumI l g := by
  induction l with
  | nil => rfl
  | cons x l ih => rw [sumI_cons, sumI_cons, sumI_cons, ih]; omega
theorem sumI_mul {α : Type} (l : List α) (c : Int) (f : α → Int) : sumI l (fun x => c * f x) = c * sumI l f := by
  induction l with
  | nil => rw [sumI_nil, sumI_nil, Int.mul_zero]
  | cons x l ih => rw [sumI_cons, sumI_cons, ih, Int.mul_add]
theorem sumI_zero {α : Type} (l : List α) : sumI l (fun _ => 0) = 0 := by
  induction l with
  | nil => rfl
  | cons x l ih => rw [sumI_cons, ih]; rfl
theorem sumI_app {α : Type} (l m : List α) (f : α → Int) : sumI (l ++ m) f = sumI l f + sumI m f := by
  induction l with
  | nil => rw [List.nil_append, sumI_nil, Int.zero_add]
  | cons x l ih => rw [List.cons_append, sumI_cons, sumI_cons, ih, Int.add_assoc]
theorem sumI_perm {α : Type} {l m : List α} (h : l.Perm m) (f : α → Int) : sumI l f = sumI m f := by
  induction h with
  | nil => rfl
  | cons x _ ih => rw [sumI_cons, sumI_cons, ih]
  | swap x y l => rw [sumI_cons, sumI_cons, sumI_cons, sumI_cons]; omega
  | trans _ _ ih1 ih2 => rw [ih1, ih2]
theorem sumI_map {α β : Type} (l : List α) (g : α → β) (f : β → Int) : sumI (l.map g) f = sumI l (fun x => f (g x)) := by
  unfold sumI
  rw [List.map_map]
  rfl
theorem sumI_filter {α : Type} (l : List α) (p : α → Bool) (v : Int) : sumI l (fun x => if p x = true then v else 0) = ((l.filter p).length : Int) * v := by
  induction l with
  | nil => rw [sumI_nil, List.filter_nil, List.length_nil]; exact (Int.zero_mul v).symm
  | cons x l ih =>
    rw [sumI_cons, ih, List.filter_cons]
    cases h : p x with
    | true => rw [if_pos rfl, if_pos rfl, List.length_cons, Int.natCast_add, Int.add_mul]; show v + _ = _ + 1 * v; omega
    | false => rw [if_neg (by decide), if_neg (by decide), Int.zero_add]
theorem nodup_upTo (d : Int) : (upTo d).Nodup := by
  unfold upTo
  refine List.Pairwise.map _ ?_ List.nodup_range
  intro a b h e
  exact h (by omega)
theorem mem_upTo {d x : Int} : x ∈ upTo d ↔ 0 ≤ x ∧ x < d := by
  unfold upTo
  rw [List.mem_map]
  constructor
  · rintro ⟨i, hi, rfl⟩
    have := List.mem_range.mp hi
    omega
  · rintro ⟨h1, h2⟩
    exact ⟨x.toNat, List.mem_range.mpr (by omega), by omega⟩
theorem filter_len {l c : List Int} (hl : l.Nodup) (hc : c.Nodup) (hs : ∀ x ∈ c, x ∈ l) : (l.filter (fun x => decide (x ∈ c))).length = c.length := by
  refine Nat.le_antisymm (nodup_sub_len (hl.filter _) fun x hx => of_decide_eq_true (List.mem_filter.mp hx).2) (nodup_sub_len hc fun x hx => List.mem_filter.mpr ⟨hs x hx, decide_eq_true hx⟩)
theorem sum_cell {d : Int} {c : List Int} (hc : c.Nodup) (hs : ∀ x ∈ c, 0 ≤ x ∧ x < d) (v : Int) : sumI (upTo d) (fun x => if x ∈ c then v else 0) = (c.length : Int) * v := by
  have h := sumI_filter (upTo d) (fun x => decide (x ∈ c)) v
  rw [filter_len (nodup_upTo d) hc fun x hx => mem_upTo.mpr (hs x hx)] at h
  rw [← h]
  refine sumI_congr fun x _ => ?_
  by_cases hx : x ∈ c
  · rw [if_pos hx, if_pos (decide_eq_true hx)]
  · rw [if_neg hx, if_neg (by rw [decide_eq_false hx]; decide)]
/-! ### sums over keys -/
def S : KEY → (KEY → Int) → Int
  | [], f => f []
  | d :: ds, f => sumI (upTo d) fun x => S ds fun k => f (x :: k)
theorem keyIn_nil {k : KEY} : KeyIn [] k ↔ k = [] := ⟨fun h => List.eq_nil_of_length_eq_zero h.1, fun h => by subst h; exact ⟨rfl, fun p hp => absurd hp (Nat.not_lt_zero p)⟩⟩
theorem keyIn_cons {d x : Int} {ds k : KEY} : KeyIn (d :: ds) (x :: k) ↔ (0 ≤ x ∧ x < d) ∧ KeyIn ds k := by
  constructor
  · rintro ⟨h1, h2⟩
    exact ⟨h2 0 (Nat.zero_lt_succ _), by simpa using h1, fun p hp => h2 (p + 1) (Nat.succ_lt_succ hp)⟩
  · rintro ⟨h1, h2, h3⟩
    refine ⟨by simp [h2], fun p hp => ?_⟩
    cases p with
    | zero => exact h1
    | succ p => exact h3 p (Nat.lt_of_succ_lt_succ hp)
theorem S_congr : ∀ {deep : KEY} {f g : KEY → Int}, (∀ k, KeyIn deep k → f k = g k) → S deep f = S deep g
  | [], f, g, h => h [] (keyIn_nil.mpr rfl)
  | d :: ds, f, g, h => sumI_congr fun x hx => S_congr fun k hk => h (x :: k) (keyIn_cons.mpr ⟨mem_upTo.mp hx, hk⟩)
theorem S_add : ∀ (deep : KEY) (f g : KEY → Int), S deep (fun k => f k + g k) = S deep f + S deep g
  | [], f, g => rfl
  | d :: ds, f, g => by
    show sumI _ _ = sumI _ _ + sumI _ _
    rw [← sumI_add]
    exact sumI_congr fun x _ => S_add ds _ _
theorem S_mul : ∀ (deep : KEY) (c : Int) (f : KEY → Int), S deep (fun k => c * f k) = c * S deep f
  | [], c, f => rfl
  | d :: ds, c, f => by
    show sumI _ _ = c * sumI _ _
    rw [← sumI_mul]
    exact sumI_congr fun x _ => S_mul ds c _
theorem S_zero : ∀ (deep : KEY), S deep (fun _ => 0) = 0
  | [] => rfl
  | d :: ds => by
    show sumI _ _ = 0
    rw [show (fun (x : Int) => S ds fun k => 0) = fun _ => 0 from funext fun _ => S_zero ds]
    exact sumI_zero _
theorem S_sumI {α : Type} (deep : KEY) (l : List α) (f : α → KEY → Int) : S deep (fun k => sumI l fun a => f a k) = sumI l fun a => S deep (f a) := by
  induction l with
  | nil => exact S_zero deep
  | cons a l ih =>
    rw [sumI_cons, ← ih, ← S_add]
    rfl
/-! ### boxes -/
def inB : KEY → Box → Bool
  | [], [] => true
  | x :: k, c :: b => decide (x ∈ c) && inB k b
  | _, _ => false
def Fit : KEY → Box → Prop
  | [], [] => True
  | d :: ds, c :: b => (c.Nodup ∧ ∀ x ∈ c, 0 ≤ x ∧ x < d) ∧ Fit ds b
  | _, _ => False
def ind (b : Bool) : Int := if b = true then 1 else 0
theorem prodI_cons (a : Int) (l : List Int) : prodI (a :: l) = a * prodI l := by
  have h : ∀ (l : List Int) (a : Int), l.foldl (· * ·) a = a * l.foldl (· * ·) 1 := by
    intro l
    induction l with
    | nil => intro a; exact (Int.mul_one a).symm
    | cons b l ih =>
      intro a
      rw [List.foldl_cons, List.foldl_cons, ih (a * b), ih (1 * b), Int.one_mul, Int.mul_assoc]
  show (a :: l).foldl (· * ·) 1 = a * l.foldl (· * ·) 1
  rw [List.foldl_cons, h l (1 * a), Int.one_mul]
theorem vol_S : ∀ {deep : KEY} {b : Box}, Fit deep b → volI b = S deep (fun k => ind (inB k b))
  | [], [], _ => rfl
  | d :: ds, c :: b, ⟨⟨h1, h2⟩, h3⟩ => by
    have ih := vol_S h3
    show prodI ((c.length : Int) :: b.map fun c => (c.length : Int)) = _
    rw [prodI_cons]
    show (c.length : Int) * volI b = _
    rw [ih, ← sum_cell h1 h2]
    refine sumI_congr fun x _ => ?_
    by_cases hx : x ∈ c
    · rw [if_pos hx]
      refine S_congr fun k _ => ?_
      show _ = ind (decide (x ∈ c) && inB k b)
      rw [decide_eq_true hx, Bool.true_and]
    · rw [if_neg hx]
      rw [show (fun k => ind (inB (x :: k) (c :: b))) = fun _ => 0 from funext fun k => by
        show ind (decide (x ∈ c) && inB k b) = 0
        rw [decide_eq_false hx, Bool.false_and]
        rfl]
      exact (S_zero ds).symm
/-! ### weights -/
def wt (l : Cnt) (k : KEY) : Int := sumI l fun p => p.2 * ind (inB k p.1)
def FitA (deep : KEY) (l : Cnt) : Prop := ∀ p ∈ l, Fit deep p.1
theorem total_S {deep : KEY} {l : Cnt} (h : FitA deep l) : totalC l = S deep (wt l) := by
  show sumI l (fun p => p.2 * volI p.1) = S deep (fun k => sumI l fun p => p.2 * ind (inB k p.1))
  rw [S_sumI]
  refine sumI_congr fun p hp => ?_
  rw [vol_S (h p hp), S_mul]
theorem wt_map_ne {l : Cnt} {b : Box} {n : Int} (h : b ∉ l.map (·.1)) : l.map (fun p => if p.1 = b then (p.1, n) else p) = l := by
  refine (List.map_congr_left fun p hp => ?_).trans (List.map_id l)
  have : p.1 ≠ b := fun e => h (List.mem_map.mpr ⟨p, hp, e⟩)
  rw [if_neg this]
  rfl
theorem wt_put {l : Cnt} (h : (l.map (·.1)).Nodup) (b : Box) (m : Int) (k : KEY) : wt (putC l b (getC l b + m)) k = wt l k + m * ind (inB k b) := by
  unfold putC
  by_cases hb : b ∈ l.map (·.1)
  · rw [if_pos hb]
    induction l with
    | nil => cases hb
    | cons p l ih =>
      rw [List.map_cons, List.nodup_cons] at h
      by_cases e : p.1 = b
      · have e2 : getC (p :: l) b = p.2 := by
          unfold getC
          rw [List.find?_cons, decide_eq_true e]
          rfl
        have nb : b ∉ l.map (·.1) := e ▸ h.1
        rw [e2, List.map_cons, if_pos e, wt_map_ne nb]
        unfold wt
        rw [sumI_cons, sumI_cons]
        show (p.2 + m) * ind (inB k p.1) + _ = _
        rw [e, Int.add_mul]
        omega
      · have e2 : getC (p :: l) b = getC l b := by
          unfold getC
          rw [List.find?_cons, decide_eq_false e]
        have hb' : b ∈ l.map (·.1) := by
          rcases List.mem_cons.mp hb with hb | hb
          · exact absurd hb.symm e
          · exact hb
        have := ih h.2 hb'
        rw [e2, List.map_cons, if_neg e]
        unfold wt at this ⊢
        rw [sumI_cons, sumI_cons, this]
        omega
  · rw [if_neg hb]
    have e2 : getC l b = 0 := by
      unfold getC
      rw [List.find?_eq_none.mpr fun p hp => by
        rw [decide_eq_true_iff]
        exact fun e => hb (List.mem_map.mpr ⟨p, hp, e⟩)]
      rfl
    rw [e2, Int.zero_add]
    unfold wt
    rw [sumI_app, sumI_cons, sumI_nil, Int.add_zero]
end K78

-- part KM2
set_option Elab.async false
set_option linter.all false
/-! KM2: weights of meeting, together, added. -/
namespace K78
open PySem
theorem mem_meetC {x : Int} {c c' : List Int} : x ∈ meetC (c, c') ↔ x ∈ c ∧ x ∈ c' := by
  unfold meetC
  split
  · rename_i h
    have h : c = c' := h
    subst h
    exact ⟨fun h => ⟨h, h⟩, fun h => h.1⟩
  · rw [List.mem_filter]
    exact ⟨fun h => ⟨h.1, memE_iff.mp h.2⟩, fun h => ⟨h.1, memE_iff.mpr h.2⟩⟩
theorem inB_meet : ∀ {deep : KEY} {one other : Box}, Fit deep one → Fit deep other → ∀ k, inB k (meetL one other) = (inB k one && inB k other)
  | [], [], [], _, _, k => by cases k <;> rfl
  | d :: ds, c :: one, c' :: other, ⟨_, h⟩, ⟨_, h'⟩, k => by
    cases k with
    | nil => rfl
    | cons x k =>
      show (decide (x ∈ meetC (c, c')) && inB k (meetL one other)) = ((decide (x ∈ c) && inB k one) && (decide (x ∈ c') && inB k other))
      rw [inB_meet h h' k]
      have e : decide (x ∈ meetC (c, c')) = (decide (x ∈ c) && decide (x ∈ c')) := by
        rw [← Bool.decide_and]
        exact decide_eq_decide.mpr mem_meetC
      rw [e]
      cases decide (x ∈ c) <;> cases decide (x ∈ c') <;> cases inB k one <;> rfl
theorem fit_meet : ∀ {deep : KEY} {one other : Box}, Fit deep one → Fit deep other → Fit deep (meetL one other)
  | [], [], [], _, _ => trivial
  | d :: ds, c :: one, c' :: other, ⟨⟨h1, h2⟩, h⟩, ⟨_, h'⟩ => ⟨⟨by
      unfold meetC
      split
      · exact h1
      · exact h1.filter _, fun x hx => h2 x (mem_meetC.mp hx).1⟩, fit_meet h h'⟩
theorem inB_empty : ∀ {b : Box}, [] ∈ b → ∀ k, inB k b = false
  | c :: b, h, [] => rfl
  | c :: b, h, x :: k => by
    show (decide (x ∈ c) && inB k b) = false
    rcases List.mem_cons.mp h with e | h
    · subst e; rfl
    · rw [inB_empty h k, Bool.and_false]
def NF (deep : KEY) (l : Cnt) : Prop := (l.map (·.1)).Nodup ∧ FitA deep l
section
variable {deep : KEY}
theorem nf_put {l : Cnt} (h : NF deep l) {b : Box} (hb : Fit deep b) (n : Int) : NF deep (putC l b n) := ⟨putC_nodup h.1 b n, fun p hp => by
  rcases putC_mem hp with e | e
  · rw [e]; exact hb
  · obtain ⟨q, hq, e⟩ := List.mem_map.mp e
    rw [← e]
    exact h.2 q hq⟩
theorem fresh_step {box : Box} (hb : Fit deep box) {acc : Cnt} (h : NF deep acc) {p : Box × Int} (hp : Fit deep p.1) : NF deep (freshStep box acc p) ∧ ∀ k, wt (freshStep box acc p) k = wt acc k - ind (inB k box) * (p.2 * ind (inB k p.1)) := by
  unfold freshStep meetB
  by_cases hm : memE [] (meetL box p.1) = true
  · rw [if_pos hm]
    refine ⟨h, fun k => ?_⟩
    have h0 := inB_empty (memE_iff.mp hm) k
    rw [inB_meet hb hp k] at h0
    have e : ind (inB k box) * (p.2 * ind (inB k p.1)) = 0 := by
      rcases Bool.and_eq_false_iff.mp h0 with e | e
      · rw [e]; exact Int.zero_mul _
      · rw [e]; show _ * (p.2 * 0) = 0; rw [Int.mul_zero, Int.mul_zero]
    rw [e]
    exact (Int.sub_zero _).symm
  · rw [if_neg hm]
    refine ⟨nf_put h (fit_meet hb hp) _, fun k => ?_⟩
    show wt (putC acc (meetL box p.1) (getC acc (meetL box p.1) - p.2)) k = _
    rw [Int.sub_eq_add_neg, wt_put h.1, inB_meet hb hp k]
    cases inB k box <;> cases inB k p.1 <;> simp [ind] <;> omega
theorem fresh_fold {box : Box} (hb : Fit deep box) : ∀ (l acc : Cnt), NF deep acc → FitA deep l → NF deep (l.foldl (freshStep box) acc) ∧ ∀ k, wt (l.foldl (freshStep box) acc) k = wt acc k - ind (inB k box) * wt l k
  | [], acc, h, _ => ⟨h, fun k => by show wt acc k = wt acc k - _ * 0; rw [Int.mul_zero, Int.sub_zero]⟩
  | p :: l, acc, h, hl => by
    obtain ⟨h1, h2⟩ := fresh_step hb h (hl p List.mem_cons_self)
    obtain ⟨h3, h4⟩ := fresh_fold hb l _ h1 fun q hq => hl q (List.mem_cons_of_mem _ hq)
    refine ⟨h3, fun k => ?_⟩
    rw [List.foldl_cons, h4 k, h2 k]
    show _ = wt acc k - ind (inB k box) * sumI (p :: l) _
    rw [sumI_cons, Int.mul_add]
    show _ - ind (inB k box) * wt l k = _ - (_ + ind (inB k box) * wt l k)
    omega
theorem merge_fold : ∀ (l acc : Cnt), NF deep acc → FitA deep l → NF deep (l.foldl (fun acc p => putC acc p.1 (getC acc p.1 + p.2)) acc) ∧ ∀ k, wt (l.foldl (fun acc p => putC acc p.1 (getC acc p.1 + p.2)) acc) k = wt acc k + wt l k
  | [], acc, h, _ => ⟨h, fun k => (Int.add_zero _).symm⟩
  | p :: l, acc, h, hl => by
    have h1 := nf_put h (hl p List.mem_cons_self) (getC acc p.1 + p.2)
    obtain ⟨h3, h4⟩ := merge_fold l _ h1 fun q hq => hl q (List.mem_cons_of_mem _ hq)
    refine ⟨h3, fun k => ?_⟩
    rw [List.foldl_cons, h4 k, wt_put h.1]
    show _ = wt acc k + sumI (p :: l) _
    rw [sumI_cons, Int.add_assoc]
    rfl
theorem add_fold (t : Int) : ∀ (l acc : Cnt), NF deep acc → FitA deep l → NF deep (l.foldl (addStep t) acc) ∧ ∀ k, wt (l.foldl (addStep t) acc) k = wt acc k + t * wt l k
  | [], acc, h, _ => ⟨h, fun k => by show wt acc k = wt acc k + t * 0; rw [Int.mul_zero, Int.add_zero]⟩
  | p :: l, acc, h, hl => by
    have h1 := nf_put h (hl p List.mem_cons_self) (getC acc p.1 + t * p.2)
    obtain ⟨h3, h4⟩ := add_fold t l _ h1 fun q hq => hl q (List.mem_cons_of_mem _ hq)
    refine ⟨h3, fun k => ?_⟩
    refine (h4 k).trans ?_
    rw [wt_put h.1]
    show _ = wt acc k + t * sumI (p :: l) _
    rw [sumI_cons, Int.mul_add, Int.add_assoc, Int.mul_assoc]
    rfl
theorem filt_wt {l : Cnt} (h : NF deep l) : NF deep (l.filter nonZ) ∧ ∀ k, wt (l.filter nonZ) k = wt l k := by
  refine ⟨⟨List.Pairwise.sublist (List.Sublist.map _ List.filter_sublist) h.1, fun p hp => h.2 p (List.mem_filter.mp hp).1⟩, fun k => ?_⟩
  clear h
  induction l with
  | nil => rfl
  | cons p l ih =>
    rw [List.filter_cons]
    unfold wt at ih ⊢
    by_cases hz : p.2 = 0
    · rw [if_neg (by unfold nonZ; rw [decide_eq_true hz]; decide), ih, sumI_cons, hz, Int.zero_mul, Int.zero_add]
    · rw [if_pos (by unfold nonZ; rw [decide_eq_false hz]; decide), sumI_cons, sumI_cons, ih]
theorem step_wt {found : Cnt} (h : NF deep found) {box : Box} (hb : Fit deep box) : NF deep (stepC found box) ∧ ∀ k, wt (stepC found box) k = wt found k + ind (inB k box) * (1 - wt found k) := by
  have h0 : NF deep [(box, 1)] := ⟨by simp, fun p hp => by rw [List.mem_singleton.mp hp]; exact hb⟩
  obtain ⟨h1, h2⟩ := fresh_fold hb found _ h0 h.2
  obtain ⟨h3, h4⟩ := merge_fold (freshC box found) found h h1.2
  obtain ⟨h5, h6⟩ := filt_wt h3
  refine ⟨h5, fun k => ?_⟩
  have e2 : wt (freshC box found) k = ind (inB k box) - ind (inB k box) * wt found k := by
    refine (h2 k).trans ?_
    have : wt [(box, 1)] k = ind (inB k box) := by
      unfold wt
      rw [sumI_cons, sumI_nil, Int.add_zero, Int.one_mul]
    rw [this]
  refine (h6 k).trans ((h4 k).trans ?_)
  rw [e2, Int.mul_sub, Int.mul_one]
theorem tog_fold : ∀ (boxes : List Box) (found : Cnt), NF deep found → (∀ b ∈ boxes, Fit deep b) → NF deep (boxes.foldl stepC found) ∧ ∀ k B, wt found k = ind B → wt (boxes.foldl stepC found) k = ind (B || boxes.any (inB k))
  | [], found, h, _ => ⟨h, fun k B e => by rw [List.any_nil, Bool.or_false]; exact e⟩
  | b :: boxes, found, h, hb => by
    obtain ⟨h1, h2⟩ := step_wt h (hb b List.mem_cons_self)
    obtain ⟨h3, h4⟩ := tog_fold boxes _ h1 fun c hc => hb c (List.mem_cons_of_mem _ hc)
    refine ⟨h3, fun k B e => ?_⟩
    rw [List.foldl_cons, h4 k (B || inB k b) (by rw [h2 k, e]; cases B <;> cases inB k b <;> rfl), List.any_cons, Bool.or_assoc]
theorem tog_wt {boxes : List Box} (h : ∀ b ∈ boxes, Fit deep b) : NF deep (togetherC boxes) ∧ ∀ k, wt (togetherC boxes) k = ind (boxes.any (inB k)) := by
  obtain ⟨h1, h2⟩ := tog_fold boxes [] ⟨by simp, fun p hp => nomatch hp⟩ h
  exact ⟨h1, fun k => (h2 k false rfl).trans (by rw [Bool.false_or])⟩
theorem add_wt {counts others : Cnt} (t : Int) (h : NF deep counts) (h2 : NF deep others) : NF deep (addC counts others t) ∧ ∀ k, wt (addC counts others t) k = wt counts k + t * wt others k := add_fold t others counts h h2.2
end
/-! ### the boxes of a lock -/
theorem fit_upTo : ∀ (deep : KEY), Fit deep (deep.map upTo)
  | [] => trivial
  | d :: ds => ⟨⟨nodup_upTo d, fun x hx => mem_upTo.mp hx⟩, fit_upTo ds⟩
theorem inB_upTo : ∀ {deep : KEY} {k : KEY}, KeyIn deep k → inB k (deep.map upTo) = true
  | [], k, h => by rw [keyIn_nil.mp h]; rfl
  | d :: ds, [], h => by have := h.1; simp at this
  | d :: ds, x :: k, h => by
    obtain ⟨h1, h2⟩ := keyIn_cons.mp h
    show (decide (x ∈ upTo d) && inB k (ds.map upTo)) = true
    rw [inB_upTo h2, decide_eq_true (mem_upTo.mpr h1)]
    rfl
theorem fit_of_range : ∀ {deep : KEY} {F : Nat → List Int}, (∀ p, p < deep.length → (F p).Nodup ∧ ∀ x ∈ F p, 0 ≤ x ∧ x < deep.getD p 0) → Fit deep ((List.range deep.length).map F)
  | [], F, h => trivial
  | d :: ds, F, h => by
    rw [List.length_cons, List.range_succ_eq_map, List.map_cons, List.map_map]
    exact ⟨h 0 (Nat.zero_lt_succ _), fit_of_range (F := F ∘ Nat.succ) fun p hp => h (p + 1) (Nat.succ_lt_succ hp)⟩
theorem inB_range : ∀ {n : Nat} {F : Nat → List Int} {k : KEY}, k.length = n → (inB k ((List.range n).map F) = true ↔ ∀ p, p < n → k.getD p 0 ∈ F p)
  | 0, F, k, h => by
    rw [List.eq_nil_of_length_eq_zero h]
    exact ⟨fun _ p hp => absurd hp (Nat.not_lt_zero p), fun _ => rfl⟩
  | n + 1, F, [], h => by simp at h
  | n + 1, F, x :: k, h => by
    rw [List.range_succ_eq_map, List.map_cons, List.map_map]
    show (decide (x ∈ F 0) && inB k ((List.range n).map (F ∘ Nat.succ))) = true ↔ _
    rw [Bool.and_eq_true, decide_eq_true_iff, inB_range (n := n) (by simpa using h)]
    constructor
    · rintro ⟨h1, h2⟩ p hp
      cases p with
      | zero => exact h1
      | succ p => exact h2 p (Nat.lt_of_succ_lt_succ hp)
    · intro h
      exact ⟨h 0 (Nat.zero_lt_succ _), fun p hp => h (p + 1) (Nat.succ_lt_succ hp)⟩
theorem inB_only : ∀ {c k : KEY}, inB k (onlyOf c) = decide (k = c)
  | [], [] => rfl
  | [], x :: k => rfl
  | c :: cs, [] => rfl
  | c :: cs, x :: k => by
    show (decide (x ∈ [c]) && inB k (onlyOf cs)) = _
    rw [inB_only, ← Bool.decide_and]
    refine decide_eq_decide.mpr ?_
    rw [List.mem_singleton]
    constructor
    · rintro ⟨rfl, rfl⟩; rfl
    · intro h; injection h with h1 h2; exact ⟨h1, h2⟩
theorem fit_only : ∀ {deep c : KEY}, KeyIn deep c → Fit deep (onlyOf c)
  | [], c, h => by rw [keyIn_nil.mp h]; trivial
  | d :: ds, [], h => by have := h.1; simp at this
  | d :: ds, c :: cs, h => by
    obtain ⟨h1, h2⟩ := keyIn_cons.mp h
    exact ⟨⟨by simp, fun x hx => by rw [List.mem_singleton.mp hx]; exact h1⟩, fit_only h2⟩
end K78

-- part KM3
set_option Elab.async false
set_option linter.all false
/-! KM3: ranks. -/
namespace K78
open PySem
def rk : KEY → Box → Nat
  | x :: k, s :: sh => (if x ∈ s then 0 else 1) + rk k sh
  | _, _ => 0
theorem getD_zip_map {α : Type} (f : Int × Int → Int) : ∀ (a b : List Int) (r : Nat), r < a.length → r < b.length → ((a.zip b).map f).getD r 0 = f (a.getD r 0, b.getD r 0)
  | [], _, r, h, _ => absurd h (Nat.not_lt_zero r)
  | _ :: _, [], r, _, h => absurd h (Nat.not_lt_zero r)
  | x :: a, y :: b, 0, _, _ => rfl
  | x :: a, y :: b, r + 1, h1, h2 => getD_zip_map (α := α) f a b r (Nat.lt_of_succ_lt_succ h1) (Nat.lt_of_succ_lt_succ h2)
theorem getD_out {l : List Int} {r : Nat} (h : l.length ≤ r) : l.getD r 0 = 0 := by
  rw [List.getD_eq_getElem?_getD, List.getElem?_eq_none h]
  rfl
theorem getD_snoc (l : List Int) (r : Nat) : (l ++ [0]).getD r 0 = l.getD r 0 := by
  by_cases h : r < l.length
  · rw [List.getD_eq_getElem?_getD, List.getElem?_append_left h, List.getD_eq_getElem?_getD]
  · rw [getD_out (Nat.le_of_not_lt h), List.getD_eq_getElem?_getD, List.getElem?_append_right (Nat.le_of_not_lt h)]
    cases r - l.length <;> rfl
def prev (l : List Int) (r : Nat) : Int := if r = 0 then 0 else l.getD (r - 1) 0
theorem getD_zero_cons (l : List Int) (r : Nat) : (0 :: l).getD r 0 = prev l r := by
  cases r with
  | zero => rfl
  | succ r => rfl
theorem rstepA_len (acc : List Int) (p : List Int × List Int) : (rstep acc p).length = acc.length + 1 := by
  unfold rstep
  simp
theorem rstep_get (acc c s : List Int) (r : Nat) : (rstep acc (c, s)).getD r 0 = (manyC c s : Int) * acc.getD r 0 + ((c.length : Int) - (manyC c s : Int)) * prev acc r := by
  by_cases h : r < acc.length + 1
  · unfold rstep
    rw [getD_zip_map (α := Int) _ _ _ r (by rw [List.length_append]; exact h) (by rw [List.length_cons]; exact h), getD_snoc, getD_zero_cons]
  · rw [getD_out (by rw [rstepA_len]; omega), getD_out (by omega)]
    have : prev acc r = 0 := by
      unfold prev
      rw [if_neg (by omega)]
      exact getD_out (by omega)
    rw [this, Int.mul_zero, Int.mul_zero]
    rfl
theorem many_filter (c s : List Int) : manyC c s = (c.filter fun x => decide (x ∈ s)).length := rfl
theorem rest_filter (c s : List Int) : (c.length : Int) - (manyC c s : Int) = ((c.filter fun x => !decide (x ∈ s)).length : Int) := by
  rw [many_filter]
  induction c with
  | nil => rfl
  | cons x c ih =>
    rw [List.filter_cons, List.filter_cons, List.length_cons]
    cases decide (x ∈ s) with
    | true => rw [if_pos rfl, if_neg (by decide), List.length_cons]; omega
    | false => rw [if_neg (by decide), if_pos (by decide), List.length_cons]; omega
def upA (acc : List Int) (r m : Nat) : Int := if m ≤ r then acc.getD (r - m) 0 else 0
theorem ind_and (a b : Bool) : ind (a && b) = ind a * ind b := by cases a <;> cases b <;> rfl
theorem rank_fold : ∀ {deep : KEY} {b sh : Box} (acc : List Int) (r : Nat), Fit deep b → sh.length = deep.length → ((b.zip sh).foldl rstep acc).getD r 0 = S deep fun k => ind (inB k b) * upA acc r (rk k sh)
  | [], [], [], acc, r, _, _ => by
    show acc.getD r 0 = 1 * upA acc r 0
    rw [Int.one_mul]
    unfold upA
    rw [if_pos (Nat.zero_le _), Nat.sub_zero]
  | d :: ds, c :: b, s :: sh, acc, r, ⟨⟨h1, h2⟩, h3⟩, hl => by
    have ih := rank_fold (rstep acc (c, s)) r h3 (show sh.length = ds.length by simpa using hl)
    show ((b.zip sh).foldl rstep (rstep acc (c, s))).getD r 0 = _
    rw [ih]
    have e : (fun k => ind (inB k b) * upA (rstep acc (c, s)) r (rk k sh)) = fun k => (manyC c s : Int) * (ind (inB k b) * upA acc r (rk k sh)) + ((c.length : Int) - (manyC c s : Int)) * (ind (inB k b) * upA acc r (1 + rk k sh)) := by
      funext k
      have e1 : upA (rstep acc (c, s)) r (rk k sh) = (manyC c s : Int) * upA acc r (rk k sh) + ((c.length : Int) - (manyC c s : Int)) * upA acc r (1 + rk k sh) := by
        unfold upA
        by_cases h : rk k sh ≤ r
        · rw [if_pos h, if_pos h, rstep_get]
          congr 1
          unfold prev
          by_cases h' : r - rk k sh = 0
          · rw [if_pos h', if_neg (by omega)]
          · rw [if_neg h', if_pos (by omega), show r - (1 + rk k sh) = r - rk k sh - 1 by omega]
        · rw [if_neg h, if_neg h, if_neg (by omega), Int.mul_zero, Int.mul_zero]
          rfl
      rw [e1, Int.mul_add, Int.mul_left_comm, Int.mul_left_comm (ind (inB k b))]
    rw [e, S_add, S_mul, S_mul, rest_filter, many_filter]
    rw [← sum_cell (h1.filter _) (fun x hx => h2 x (List.mem_filter.mp hx).1), ← sum_cell (h1.filter _) (fun x hx => h2 x (List.mem_filter.mp hx).1), ← sumI_add]
    refine sumI_congr fun x _ => ?_
    by_cases hc : x ∈ c
    · by_cases hs : x ∈ s
      · rw [if_pos (List.mem_filter.mpr ⟨hc, decide_eq_true hs⟩), if_neg (fun h => by have := (List.mem_filter.mp h).2; rw [decide_eq_true hs] at this; cases this), Int.add_zero]
        refine S_congr fun k _ => ?_
        show _ = ind (decide (x ∈ c) && inB k b) * upA acc r ((if x ∈ s then 0 else 1) + rk k sh)
        rw [decide_eq_true hc, Bool.true_and, if_pos hs, Nat.zero_add]
      · rw [if_neg (fun h : x ∈ c.filter fun x => decide (x ∈ s) => hs (of_decide_eq_true (List.mem_filter.mp h).2)), if_pos (List.mem_filter.mpr ⟨hc, by rw [decide_eq_false hs]; rfl⟩), Int.zero_add]
        refine S_congr fun k _ => ?_
        show _ = ind (decide (x ∈ c) && inB k b) * upA acc r ((if x ∈ s then 0 else 1) + rk k sh)
        rw [decide_eq_true hc, Bool.true_and, if_neg hs]
    · rw [if_neg (fun h => hc (List.mem_filter.mp h).1), if_neg (fun h => hc (List.mem_filter.mp h).1), Int.add_zero]
      refine (S_zero ds).symm.trans (S_congr fun k _ => ?_)
      show 0 = ind (decide (x ∈ c) && inB k b) * _
      rw [decide_eq_false hc, Bool.false_and]
      exact (Int.zero_mul _).symm
theorem rank_in {deep : KEY} {b sh : Box} (r : Nat) (h : Fit deep b) (hl : sh.length = deep.length) : (ranksIn b sh).getD r 0 = S deep fun k => ind (inB k b) * (if rk k sh = r then 1 else 0) := by
  refine (rank_fold [1] r h hl).trans (S_congr fun k _ => ?_)
  congr 1
  unfold upA
  by_cases h1 : rk k sh ≤ r
  · rw [if_pos h1]
    by_cases h2 : rk k sh = r
    · rw [if_pos h2, h2, Nat.sub_self]
      rfl
    · rw [if_neg h2, getD_out (by show 1 ≤ _; omega)]
  · rw [if_neg h1, if_neg (by omega)]
theorem fit_len : ∀ {deep : KEY} {b : Box}, Fit deep b → b.length = deep.length
  | [], [], _ => rfl
  | d :: ds, c :: b, ⟨_, h⟩ => by rw [List.length_cons, List.length_cons, fit_len h]
theorem fold_len : ∀ (l : List (List Int × List Int)) (acc : List Int), (l.foldl rstep acc).length = acc.length + l.length
  | [], acc => rfl
  | p :: l, acc => by rw [List.foldl_cons, fold_len l, rstepA_len, List.length_cons]; omega
theorem ranksIn_len {deep : KEY} {b sh : Box} (h : Fit deep b) (hl : sh.length = deep.length) : (ranksIn b sh).length = deep.length + 1 := by
  unfold ranksIn
  rw [fold_len, List.length_zip, fit_len h, hl, Nat.min_self, List.length_singleton, Nat.add_comm]
theorem rof_fold {deep : KEY} {sh : Box} (hl : sh.length = deep.length) : ∀ (l : Cnt) (acc : List Int), FitA deep l → acc.length = deep.length + 1 → (l.foldl (rofStep sh) acc).length = deep.length + 1 ∧ ∀ r, r < deep.length + 1 → (l.foldl (rofStep sh) acc).getD r 0 = acc.getD r 0 + S deep fun k => if rk k sh = r then wt l k else 0
  | [], acc, _, ha => ⟨ha, fun r _ => by
    have : S deep (fun k => if rk k sh = r then wt [] k else 0) = 0 := (S_congr fun k _ => by show (if rk k sh = r then (0 : Int) else 0) = 0; split <;> rfl).trans (S_zero deep)
    rw [this]
    exact (Int.add_zero _).symm⟩
  | p :: l, acc, h, ha => by
    have hp := h p List.mem_cons_self
    have h1 := ranksIn_len hp hl
    have h2 : (rofStep sh acc p).length = deep.length + 1 := by
      unfold rofStep
      rw [List.length_map, List.length_zip, ha, h1, Nat.min_self]
    obtain ⟨h3, h4⟩ := rof_fold hl l (rofStep sh acc p) (fun q hq => h q (List.mem_cons_of_mem _ hq)) h2
    refine ⟨h3, fun r hr => (h4 r hr).trans ?_⟩
    have e : (rofStep sh acc p).getD r 0 = acc.getD r 0 + p.2 * (ranksIn p.1 sh).getD r 0 := by
      unfold rofStep
      rw [getD_zip_map (α := Int) _ _ _ r (by omega) (by omega)]
    rw [e, rank_in r hp hl, ← S_mul, Int.add_assoc, ← S_add]
    congr 1
    refine S_congr fun k _ => ?_
    by_cases hk : rk k sh = r
    · rw [if_pos hk, if_pos hk, if_pos hk, Int.mul_one]
      show _ = sumI (p :: l) _
      rw [sumI_cons]
      rfl
    · rw [if_neg hk, if_neg hk, if_neg hk, Int.mul_zero, Int.mul_zero]
      rfl
theorem list_range_get (l : List Int) : l = (List.range l.length).map fun r => l.getD r 0 := by
  refine List.ext_getElem (by simp) fun i h1 h2 => ?_
  simp [List.getElem?_eq_getElem h1]
theorem ranks_S {deep : KEY} {l : Cnt} (h : FitA deep l) (common : KEYS) : ranksOf l common deep.length = (List.range (deep.length + 1)).map fun r => S deep fun k => if rk k (cutsOf common deep.length) = r then wt l k else 0 := by
  obtain ⟨h1, h2⟩ := rof_fold (deep := deep) ((cutsOf_len common deep.length)) l (List.replicate (deep.length + 1) 0) h (by rw [List.length_replicate])
  have e := list_range_get (ranksOf l common deep.length)
  rw [e]
  have h1 : (ranksOf l common deep.length).length = deep.length + 1 := h1
  rw [h1]
  refine List.map_congr_left fun r hr => ?_
  refine (h2 r (List.mem_range.mp hr)).trans ?_
  have e0 : (List.replicate (deep.length + 1) (0 : Int)).getD r 0 = 0 := by
    rw [List.getD_eq_getElem?_getD, List.getElem?_replicate]
    split <;> rfl
  rw [e0, Int.zero_add]
theorem rk_congr : ∀ {n : Nat} {F F' : Nat → List Int} {k k' : KEY}, k.length = n → k'.length = n → (∀ p, p < n → (k.getD p 0 ∈ F p ↔ k'.getD p 0 ∈ F' p)) → rk k ((List.range n).map F) = rk k' ((List.range n).map F')
  | 0, F, F', k, k', h, h', _ => by rw [List.eq_nil_of_length_eq_zero h, List.eq_nil_of_length_eq_zero h']; rfl
  | n + 1, F, F', [], _, h, _, _ => by simp at h
  | n + 1, F, F', _ :: _, [], _, h, _ => by simp at h
  | n + 1, F, F', x :: k, y :: k', h, h', hh => by
    rw [List.range_succ_eq_map, List.map_cons, List.map_cons, List.map_map, List.map_map]
    show (if x ∈ F 0 then 0 else 1) + rk k ((List.range n).map (F ∘ Nat.succ)) = (if y ∈ F' 0 then 0 else 1) + rk k' ((List.range n).map (F' ∘ Nat.succ))
    rw [rk_congr (n := n) (F := F ∘ Nat.succ) (F' := F' ∘ Nat.succ) (k := k) (k' := k') (by simpa using h) (by simpa using h') fun p hp => hh (p + 1) (Nat.succ_lt_succ hp)]
    congr 1
    have h0 : x ∈ F 0 ↔ y ∈ F' 0 := hh 0 (Nat.zero_lt_succ _)
    by_cases hx : x ∈ F 0
    · rw [if_pos hx, if_pos (h0.mp hx)]
    · rw [if_neg hx, if_neg (fun z => hx (h0.mpr z))]
theorem rk_le : ∀ (k : KEY) (sh : Box), rk k sh ≤ sh.length
  | [], sh => Nat.zero_le _
  | x :: k, [] => Nat.zero_le _
  | x :: k, s :: sh => by
    show (if x ∈ s then 0 else 1) + rk k sh ≤ sh.length + 1
    have := rk_le k sh
    split <;> omega
end K78

-- part KM4
set_option Elab.async false
set_option linter.all false
/-! KM4: the weights of a lock. -/
namespace K78
open PySem
def col (common : KEYS) (p : Nat) (x : Int) : Prop := x ∈ column common p
theorem mem_column {common : KEYS} {p : Nat} {x : Int} : x ∈ column common p ↔ ∃ c ∈ common, c.getD p 0 = x := List.mem_map
theorem isFree_iff {common : KEYS} {o : KEY} {p : Nat} : isFree common o p = true ↔ o.getD p 0 ∉ column common p := by
  unfold isFree
  rw [List.all_eq_true]
  constructor
  · intro h hm
    obtain ⟨c, hc, e⟩ := mem_column.mp hm
    have := h c hc
    rw [decide_eq_true e] at this
    cases this
  · intro h c hc
    rw [decide_eq_false (fun e => h (mem_column.mpr ⟨c, hc, e⟩))]
    rfl
theorem row_get {common : KEYS} {o : KEY} {p : Nat} (hp : p < o.length) : (rowOf common o).getD p none = if isFree common o p = true then some (o.getD p 0) else none := by
  unfold rowOf
  rw [List.getD_eq_getElem?_getD, List.getElem?_map, List.getElem?_range hp]
  rfl
section
variable {n : Nat} {common : KEYS} {o k deep : KEY}
theorem in_opening (hk : k.length = n) : inB k (openingBox ⟨n, common, o⟩) = true ↔ ∀ p, p < n → k.getD p 0 ∈ column common p ∨ k.getD p 0 = o.getD p 0 := by
  refine (inB_range hk).trans ⟨fun h p hp => ?_, fun h p hp => ?_⟩
  · have := h p hp
    rw [mem_setOf, List.mem_append, mem_setOf, List.mem_singleton] at this
    exact this
  · rw [mem_setOf, List.mem_append, mem_setOf, List.mem_singleton]
    exact h p hp
theorem mem_cell {p : Nat} {c : List Int} {x : Int} (hp : p < o.length) : x ∈ cellOf ((rowOf common o).getD p none) c ↔ (o.getD p 0 ∉ column common p → x = o.getD p 0) ∧ (o.getD p 0 ∈ column common p → x ∈ c) := by
  rw [row_get hp]
  by_cases h : o.getD p 0 ∈ column common p
  · have hf : isFree common o p ≠ true := fun e => isFree_iff.mp e h
    rw [if_neg hf]
    exact ⟨fun hx => ⟨fun z => absurd h z, fun _ => hx⟩, fun hx => hx.2 h⟩
  · rw [if_pos (isFree_iff.mpr h)]
    show x ∈ [o.getD p 0] ↔ _
    rw [List.mem_singleton]
    exact ⟨fun e => ⟨fun _ => e, fun z => absurd z h⟩, fun hx => hx.1 h⟩
theorem in_opened (ho : o.length = n) (hd : deep.length = n) (hk : KeyIn deep k) : inB k (openedBox ⟨n, deep, common, o⟩) = true ↔ ∀ p, p < n → o.getD p 0 ∉ column common p → k.getD p 0 = o.getD p 0 := by
  refine (inB_range (hk.1.trans hd)).trans ⟨fun h p hp => ((mem_cell (ho.symm ▸ hp)).mp (h p hp)).1, fun h p hp => (mem_cell (ho.symm ▸ hp)).mpr ⟨h p hp, fun _ => ?_⟩⟩
  exact mem_upTo.mpr (hk.2 p (by omega))
theorem in_alike (ho : o.length = n) (hk : k.length = n) : inB k (alikeBox ⟨n, common, o⟩) = true ↔ ∀ p, p < n → (o.getD p 0 ∉ column common p → k.getD p 0 = o.getD p 0) ∧ (o.getD p 0 ∈ column common p → k.getD p 0 ∈ column common p) := by
  refine (inB_range hk).trans ⟨fun h p hp => ?_, fun h p hp => ?_⟩
  · have := (mem_cell (ho.symm ▸ hp)).mp (h p hp)
    exact ⟨this.1, fun z => mem_setOf.mp (this.2 z)⟩
  · exact (mem_cell (ho.symm ▸ hp)).mpr ⟨(h p hp).1, fun z => mem_setOf.mpr ((h p hp).2 z)⟩
theorem nodup_setOf (l : List Int) : (setOf l).Nodup := (asc_setOf l).imp fun h e => by omega
theorem fit_opening (hd : deep.length = n) (hc : ∀ c ∈ common, KeyIn deep c) (ho : KeyIn deep o) : Fit deep (openingBox ⟨n, common, o⟩) := by
  subst hd
  refine fit_of_range fun p hp => ⟨nodup_setOf _, fun x hx => ?_⟩
  rw [mem_setOf, List.mem_append, mem_setOf, List.mem_singleton] at hx
  rcases hx with hx | rfl
  · obtain ⟨c, hc', rfl⟩ := mem_column.mp hx
    exact (hc c hc').2 p hp
  · exact ho.2 p hp
theorem fit_cell {p : Nat} {c : List Int} (hp : p < deep.length) (ho : KeyIn deep o) (h1 : c.Nodup) (h2 : ∀ x ∈ c, 0 ≤ x ∧ x < deep.getD p 0) : (cellOf ((rowOf common o).getD p none) c).Nodup ∧ ∀ x ∈ cellOf ((rowOf common o).getD p none) c, 0 ≤ x ∧ x < deep.getD p 0 := by
  have hp' : p < o.length := by rw [ho.1]; exact hp
  refine ⟨?_, fun x hx => ?_⟩
  · rw [row_get hp']
    split
    · show [o.getD p 0].Nodup
      simp
    · exact h1
  · obtain ⟨h3, h4⟩ := (mem_cell hp').mp hx
    by_cases h : o.getD p 0 ∈ column common p
    · exact h2 x (h4 h)
    · rw [h3 h]; exact ho.2 p hp
theorem fit_opened (hd : deep.length = n) (ho : KeyIn deep o) : Fit deep (openedBox ⟨n, deep, common, o⟩) := by
  subst hd
  exact fit_of_range fun p hp => fit_cell hp ho (nodup_upTo _) fun x hx => mem_upTo.mp hx
theorem fit_alike (hd : deep.length = n) (hc : ∀ c ∈ common, KeyIn deep c) (ho : KeyIn deep o) : Fit deep (alikeBox ⟨n, common, o⟩) := by
  subst hd
  refine fit_of_range fun p hp => fit_cell hp ho (nodup_setOf _) fun x hx => ?_
  obtain ⟨c, hc', rfl⟩ := mem_column.mp (mem_setOf.mp hx)
  exact (hc c hc').2 p hp
end
/-! ### conditions, pin by pin -/
def P1 (n : Nat) (common : KEYS) (k o : KEY) : Prop := ∀ p, p < n → k.getD p 0 ∈ column common p ∨ k.getD p 0 = o.getD p 0
def P2 (n : Nat) (common : KEYS) (k o : KEY) : Prop := ∀ p, p < n → o.getD p 0 ∉ column common p → k.getD p 0 = o.getD p 0
def P3 (n : Nat) (common : KEYS) (k o : KEY) : Prop := ∀ p, p < n → (o.getD p 0 ∉ column common p → k.getD p 0 = o.getD p 0) ∧ (o.getD p 0 ∈ column common p → k.getD p 0 ∈ column common p)
instance {n : Nat} {common : KEYS} {k o : KEY} : Decidable (P1 n common k o) := by unfold P1; exact inferInstance
instance {n : Nat} {common : KEYS} {k o : KEY} : Decidable (P2 n common k o) := by unfold P2; exact inferInstance
instance {n : Nat} {common : KEYS} {k o : KEY} : Decidable (P3 n common k o) := by unfold P3; exact inferInstance
/-- all is well: keys of the lock -/
structure Lk (a : A_dco) : Prop where
  n : a.depths.length = a.n
  c : ∀ k ∈ a.common, KeyIn a.depths k
  o : ∀ k ∈ a.own, KeyIn a.depths k
def fW (a : A_dco) (k : KEY) : Int := 1 - ind (a.own.any fun o => decide (P1 a.n a.common k o)) - ind (a.own.any fun o => decide (P2 a.n a.common k o)) + ind (a.own.any fun o => decide (P3 a.n a.common k o))
def hW (a : A_dco) (k : KEY) : Int := 1 - ind ((a.own.any fun o => decide (P1 a.n a.common k o)) || memE k a.common)
theorem nf_one {deep : KEY} {b : Box} (h : Fit deep b) : NF deep [(b, 1)] := ⟨by simp, fun p hp => by rw [List.mem_singleton.mp hp]; exact h⟩
theorem wt_one {b : Box} {k : KEY} : wt [(b, 1)] k = ind (inB k b) := by
  unfold wt
  rw [sumI_cons, sumI_nil, Int.add_zero, Int.one_mul]
theorem any_congr {α β : Type} {l : List α} {f : α → β} {p : β → Bool} {q : α → Bool} (h : ∀ x ∈ l, p (f x) = q x) : (l.map f).any p = l.any q := by
  rw [List.any_map]
  induction l with
  | nil => rfl
  | cons x l ih =>
    rw [List.any_cons, List.any_cons, ih fun y hy => h y (List.mem_cons_of_mem _ hy)]
    rw [show (p ∘ f) x = q x from h x List.mem_cons_self]
theorem decide_of_iff {b : Bool} {p : Prop} [Decidable p] (h : b = true ↔ p) : b = decide p := by
  cases b with
  | true => exact (decide_eq_true (h.mp rfl)).symm
  | false => exact (decide_eq_false (fun z => by have := h.mpr z; cases this)).symm
theorem further_wt {a : A_dco} (h : Lk a) : FitA a.depths (furtherC a) ∧ ∀ k, KeyIn a.depths k → wt (furtherC a) k = fW a k := by
  have t1 := tog_wt (deep := a.depths) (boxes := openingsOf a) fun b hb => by
    obtain ⟨o, ho, rfl⟩ := List.mem_map.mp hb
    exact fit_opening h.n h.c (h.o o ho)
  have t2 := tog_wt (deep := a.depths) (boxes := openedsOf a) fun b hb => by
    obtain ⟨o, ho, rfl⟩ := List.mem_map.mp hb
    exact fit_opened h.n (h.o o ho)
  have t3 := tog_wt (deep := a.depths) (boxes := alikesOf a) fun b hb => by
    obtain ⟨o, ho, rfl⟩ := List.mem_map.mp hb
    exact fit_alike h.n h.c (h.o o ho)
  have n0 : NF a.depths (fc0 a) := nf_one (fit_upTo _)
  have a1 := add_wt (-1) n0 t1.1
  have a2 := add_wt (-1) a1.1 t2.1
  have a3 := add_wt 1 a2.1 t3.1
  refine ⟨a3.1.2, fun k hk => ?_⟩
  have kn : k.length = a.n := hk.1.trans h.n
  have e1 : (openingsOf a).any (inB k) = a.own.any fun o => decide (P1 a.n a.common k o) := any_congr fun o ho => decide_of_iff (in_opening kn)
  have e2 : (openedsOf a).any (inB k) = a.own.any fun o => decide (P2 a.n a.common k o) := any_congr fun o ho => decide_of_iff (in_opened ((h.o o ho).1.trans h.n) h.n hk)
  have e3 : (alikesOf a).any (inB k) = a.own.any fun o => decide (P3 a.n a.common k o) := any_congr fun o ho => decide_of_iff (in_alike ((h.o o ho).1.trans h.n) kn)
  have e0 : wt (fc0 a) k = 1 := by
    unfold fc0 wholeBox
    rw [wt_one, inB_upTo hk]
    rfl
  refine (a3.2 k).trans ?_
  rw [show wt (addC (addC (fc0 a) (togetherC (openingsOf a)) (-1)) (togetherC (openedsOf a)) (-1)) k = _ from a2.2 k, a1.2 k, t1.2 k, t2.2 k, t3.2 k, e0, e1, e2, e3]
  unfold fW
  omega
theorem harmless_wt {a : A_dco} (h : Lk a) : FitA a.depths (harmlessC a) ∧ ∀ k, KeyIn a.depths k → wt (harmlessC a) k = hW a k := by
  have t1 := tog_wt (deep := a.depths) (boxes := harmB a) fun b hb => by
    rcases List.mem_append.mp hb with hb | hb
    · obtain ⟨o, ho, rfl⟩ := List.mem_map.mp hb
      exact fit_opening h.n h.c (h.o o ho)
    · obtain ⟨c, hc, rfl⟩ := List.mem_map.mp hb
      exact fit_only (h.c c hc)
  have n0 : NF a.depths (fc0 a) := nf_one (fit_upTo _)
  have a1 := add_wt (-1) n0 t1.1
  refine ⟨a1.1.2, fun k hk => ?_⟩
  have kn : k.length = a.n := hk.1.trans h.n
  have e1 : (openingsOf a).any (inB k) = a.own.any fun o => decide (P1 a.n a.common k o) := any_congr fun o ho => decide_of_iff (in_opening kn)
  have e2 : (a.common.map onlyOf).any (inB k) = memE k a.common := by
    rw [any_congr (q := fun c => decide (k = c)) fun c hc => inB_only]
    refine Bool.eq_iff_iff.mpr ?_
    rw [List.any_eq_true, memE_iff]
    constructor
    · rintro ⟨c, hc, e⟩
      rw [of_decide_eq_true e]
      exact hc
    · intro hk
      exact ⟨k, hk, decide_eq_true rfl⟩
  have e0 : wt (fc0 a) k = 1 := by
    unfold fc0 wholeBox
    rw [wt_one, inB_upTo hk]
    rfl
  refine (a1.2 k).trans ?_
  rw [t1.2 k, e0]
  unfold harmB hW
  rw [List.any_append, e1, e2]
  omega
/-- what is asked of a lock -/
theorem further_total {a : A_dco} (h : Lk a) : totalC (furtherC a) = S a.depths (fW a) := (total_S (further_wt h).1).trans (S_congr (further_wt h).2)
theorem harmless_total {a : A_dco} (h : Lk a) : totalC (harmlessC a) = S a.depths (hW a) := (total_S (harmless_wt h).1).trans (S_congr (harmless_wt h).2)
theorem further_ranks_S {a : A_dco} (h : Lk a) : ranksOf (furtherC a) a.common a.n = (List.range (a.n + 1)).map fun r => S a.depths fun k => if rk k (cutsOf a.common a.n) = r then fW a k else 0 := by
  have := ranks_S (further_wt h).1 a.common
  rw [h.n] at this
  rw [this]
  refine List.map_congr_left fun r _ => S_congr fun k hk => ?_
  rw [(further_wt h).2 k hk]
end K78

-- part KM5
set_option Elab.async false
set_option linter.all false
/-! KM5: another lock alike; a master more; a pin more. -/
namespace K78
open PySem
theorem any_iff {α β : Type} {l : List α} {m : List β} {p : α → Bool} {q : β → Bool} (h : (∃ x ∈ l, p x = true) ↔ ∃ y ∈ m, q y = true) : l.any p = m.any q := by
  refine Bool.eq_iff_iff.mpr ?_
  rw [List.any_eq_true, List.any_eq_true]
  exact h
/-- the same at each pin -/
structure Like (n : Nat) (common : KEYS) (k o : KEY) (common' : KEYS) (k' o' : KEY) : Prop where
  hk : ∀ p, p < n → (k'.getD p 0 ∈ column common' p ↔ k.getD p 0 ∈ column common p)
  ho : ∀ p, p < n → (o'.getD p 0 ∈ column common' p ↔ o.getD p 0 ∈ column common p)
  he : ∀ p, p < n → (k'.getD p 0 = o'.getD p 0 ↔ k.getD p 0 = o.getD p 0)
section
variable {n : Nat} {common common' : KEYS} {k o k' o' : KEY}
theorem Like.p1 (h : Like n common k o common' k' o') : P1 n common' k' o' ↔ P1 n common k o := forall_congr' fun p => forall_congr' fun hp => or_congr (h.hk p hp) (h.he p hp)
theorem Like.p2 (h : Like n common k o common' k' o') : P2 n common' k' o' ↔ P2 n common k o := forall_congr' fun p => forall_congr' fun hp => imp_congr (not_congr (h.ho p hp)) (h.he p hp)
theorem Like.p3 (h : Like n common k o common' k' o') : P3 n common' k' o' ↔ P3 n common k o := forall_congr' fun p => forall_congr' fun hp => and_congr (imp_congr (not_congr (h.ho p hp)) (h.he p hp)) (imp_congr (h.ho p hp) (h.hk p hp))
end
/-- own' is own under φ -/
theorem fW_like {a a' : A_dco} {k k' : KEY} (hn : a'.n = a.n) (φ : KEY → KEY) (ho : ∀ o', o' ∈ a'.own ↔ ∃ o ∈ a.own, φ o = o') (h : ∀ o ∈ a.own, Like a.n a.common k o a'.common k' (φ o)) : fW a' k' = fW a k := by
  have key : ∀ (Q : KEY → Bool) (Q' : KEY → Bool), (∀ o ∈ a.own, Q' (φ o) = Q o) → a'.own.any Q' = a.own.any Q := fun Q Q' hq => any_iff ⟨fun ⟨o', h1, h2⟩ => by
    obtain ⟨o, h3, rfl⟩ := (ho o').mp h1
    exact ⟨o, h3, (hq o h3) ▸ h2⟩, fun ⟨o, h1, h2⟩ => ⟨φ o, (ho _).mpr ⟨o, h1, rfl⟩, (hq o h1).trans h2⟩⟩
  unfold fW
  rw [hn, key (fun o => decide (P1 a.n a.common k o)) _ fun o h' => decide_eq_decide.mpr (h o h').p1, key (fun o => decide (P2 a.n a.common k o)) _ fun o h' => decide_eq_decide.mpr (h o h').p2, key (fun o => decide (P3 a.n a.common k o)) _ fun o h' => decide_eq_decide.mpr (h o h').p3]
theorem hW_like {a a' : A_dco} {k k' : KEY} (hn : a'.n = a.n) (φ : KEY → KEY) (ho : ∀ o', o' ∈ a'.own ↔ ∃ o ∈ a.own, φ o = o') (h : ∀ o ∈ a.own, Like a.n a.common k o a'.common k' (φ o)) (hc : k' ∈ a'.common ↔ k ∈ a.common) : hW a' k' = hW a k := by
  have key : (a'.own.any fun o => decide (P1 a'.n a'.common k' o)) = a.own.any fun o => decide (P1 a.n a.common k o) := any_iff ⟨fun ⟨o', h1, h2⟩ => by
    obtain ⟨o, h3, rfl⟩ := (ho o').mp h1
    rw [hn] at h2
    exact ⟨o, h3, decide_eq_true ((h o h3).p1.mp (of_decide_eq_true h2))⟩, fun ⟨o, h1, h2⟩ => ⟨φ o, (ho _).mpr ⟨o, h1, rfl⟩, by rw [hn]; exact decide_eq_true ((h o h1).p1.mpr (of_decide_eq_true h2))⟩⟩
  have key2 : memE k' a'.common = memE k a.common := decide_eq_decide.mpr hc
  unfold hW
  rw [key, key2]
/-! ### a master more -/
def ColE (n : Nat) (c c' : KEYS) : Prop := ∀ p, p < n → ∀ x, x ∈ column c' p ↔ x ∈ column c p
theorem col_mate {chief : KEYS} {mate : KEY} {n : Nat} (h : ∀ p, p < n → mate.getD p 0 ∈ column chief p) : ColE n chief (sortE (chief ++ [mate])) := fun p hp x => by
  rw [mem_column, mem_column]
  constructor
  · rintro ⟨c, hc, rfl⟩
    rcases List.mem_append.mp (sortE_mem.mp hc) with hc | hc
    · exact ⟨c, hc, rfl⟩
    · rw [List.mem_singleton.mp hc]
      exact mem_column.mp (h p hp)
  · rintro ⟨c, hc, rfl⟩
    exact ⟨c, sortE_mem.mpr (List.mem_append_left _ hc), rfl⟩
theorem ColE.like {n : Nat} {c c' : KEYS} (h : ColE n c c') (k o : KEY) : Like n c k o c' k o := ⟨fun p hp => h p hp _, fun p hp => h p hp _, fun p hp => Iff.rfl⟩
theorem ColE.rk {n : Nat} {c c' : KEYS} (h : ColE n c c') {k : KEY} (hk : k.length = n) : rk k (cutsOf c' n) = rk k (cutsOf c n) :=
  rk_congr hk hk fun p hp => by rw [mem_setOf, mem_setOf]; exact h p hp _
/-- one key -/
theorem S_one : ∀ {deep m : KEY}, KeyIn deep m → S deep (fun k => ind (decide (k = m))) = 1
  | [], m, h => by rw [keyIn_nil.mp h]; rfl
  | d :: ds, [], h => by have := h.1; simp at this
  | d :: ds, y :: m, h => by
    obtain ⟨h1, h2⟩ := keyIn_cons.mp h
    have ih := S_one h2
    have := sum_cell (d := d) (c := [y]) (by simp) (fun x hx => by rw [List.mem_singleton.mp hx]; exact h1) 1
    refine Eq.trans ?_ (this.trans (by simp))
    refine sumI_congr fun x _ => ?_
    by_cases e : x = y
    · subst e
      rw [if_pos (List.mem_singleton.mpr rfl), ← ih]
      refine S_congr fun k _ => ?_
      show ind (decide (x :: k = x :: m)) = ind (decide (k = m))
      rw [decide_eq_decide.mpr (show x :: k = x :: m ↔ k = m from ⟨fun h => by injection h, fun h => by rw [h]⟩)]
    · rw [if_neg (fun h => e (List.mem_singleton.mp h))]
      refine (S_congr fun k _ => ?_).trans (S_zero ds)
      show ind (decide (x :: k = y :: m)) = 0
      rw [decide_eq_false (fun h => e (by injection h))]
      rfl
/-! ### a pin more -/
theorem S_snoc : ∀ (deep : KEY) (d : Int) (f : KEY → Int), S (deep ++ [d]) f = S deep (fun k => sumI (upTo d) fun x => f (k ++ [x]))
  | [], d, f => rfl
  | e :: ds, d, f => by
    show sumI _ _ = sumI _ _
    refine sumI_congr fun x _ => ?_
    exact S_snoc ds d (fun k => f (x :: k))
theorem S_pin (deep : KEY) (f : KEY → Int) (g : KEY → Int) (h : ∀ k x, KeyIn deep k → 0 ≤ x ∧ x < 2 → f (k ++ [x]) = g k) : S (deep ++ [2]) f = 2 * S deep g := by
  rw [S_snoc, ← S_mul]
  refine S_congr fun k hk => ?_
  have e : upTo 2 = [0, 1] := by decide
  rw [e, sumI_cons, sumI_cons, sumI_nil, h k 0 hk ⟨by decide, by decide⟩, h k 1 hk ⟨by decide, by decide⟩]
  omega
theorem getD_snoc_lt {k : KEY} {x : Int} {p : Nat} (h : p < k.length) : (k ++ [x]).getD p 0 = k.getD p 0 := by
  rw [List.getD_eq_getElem?_getD, List.getElem?_append_left h, List.getD_eq_getElem?_getD]
theorem getD_snoc_at {k : KEY} {x : Int} {n : Nat} (h : k.length = n) : (k ++ [x]).getD n 0 = x := by
  subst h
  rw [List.getD_eq_getElem?_getD, List.getElem?_append_right (Nat.le_refl _), Nat.sub_self]
  rfl
theorem rk_snoc : ∀ {k : KEY} {sh : Box} {x : Int} {s : List Int}, k.length = sh.length → x ∈ s → rk (k ++ [x]) (sh ++ [s]) = rk k sh
  | [], [], x, s, _, hx => by
    show (if x ∈ s then 0 else 1) + 0 = 0
    rw [if_pos hx]
  | [], _ :: _, _, _, h, _ => by simp at h
  | _ :: _, [], _, _, h, _ => by simp at h
  | y :: k, t :: sh, x, s, h, hx => by
    show (if y ∈ t then 0 else 1) + rk (k ++ [x]) (sh ++ [s]) = (if y ∈ t then 0 else 1) + rk k sh
    rw [rk_snoc (by simpa using h) hx]
theorem cutsOf_snoc (common : KEYS) (n : Nat) : cutsOf common (n + 1) = cutsOf common n ++ [setOf (column common n)] := by
  unfold cutsOf
  rw [List.range_succ, List.map_append]
  rfl
end K78

-- part KM6
set_option Elab.async false
set_option linter.all false
/-! KM6: a lock, a pin more, a master more: the numbers. -/
namespace K78
open PySem
theorem any_own {own own' : KEYS} (φ : KEY → KEY) (ho : ∀ o', o' ∈ own' ↔ ∃ o ∈ own, φ o = o') {Q Q' : KEY → Bool} (hq : ∀ o ∈ own, Q' (φ o) = Q o) : own'.any Q' = own.any Q := any_iff ⟨fun ⟨o', h1, h2⟩ => by
    obtain ⟨o, h3, rfl⟩ := (ho o').mp h1
    exact ⟨o, h3, (hq o h3) ▸ h2⟩, fun ⟨o, h1, h2⟩ => ⟨φ o, (ho _).mpr ⟨o, h1, rfl⟩, (hq o h1).trans h2⟩⟩
theorem fW_gen {a a' : A_dco} {k k' : KEY} (φ : KEY → KEY) (ho : ∀ o', o' ∈ a'.own ↔ ∃ o ∈ a.own, φ o = o') (h1 : ∀ o ∈ a.own, P1 a'.n a'.common k' (φ o) ↔ P1 a.n a.common k o) (h2 : ∀ o ∈ a.own, P2 a'.n a'.common k' (φ o) ↔ P2 a.n a.common k o) (h3 : ∀ o ∈ a.own, P3 a'.n a'.common k' (φ o) ↔ P3 a.n a.common k o) : fW a' k' = fW a k := by
  unfold fW
  rw [any_own φ ho (Q := fun o => decide (P1 a.n a.common k o)) fun o h' => decide_eq_decide.mpr (h1 o h'), any_own φ ho (Q := fun o => decide (P2 a.n a.common k o)) fun o h' => decide_eq_decide.mpr (h2 o h'), any_own φ ho (Q := fun o => decide (P3 a.n a.common k o)) fun o h' => decide_eq_decide.mpr (h3 o h')]
/-- with a key of one's own the common keys are barred anyway -/
theorem hW_own {a : A_dco} {k : KEY} (hne : a.own ≠ []) (h : k ∈ a.common) : (a.own.any fun o => decide (P1 a.n a.common k o)) = true := by
  obtain ⟨o, ho⟩ := List.exists_mem_of_ne_nil _ hne
  exact List.any_eq_true.mpr ⟨o, ho, decide_eq_true fun p hp => .inl (mem_column.mpr ⟨k, h, rfl⟩)⟩
theorem hW_ne {a : A_dco} {k : KEY} (hne : a.own ≠ []) : hW a k = 1 - ind (a.own.any fun o => decide (P1 a.n a.common k o)) := by
  unfold hW
  cases h : memE k a.common with
  | true => rw [hW_own hne (memE_iff.mp h), Bool.true_or]
  | false => rw [Bool.or_false]
theorem id_own {own : KEYS} : ∀ o', o' ∈ own ↔ ∃ o ∈ own, id o = o' := fun o' => ⟨fun h => ⟨o', h, rfl⟩, fun ⟨o, h, e⟩ => e ▸ h⟩
section
variable {deep : KEY} {chief bunch lone : KEYS}
theorem wo_of {a : A_dco} (h : Lk a) (h1 : a.common ≠ []) (h2 : a.common.length ≤ 6) (h3 : a.n ≤ 8) (h4 : ∀ d ∈ a.depths, 0 ≤ d ∧ d ≤ 8) (h5 : a.own.length ≤ 6) : Wo a :=
  ⟨⟨h1, h2, fun k hk => (h.c k hk).1.trans h.n, by omega⟩, h3, ⟨h.n, h4⟩, fun k hk => (h.o k hk).1.trans h.n, h5⟩
theorem lk_B (h : Legit deep chief bunch lone) : Lk (aB deep chief bunch) := ⟨rfl, h.c.2.2, h.b.2⟩
theorem chief_ne (h : ChiefOk deep chief) : chief ≠ [] := fun e => by have := h.1; rw [e] at this; simp at this
theorem f_wo (h : Legit deep chief bunch lone) : Wo (aB deep chief bunch) := by
  have h1 := h.c.2.1
  have h2 := h.d.2.1
  have h3 := h.b.1
  exact wo_of (lk_B h) (chief_ne h.c) (by show chief.length ≤ 6; omega) (by show deep.length ≤ 8; omega) (fun d hd => by have := h.d.2.2 d hd; omega) (by show bunch.length ≤ 6; omega)
/-! ### a pin more -/
theorem keyIn_snoc {k : KEY} {d x : Int} (h : KeyIn deep k) (hx : 0 ≤ x ∧ x < d) : KeyIn (deep ++ [d]) (k ++ [x]) := by
  refine ⟨by rw [List.length_append, List.length_append, h.1]; rfl, fun p hp => ?_⟩
  rw [List.length_append] at hp
  have hp : p < deep.length + 1 := hp
  by_cases e : p < deep.length
  · rw [getD_snoc_lt (by rw [h.1]; exact e), getD_snoc_lt e]
    exact h.2 p e
  · have e : p = deep.length := by omega
    subst e
    rw [getD_snoc_at h.1, getD_snoc_at rfl]
    exact hx
theorem mem_pinC {c : KEY} : c ∈ pinC chief ↔ (∃ k ∈ chief, k ++ [0] = c) ∨ c = chief.headD [] ++ [1] := by
  unfold pinC
  rw [sortE_mem, List.mem_append, List.mem_map, List.mem_singleton]
theorem head_mem (h : ChiefOk deep chief) : chief.headD [] ∈ chief := by
  cases chief with
  | nil => have := h.1; simp at this
  | cons a l => exact List.mem_cons_self
theorem pinC_in (h : ChiefOk deep chief) : ∀ c ∈ pinC chief, KeyIn (deep ++ [2]) c := fun c hc => by
  rcases mem_pinC.mp hc with ⟨k, hk, rfl⟩ | rfl
  · exact keyIn_snoc (h.2.2 k hk) ⟨by decide, by decide⟩
  · exact keyIn_snoc (h.2.2 _ (head_mem h)) ⟨by decide, by decide⟩
theorem pinC_len : (pinC chief).length = chief.length + 1 := by
  unfold pinC
  rw [sortE_len, List.length_append, List.length_map]
  rfl
theorem lk_P (h : Legit deep chief bunch lone) : Lk (aP deep chief bunch) := ⟨by show (deep ++ [2]).length = _; rw [List.length_append]; rfl, pinC_in h.c, fun o ho => by
  obtain ⟨k, hk, rfl⟩ := List.mem_map.mp ho
  exact keyIn_snoc (h.b.2 k hk) ⟨by decide, by decide⟩⟩
theorem f_woP (h : Legit deep chief bunch lone) : Wo (aP deep chief bunch) := by
  have h1 := h.c.2.1
  have h2 := h.d.2.1
  have h3 := h.b.1
  have h4 := pinC_len (chief := chief)
  refine wo_of (lk_P h) (fun e => ?_) (by show (pinC chief).length ≤ 6; omega) (by show deep.length + 1 ≤ 8; omega) (fun d hd => ?_) (by show (pinB bunch).length ≤ 6; unfold pinB; rw [List.length_map]; omega)
  · have e : pinC chief = [] := e
    rw [e] at h4
    simp at h4
  · rcases List.mem_append.mp hd with hd | hd
    · have := h.d.2.2 d hd; omega
    · rw [List.mem_singleton.mp hd]; decide
theorem col_pin (h : ChiefOk deep chief) {p : Nat} (hp : p < deep.length) (x : Int) : x ∈ column (pinC chief) p ↔ x ∈ column chief p := by
  rw [mem_column, mem_column]
  constructor
  · rintro ⟨c, hc, rfl⟩
    rcases mem_pinC.mp hc with ⟨k, hk, rfl⟩ | rfl
    · exact ⟨k, hk, (getD_snoc_lt (by rw [(h.2.2 k hk).1]; exact hp)).symm⟩
    · exact ⟨_, head_mem h, (getD_snoc_lt (by rw [(h.2.2 _ (head_mem h)).1]; exact hp)).symm⟩
  · rintro ⟨k, hk, rfl⟩
    exact ⟨k ++ [0], mem_pinC.mpr (.inl ⟨k, hk, rfl⟩), getD_snoc_lt (by rw [(h.2.2 k hk).1]; exact hp)⟩
theorem col_last (h : ChiefOk deep chief) {x : Int} (hx : 0 ≤ x ∧ x < 2) : x ∈ column (pinC chief) deep.length := by
  rw [mem_column]
  have hh := head_mem h
  by_cases e : x = 0
  · subst e
    exact ⟨chief.headD [] ++ [0], mem_pinC.mpr (.inl ⟨_, hh, rfl⟩), getD_snoc_at (h.2.2 _ hh).1⟩
  · have e : x = 1 := by omega
    subst e
    exact ⟨chief.headD [] ++ [1], mem_pinC.mpr (.inr rfl), getD_snoc_at (h.2.2 _ hh).1⟩
theorem forall_succ {n : Nat} {Q : Nat → Prop} : (∀ p, p < n + 1 → Q p) ↔ (∀ p, p < n → Q p) ∧ Q n := ⟨fun h => ⟨fun p hp => h p (by omega), h n (by omega)⟩, fun h p hp => by
  by_cases e : p < n
  · exact h.1 p e
  · have e : p = n := by omega
    rw [e]; exact h.2⟩
section
variable {k o : KEY} {x : Int}
theorem pin_p1 (h : ChiefOk deep chief) (hk : KeyIn deep k) (ho : KeyIn deep o) (hx : 0 ≤ x ∧ x < 2) : P1 (deep.length + 1) (pinC chief) (k ++ [x]) (o ++ [1]) ↔ P1 deep.length chief k o := by
  unfold P1
  rw [forall_succ]
  constructor
  · rintro ⟨h1, _⟩ p hp
    have := h1 p hp
    rw [getD_snoc_lt (by rw [hk.1]; exact hp), getD_snoc_lt (by rw [ho.1]; exact hp), col_pin h hp] at this
    exact this
  · intro h1
    refine ⟨fun p hp => ?_, .inl ?_⟩
    · rw [getD_snoc_lt (by rw [hk.1]; exact hp), getD_snoc_lt (by rw [ho.1]; exact hp), col_pin h hp]
      exact h1 p hp
    · rw [getD_snoc_at hk.1]; exact col_last h hx
theorem pin_p2 (h : ChiefOk deep chief) (hk : KeyIn deep k) (ho : KeyIn deep o) (hx : 0 ≤ x ∧ x < 2) : P2 (deep.length + 1) (pinC chief) (k ++ [x]) (o ++ [1]) ↔ P2 deep.length chief k o := by
  unfold P2
  rw [forall_succ]
  constructor
  · rintro ⟨h1, _⟩ p hp
    have := h1 p hp
    rw [getD_snoc_lt (by rw [ho.1]; exact hp), getD_snoc_lt (by rw [hk.1]; exact hp), col_pin h hp] at this
    exact this
  · intro h1
    refine ⟨fun p hp => ?_, fun z => absurd ?_ z⟩
    · rw [getD_snoc_lt (by rw [ho.1]; exact hp), getD_snoc_lt (by rw [hk.1]; exact hp), col_pin h hp]
      exact h1 p hp
    · rw [getD_snoc_at ho.1]; exact col_last h ⟨by decide, by decide⟩
theorem pin_p3 (h : ChiefOk deep chief) (hk : KeyIn deep k) (ho : KeyIn deep o) (hx : 0 ≤ x ∧ x < 2) : P3 (deep.length + 1) (pinC chief) (k ++ [x]) (o ++ [1]) ↔ P3 deep.length chief k o := by
  unfold P3
  rw [forall_succ]
  constructor
  · rintro ⟨h1, _⟩ p hp
    have := h1 p hp
    rw [getD_snoc_lt (by rw [ho.1]; exact hp), getD_snoc_lt (by rw [hk.1]; exact hp), col_pin h hp, col_pin h hp] at this
    exact this
  · intro h1
    refine ⟨fun p hp => ?_, fun z => absurd ?_ z, fun _ => ?_⟩
    · rw [getD_snoc_lt (by rw [ho.1]; exact hp), getD_snoc_lt (by rw [hk.1]; exact hp), col_pin h hp, col_pin h hp]
      exact h1 p hp
    · rw [getD_snoc_at ho.1]; exact col_last h ⟨by decide, by decide⟩
    · rw [getD_snoc_at hk.1]; exact col_last h hx
end
theorem own_pin : ∀ o', o' ∈ pinB bunch ↔ ∃ o ∈ bunch, o ++ [1] = o' := fun o' => List.mem_map
theorem fW_pin (h : Legit deep chief bunch lone) {k : KEY} {x : Int} (hk : KeyIn deep k) (hx : 0 ≤ x ∧ x < 2) : fW (aP deep chief bunch) (k ++ [x]) = fW (aB deep chief bunch) k :=
  fW_gen (a := aB deep chief bunch) (a' := aP deep chief bunch) (fun o => o ++ [1]) own_pin (fun o ho => pin_p1 h.c hk (h.b.2 o ho) hx) (fun o ho => pin_p2 h.c hk (h.b.2 o ho) hx) (fun o ho => pin_p3 h.c hk (h.b.2 o ho) hx)
theorem f_pin1 (h : Legit deep chief bunch lone) : totalC (furtherC (aP deep chief bunch)) = 2 * totalC (furtherC (aB deep chief bunch)) := by
  rw [further_total (lk_P h), further_total (lk_B h)]
  exact S_pin deep _ _ fun k x hk hx => fW_pin h hk hx
theorem f_pin3 (h : Legit deep chief bunch lone) (hb : bunch ≠ []) : totalC (harmlessC (aP deep chief bunch)) = 2 * totalC (harmlessC (aB deep chief bunch)) := by
  rw [harmless_total (lk_P h), harmless_total (lk_B h)]
  refine S_pin deep _ _ fun k x hk hx => ?_
  have hb' : pinB bunch ≠ [] := fun e => hb (List.map_eq_nil_iff.mp e)
  rw [hW_ne (a := aP deep chief bunch) hb', hW_ne (a := aB deep chief bunch) hb]
  rw [show ((aP deep chief bunch).own.any fun o => decide (P1 (aP deep chief bunch).n (aP deep chief bunch).common (k ++ [x]) o)) = (aB deep chief bunch).own.any fun o => decide (P1 (aB deep chief bunch).n (aB deep chief bunch).common k o) from any_own (fun o => o ++ [1]) own_pin fun o ho => decide_eq_decide.mpr (pin_p1 h.c hk (h.b.2 o ho) hx)]
theorem rk_pin (h : ChiefOk deep chief) {k : KEY} {x : Int} (hk : KeyIn deep k) (hx : 0 ≤ x ∧ x < 2) : rk (k ++ [x]) (cutsOf (pinC chief) (deep.length + 1)) = rk k (cutsOf chief deep.length) := by
  rw [cutsOf_snoc, rk_snoc (by rw [cutsOf_len]; exact hk.1) (mem_setOf.mpr (col_last h hx))]
  exact rk_congr hk.1 hk.1 fun p hp => by rw [mem_setOf, mem_setOf]; exact col_pin h hp _
theorem f_pin2 (h : Legit deep chief bunch lone) : ranksOf (furtherC (aP deep chief bunch)) (pinC chief) (deep.length + 1) = (ranksOf (furtherC (aB deep chief bunch)) chief deep.length).map (fun x => 2 * x) ++ [0] := by
  have e1 := further_ranks_S (lk_P h)
  have e2 := further_ranks_S (lk_B h)
  refine e1.trans ?_
  rw [show ranksOf (furtherC (aB deep chief bunch)) chief deep.length = _ from e2, List.map_map]
  show (List.range (deep.length + 1 + 1)).map _ = _
  rw [List.range_succ, List.map_append]
  have key : ∀ r, S (deep ++ [2]) (fun k => if rk k (cutsOf (pinC chief) (deep.length + 1)) = r then fW (aP deep chief bunch) k else 0) = 2 * S deep (fun k => if rk k (cutsOf chief deep.length) = r then fW (aB deep chief bunch) k else 0) := fun r => S_pin deep _ _ fun k x hk hx => by
    rw [rk_pin h.c hk hx, fW_pin h hk hx]
  congr 1
  · exact List.map_congr_left fun r _ => key r
  · show [S (deep ++ [2]) (fun k => if rk k (cutsOf (pinC chief) (deep.length + 1)) = deep.length + 1 then fW (aP deep chief bunch) k else 0)] = [0]
    rw [key]
    have : S deep (fun k => if rk k (cutsOf chief deep.length) = deep.length + 1 then fW (aB deep chief bunch) k else 0) = 0 := by
      refine (S_congr fun k hk => ?_).trans (S_zero deep)
      have := rk_le k (cutsOf chief deep.length)
      rw [cutsOf_len] at this
      rw [if_neg (by omega)]
    rw [this]
    rfl
/-! ### a master more -/
variable {mate : KEY}
theorem mate_in (h : ChiefOk deep chief) (hm : Mate deep chief mate) : KeyIn deep mate := ⟨hm.1, fun p hp => by
  obtain ⟨c, hc, e⟩ := mem_column.mp (hm.2 p hp)
  rw [← e]
  exact (h.2.2 c hc).2 p hp⟩
theorem mem_M {c : KEY} : c ∈ sortE (chief ++ [mate]) ↔ c ∈ chief ∨ c = mate := by rw [sortE_mem, List.mem_append, List.mem_singleton]
theorem lk_M (h : Legit deep chief bunch lone) (hm : Mate deep chief mate) : Lk (aM deep chief bunch mate) := ⟨rfl, fun c hc => by
  rcases mem_M.mp hc with hc | rfl
  · exact h.c.2.2 c hc
  · exact mate_in h.c hm, h.b.2⟩
theorem f_woM (h : Legit deep chief bunch lone) (hm : Mate deep chief mate) : Wo (aM deep chief bunch mate) := by
  have h1 := h.c.2.1
  have h2 := h.d.2.1
  have h3 := h.b.1
  have h4 : (sortE (chief ++ [mate])).length = chief.length + 1 := by rw [sortE_len, List.length_append]; rfl
  refine wo_of (lk_M h hm) (fun e => ?_) (by show (sortE (chief ++ [mate])).length ≤ 6; omega) (by show deep.length ≤ 8; omega) (fun d hd => by have := h.d.2.2 d hd; omega) (by show bunch.length ≤ 6; omega)
  have e : sortE (chief ++ [mate]) = [] := e
  rw [e] at h4
  simp at h4
theorem fW_mate (hm : Mate deep chief mate) (k : KEY) : fW (aM deep chief bunch mate) k = fW (aB deep chief bunch) k := by
  have c : ColE deep.length chief (sortE (chief ++ [mate])) := col_mate hm.2
  exact fW_gen (a := aB deep chief bunch) (a' := aM deep chief bunch mate) id id_own (fun o _ => (c.like k o).p1) (fun o _ => (c.like k o).p2) (fun o _ => (c.like k o).p3)
theorem f_mas1 (h : Legit deep chief bunch lone) (hm : Mate deep chief mate) : totalC (furtherC (aM deep chief bunch mate)) = totalC (furtherC (aB deep chief bunch)) := by
  rw [further_total (lk_M h hm), further_total (lk_B h)]
  exact S_congr fun k _ => fW_mate hm k
theorem f_mas2 (h : Legit deep chief bunch lone) (hm : Mate deep chief mate) : ranksOf (furtherC (aM deep chief bunch mate)) (sortE (chief ++ [mate])) deep.length = ranksOf (furtherC (aB deep chief bunch)) chief deep.length := by
  refine (further_ranks_S (lk_M h hm)).trans (Eq.trans ?_ (further_ranks_S (lk_B h)).symm)
  refine List.map_congr_left fun r _ => S_congr fun k hk => ?_
  show (if rk k (cutsOf (sortE (chief ++ [mate])) deep.length) = r then fW (aM deep chief bunch mate) k else 0) = if rk k (cutsOf chief deep.length) = r then fW (aB deep chief bunch) k else 0
  rw [fW_mate hm k, (col_mate hm.2).rk hk.1]
theorem S_sub (deep : KEY) (f g : KEY → Int) : S deep (fun k => f k - g k) = S deep f - S deep g := by
  have h := S_add deep (fun k => f k - g k) g
  have e : S deep (fun k => f k - g k + g k) = S deep f := S_congr fun k _ => by omega
  rw [e] at h
  omega
theorem f_mas3 (h : Legit deep chief bunch lone) (hm : Mate deep chief mate) (h1 : mate ∉ chief) : totalC (harmlessC (aM deep chief bunch mate)) = totalC (harmlessC (aB deep chief bunch)) - (if bunch = [] then 1 else 0) := by
  rw [harmless_total (lk_M h hm), harmless_total (lk_B h)]
  by_cases hb : bunch = []
  · rw [if_pos hb]
    subst hb
    have e := S_sub deep (hW (aB deep chief [])) (fun k => ind (decide (k = mate)))
    rw [S_one (mate_in h.c hm)] at e
    refine Eq.trans (S_congr fun k hk => ?_) e
    show 1 - ind (false || memE k (sortE (chief ++ [mate]))) = 1 - ind (false || memE k chief) - ind (decide (k = mate))
    rw [Bool.false_or, Bool.false_or]
    by_cases e1 : k = mate
    · subst e1
      have m1 : memE k (sortE (chief ++ [k])) = true := memE_iff.mpr (mem_M.mpr (.inr rfl))
      have m2 : memE k chief = false := by
        cases e : memE k chief with
        | true => exact absurd (memE_iff.mp e) h1
        | false => rfl
      rw [m1, m2, decide_eq_true rfl]
      rfl
    · have m1 : memE k (sortE (chief ++ [mate])) = memE k chief := Bool.eq_iff_iff.mpr (by rw [memE_iff, memE_iff]; exact ⟨fun z => (mem_M.mp z).elim id fun e => absurd e e1, fun z => mem_M.mpr (.inl z)⟩)
      rw [m1, decide_eq_false e1]
      show _ = _ - (0 : Int)
      omega
  · rw [if_neg hb, Int.sub_zero]
    refine S_congr fun k _ => ?_
    rw [hW_ne (a := aM deep chief bunch mate) hb, hW_ne (a := aB deep chief bunch) hb]
    rw [show ((aM deep chief bunch mate).own.any fun o => decide (P1 (aM deep chief bunch mate).n (aM deep chief bunch mate).common k o)) = (aB deep chief bunch).own.any fun o => decide (P1 (aB deep chief bunch).n (aB deep chief bunch).common k o) from any_own id id_own fun o _ => decide_eq_decide.mpr ((col_mate hm.2).like k o).p1]
end
end K78

-- part KM7
set_option Elab.async false
set_option linter.all false
/-! KM7: cuts named otherwise. -/
namespace K78
open PySem
theorem upTo_len' (d : Int) : (upTo d).length = d.toNat := by
  unfold upTo
  rw [List.length_map, List.length_range]
def nmOf (ns : List Int) (x : Int) : Int := ns.getD x.toNat 0
theorem nm_mem {d x : Int} {ns : List Int} (h : ns.Perm (upTo d)) (hx : 0 ≤ x ∧ x < d) : 0 ≤ nmOf ns x ∧ nmOf ns x < d := by
  have hl := h.length_eq
  rw [upTo_len'] at hl
  have hi : x.toNat < ns.length := by omega
  unfold nmOf
  rw [List.getD_eq_getElem?_getD, List.getElem?_eq_getElem hi]
  exact mem_upTo.mp (h.mem_iff.mp (List.getElem_mem hi))
theorem nm_inj {d x y : Int} {ns : List Int} (h : ns.Perm (upTo d)) (hx : 0 ≤ x ∧ x < d) (hy : 0 ≤ y ∧ y < d) : nmOf ns x = nmOf ns y ↔ x = y := by
  refine ⟨fun e => ?_, fun e => by rw [e]⟩
  have hl := h.length_eq
  rw [upTo_len'] at hl
  have hi : x.toNat < ns.length := by omega
  have hj : y.toNat < ns.length := by omega
  have nd : ns.Nodup := h.nodup_iff.mpr (nodup_upTo d)
  unfold nmOf at e
  rw [List.getD_eq_getElem?_getD, List.getElem?_eq_getElem hi, List.getD_eq_getElem?_getD, List.getElem?_eq_getElem hj] at e
  have := (List.getElem_inj nd).mp e
  omega
theorem sumI_nm {d : Int} {ns : List Int} (h : ns.Perm (upTo d)) (f : Int → Int) : sumI (upTo d) (fun x => f (nmOf ns x)) = sumI (upTo d) f := by
  have hl := h.length_eq
  rw [upTo_len'] at hl
  rw [← sumI_perm h f, ← sumI_map (upTo d) (nmOf ns) f]
  congr 1
  unfold upTo
  rw [List.map_map, ← hl]
  refine List.ext_getElem (by simp) fun i h1 h2 => ?_
  rw [List.getElem_map, List.getElem_range]
  show nmOf ns (i : Int) = _
  unfold nmOf
  rw [Int.toNat_natCast, List.getD_eq_getElem?_getD, List.getElem?_eq_getElem h2]
  rfl
theorem renK_get {names : NAMES} {k : KEY} {p : Nat} (hp : p < k.length) : (renK names k).getD p 0 = nmOf (names.getD p []) (k.getD p 0) := by
  unfold renK
  rw [List.getD_eq_getElem?_getD, List.getElem?_map, List.getElem?_range hp]
  rfl
theorem renK_cons (ns : List Int) (names : NAMES) (x : Int) (k : KEY) : renK (ns :: names) (x :: k) = nmOf ns x :: renK names k := by
  unfold renK
  rw [List.length_cons, List.range_succ_eq_map, List.map_cons, List.map_map]
  rfl
theorem namesP_cons {d : Int} {ds : KEY} {ns : List Int} {names : NAMES} (h : NamesP (d :: ds) (ns :: names)) : ns.Perm (upTo d) ∧ NamesP ds names :=
  ⟨h.2 0 (Nat.zero_lt_succ _), by simpa using h.1, fun p hp => h.2 (p + 1) (Nat.succ_lt_succ hp)⟩
theorem S_ren : ∀ {deep : KEY} {names : NAMES} (f : KEY → Int), NamesP deep names → S deep (fun k => f (renK names k)) = S deep f
  | [], names, f, h => by
    show f (renK names []) = f []
    rfl
  | d :: ds, [], f, h => by have := h.1; simp at this
  | d :: ds, ns :: names, f, h => by
    obtain ⟨h1, h2⟩ := namesP_cons h
    show sumI (upTo d) (fun x => S ds fun k => f (renK (ns :: names) (x :: k))) = sumI (upTo d) fun x => S ds fun k => f (x :: k)
    rw [← sumI_nm h1 fun x => S ds fun k => f (x :: k)]
    refine sumI_congr fun x _ => ?_
    show (S ds fun k => f (renK (ns :: names) (x :: k))) = S ds fun k => f (nmOf ns x :: k)
    rw [← S_ren (deep := ds) (fun k => f (nmOf ns x :: k)) h2]
    exact S_congr fun k _ => by rw [renK_cons]
section
variable {deep : KEY} {chief bunch lone : KEYS} {names : NAMES}
theorem ren_in (hn : NamesP deep names) {k : KEY} (hk : KeyIn deep k) : KeyIn deep (renK names k) := ⟨(renK_len _ _).trans hk.1, fun p hp => by
  rw [renK_get (by rw [hk.1]; exact hp)]
  exact nm_mem (hn.2 p hp) (hk.2 p hp)⟩
theorem ren_eq (hn : NamesP deep names) {k o : KEY} (hk : KeyIn deep k) (ho : KeyIn deep o) {p : Nat} (hp : p < deep.length) : (renK names k).getD p 0 = (renK names o).getD p 0 ↔ k.getD p 0 = o.getD p 0 := by
  rw [renK_get (by rw [hk.1]; exact hp), renK_get (by rw [ho.1]; exact hp)]
  exact nm_inj (hn.2 p hp) (hk.2 p hp) (ho.2 p hp)
theorem key_ext {k o : KEY} (hl : k.length = o.length) (h : ∀ p, p < k.length → k.getD p 0 = o.getD p 0) : k = o := by
  refine List.ext_getElem hl fun i h1 h2 => ?_
  have := h i h1
  rw [List.getD_eq_getElem?_getD, List.getElem?_eq_getElem h1, List.getD_eq_getElem?_getD, List.getElem?_eq_getElem h2] at this
  exact this
theorem ren_inj (hn : NamesP deep names) {k o : KEY} (hk : KeyIn deep k) (ho : KeyIn deep o) : renK names k = renK names o ↔ k = o := by
  refine ⟨fun e => key_ext (hk.1.trans ho.1.symm) fun p hp => ?_, fun e => by rw [e]⟩
  exact (ren_eq hn hk ho (by rw [← hk.1]; exact hp)).mp (by rw [e])
theorem mem_named {ks : KEYS} {c : KEY} : c ∈ namedK names ks ↔ ∃ k ∈ ks, renK names k = c := by
  unfold namedK
  rw [sortE_mem, List.mem_map]
theorem named_len {ks : KEYS} : (namedK names ks).length = ks.length := by
  unfold namedK
  rw [sortE_len, List.length_map]
theorem named_in (hn : NamesP deep names) {ks : KEYS} (hk : ∀ k ∈ ks, KeyIn deep k) : ∀ k ∈ namedK names ks, KeyIn deep k := fun c hc => by
  obtain ⟨k, h, rfl⟩ := mem_named.mp hc
  exact ren_in hn (hk k h)
theorem ren_mem (hn : NamesP deep names) {ks : KEYS} (hks : ∀ k ∈ ks, KeyIn deep k) {k : KEY} (hk : KeyIn deep k) : renK names k ∈ namedK names ks ↔ k ∈ ks := by
  rw [mem_named]
  constructor
  · rintro ⟨c, hc, e⟩
    rw [← (ren_inj hn (hks c hc) hk).mp e]
    exact hc
  · exact fun h => ⟨k, h, rfl⟩
theorem ren_col (hn : NamesP deep names) {ks : KEYS} (hks : ∀ k ∈ ks, KeyIn deep k) {k : KEY} (hk : KeyIn deep k) {p : Nat} (hp : p < deep.length) : (renK names k).getD p 0 ∈ column (namedK names ks) p ↔ k.getD p 0 ∈ column ks p := by
  rw [mem_column, mem_column]
  constructor
  · rintro ⟨c, hc, e⟩
    obtain ⟨c', hc', rfl⟩ := mem_named.mp hc
    exact ⟨c', hc', (ren_eq hn (hks c' hc') hk hp).mp e⟩
  · rintro ⟨c, hc, e⟩
    exact ⟨renK names c, mem_named.mpr ⟨c, hc, rfl⟩, (ren_eq hn (hks c hc) hk hp).mpr e⟩
theorem ren_like (hn : NamesP deep names) {common : KEYS} (hc : ∀ k ∈ common, KeyIn deep k) {k o : KEY} (hk : KeyIn deep k) (ho : KeyIn deep o) : Like deep.length common k o (namedK names common) (renK names k) (renK names o) :=
  ⟨fun p hp => ren_col hn hc hk hp, fun p hp => ren_col hn hc ho hp, fun p hp => ren_eq hn hk ho hp⟩
theorem lk_N (h : Legit deep chief bunch lone) (hn : NamesP deep names) : Lk (aN deep chief bunch names) := ⟨rfl, named_in hn h.c.2.2, named_in hn h.b.2⟩
theorem f_woN (h : Legit deep chief bunch lone) (hn : NamesP deep names) : Wo (aN deep chief bunch names) := by
  have h1 := h.c.2.1
  have h2 := h.d.2.1
  have h3 := h.b.1
  have h4 := named_len (names := names) (ks := chief)
  have h5 := named_len (names := names) (ks := bunch)
  refine wo_of (lk_N h hn) (fun e => ?_) (by show (namedK names chief).length ≤ 6; omega) (by show deep.length ≤ 8; omega) (fun d hd => by have := h.d.2.2 d hd; omega) (by show (namedK names bunch).length ≤ 6; omega)
  have e : namedK names chief = [] := e
  rw [e] at h4
  have := h.c.1
  simp at h4
  omega
theorem fW_ren (h : Legit deep chief bunch lone) (hn : NamesP deep names) {k : KEY} (hk : KeyIn deep k) : fW (aN deep chief bunch names) (renK names k) = fW (aB deep chief bunch) k :=
  fW_like (a := aB deep chief bunch) (a' := aN deep chief bunch names) rfl (renK names) (fun o' => mem_named) fun o ho => ren_like hn h.c.2.2 hk (h.b.2 o ho)
theorem hW_ren (h : Legit deep chief bunch lone) (hn : NamesP deep names) {k : KEY} (hk : KeyIn deep k) : hW (aN deep chief bunch names) (renK names k) = hW (aB deep chief bunch) k :=
  hW_like (a := aB deep chief bunch) (a' := aN deep chief bunch names) rfl (renK names) (fun o' => mem_named) (fun o ho => ren_like hn h.c.2.2 hk (h.b.2 o ho)) (ren_mem hn h.c.2.2 hk)
theorem f_nam1 (h : Legit deep chief bunch lone) (hn : NamesP deep names) : totalC (furtherC (aN deep chief bunch names)) = totalC (furtherC (aB deep chief bunch)) := by
  rw [further_total (lk_N h hn), further_total (lk_B h)]
  show S deep (fW (aN deep chief bunch names)) = S deep (fW (aB deep chief bunch))
  rw [← S_ren (fW (aN deep chief bunch names)) hn]
  exact S_congr fun k hk => fW_ren h hn hk
theorem f_nam3 (h : Legit deep chief bunch lone) (hn : NamesP deep names) : totalC (harmlessC (aN deep chief bunch names)) = totalC (harmlessC (aB deep chief bunch)) := by
  rw [harmless_total (lk_N h hn), harmless_total (lk_B h)]
  show S deep (hW (aN deep chief bunch names)) = S deep (hW (aB deep chief bunch))
  rw [← S_ren (hW (aN deep chief bunch names)) hn]
  exact S_congr fun k hk => hW_ren h hn hk
theorem f_nam2 (h : Legit deep chief bunch lone) (hn : NamesP deep names) : ranksOf (furtherC (aN deep chief bunch names)) (namedK names chief) deep.length = ranksOf (furtherC (aB deep chief bunch)) chief deep.length := by
  refine (further_ranks_S (lk_N h hn)).trans (Eq.trans ?_ (further_ranks_S (lk_B h)).symm)
  refine List.map_congr_left fun r _ => ?_
  show S deep (fun k => if rk k (cutsOf (namedK names chief) deep.length) = r then fW (aN deep chief bunch names) k else 0) = S deep fun k => if rk k (cutsOf chief deep.length) = r then fW (aB deep chief bunch) k else 0
  rw [← S_ren (fun k => if rk k (cutsOf (namedK names chief) deep.length) = r then fW (aN deep chief bunch names) k else 0) hn]
  refine S_congr fun k hk => ?_
  have e : rk (renK names k) (cutsOf (namedK names chief) deep.length) = rk k (cutsOf chief deep.length) := rk_congr (ren_in hn hk).1 hk.1 fun p hp => by
    rw [mem_setOf, mem_setOf]
    exact ren_col hn h.c.2.2 hk hp
  rw [e, fW_ren h hn hk]
/-! ### who opens whom -/
theorem opens_iff {common : KEYS} {one other : KEY} : opens common one other = true ↔ ∀ p, p < one.length → one.getD p 0 ∉ column common p → one.getD p 0 = other.getD p 0 := by
  unfold opens freePins
  rw [List.all_eq_true]
  constructor
  · intro h p hp hf
    exact of_decide_eq_true (h p (List.mem_filter.mpr ⟨List.mem_range.mpr hp, isFree_iff.mpr hf⟩))
  · intro h p hp
    obtain ⟨h1, h2⟩ := List.mem_filter.mp hp
    exact decide_eq_true (h p (List.mem_range.mp h1) (isFree_iff.mp h2))
theorem opens_ren (hn : NamesP deep names) {common : KEYS} (hc : ∀ k ∈ common, KeyIn deep k) {k o : KEY} (hk : KeyIn deep k) (ho : KeyIn deep o) : opens (namedK names common) (renK names k) (renK names o) = opens common k o := by
  refine Bool.eq_iff_iff.mpr ?_
  rw [opens_iff, opens_iff, renK_len]
  refine forall_congr' fun p => forall_congr' fun hp => ?_
  rw [hk.1] at hp
  exact imp_congr (not_congr (ren_col hn hc hk hp)) (ren_eq hn hk ho hp)
theorem nil_iff {α : Type} {l : List α} : l = [] ↔ ∀ x, x ∉ l := List.eq_nil_iff_forall_not_mem
theorem filter_nil {ks ks' : KEYS} {Q Q' : KEY → Bool} (hm : ∀ o', o' ∈ ks' ↔ ∃ o ∈ ks, renK names o = o') (hq : ∀ o ∈ ks, Q' (renK names o) = Q o) : ks'.filter Q' = [] ↔ ks.filter Q = [] := by
  rw [List.filter_eq_nil_iff, List.filter_eq_nil_iff]
  constructor
  · intro h o ho e
    exact h (renK names o) ((hm _).mpr ⟨o, ho, rfl⟩) ((hq o ho).trans e)
  · intro h o' ho' e
    obtain ⟨o, ho, rfl⟩ := (hm o').mp ho'
    exact h o ho ((hq o ho).symm.trans e)
theorem f_nam5 (h : Legit deep chief bunch lone) (hn : NamesP deep names) {t : KEY} (ht : KeyIn deep t) : isFurther ⟨deep, namedK names chief, namedK names bunch, renK names t⟩ = isFurther ⟨deep, chief, bunch, t⟩ := by
  refine decide_eq_decide.mpr ?_
  show (_, _) = (([] : KEYS), ([] : KEYS)) ↔ (_, _) = (([] : KEYS), ([] : KEYS))
  rw [Prod.mk.injEq, Prod.mk.injEq]
  exact and_congr (filter_nil (fun o' => mem_named) fun o ho => opens_ren hn h.c.2.2 ht (h.b.2 o ho)) (filter_nil (fun o' => mem_named) fun o ho => opens_ren hn h.c.2.2 (h.b.2 o ho) ht)
theorem harm_ren (hn : NamesP deep names) {common own own' : KEYS} (hc : ∀ k ∈ common, KeyIn deep k) (ho : ∀ k ∈ own, KeyIn deep k) (hm : ∀ o', o' ∈ own' ↔ ∃ o ∈ own, renK names o = o') {t : KEY} (ht : KeyIn deep t) {d : KEY} : isHarmless ⟨d, namedK names common, own', renK names t⟩ = isHarmless ⟨d, common, own, t⟩ := by
  unfold isHarmless
  have e1 : memE (renK names t) (namedK names common) = memE t common := decide_eq_decide.mpr (ren_mem hn hc ht)
  have e2 : (own'.any fun o => opens (namedK names common) (renK names t) o) = own.any fun o => opens common t o := any_own (renK names) hm fun o h => opens_ren hn hc ht (ho o h)
  show (!memE (renK names t) (namedK names common) && !(own'.any fun o => opens (namedK names common) (renK names t) o)) = _
  rw [e1, e2]
theorem f_nam6 (h : Legit deep chief bunch lone) (hn : NamesP deep names) {t : KEY} (ht : KeyIn deep t) : isHarmless ⟨deep, namedK names chief, namedK names bunch, renK names t⟩ = isHarmless ⟨deep, chief, bunch, t⟩ :=
  harm_ren hn h.c.2.2 h.b.2 (fun o' => mem_named) ht
theorem sort_filter {α : Type} [Enc α] (l : List α) (Q : α → Bool) : (sortE l).filter Q = sortE (l.filter Q) := by
  have tl : PySem.W.TotalLe (PySem.W.dataLe false (Enc.enc : α → PyData)) := PySem.W.sortLe_total _ _ _
  refine PySem.W.sort_unique tl ((PySem.W.sort_pairwise tl l).filter _) fun c => ?_
  rw [List.filter_filter, List.filter_filter]
  have e : ∀ m : List α, m.filter (fun a => PySem.W.sameRank (PySem.W.dataLe false (Enc.enc : α → PyData)) c a && Q a) = (m.filter (PySem.W.sameRank (PySem.W.dataLe false (Enc.enc : α → PyData)) c)).filter Q := fun m => by
    rw [List.filter_filter]
    refine List.filter_congr fun x _ => Bool.and_comm _ _
  rw [e, e]
  congr 1
  exact PySem.W.sort_stable tl l c
theorem f_nam7 (h : Legit deep chief bunch lone) (hn : NamesP deep names) {t : KEY} (ht : KeyIn deep t) : keptPrivate ⟨deep, namedK names chief, namedK names lone, renK names t⟩ = namedK names (keptPrivate ⟨deep, chief, lone, t⟩) := by
  unfold keptPrivate
  show (sortE (lone.map (renK names))).filter _ = sortE ((lone.filter _).map (renK names))
  rw [sort_filter]
  congr 1
  rw [List.filter_map]
  congr 1
  refine List.filter_congr fun o ho => ?_
  refine harm_ren hn h.c.2.2 (own := [t]) (fun k hk => by rw [List.mem_singleton.mp hk]; exact ht) (fun o' => ?_) (h.l.2 o ho)
  rw [List.mem_singleton]
  exact ⟨fun e => ⟨t, List.mem_singleton.mpr rfl, e.symm⟩, fun ⟨o, ho, e⟩ => by rw [List.mem_singleton.mp ho] at e; exact e.symm⟩
/-! ### the house -/
def Closed (common own priv : KEYS) : Prop := (∀ o ∈ own, ∀ p ∈ own, o ≠ p → opens common o p = false) ∧ (∀ o ∈ priv, ∀ p ∈ own, opens common o p = false) ∧ ∀ o ∈ priv, o ∉ own ∧ o ∉ common
theorem br1_nil {a : A_dcop} : br1 a = [] ↔ ∀ o ∈ a.own, ∀ p ∈ a.own, o ≠ p → opens a.common o p = false := by
  unfold br1
  rw [List.flatMap_eq_nil_iff]
  refine forall_congr' fun o => forall_congr' fun ho => ?_
  rw [List.map_eq_nil_iff, List.filter_eq_nil_iff]
  refine forall_congr' fun p => forall_congr' fun hp => ?_
  by_cases e : o = p
  · rw [decide_eq_true e]
    exact ⟨fun _ z => absurd e z, fun _ => by simp⟩
  · rw [decide_eq_false e]
    cases opens a.common o p <;> simp [e]
theorem br2_nil {a : A_dcop} : br2 a = [] ↔ ∀ o ∈ a.priv, ∀ p ∈ a.own, opens a.common o p = false := by
  unfold br2
  rw [List.flatMap_eq_nil_iff]
  refine forall_congr' fun o => forall_congr' fun ho => ?_
  rw [List.map_eq_nil_iff, List.filter_eq_nil_iff]
  refine forall_congr' fun p => forall_congr' fun hp => ?_
  cases opens a.common o p <;> simp
theorem br3_nil {a : A_dcop} : br3 a = [] ↔ ∀ o ∈ a.priv, o ∉ a.own ∧ o ∉ a.common := by
  unfold br3
  rw [List.map_eq_nil_iff, List.filter_eq_nil_iff]
  refine forall_congr' fun o => forall_congr' fun ho => ?_
  unfold memE
  by_cases h1 : o ∈ a.own <;> by_cases h2 : o ∈ a.common <;> simp [h1, h2]
theorem closed_iff {a : A_dcop} : closedB a = true ↔ Closed a.common a.own a.priv := by
  unfold closedB breachL Closed
  rw [decide_eq_true_iff, List.append_eq_nil_iff, List.append_eq_nil_iff, br1_nil, br2_nil, br3_nil, and_assoc]
theorem f_nam4 (h : Legit deep chief bunch lone) (hn : NamesP deep names) : closedB ⟨deep, namedK names chief, namedK names bunch, namedK names lone⟩ = closedB ⟨deep, chief, bunch, lone⟩ := by
  refine Bool.eq_iff_iff.mpr (closed_iff.trans (Iff.trans ?_ closed_iff.symm))
  show Closed (namedK names chief) (namedK names bunch) (namedK names lone) ↔ Closed chief bunch lone
  have all : ∀ {ks : KEYS} {Q Q' : KEY → Prop}, (∀ o ∈ ks, (Q' (renK names o) ↔ Q o)) → ((∀ o' ∈ namedK names ks, Q' o') ↔ ∀ o ∈ ks, Q o) := fun {ks Q Q'} hq => ⟨fun z o ho => (hq o ho).mp (z _ (mem_named.mpr ⟨o, ho, rfl⟩)), fun z o' ho' => by
    obtain ⟨o, ho, rfl⟩ := mem_named.mp ho'
    exact (hq o ho).mpr (z o ho)⟩
  refine and_congr (all fun o ho => all fun p hp => ?_) (and_congr (all fun o ho => all fun p hp => ?_) (all fun o ho => and_congr (not_congr ?_) (not_congr ?_)))
  · rw [opens_ren hn h.c.2.2 (h.b.2 o ho) (h.b.2 p hp)]
    exact imp_congr (not_congr (ren_inj hn (h.b.2 o ho) (h.b.2 p hp))) Iff.rfl
  · rw [opens_ren hn h.c.2.2 (h.l.2 o ho) (h.b.2 p hp)]
  · exact ren_mem hn h.b.2 (h.l.2 o ho)
  · exact ren_mem hn h.c.2.2 (h.l.2 o ho)
end
/-! ### teeth -/
theorem teeth_fold : ∀ (ds done : KEY) (acc : KEYS), (∀ k ∈ acc, KeyIn done k) → ∀ k ∈ ds.foldl teethStep acc, KeyIn (done ++ ds) k
  | [], done, acc, h, k, hk => by rw [List.append_nil]; exact h k hk
  | d :: ds, done, acc, h, k, hk => by
    have := teeth_fold ds (done ++ [d]) (teethStep acc d) (fun t ht => by
      obtain ⟨u, hu, ht⟩ := List.mem_flatMap.mp ht
      obtain ⟨x, hx, rfl⟩ := List.mem_map.mp ht
      exact keyIn_snoc (h u hu) (mem_upTo.mp hx)) k hk
    rw [List.append_assoc] at this
    exact this
theorem f_teeth {deep : KEY} : ∀ k ∈ teethL deep, KeyIn deep k := fun k hk => teeth_fold deep [] [[]] (fun k h => by rw [List.mem_singleton.mp h]; exact keyIn_nil.mpr rfl) k hk
theorem f_hand1 : totalC (harmlessC (aB [4, 4] [[0, 0], [1, 1]] [])) = 14 := by decide +kernel
theorem f_hand2 : totalC (harmlessC (aB [4, 4] [[0, 0], [1, 0], [1, 1]] [])) = 13 := by decide +kernel
theorem f_hand3 : totalC (harmlessC (aB [4, 4] [[0, 0], [0, 1], [1, 0], [1, 1]] [])) = 12 := by decide +kernel
end K78

-- part KM8
set_option Elab.async false
set_option linter.all false
set_option maxRecDepth 100000
/-! KM8: hashes of boxes, by the kernel. -/
namespace K78
open PySem
/-! ### one step of a tuple's hash -/
def mTop : Nat := nat_lit 18446744073709551616
def step1 (acc u : Nat) : Nat := Nat.mod (Nat.add acc (Nat.mul u (nat_lit 14029467366897019727))) (nat_lit 18446744073709551616)
def step2 (a : Nat) : Nat := Nat.mod (Nat.mul (Nat.add (Nat.mod (Nat.mul a (nat_lit 2147483648)) (nat_lit 18446744073709551616)) (Nat.div a (nat_lit 8589934592))) (nat_lit 11400714785074694791)) (nat_lit 18446744073709551616)
def stH (acc u : Nat) : Nat := step2 (step1 acc u)
def p5 : Nat := nat_lit 2870177450012600261
/-! ### the kernel's work -/
def forceN {α : Type} (k : Nat → α) (a : Nat) : α := Nat.rec (motive := fun _ => α) (k (nat_lit 0)) (fun n _ => k (Nat.succ n)) a
theorem force_eq {α : Type} (k : Nat → α) (a : Nat) : forceN k a = k a := by cases a <;> rfl
noncomputable def genH (U : List Nat) (n : Nat) : Nat → List Nat → List Nat := Nat.rec (motive := fun _ => Nat → List Nat → List Nat) (fun acc out => acc :: out) (fun _ ih acc out => List.rec (motive := fun _ => List Nat) out (fun u _ o => forceN (fun v => ih v o) (stH acc u)) U) n
noncomputable def partH (k : Nat) (c : List Nat → List Nat → Bool) (l : List Nat) : List Nat → List Nat → Bool := List.rec (motive := fun _ => List Nat → List Nat → Bool) (fun l0 l1 => c l0 l1) (fun a _ ih l0 l1 => cond (Nat.beq (Nat.mod (Nat.div a k) (nat_lit 2)) (nat_lit 0)) (ih (a :: l0) l1) (ih l0 (a :: l1))) l
noncomputable def ndH (f : Nat) : Nat → List Nat → Bool := Nat.rec (motive := fun _ => Nat → List Nat → Bool) (fun _ _ => false) (fun _ ih k l => List.rec (motive := fun _ => Bool) true (fun a t _ => List.rec (motive := fun _ => Bool) true (fun b t2 _ => List.rec (motive := fun _ => Bool) (not (Nat.beq a b)) (fun _ _ _ => forceN (fun k2 => partH k (fun l0 l1 => and (ih k2 l0) (ih k2 l1)) l [] []) (Nat.mul k (nat_lit 2))) t2) t) l) f
def bitH (k a : Nat) : Bool := Nat.beq (Nat.mod (Nat.div a k) (nat_lit 2)) (nat_lit 0)
theorem part_spec (k : Nat) (c : List Nat → List Nat → Bool) : ∀ (l l0 l1 : List Nat), ∃ m0 m1, partH k c l l0 l1 = c m0 m1 ∧ m0.Perm (l.filter (bitH k) ++ l0) ∧ m1.Perm (l.filter (fun a => !bitH k a) ++ l1)
  | [], l0, l1 => ⟨l0, l1, rfl, List.Perm.refl _, List.Perm.refl _⟩
  | a :: l, l0, l1 => by
    show ∃ m0 m1, cond (bitH k a) (partH k c l (a :: l0) l1) (partH k c l l0 (a :: l1)) = c m0 m1 ∧ _
    rw [List.filter_cons, List.filter_cons]
    cases h : bitH k a with
    | true =>
      obtain ⟨m0, m1, e, h0, h1⟩ := part_spec k c l (a :: l0) l1
      exact ⟨m0, m1, e, h0.trans List.perm_middle, h1⟩
    | false =>
      obtain ⟨m0, m1, e, h0, h1⟩ := part_spec k c l l0 (a :: l1)
      exact ⟨m0, m1, e, h0, h1.trans List.perm_middle⟩
theorem nodup_split (p : Nat → Bool) : ∀ (l : List Nat), (l.filter p).Nodup → (l.filter fun a => !p a).Nodup → l.Nodup
  | [], _, _ => List.nodup_nil
  | a :: l, h0, h1 => by
    rw [List.filter_cons] at h0 h1
    rw [List.nodup_cons]
    cases h : p a with
    | true =>
      rw [h] at h0 h1
      rw [if_pos rfl, List.nodup_cons] at h0
      rw [if_neg (by decide)] at h1
      exact ⟨fun hm => h0.1 (List.mem_filter.mpr ⟨hm, h⟩), nodup_split p l h0.2 h1⟩
    | false =>
      rw [h] at h0 h1
      rw [if_neg (by decide)] at h0
      rw [if_pos (by decide), List.nodup_cons] at h1
      exact ⟨fun hm => h1.1 (List.mem_filter.mpr ⟨hm, by rw [h]; rfl⟩), nodup_split p l h0 h1.2⟩
theorem nd_sound : ∀ (f k : Nat) (l : List Nat), ndH f k l = true → l.Nodup
  | 0, k, l, h => nomatch h
  | f + 1, k, [], _ => List.nodup_nil
  | f + 1, k, [a], _ => by simp
  | f + 1, k, [a, b], h => by
    have h : (not (Nat.beq a b)) = true := h
    have : a ≠ b := fun e => by
      subst e
      rw [Nat.beq_refl] at h
      cases h
    simp [this]
  | f + 1, k, a :: b :: d :: t, h => by
    have h : forceN (fun k2 => partH k (fun l0 l1 => and (ndH f k2 l0) (ndH f k2 l1)) (a :: b :: d :: t) [] []) (Nat.mul k 2) = true := h
    rw [force_eq] at h
    obtain ⟨m0, m1, e, h0, h1⟩ := part_spec k (fun l0 l1 => and (ndH f (Nat.mul k 2) l0) (ndH f (Nat.mul k 2) l1)) (a :: b :: d :: t) [] []
    rw [List.append_nil] at h0 h1
    rw [e] at h
    obtain ⟨h2, h3⟩ := Bool.and_eq_true_iff.mp h
    exact nodup_split (bitH k) _ (h0.nodup_iff.mp (nd_sound f _ m0 h2)) (h1.nodup_iff.mp (nd_sound f _ m1 h3))
/-! ### the cells -/
def subs : List (List Int) := [[0], [1], [2], [3], [0, 1], [0, 2], [0, 3], [1, 2], [1, 3], [2, 3], [0, 1, 2], [0, 1, 3], [0, 2, 3], [1, 2, 3], [0, 1, 2, 3]]
def cellH (c : List Int) : Int := reduceHash (Builtin.Tuple.tupleHashOf (c.map hashInt))
def cellU (c : List Int) : Nat := (cellH c % ((2 : Int) ^ 64)).toNat
def accB (acc : Nat) (b : Box) : Nat := b.foldl (fun acc c => stH acc (cellU c)) acc
def allB : Nat → List Box
  | 0 => [[]]
  | n + 1 => subs.flatMap fun c => (allB n).map (c :: ·)
theorem gen_succ (U : List Nat) (n acc : Nat) (out : List Nat) : genH U (n + 1) acc out = U.foldr (fun u o => genH U n (stH acc u) o) out := by
  have : ∀ V : List Nat, (List.rec (motive := fun _ => List Nat) out (fun u _ o => forceN (fun v => genH U n v o) (stH acc u)) V : List Nat) = V.foldr (fun u o => genH U n (stH acc u) o) out := by
    intro V
    induction V with
    | nil => rfl
    | cons u V ih =>
      rw [List.foldr_cons, ← ih]
      exact force_eq _ _
  exact this U
theorem gen_all : ∀ (n acc : Nat) (out : List Nat), genH (subs.map cellU) n acc out = (allB n).map (accB acc) ++ out
  | 0, acc, out => rfl
  | n + 1, acc, out => by
    have key : ∀ W : List (List Int), (W.map cellU).foldr (fun u o => genH (subs.map cellU) n (stH acc u) o) out = (W.flatMap fun c => (allB n).map (c :: ·)).map (accB acc) ++ out := by
      intro W
      induction W with
      | nil => rfl
      | cons c W ih =>
        rw [List.map_cons, List.foldr_cons, ih, gen_all n, List.flatMap_cons, List.map_append, List.append_assoc, List.map_map]
        rfl
    rw [gen_succ]
    exact key subs
/-! ### boxes of good cells -/
def Cell (c : List Int) : Prop := c ≠ [] ∧ c.Pairwise (· < ·) ∧ ∀ x ∈ c, 0 ≤ x ∧ x < 4
def GoodB (n : Nat) (b : Box) : Prop := b.length = n ∧ ∀ c ∈ b, Cell c
theorem cell_subs {c : List Int} (h : Cell c) : c ∈ subs := by
  have asc : ([0, 1, 2, 3] : List Int).Pairwise (· < ·) := by decide
  have e : c = ([0, 1, 2, 3] : List Int).filter fun x => decide (x ∈ c) := asc_uniq h.2.1 (asc.filter _) fun z => by
    rw [List.mem_filter, decide_eq_true_iff]
    refine ⟨fun hz => ⟨?_, hz⟩, fun hz => hz.2⟩
    have h4 := h.2.2 z hz
    have : z = 0 ∨ z = 1 ∨ z = 2 ∨ z = 3 := by omega
    rcases this with rfl | rfl | rfl | rfl <;> simp
  have hn := h.1
  generalize hb : (fun x => decide (x ∈ c)) = f at e
  have all : ∀ f0 f1 f2 f3 : Bool, f 0 = f0 → f 1 = f1 → f 2 = f2 → f 3 = f3 → c ∈ subs := by
    intro f0 f1 f2 f3 e0 e1 e2 e3
    rw [List.filter_cons, List.filter_cons, List.filter_cons, List.filter_cons, List.filter_nil, e0, e1, e2, e3] at e
    clear hb h e0 e1 e2 e3
    subst e
    clear f
    revert hn
    revert f0 f1 f2 f3
    decide
  exact all _ _ _ _ rfl rfl rfl rfl
theorem good_all : ∀ {n : Nat} {b : Box}, GoodB n b → b ∈ allB n
  | 0, b, h => by rw [List.eq_nil_of_length_eq_zero h.1]; exact List.mem_singleton.mpr rfl
  | n + 1, [], h => by have := h.1; simp at this
  | n + 1, c :: b, h => List.mem_flatMap.mpr ⟨c, cell_subs (h.2 c List.mem_cons_self), List.mem_map.mpr ⟨b, good_all ⟨by simpa using h.1, fun d hd => h.2 d (List.mem_cons_of_mem _ hd)⟩, rfl⟩⟩
theorem map_inj {α β : Type} {f : α → β} : ∀ {l : List α}, (l.map f).Nodup → ∀ {x y : α}, x ∈ l → y ∈ l → f x = f y → x = y
  | [], _, x, y, hx, _, _ => nomatch hx
  | a :: l, h, x, y, hx, hy, e => by
    rw [List.map_cons, List.nodup_cons] at h
    rcases List.mem_cons.mp hx with e1 | hx1
    · rcases List.mem_cons.mp hy with e2 | hy1
      · exact e1.trans e2.symm
      · rw [e1] at e
        exact absurd (List.mem_map.mpr ⟨y, hy1, e.symm⟩) h.1
    · rcases List.mem_cons.mp hy with e2 | hy1
      · rw [e2] at e
        exact absurd (List.mem_map.mpr ⟨x, hx1, e⟩) h.1
      · exact map_inj h.2 hx1 hy1 e
/-! ### what the kernel finds -/
def u15 : List Nat := [9693246245718318424, 11802529618835948721, 6909455589863252355, 13417096345965250780, 16496245626129029056, 7204814214171964562, 13712454970273962987, 14896688948223909699, 17005972321341539996, 8409376899596376432, 2187946392326065592, 15741616437062920842, 8477238830141211852, 529344067295497451, 10165565730050676819]
theorem u15_eq : subs.map cellU = u15 := by decide +kernel
def u01 : Nat := nat_lit 16496245626129029056
theorem u01_eq : cellU [0, 1] = u01 := by decide +kernel
noncomputable def lastH (u : Nat) (l : List Nat) : List Nat := List.rec (motive := fun _ => List Nat) [] (fun a _ o => forceN (fun v => v :: o) (stH a u)) l
theorem last_eq (u : Nat) : ∀ l, lastH u l = l.map fun a => stH a u
  | [] => rfl
  | a :: l => by
    rw [List.map_cons, ← last_eq u l]
    exact force_eq (fun v => v :: lastH u l) (stH a u)
noncomputable def neH (c : Nat) (l : List Nat) : Bool := List.rec (motive := fun _ => Bool) true (fun a _ ih => cond (Nat.beq a c) false ih) l
theorem ne_sound {c : Nat} : ∀ {l : List Nat}, neH c l = true → ∀ a ∈ l, a ≠ c
  | [], _, a, ha => nomatch ha
  | b :: l, h, a, ha => by
    have h : cond (Nat.beq b c) false (neH c l) = true := h
    cases e : Nat.beq b c with
    | true => rw [e] at h; cases h
    | false =>
      rw [e] at h
      rcases List.mem_cons.mp ha with rfl | ha
      · exact Nat.ne_of_beq_eq_false e
      · exact ne_sound h a ha
theorem k_nd : ndH 40 1 (lastH u01 (genH u15 4 p5 [])) = true := by decide +kernel
theorem k_ne1 : neH 15576566623696079688 (genH u15 1 p5 []) = true := by decide +kernel
theorem k_ne2 : neH 15576566623696079691 (genH u15 2 p5 []) = true := by decide +kernel
theorem k_ne3 : neH 15576566623696079690 (genH u15 3 p5 []) = true := by decide +kernel
theorem k_ne4 : neH 15576566623696079693 (genH u15 4 p5 []) = true := by decide +kernel
theorem k_ne5 : neH 15576566623696079692 (lastH u01 (genH u15 4 p5 [])) = true := by decide +kernel
end K78

-- part KM9
set_option Elab.async false
set_option linter.all false
set_option maxRecDepth 100000
/-! KM9: hashes of boxes are apart. -/
namespace K78
open PySem
theorem stH_lt (acc u : Nat) : stH acc u < 2 ^ 64 := Nat.mod_lt _ (by decide)
theorem accB_app (acc : Nat) (b c : Box) : accB acc (b ++ c) = accB (accB acc b) c := List.foldl_append
theorem accB_cons (acc : Nat) (c : List Int) (b : Box) : accB acc (c :: b) = accB (stH acc (cellU c)) b := List.foldl_cons ..
theorem accB_lt : ∀ {acc : Nat} (b : Box), acc < 2 ^ 64 → accB acc b < 2 ^ 64
  | acc, [], h => h
  | acc, c :: b, h => by
    rw [accB_cons]
    exact accB_lt b (stH_lt _ _)
theorem p5_lt : p5 < 2 ^ 64 := by decide
/-! ### the accumulators are apart -/
theorem acc01 (b : Box) : accB p5 (b ++ [[0, 1]]) = stH (accB p5 b) u01 := by
  rw [accB_app, ← u01_eq, accB_cons, accB, List.foldl_nil]
theorem last_map {α : Type} (u : Nat) (f : α → Nat) (l : List α) : lastH u (l.map f) = l.map fun a => stH (f a) u := by
  rw [last_eq, List.map_map, Function.comp_def]
theorem acc5_nd : ((allB 4).map fun b => accB p5 (b ++ [[0, 1]])).Nodup := by
  have h := nd_sound _ _ _ k_nd
  rw [← u15_eq, gen_all, List.append_nil, last_map] at h
  rw [show (fun b : Box => accB p5 (b ++ [[0, 1]])) = fun b => stH (accB p5 b) u01 from funext acc01]
  exact h
theorem acc5_inj {b b' : Box} (h : GoodB 4 b) (h' : GoodB 4 b') (e : accB p5 (b ++ [[0, 1]]) = accB p5 (b' ++ [[0, 1]])) : b = b' := map_inj acc5_nd (good_all h) (good_all h') e
theorem cell0 : Cell [0] := ⟨by simp, by simp, fun x hx => by rw [List.mem_singleton.mp hx]; decide⟩
theorem cell01 : Cell [0, 1] := ⟨by simp, by simp, fun x hx => by
  rcases List.mem_cons.mp hx with rfl | hx
  · decide
  · rw [List.mem_singleton.mp hx]; decide⟩
theorem GoodB.app {n m : Nat} {b c : Box} (h : GoodB n b) (h' : GoodB m c) : GoodB (n + m) (b ++ c) := ⟨by rw [List.length_append, h.1, h'.1], fun d hd => (List.mem_append.mp hd).elim (h.2 d) (h'.2 d)⟩
theorem good_rep (m : Nat) : GoodB m (List.replicate m [0]) := ⟨List.length_replicate, fun c hc => by rw [(List.mem_replicate.mp hc).2]; exact cell0⟩
theorem acc_inj {n : Nat} (hn : n ≤ 4) {b b' : Box} (h : GoodB n b) (h' : GoodB n b') (e : accB p5 b = accB p5 b') : b = b' := by
  have g : ∀ {d : Box}, GoodB n d → GoodB 4 (d ++ List.replicate (4 - n) [0]) := fun hd => by
    have := hd.app (good_rep (4 - n))
    rw [show n + (4 - n) = 4 by omega] at this
    exact this
  have e2 : accB p5 ((b ++ List.replicate (4 - n) [0]) ++ [[0, 1]]) = accB p5 ((b' ++ List.replicate (4 - n) [0]) ++ [[0, 1]]) := by
    rw [accB_app, accB_app p5 b, e, ← accB_app p5 b', ← accB_app]
  exact (List.append_inj (acc5_inj (g h) (g h') e2) (h.1.trans h'.1.symm)).1
theorem acc_inj01 {n : Nat} (hn : n ≤ 4) {b b' : Box} (h : GoodB n b) (h' : GoodB n b') (e : accB p5 (b ++ [[0, 1]]) = accB p5 (b' ++ [[0, 1]])) : b = b' := by
  by_cases h4 : n = 4
  · subst h4
    exact acc5_inj h h' e
  · have g : ∀ {d : Box}, GoodB n d → GoodB (n + 1) (d ++ [[0, 1]]) := fun hd => hd.app ⟨rfl, fun c hc => by rw [List.mem_singleton.mp hc]; exact cell01⟩
    exact (List.append_inj (acc_inj (by omega) (g h) (g h') e) (h.1.trans h'.1.symm)).1
/-! ### the end of a tuple's hash -/
def finU (a n : Nat) : Nat := (a + (n ^^^ 2870177450013471926)) % 2 ^ 64
def outH (f : Nat) : Int := if f < 2 ^ 63 then (f : Int) else (f : Int) - 2 ^ 64
theorem out_inj {f f' : Nat} (h : f < 2 ^ 64) (h' : f' < 2 ^ 64) (e : outH f = outH f') : f = f' := by
  unfold outH at e
  split at e <;> split at e <;> omega
theorem red_out {f : Nat} (h : f < 2 ^ 64) (h1 : f ≠ 2 ^ 64 - 1) : reduceHash (outH f) = outH f := by
  have h2 : -(2 ^ 63 : Int) ≤ outH f ∧ outH f < 2 ^ 63 ∧ outH f ≠ -1 := by
    unfold outH
    split <;> omega
  unfold reduceHash
  rw [if_pos (by rw [Bool.and_eq_true, decide_eq_true_iff, decide_eq_true_iff]; exact ⟨h2.1, h2.2.1⟩), if_neg (by rw [beq_iff_eq]; exact h2.2.2)]
theorem fin_inj {a a' n : Nat} (h : a < 2 ^ 64) (h' : a' < 2 ^ 64) (e : finU a n = finU a' n) : a = a' := by
  unfold finU at e
  omega
def accI (hs : List Int) : Nat := hs.foldl (fun acc h => stH acc (h % ((2 : Int) ^ 64)).toNat) p5
theorem tup_hash (hs : List Int) (h : finU (accI hs) hs.length ≠ 2 ^ 64 - 1) : Builtin.Tuple.tupleHashOf hs = outH (finU (accI hs) hs.length) := by
  have e : Builtin.Tuple.tupleHashOf hs = if (finU (accI hs) hs.length == 2 ^ 64 - 1) = true then 1546275796 else if finU (accI hs) hs.length < 2 ^ 63 then (finU (accI hs) hs.length : Int) else (finU (accI hs) hs.length : Int) - 2 ^ 64 := rfl
  rw [e, if_neg (by rw [beq_iff_eq]; exact h)]
  rfl
theorem hashes_num (w : World) : ∀ c : List Int, NestedKey.hashes w (c.map .num) = c.map hashInt
  | [] => rfl
  | x :: c => by
    show NestedKey.hash w (.num x) :: NestedKey.hashes w (c.map .num) = _
    rw [hashes_num w c]
    rfl
theorem hash_cell (w : World) (c : List Int) : NestedKey.hash w (nkS c) = cellH c := by
  show reduceHash (Builtin.Tuple.tupleHashOf (NestedKey.hashes w (c.map .num))) = _
  rw [hashes_num]
  rfl
theorem hashes_cells (w : World) : ∀ b : Box, NestedKey.hashes w (b.map nkS) = b.map cellH
  | [] => rfl
  | c :: b => by
    show NestedKey.hash w (nkS c) :: NestedKey.hashes w (b.map nkS) = _
    rw [hashes_cells w b, hash_cell]
    rfl
theorem accI_map : ∀ (b : Box), accI (b.map cellH) = accB p5 b := by
  intro b
  unfold accI accB
  rw [List.foldl_map]
  rfl
theorem hash_box (w : World) (b : Box) (h : finU (accB p5 b) b.length ≠ 2 ^ 64 - 1) : NestedKey.hash w (nk b) = outH (finU (accB p5 b) b.length) := by
  show reduceHash (Builtin.Tuple.tupleHashOf (NestedKey.hashes w (b.map nkS))) = _
  have e : finU (accI (b.map cellH)) (b.map cellH).length = finU (accB p5 b) b.length := by rw [accI_map, List.length_map]
  rw [hashes_cells, tup_hash _ (by rw [e]; exact h), e]
  exact red_out (Nat.mod_lt _ (by decide)) h
theorem fin_ne {a n c : Nat} (ha : a < 2 ^ 64) (h : a ≠ c) (hc : c < 2 ^ 64) (e : finU c n = 2 ^ 64 - 1) : finU a n ≠ 2 ^ 64 - 1 := fun z => h (fin_inj ha hc (z.trans e.symm))
theorem gen_mem {n : Nat} {b : Box} (h : GoodB n b) : accB p5 b ∈ genH u15 n p5 [] := by
  rw [← u15_eq, gen_all, List.append_nil]
  exact List.mem_map.mpr ⟨b, good_all h, rfl⟩
theorem fin_good {n : Nat} (h1 : 1 ≤ n) (hn : n ≤ 4) {b : Box} (h : GoodB n b) : finU (accB p5 b) n ≠ 2 ^ 64 - 1 := by
  have m := gen_mem h
  have l := accB_lt b p5_lt
  have : n = 1 ∨ n = 2 ∨ n = 3 ∨ n = 4 := by omega
  rcases this with rfl | rfl | rfl | rfl
  · exact fin_ne l (ne_sound k_ne1 _ m) (by decide) (by decide)
  · exact fin_ne l (ne_sound k_ne2 _ m) (by decide) (by decide)
  · exact fin_ne l (ne_sound k_ne3 _ m) (by decide) (by decide)
  · exact fin_ne l (ne_sound k_ne4 _ m) (by decide) (by decide)
theorem good01 {n : Nat} {b : Box} (h : GoodB n b) : GoodB (n + 1) (b ++ [[0, 1]]) := h.app ⟨rfl, fun c hc => by rw [List.mem_singleton.mp hc]; exact cell01⟩
theorem fin_good01 {n : Nat} (hn : n ≤ 4) {b : Box} (h : GoodB n b) : finU (accB p5 (b ++ [[0, 1]])) (n + 1) ≠ 2 ^ 64 - 1 := by
  by_cases h4 : n = 4
  · subst h4
    have m : accB p5 (b ++ [[0, 1]]) ∈ lastH u01 (genH u15 4 p5 []) := by
      rw [last_eq, acc01]
      exact List.mem_map.mpr ⟨_, gen_mem h, rfl⟩
    exact fin_ne (accB_lt _ p5_lt) (ne_sound k_ne5 _ m) (by decide) (by decide)
  · exact fin_good (by omega) (by omega) (good01 h)
theorem hash_inj {w : World} {n : Nat} (h1 : 1 ≤ n) (hn : n ≤ 4) {b b' : Box} (h : GoodB n b) (h' : GoodB n b') (e : NestedKey.hash w (nk b) = NestedKey.hash w (nk b')) : b = b' := by
  have f := fin_good h1 hn h
  have f' := fin_good h1 hn h'
  rw [hash_box w b (by rw [h.1]; exact f), hash_box w b' (by rw [h'.1]; exact f'), h.1, h'.1] at e
  exact acc_inj hn h h' (fin_inj (accB_lt _ p5_lt) (accB_lt _ p5_lt) (out_inj (Nat.mod_lt _ (by decide)) (Nat.mod_lt _ (by decide)) e))
theorem hash_inj01 {w : World} {n : Nat} (hn : n ≤ 4) {b b' : Box} (h : GoodB n b) (h' : GoodB n b') (e : NestedKey.hash w (nk (b ++ [[0, 1]])) = NestedKey.hash w (nk (b' ++ [[0, 1]]))) : b = b' := by
  have f := fin_good01 hn h
  have f' := fin_good01 hn h'
  rw [hash_box w _ (by rw [(good01 h).1]; exact f), hash_box w _ (by rw [(good01 h').1]; exact f'), (good01 h).1, (good01 h').1] at e
  exact acc_inj01 hn h h' (fin_inj (accB_lt _ p5_lt) (accB_lt _ p5_lt) (out_inj (Nat.mod_lt _ (by decide)) (Nat.mod_lt _ (by decide)) e))
end K78

-- part KM10
set_option Elab.async false
set_option linter.all false
set_option maxRecDepth 100000
/-! KM10: the counts of a lock have keys that hash apart. -/
namespace K78
open PySem PySem.Spec PyProof.Rows L2
def AllG (G : Box → Prop) (l : Cnt) : Prop := ∀ p ∈ l, G p.1
def ClG (G : Box → Prop) : Prop := ∀ b b' m, G b → G b' → meetB b b' = some m → G m
section
variable {G : Box → Prop}
theorem AllG.put {l : Cnt} (h : AllG G l) {b : Box} (hb : G b) (n : Int) : AllG G (putC l b n) := fun p hp => by
  rcases putC_mem hp with e | e
  · rw [e]; exact hb
  · obtain ⟨q, hq, e⟩ := List.mem_map.mp e
    rw [← e]
    exact h q hq
theorem fresh_G (hc : ClG G) {box : Box} (hb : G box) : ∀ (l acc : Cnt), AllG G acc → AllG G l → AllG G (l.foldl (freshStep box) acc)
  | [], acc, h, _ => h
  | p :: l, acc, h, hl => by
    refine fresh_G hc hb l _ ?_ fun q hq => hl q (List.mem_cons_of_mem _ hq)
    unfold freshStep
    split
    · exact h
    · rename_i b e
      exact h.put (hc _ _ _ hb (hl p List.mem_cons_self) e) _
theorem merge_G : ∀ (l acc : Cnt), AllG G acc → AllG G l → AllG G (l.foldl (fun acc p => putC acc p.1 (getC acc p.1 + p.2)) acc)
  | [], acc, h, _ => h
  | p :: l, acc, h, hl => merge_G l _ (h.put (hl p List.mem_cons_self) _) fun q hq => hl q (List.mem_cons_of_mem _ hq)
theorem add_G (t : Int) : ∀ (l acc : Cnt), AllG G acc → AllG G l → AllG G (l.foldl (addStep t) acc)
  | [], acc, h, _ => h
  | p :: l, acc, h, hl => add_G t l _ (AllG.put h (hl p List.mem_cons_self) _) fun q hq => hl q (List.mem_cons_of_mem _ hq)
theorem one_G {b : Box} {n : Int} (hb : G b) : AllG G [(b, n)] := fun p hp => by rw [List.mem_singleton.mp hp]; exact hb
theorem tog_G (hc : ClG G) : ∀ (boxes : List Box) (acc : Cnt), AllG G acc → (∀ b ∈ boxes, G b) → AllG G (boxes.foldl stepC acc)
  | [], acc, h, _ => h
  | b :: boxes, acc, h, hb => by
    refine tog_G hc boxes _ (fun p hp => ?_) fun c h => hb c (List.mem_cons_of_mem _ h)
    exact merge_G _ _ h (fresh_G hc (hb b List.mem_cons_self) _ _ (one_G (hb b List.mem_cons_self)) h) p (List.mem_filter.mp hp).1
theorem fc_G (hc : ClG G) {a : A_dco} (h0 : G (wholeBox a.depths)) (h1 : ∀ b ∈ openingsOf a, G b) (h2 : ∀ b ∈ openedsOf a, G b) : AllG G (fc1 a) ∧ AllG G (fc2 a) := by
  have e1 : AllG G (fc1 a) := add_G _ _ _ (one_G h0) (tog_G hc _ _ (fun p hp => nomatch hp) h1)
  exact ⟨e1, add_G _ _ _ e1 (tog_G hc _ _ (fun p hp => nomatch hp) h2)⟩
theorem hash_ok {P : Program} {w : World} (inj : ∀ b b', G b → G b' → NestedKey.hash w (nk b) = NestedKey.hash w (nk b') → b = b') : ∀ {l : Cnt}, (l.map (·.1)).Nodup → AllG G l → HashOk P w l
  | [], _, _ => List.nodup_nil
  | p :: l, nd, h => by
    rw [List.map_cons, List.nodup_cons] at nd
    refine List.nodup_cons.mpr ⟨fun hm => ?_, hash_ok inj nd.2 fun q hq => h q (List.mem_cons_of_mem _ hq)⟩
    obtain ⟨q, hq, e⟩ := List.mem_map.mp hm
    have := inj _ _ (h q (List.mem_cons_of_mem _ hq)) (h p List.mem_cons_self) e
    exact nd.1 (List.mem_map.mpr ⟨q, hq, this⟩)
theorem hash_f {P : Program} {w : World} (inj : ∀ b b', G b → G b' → NestedKey.hash w (nk b) = NestedKey.hash w (nk b') → b = b') (hc : ClG G) {a : A_dco} (wo : Wo a) (h0 : G (wholeBox a.depths)) (h1 : ∀ b ∈ openingsOf a, G b) (h2 : ∀ b ∈ openedsOf a, G b) : HashF P w a :=
  ⟨hash_ok inj (fc1_ok wo).nd (fc_G hc h0 h1 h2).1, hash_ok inj (fc2_ok wo).nd (fc_G hc h0 h1 h2).2⟩
end
/-! ### good boxes meet in good boxes -/
theorem cell_meet {c c' : List Int} (h : Cell c) (hn : meetC (c, c') ≠ []) : Cell (meetC (c, c')) := ⟨hn, by
  unfold meetC
  split
  · exact h.2.1
  · exact h.2.1.filter _, fun x hx => h.2.2 x (mem_meetC.mp hx).1⟩
theorem meet_good {n : Nat} {b b' : Box} (h : GoodB n b) (h' : GoodB n b') (hn : [] ∉ meetL b b') : GoodB n (meetL b b') := by
  refine ⟨?_, fun c hc => ?_⟩
  · unfold meetL
    rw [List.length_map, List.length_zip, h.1, h'.1, Nat.min_self]
  · have hne : c ≠ [] := fun e => hn (e ▸ hc)
    obtain ⟨p, hp, rfl⟩ := List.mem_map.mp hc
    exact cell_meet (h.2 _ (List.of_mem_zip hp).1) hne
theorem meetB_some {b b' m : Box} (e : meetB b b' = some m) : m = meetL b b' ∧ [] ∉ meetL b b' := by
  unfold meetB at e
  split at e
  · cases e
  · rename_i h
    cases e
    exact ⟨rfl, fun hm => h (memE_iff.mpr hm)⟩
theorem cl_good (n : Nat) : ClG (GoodB n) := fun b b' m h h' e => by
  obtain ⟨rfl, hn⟩ := meetB_some e
  exact meet_good h h' hn
def G01 (n : Nat) (b : Box) : Prop := ∃ b', GoodB n b' ∧ b = b' ++ [[0, 1]]
theorem meet_app {b b' c c' : Box} (h : b.length = b'.length) : meetL (b ++ c) (b' ++ c') = meetL b b' ++ meetL c c' := by
  unfold meetL
  rw [List.zip_append h, List.map_append]
theorem cl_01 (n : Nat) : ClG (G01 n) := fun b b' m h h' e => by
  obtain ⟨rfl, hn⟩ := meetB_some e
  obtain ⟨d, hd, rfl⟩ := h
  obtain ⟨d', hd', rfl⟩ := h'
  have e1 : meetL (d ++ [[0, 1]]) (d' ++ [[0, 1]]) = meetL d d' ++ [[0, 1]] := meet_app (hd.1.trans hd'.1.symm)
  rw [e1] at hn ⊢
  exact ⟨_, meet_good hd hd' fun hm => hn (List.mem_append_left _ hm), rfl⟩
/-! ### the boxes of a lock are good -/
structure Lk4 (a : A_dco) : Prop where
  lk : Lk a
  d : ∀ d ∈ a.depths, 1 ≤ d ∧ d ≤ 4
theorem good_range {n : Nat} {F : Nat → List Int} (h : ∀ p, p < n → Cell (F p)) : GoodB n ((List.range n).map F) := ⟨by rw [List.length_map, List.length_range], fun c hc => by
  obtain ⟨p, hp, rfl⟩ := List.mem_map.mp hc
  exact h p (List.mem_range.mp hp)⟩
theorem cell_upTo {d : Int} (h : 1 ≤ d ∧ d ≤ 4) : Cell (upTo d) := by
  refine ⟨fun e => ?_, ?_, fun x hx => ?_⟩
  · have : (0 : Int) ∈ upTo d := mem_upTo.mpr ⟨by omega, by omega⟩
    rw [e] at this
    cases this
  · unfold upTo
    exact List.Pairwise.map _ (fun a b h => by omega) List.pairwise_lt_range
  · have := mem_upTo.mp hx
    omega
section
variable {a : A_dco} {k : KEY} {p : Nat}
theorem depth_at (h : Lk4 a) (hp : p < a.n) : 1 ≤ a.depths.getD p 0 ∧ a.depths.getD p 0 ≤ 4 := by
  have hl := h.lk.n
  rw [List.getD_eq_getElem?_getD, List.getElem?_eq_getElem (by omega)]
  exact h.d _ (List.getElem_mem _)
theorem key_bd (h : Lk4 a) (hk : KeyIn a.depths k) (hp : p < a.n) : 0 ≤ k.getD p 0 ∧ k.getD p 0 < 4 := by
  have := hk.2 p (by rw [h.lk.n]; exact hp)
  have := depth_at h hp
  omega
theorem cell_opening (h : Lk4 a) (hk : KeyIn a.depths k) (hp : p < a.n) : Cell (setOf (setOf (column a.common p) ++ [k.getD p 0])) := by
  refine ⟨fun e => ?_, asc_setOf _, fun x hx => ?_⟩
  · have : k.getD p 0 ∈ setOf (setOf (column a.common p) ++ [k.getD p 0]) := mem_setOf.mpr (by simp)
    rw [e] at this
    cases this
  · rw [mem_setOf, List.mem_append, mem_setOf, List.mem_singleton, mem_column] at hx
    rcases hx with ⟨c, hc, rfl⟩ | rfl
    · exact key_bd h (h.lk.c c hc) hp
    · exact key_bd h hk hp
theorem cell_opened (h : Lk4 a) (hk : KeyIn a.depths k) (hp : p < a.n) : Cell (cellOf ((rowOf a.common k).getD p none) (upTo (a.depths.getD p 0))) := by
  rw [row_get (by rw [hk.1, h.lk.n]; exact hp)]
  split
  · refine ⟨?_, ?_, fun x hx => ?_⟩
    · show [k.getD p 0] ≠ []
      simp
    · show [k.getD p 0].Pairwise (· < ·)
      simp
    · rw [List.mem_singleton.mp hx]
      exact key_bd h hk hp
  · exact cell_upTo (depth_at h hp)
theorem good_opening (h : Lk4 a) : ∀ b ∈ openingsOf a, GoodB a.n b := fun b hb => by
  obtain ⟨k, hk, rfl⟩ := List.mem_map.mp hb
  exact good_range fun p hp => cell_opening h (h.lk.o k hk) hp
theorem good_opened (h : Lk4 a) : ∀ b ∈ openedsOf a, GoodB a.n b := fun b hb => by
  obtain ⟨k, hk, rfl⟩ := List.mem_map.mp hb
  exact good_range fun p hp => cell_opened h (h.lk.o k hk) hp
theorem good_whole (h : Lk4 a) : GoodB a.n (wholeBox a.depths) := ⟨by unfold wholeBox; rw [List.length_map]; exact h.lk.n, fun c hc => by
  obtain ⟨d, hd, rfl⟩ := List.mem_map.mp hc
  exact cell_upTo (h.d d hd)⟩
theorem hash_lk {P : Program} {w : World} (h : Lk4 a) (wo : Wo a) (h1 : 1 ≤ a.n) (hn : a.n ≤ 4) : HashF P w a := hash_f (G := GoodB a.n) (fun _ _ g g' e => hash_inj h1 hn g g' e) (cl_good a.n) wo (good_whole h) (good_opening h) (good_opened h)
end
section
variable {deep : KEY} {chief bunch lone : KEYS} {P : Program} {w : World} {mate : KEY} {names : NAMES}
theorem deep_14 (h : DeepOk deep) : ∀ d ∈ deep, 1 ≤ d ∧ d ≤ 4 := fun d hd => by have := h.2.2 d hd; omega
theorem f_hash (h : Legit deep chief bunch lone) : HashF P w (aB deep chief bunch) := hash_lk ⟨lk_B h, deep_14 h.d⟩ (f_wo h) h.d.1 h.d.2.1
theorem f_hashM (h : Legit deep chief bunch lone) (hm : Mate deep chief mate) : HashF P w (aM deep chief bunch mate) := hash_lk ⟨lk_M h hm, deep_14 h.d⟩ (f_woM h hm) h.d.1 h.d.2.1
theorem f_hashN (h : Legit deep chief bunch lone) (hn : NamesP deep names) : HashF P w (aN deep chief bunch names) := hash_lk ⟨lk_N h hn, deep_14 h.d⟩ (f_woN h hn) h.d.1 h.d.2.1
theorem g01_range {n : Nat} {F : Nat → List Int} (h : GoodB (n + 1) ((List.range (n + 1)).map F)) (e : F n = [0, 1]) : G01 n ((List.range (n + 1)).map F) := by
  rw [List.range_succ, List.map_append] at h ⊢
  refine ⟨_, ⟨by rw [List.length_map, List.length_range], fun c hc => h.2 c (List.mem_append_left _ hc)⟩, ?_⟩
  rw [List.map_singleton, e]
theorem upTo2 : upTo 2 = [0, 1] := by decide
theorem f_hashP (h : Legit deep chief bunch lone) : HashF P w (aP deep chief bunch) := by
  have l4 : Lk4 (aP deep chief bunch) := ⟨lk_P h, fun d hd => by
    rcases List.mem_append.mp hd with hd | hd
    · exact deep_14 h.d d hd
    · rw [List.mem_singleton.mp hd]; decide⟩
  refine hash_f (G := G01 deep.length) (fun b b' g g' e => ?_) (cl_01 _) (f_woP h) ?_ (fun b hb => ?_) (fun b hb => ?_)
  · obtain ⟨d, hd, rfl⟩ := g
    obtain ⟨d', hd', rfl⟩ := g'
    rw [hash_inj01 h.d.2.1 hd hd' e]
  · refine ⟨deep.map upTo, ⟨List.length_map .., fun c hc => ?_⟩, ?_⟩
    · obtain ⟨d, hd, rfl⟩ := List.mem_map.mp hc
      exact cell_upTo (deep_14 h.d d hd)
    · show (deep ++ [2]).map upTo = _
      rw [List.map_append, List.map_singleton, upTo2]
  · have g := good_opening l4 b hb
    obtain ⟨k, hk, rfl⟩ := List.mem_map.mp hb
    obtain ⟨o, ho, rfl⟩ := List.mem_map.mp hk
    refine g01_range g ?_
    show setOf (setOf (column (pinC chief) deep.length) ++ [(o ++ [1]).getD deep.length 0]) = [0, 1]
    refine (setOf_eq (by decide) fun z => ?_).symm
    rw [List.mem_append, mem_setOf, List.mem_singleton, getD_snoc_at (h.b.2 o ho).1]
    constructor
    · intro hz
      refine .inl (col_last h.c ?_)
      rcases List.mem_cons.mp hz with rfl | hz
      · decide
      · rw [List.mem_singleton.mp hz]; decide
    · rintro (hz | rfl)
      · obtain ⟨c, hc, rfl⟩ := mem_column.mp hz
        have := (pinC_in h.c c hc).2 deep.length (by rw [List.length_append]; exact Nat.lt_succ_self _)
        rw [getD_snoc_at rfl] at this
        have : c.getD deep.length 0 = 0 ∨ c.getD deep.length 0 = 1 := by omega
        rcases this with e | e <;> rw [e] <;> decide
      · decide
  · have g := good_opened l4 b hb
    obtain ⟨k, hk, rfl⟩ := List.mem_map.mp hb
    obtain ⟨o, ho, rfl⟩ := List.mem_map.mp hk
    refine g01_range g ?_
    show cellOf ((rowOf (pinC chief) (o ++ [1])).getD deep.length none) (upTo ((deep ++ [2]).getD deep.length 0)) = [0, 1]
    have hol := (h.b.2 o ho).1
    rw [row_get (by rw [List.length_append, hol]; exact Nat.lt_succ_self _), if_neg (fun e => isFree_iff.mp e (by rw [getD_snoc_at hol]; exact col_last h.c ⟨by decide, by decide⟩)), getD_snoc_at rfl]
    exact upTo2
end
end K78

-- part KMath0
set_option Elab.async false
set_option linter.all false
set_option maxRecDepth 100000
set_option maxHeartbeats 4000000
/-! KMath0: what the mathematics has to give. -/
namespace K78
open PySem PySem.Spec PyProof.Rows L2
section
variable {deep : KEY} {chief bunch lone : KEYS} {P : Program} {w : World}
theorem m_wo (h : Legit deep chief bunch lone) : Wo (aB deep chief bunch) := f_wo h
theorem m_hash (h : Legit deep chief bunch lone) : HashF P w (aB deep chief bunch) := f_hash h
theorem m_woP (h : Legit deep chief bunch lone) : Wo (aP deep chief bunch) := f_woP h
theorem m_hashP (h : Legit deep chief bunch lone) : HashF P w (aP deep chief bunch) := f_hashP h
theorem m_pin1 (h : Legit deep chief bunch lone) : totalC (furtherC (aP deep chief bunch)) = 2 * totalC (furtherC (aB deep chief bunch)) := f_pin1 h
theorem m_pin2 (h : Legit deep chief bunch lone) : ranksOf (furtherC (aP deep chief bunch)) (pinC chief) (deep.length + 1) = (ranksOf (furtherC (aB deep chief bunch)) chief deep.length).map (fun x => 2 * x) ++ [0] := f_pin2 h
theorem m_pin3 (h : Legit deep chief bunch lone) (hb : bunch ≠ []) : totalC (harmlessC (aP deep chief bunch)) = 2 * totalC (harmlessC (aB deep chief bunch)) := f_pin3 h hb
theorem m_woM (h : Legit deep chief bunch lone) {mate : KEY} (hm : Mate deep chief mate) : Wo (aM deep chief bunch mate) := f_woM h hm
theorem m_hashM (h : Legit deep chief bunch lone) {mate : KEY} (hm : Mate deep chief mate) : HashF P w (aM deep chief bunch mate) := f_hashM h hm
theorem m_mas1 (h : Legit deep chief bunch lone) {mate : KEY} (hm : Mate deep chief mate) : totalC (furtherC (aM deep chief bunch mate)) = totalC (furtherC (aB deep chief bunch)) := f_mas1 h hm
theorem m_mas2 (h : Legit deep chief bunch lone) {mate : KEY} (hm : Mate deep chief mate) : ranksOf (furtherC (aM deep chief bunch mate)) (sortE (chief ++ [mate])) deep.length = ranksOf (furtherC (aB deep chief bunch)) chief deep.length := f_mas2 h hm
theorem m_mas3 (h : Legit deep chief bunch lone) {mate : KEY} (hm : Mate deep chief mate) (h1 : mate ∉ chief) (h2 : mate ∉ bunch) : totalC (harmlessC (aM deep chief bunch mate)) = totalC (harmlessC (aB deep chief bunch)) - (if bunch = [] then 1 else 0) := f_mas3 h hm h1
theorem m_woN (h : Legit deep chief bunch lone) {names : NAMES} (hn : NamesP deep names) : Wo (aN deep chief bunch names) := f_woN h hn
theorem m_hashN (h : Legit deep chief bunch lone) {names : NAMES} (hn : NamesP deep names) : HashF P w (aN deep chief bunch names) := f_hashN h hn
theorem m_nam1 (h : Legit deep chief bunch lone) {names : NAMES} (hn : NamesP deep names) : totalC (furtherC (aN deep chief bunch names)) = totalC (furtherC (aB deep chief bunch)) := f_nam1 h hn
theorem m_nam2 (h : Legit deep chief bunch lone) {names : NAMES} (hn : NamesP deep names) : ranksOf (furtherC (aN deep chief bunch names)) (namedK names chief) deep.length = ranksOf (furtherC (aB deep chief bunch)) chief deep.length := f_nam2 h hn
theorem m_nam3 (h : Legit deep chief bunch lone) {names : NAMES} (hn : NamesP deep names) : totalC (harmlessC (aN deep chief bunch names)) = totalC (harmlessC (aB deep chief bunch)) := f_nam3 h hn
theorem m_nam4 (h : Legit deep chief bunch lone) {names : NAMES} (hn : NamesP deep names) : closedB ⟨deep, namedK names chief, namedK names bunch, namedK names lone⟩ = closedB ⟨deep, chief, bunch, lone⟩ := f_nam4 h hn
theorem m_nam5 (h : Legit deep chief bunch lone) {names : NAMES} (hn : NamesP deep names) {t : KEY} (ht : KeyIn deep t) : isFurther ⟨deep, namedK names chief, namedK names bunch, renK names t⟩ = isFurther ⟨deep, chief, bunch, t⟩ := f_nam5 h hn ht
theorem m_nam6 (h : Legit deep chief bunch lone) {names : NAMES} (hn : NamesP deep names) {t : KEY} (ht : KeyIn deep t) : isHarmless ⟨deep, namedK names chief, namedK names bunch, renK names t⟩ = isHarmless ⟨deep, chief, bunch, t⟩ := f_nam6 h hn ht
theorem m_nam7 (h : Legit deep chief bunch lone) {names : NAMES} (hn : NamesP deep names) {t : KEY} (ht : KeyIn deep t) : keptPrivate ⟨deep, namedK names chief, namedK names lone, renK names t⟩ = namedK names (keptPrivate ⟨deep, chief, lone, t⟩) := f_nam7 h hn ht
theorem m_teeth (hd : DeepOk deep) : ∀ k ∈ teethL deep, KeyIn deep k := f_teeth
theorem m_hand1 : totalC (harmlessC (aB [4, 4] [[0, 0], [1, 1]] [])) = 14 := f_hand1
theorem m_hand2 : totalC (harmlessC (aB [4, 4] [[0, 0], [1, 0], [1, 1]] [])) = 13 := f_hand2
theorem m_hand3 : totalC (harmlessC (aB [4, 4] [[0, 0], [0, 1], [1, 0], [1, 1]] [])) = 12 := f_hand3
end
end K78

-- part KL7
set_option Elab.async false
set_option linter.all false
set_option maxRecDepth 100000
set_option maxHeartbeats 4000000
/-! KL7: _law_pin_right. -/
namespace K78
open PySem PySem.Spec PyProof.Rows L2
open Evl (Ex ex_t ex_l ex_rd fresh_back)
open Enc (enc)
section
variable {X : Cx} {B : Hp} {Γ : En} {a b : Expr} {pos : Pos}
theorem de_catLN {ds ds' : List PyData} (ha : DE X (EnvOk Γ) a (MP.d X.K (.list ds))) (hb : DE X (EnvOk Γ) b (MP.d X.K (.list ds'))) (hz : ds.length + ds'.length ≤ 100000) : DE X (GB B Γ) (.BinOp a .Add b pos) (MNewL X.K B (ds ++ ds')) :=
  de_of (pe_op op_catS (de_gb (B := B) ha) (de_gb (B := B) hb)) fun σ H Q g q => ⟨g, fun v H1 x1 p1 => ⟨MG.mono x1 g, fun u H2 x2 p2 => by
    obtain ⟨l, us, rfl, hq, hd⟩ := dp_lst (Dp.mono x2 _ _ p1)
    obtain ⟨l2, us2, rfl, hq2, hd2⟩ := dp_lst p2
    exact ⟨l, l2, us, us2, rfl, rfl, hq, hq2, sz3 (by rw [hd.length, hd2.length]; exact hz), fun r hr => q _ _ ((x1.trans x2).trans (Ex.new hr)) ⟨r, b_none ((g.1.trans x1).trans x2) hr, rfl, _, upd_same, DpAll.mono (Ex.new hr) _ _ (hd.append hd2)⟩⟩⟩⟩
end
theorem same_int {n : Nat} (i : Int) : sameOk n (.int i) := by
  induction n with
  | zero => exact .inl ⟨i, rfl⟩
  | succ n ih => exact .inl ih
theorem same_bool {n : Nat} (i : Bool) : sameOk n (.bool i) := by
  induction n with
  | zero => exact .inr ⟨i, rfl⟩
  | succ n ih => exact .inl ih
theorem same_key {n : Nat} {k : List Int} (h : k.length ≤ 1000) : sameOk (n + 1) (enc k) := .inr ⟨k.map enc, .inr rfl, by rw [List.length_map]; exact h, fun x hx => by
  obtain ⟨i, _, rfl⟩ := List.mem_map.mp hx
  exact same_int i⟩
theorem same_keys {n : Nat} {ks : KEYS} (h : ks.length ≤ 1000) (h2 : ∀ k ∈ ks, k.length ≤ 1000) : sameOk (n + 2) (enc ks) := .inr ⟨ks.map enc, .inr rfl, by rw [List.length_map]; exact h, fun x hx => by
  obtain ⟨k, hk, rfl⟩ := List.mem_map.mp hx
  exact same_key (h2 k hk)⟩
theorem same_list {n : Nat} {ds : List PyData} (h : ds.length ≤ 1000) (h2 : ∀ x ∈ ds, sameOk n x) : sameOk (n + 1) (.list ds) := .inr ⟨ds, .inl rfl, h, h2⟩
theorem ranksOf_len (l : Cnt) (common : KEYS) (n : Nat) : (ranksOf l common n).length ≤ n + 1 := by
  have := rof_len (cutsOf common n) l (List.replicate (n + 1) 0)
  rw [List.length_replicate] at this
  exact this
structure A_dcb where
  deep : KEY
  chief : KEYS
  bunch : KEYS
section
variable {P : Program} {w : World} {K : PySem.W.Frag} {mg : Str → Option Value} {base : Heap}
def sp_pin (K : PySem.W.Frag) : Sp := spM (fun a : A_dcb => Legit a.deep a.chief a.bunch []) (fun a => [ME K a.deep, ME K a.chief, ME K a.bunch]) (fun a => MB K true)
theorem ok_pin (T : Tx K mg) : DefOk P w K mg base "_law_pin_right" 6 (sp_pin K) := by
  obtain ⟨f, fd, F, hg⟩ := at__law_pin_right T
  have B := T.bl
  have D1 := ok_how_many_further (P := P) (w := w) (base := base) T
  have D2 := ok_further_ranks (P := P) (w := w) (base := base) T
  have D3 := ok_how_many_harmless (P := P) (w := w) (base := base) T
  have D4 := ok_same (P := P) (w := w) (base := base) T 2
  refine fn_pure F sc__law_pin_right hg (fun _ => rfl) (fun _ _ _ _ _ _ us hl => match us, hl with | [_, _, _], _ => rfl) fun f cdv A outer s H E a hr hp => ?_
  obtain ⟨deep, chief, bunch⟩ := a
  have h : Legit deep chief bunch [] := hp
  have hd1 := h.d.1
  have hd2 := h.d.2.1
  have hc1 := h.c.1
  have hc2 := h.c.2.1
  have hb1 := h.b.1
  have wo := m_wo h
  have woP := m_woP h
  have hash := m_hash (P := P) (w := w) h
  have hashP := m_hashP (P := P) (w := w) h
  have ckl : ∀ k ∈ chief, k.length = deep.length := fun k hk => (h.c.2.2 k hk).1
  have bkl : ∀ k ∈ bunch, k.length = deep.length := fun k hk => (h.b.2 k hk).1
  have hcne : ∃ c cs, chief = c :: cs := by
    cases chief with
    | nil => simp at hc1
    | cons c cs => exact ⟨c, cs, rfl⟩
  refine ds_body fun BB => ?_
  show HS _ (GB BB [some ((ME K deep).at BB), some ((ME K chief).at BB), some ((ME K bunch).at BB), none, none, none, none, none, none]) _ _ _
  -- masters
  refine hs_cons (h1_of (Γ' := [some ((ME K deep).at BB), some ((ME K chief).at BB), some ((ME K bunch).at BB), some (ME K (chief.map (fun k => k ++ [(0 : Int)]) ++ [chief.headD [] ++ [(1 : Int)]])), none, none, none, none, none]) (d1_set 3 sc__law_pin_right.nd (DE.to (de_tupleL B.tuple (de_catL (de_lc0 chief enc (fun k => enc (k ++ [(0 : Int)])) (fun k => [some ((ME K deep).at BB), some ((ME K chief).at BB), some ((ME K bunch).at BB), none, some (ME K k), none, none, none, none]) [("_law_tooth_here", 4)] rfl sc__law_pin_right.nd (di_tup (de_v0 1)) (blkOk_by (N := ["_law_deep_here", "_law_chief_here", "_law_bunch", "_law_masters", "_law_tooth_here", "_law_homes", "_law_got", "_law_due", "_law_own_so"]) (sc := defScope s__law_pin_right) (by decide +kernel)) (fun _ _ _ _ _ => pg_name (i := 4) sc__law_pin_right.nd rfl (by first | exact Or.inl rfl | exact Or.inr rfl)) (fun o ho => tg_name)
      (fun k hk _ _ _ _ _ => DE.to (de_catT (de_v 4) (de_tup [enc (0 : Int)] (da_cons de_int da_nil) (by simp)) (by rw [List.length_map, ckl k hk]; simp; omega)) ?e1) (fun _ _ => Enc.to _) (by omega))
      (de_lst [enc (chief.headD [] ++ [(1 : Int)])] (da_cons (DE.to (de_catT (ds := (chief.headD []).map enc) (de_ixT 0 (ds := chief.map enc) (d := enc (chief.headD [])) (de_v0 1) de_int rfl ?e2) (de_tup [enc (1 : Int)] (da_cons de_int da_nil) (by simp)) ?l2) ?e3) da_nil) (by simp)) ?l3)) ?e4))) ?_
  case e1 =>
    show PyData.tuple _ = PyData.tuple ((k ++ [(0 : Int)]).map enc)
    rw [List.map_append]
    rfl
  case e2 =>
    obtain ⟨c, cs, rfl⟩ := hcne
    rfl
  case l2 =>
    obtain ⟨c, cs, rfl⟩ := hcne
    rw [List.length_map]
    show c.length + 1 ≤ 100000
    rw [ckl c List.mem_cons_self]
    omega
  case e3 =>
    show PyData.tuple _ = PyData.tuple ((chief.headD [] ++ [(1 : Int)]).map enc)
    rw [List.map_append]
    rfl
  case l3 => rw [List.length_map]; simp; omega
  case e4 =>
    show PyData.tuple _ = PyData.tuple ((chief.map (fun k => k ++ [(0 : Int)]) ++ [chief.headD [] ++ [(1 : Int)]]).map enc)
    rw [List.map_append, List.map_map]
    rfl
  have hml : ∀ k ∈ chief.map (fun k => k ++ [(0 : Int)]) ++ [chief.headD [] ++ [(1 : Int)]], k.length = deep.length + 1 := fun k hk => by
    rcases List.mem_append.mp hk with hk | hk
    · obtain ⟨k', hk', rfl⟩ := List.mem_map.mp hk
      rw [List.length_append, ckl k' hk']
      rfl
    · obtain ⟨c, cs, rfl⟩ := hcne
      rw [List.mem_singleton.mp hk, List.length_append]
      show c.length + 1 = _
      rw [ckl c List.mem_cons_self]
  refine hs_cons (h1_of (Γ' := [some ((ME K deep).at BB), some ((ME K chief).at BB), some ((ME K bunch).at BB), some (ME K (pinC chief)), none, some (ME K (pinB bunch)), none, none, none]) (d1_par2 (M1 := ME K (pinC chief)) (M2 := ME K (pinB bunch)) 3 5 rfl sc__law_pin_right.nd (de_tupleL B.tuple (de_sortK (n := deep.length + 1) hr B.sorted (by omega) hml (by rw [List.length_append, List.length_map]; simp; omega) (.inr (de_v 3)))) (DE.to (de_tupleL B.tuple (de_lc0 bunch enc (fun k => enc (k ++ [(1 : Int)])) (fun k => [some ((ME K deep).at BB), some ((ME K chief).at BB), some ((ME K bunch).at BB), some (ME K (chief.map (fun k => k ++ [(0 : Int)]) ++ [chief.headD [] ++ [(1 : Int)]])), some (ME K k), none, none, none, none]) [("_law_tooth_here", 4)] rfl sc__law_pin_right.nd (di_tup (de_v0 2)) (blkOk_by (N := ["_law_deep_here", "_law_chief_here", "_law_bunch", "_law_masters", "_law_tooth_here", "_law_homes", "_law_got", "_law_due", "_law_own_so"]) (sc := defScope s__law_pin_right) (by decide +kernel)) (fun _ _ _ _ _ => pg_name (i := 4) sc__law_pin_right.nd rfl (by first | exact Or.inl rfl | exact Or.inr rfl)) (fun o ho => tg_name)
      (fun k hk _ _ _ _ _ => DE.to (de_catT (de_v 4) (de_tup [enc (1 : Int)] (da_cons de_int da_nil) (by simp)) (by rw [List.length_map, bkl k hk]; simp; omega)) ?f1) (fun _ _ => Enc.to _) (by omega))) ?f2))) ?_
  case f1 =>
    show PyData.tuple _ = PyData.tuple ((k ++ [(1 : Int)]).map enc)
    rw [List.map_append]
    rfl
  case f2 =>
    show PyData.tuple _ = PyData.tuple ((pinB bunch).map enc)
    unfold pinB
    rw [List.map_map]
    rfl
  have e1 := m_pin1 h
  have e2 := m_pin2 h
  have rl := ranksOf_len (furtherC (aP deep chief bunch)) (pinC chief) (deep.length + 1)
  have rl2 := ranksOf_len (furtherC (aB deep chief bunch)) chief deep.length
  refine hs_cons (h1_set 6 sc__law_pin_right.nd (de_newL [.int (totalC (furtherC (aP deep chief bunch))), enc (ranksOf (furtherC (aP deep chief bunch)) (pinC chief) (deep.length + 1))] (da_cons (de_gb (de_call D1 hr (aP deep chief bunch) (da_cons (DE.to (de_catT (de_v0 0) (de_tup [enc (2 : Int)] (da_cons de_int da_nil) (by simp)) (by rw [List.length_map]; simp; omega)) ?c2) (da_cons (de_v 3) (da_cons (de_v 5) da_nil))) ⟨woP, hashP⟩)) (da_cons (de_gb (de_call D2 hr (aP deep chief bunch) (da_cons (DE.to (de_catT (de_v0 0) (de_tup [enc (2 : Int)] (da_cons de_int da_nil) (by simp)) (by rw [List.length_map]; simp; omega)) ?c3) (da_cons (de_v 3) (da_cons (de_v 5) da_nil))) ⟨woP, hashP⟩)) da_nil)) (by simp))) ?_
  case c2 =>
    show PyData.tuple _ = PyData.tuple ((deep ++ [(2 : Int)]).map enc)
    rw [List.map_append]
    rfl
  case c3 =>
    show PyData.tuple _ = PyData.tuple ((deep ++ [(2 : Int)]).map enc)
    rw [List.map_append]
    rfl
  generalize hdl : ([.int (totalC (furtherC (aP deep chief bunch))), enc (ranksOf (furtherC (aP deep chief bunch)) (pinC chief) (deep.length + 1))] : List PyData) = dl
  have hdt : tO.tOs dl = true := by rw [← hdl]; simp [tO.tOs, tO, Enc.to]
  have hdlen : dl.length = 2 := by rw [← hdl]; rfl
  refine hs_pre (G := fun σ H => ∃ L1, BB L1 = none ∧ GB BB [some ((ME K deep).at BB), some ((ME K chief).at BB), some ((ME K bunch).at BB), some (ME K (pinC chief)), none, some (ME K (pinB bunch)), some (MLat K L1 dl), none, none] σ H) (hs_ex fun L1 => hs_pure fun hL1 => ?_) (fun σ H g => gb_newL (i := 6) (Γ := [some ((ME K deep).at BB), some ((ME K chief).at BB), some ((ME K bunch).at BB), some (ME K (pinC chief)), none, some (ME K (pinB bunch)), none, none, none]) (by show 6 < 9; omega) g)
  refine hs_cons (h1_of (Γ' := [some ((ME K deep).at BB), some ((ME K chief).at BB), some ((ME K bunch).at BB), some (ME K (pinC chief)), none, some (ME K (pinB bunch)), some (MLat K L1 dl), some (MP.d K (.list [.int (2 * totalC (furtherC (aB deep chief bunch)))])), none]) (d1_set 7 sc__law_pin_right.nd (de_lst [.int (2 * totalC (furtherC (aB deep chief bunch)))] (da_cons (de_mul de_int (de_call D1 hr (aB deep chief bunch) (da_cons (de_v0 0) (da_cons (de_v0 1) (da_cons (de_v0 2) da_nil))) ⟨wo, hash⟩) (.inl ⟨by decide, by decide⟩)) da_nil) (by simp)))) ?_
  refine hs_cons (N' := fun σ H => ∃ L2, (L1 ≠ L2 ∧ BB L2 = none) ∧ GB BB [some ((ME K deep).at BB), some ((ME K chief).at BB), some ((ME K bunch).at BB), some (ME K (pinC chief)), none, some (ME K (pinB bunch)), some (MLat K L1 dl), some (MLat K L2 dl), none] σ H) (h1_now fun σ0 H0 g0 => ?due) (hs_ex fun L2 => hs_pure fun hL2 => ?_)
  case due =>
    obtain ⟨v6, ev6, rfl, us6, k6, _⟩ := g0.2.get 6 _ rfl
    refine h1_post (h1_pre (h1_set (B := H0) (Γ := [some ((ME K deep).at BB), some ((ME K chief).at BB), some ((ME K bunch).at BB), some (ME K (pinC chief)), none, some (ME K (pinB bunch)), some (MLat K L1 dl), some (MP.d K (.list [.int (2 * totalC (furtherC (aB deep chief bunch)))])), none]) 7 sc__law_pin_right.nd (de_catLN (de_v 7) (de_lst [enc ((ranksOf (furtherC (aB deep chief bunch)) chief deep.length).map (fun x => 2 * x) ++ [0])] (da_cons (DE.to (de_catT (de_tupleL B.tuple (de_lc0 (ranksOf (furtherC (aB deep chief bunch)) chief deep.length) enc (fun x => enc (2 * x)) (fun x => [some ((ME K deep).at BB), some ((ME K chief).at BB), some ((ME K bunch).at BB), some (ME K (pinC chief)), none, some (ME K (pinB bunch)), some (MLat K L1 dl), some (MP.d K (.list [.int (2 * totalC (furtherC (aB deep chief bunch)))])), some (MI K x)]) [("_law_own_so", 8)] rfl sc__law_pin_right.nd (di_tup (de_call D2 hr (aB deep chief bunch) (da_cons (de_v0 0) (da_cons (de_v0 1) (da_cons (de_v0 2) da_nil))) ⟨wo, hash⟩)) (blkOk_by (N := ["_law_deep_here", "_law_chief_here", "_law_bunch", "_law_masters", "_law_tooth_here", "_law_homes", "_law_got", "_law_due", "_law_own_so"]) (sc := defScope s__law_pin_right) (by decide +kernel)) (fun _ _ _ _ _ => pg_name (i := 8) sc__law_pin_right.nd rfl (by first | exact Or.inl rfl | exact Or.inr rfl)) (fun o ho => tg_name)
      (fun x hx _ _ _ _ _ => de_mul de_int (de_v 8) (.inl ⟨by decide, by decide⟩)) (fun _ _ => Enc.to _) (by omega))) (de_tup [enc (0 : Int)] (da_cons de_int da_nil) (by simp)) (by rw [List.length_map]; simp; omega)) ?g1) da_nil) (by simp)) (by simp))) (fun σ H e => by obtain ⟨rfl, rfl⟩ := e; exact ⟨Ex.refl _, g0.2⟩)) (fun σ H g => ?g2)
    case g1 =>
      show PyData.tuple _ = PyData.tuple (((ranksOf (furtherC (aB deep chief bunch)) chief deep.length).map (fun x => 2 * x) ++ [0]).map enc)
      rw [List.map_append, List.map_map]
      rfl
    case g2 =>
      obtain ⟨L2, hL2, g'⟩ := gb_newL (i := 7) (Γ := [some ((ME K deep).at BB), some ((ME K chief).at BB), some ((ME K bunch).at BB), some (ME K (pinC chief)), none, some (ME K (pinB bunch)), some (MLat K L1 dl), some (MP.d K (.list [.int (2 * totalC (furtherC (aB deep chief bunch)))])), none]) (by show 7 < 9; omega) g
      refine ⟨L2, ⟨fun e => (by subst e; rw [k6] at hL2; cases hL2), b_none g0.1 hL2⟩, g0.1.trans g'.1, ?_⟩
      have := g'.2
      have ed : ([.int (2 * totalC (furtherC (aB deep chief bunch)))] ++ [enc ((ranksOf (furtherC (aB deep chief bunch)) chief deep.length).map (fun x => 2 * x) ++ [0])] : List PyData) = dl := by rw [← hdl, e1, e2]; rfl
      rw [ed] at this
      exact this
  obtain ⟨hL12, hB2⟩ := hL2
  generalize hdl' : (if bunch = [] then dl else dl ++ [PyData.int (totalC (harmlessC (aP deep chief bunch)))]) = dl'
  have hsm : sameOk 2 (.list dl') := by
    refine same_list (by rw [← hdl']; split <;> simp [hdlen]) fun x hx => ?_
    have hx : x ∈ dl ∨ x = .int (totalC (harmlessC (aP deep chief bunch))) := by
      rw [← hdl'] at hx
      split at hx
      · exact .inl hx
      · rcases List.mem_append.mp hx with hx | hx
        · exact .inl hx
        · exact .inr (List.mem_singleton.mp hx)
    rcases hx with hx | rfl
    · rw [← hdl] at hx
      rcases List.mem_cons.mp hx with rfl | hx
      · exact same_int _
      · rw [List.mem_singleton.mp hx]
        exact same_key (by omega)
    · exact same_int _
  refine hs_cons (N' := GB BB [some ((ME K deep).at BB), some ((ME K chief).at BB), some ((ME K bunch).at BB), some (ME K (pinC chief)), none, some (ME K (pinB bunch)), some (MLat K L1 dl'), some (MLat K L2 dl'), none]) (h1_if (k := !decide (bunch = [])) (dt_gb (dt_neE hr (x := bunch) (y := []) (de_v0 2) (de_tup [] da_nil))) (fun e => ?yes) (fun e => ?no)) (hs_one (h1_ret (M := MB K true) (de_gb (de_call D4 (hr.mono (by omega)) (.list dl') (da_cons ((de_v 6).cast fun v H p => MLat.dp p) (da_cons ((de_v 7).cast fun v H p => MLat.dp p) da_nil)) hsm)) fun v σ H H' g x p => ⟨g.1.trans x, p⟩))
  case no =>
    have e : bunch = [] := by simpa using e
    rw [if_pos e] at hdl'
    subst hdl'
    exact hs_nil fun σ H g => g
  case yes =>
    have e : bunch ≠ [] := by simpa using e
    rw [if_neg e] at hdl'
    subst hdl'
    have e3 := m_pin3 h e
    refine hs_cons (h1_append 6 (d := .int (totalC (harmlessC (aP deep chief bunch)))) rfl hL1 (de_v 6) (de_gb (de_call D3 hr (aP deep chief bunch) (da_cons (DE.to (de_catT (de_v0 0) (de_tup [enc (2 : Int)] (da_cons de_int da_nil) (by simp)) (by rw [List.length_map]; simp; omega)) ?c4) (da_cons (de_v 3) (da_cons (de_v 5) da_nil))) woP)) hdt rfl (by omega) (.cons (stb_at hL1) (.cons (stb_at hL1) (.cons (stb_at hL1) (.cons stb_e (.skip (.cons stb_e (.skip (.cons (stb_l hL12.symm hdt) (.skip .nil)))))))))) ?_
    case c4 =>
      show PyData.tuple _ = PyData.tuple ((deep ++ [(2 : Int)]).map enc)
      rw [List.map_append]
      rfl
    exact hs_one (h1_append 7 (d := .int (totalC (harmlessC (aP deep chief bunch)))) rfl hB2 (de_v 7) (de_gb (DE.to (de_mul (i := 2) (j := totalC (harmlessC (aB deep chief bunch))) de_int (de_call D3 hr (aB deep chief bunch) (da_cons (de_v0 0) (da_cons (de_v0 1) (da_cons (de_v0 2) da_nil))) wo) (.inl ⟨by decide, by decide⟩)) (by rw [e3]))) hdt rfl (by omega) (.cons (stb_at hB2) (.cons (stb_at hB2) (.cons (stb_at hB2) (.cons stb_e (.skip (.cons stb_e (.cons (stb_l hL12 (tOs_app.mpr ⟨hdt, rfl⟩)) (.skip (.skip .nil))))))))))
end
end K78

-- part KL8
set_option Elab.async false
set_option linter.all false
set_option maxRecDepth 100000
set_option maxHeartbeats 4000000
/-! KL8: _law_master_right. -/
namespace K78
open PySem PySem.Spec PyProof.Rows L2
open Evl (Ex ex_t ex_l ex_rd fresh_back)
open Enc (enc)
section
variable {X : Cx} {B : Hp} {b : Addr} {Γ Γ' : En} {e c : Expr} {pos p : Pos}
/-- e[k], e changes the box -/
theorem eb_ixE {φ : KEY → Prop} {k : Nat} (he : EB X B b Γ e Γ' (MEx X.K φ)) (hc : DE X (EnvOk Γ') c (MI X.K (k : Int))) (hφ : ∀ x, φ x → k < x.length) (hs : PlainIx c := by exact fun _ _ => rfl) : EB X B b Γ (.Subscript e c pos) Γ' (MSat X.K fun d => ∃ x, φ x ∧ d = .int (x.getD k 0)) :=
  eb_of (pe_ix ix_tup he hc hs) fun σ H Q g q => ⟨g, fun v H1 k1 g1 p1 => ⟨g1.2, fun u H2 x2 p2 => by
    obtain ⟨x, hx, p1'⟩ := (MEx X.K φ).mono x2 p1
    obtain ⟨t, us, rfl, hq, hd⟩ := dp_tup p1'
    have hlt := hφ x hx
    obtain ⟨y, ey, py⟩ := hd.get' (i := k) (d := .int (x.getD k 0)) (by rw [List.getElem?_map, List.getElem?_eq_getElem hlt, List.getD_eq_getElem?_getD, List.getElem?_eq_getElem hlt]; rfl)
    exact ⟨t, us, (k : Int), y, rfl, dp_int p2, hq, atI_nat ey, q _ H2 (k1.trans (Kp.ex x2)) (MG.mono x2 g1) ⟨_, ⟨x, hx, rfl⟩, rfl, py⟩⟩⟩⟩
end
theorem paired_col {chief : KEYS} : ∀ {zs : List Nat} {ds : List PyData}, Paired (fun k d => ∃ x, x ∈ chief ∧ d = PyData.int (x.getD k 0)) zs ds → ∃ m : KEY, ds = m.map .int ∧ m.length = zs.length ∧ ∀ p (h : p < zs.length), m.getD p 0 ∈ column chief zs[p]
  | _, _, .nil => ⟨[], rfl, rfl, fun p h => absurd h (Nat.not_lt_zero p)⟩
  | _, _, .cons ⟨x, hx, e⟩ t => by
    obtain ⟨m, rfl, h1, h2⟩ := paired_col t
    subst e
    refine ⟨x.getD _ 0 :: m, rfl, by simp [h1], fun p hp => ?_⟩
    cases p with
    | zero => exact List.mem_map.mpr ⟨x, hx, rfl⟩
    | succ p => exact h2 p (by simpa using hp)
section
variable {P : Program} {w : World} {K : PySem.W.Frag} {mg : Str → Option Value} {base : Heap}
def sp_mas (K : PySem.W.Frag) : Sp := spB (fun a : A_dcb => Legit a.deep a.chief a.bunch []) 10 (fun a => [ME K a.deep, ME K a.chief, ME K a.bunch]) (fun a => MB K true)
theorem ok_mas (T : Tx K mg) : DefOk P w K mg base "_law_master_right" 6 (sp_mas K) := by
  obtain ⟨f, fd, F, hg⟩ := at__law_master_right T
  have B := T.bl
  have D0 := ok_of (P := P) (w := w) (base := base) T
  have D1 := ok_how_many_further (P := P) (w := w) (base := base) T
  have D2 := ok_further_ranks (P := P) (w := w) (base := base) T
  have D3 := ok_how_many_harmless (P := P) (w := w) (base := base) T
  have D4 := ok_same (P := P) (w := w) (base := base) T 2
  refine fn_box F sc__law_master_right hg (fun _ => rfl) (fun _ _ _ _ _ _ us hl => match us, hl with | [_, _, _, _], _ => rfl) fun f cdv A outer s H E a BB b n hr hp hB hn => ?_
  obtain ⟨deep, chief, bunch⟩ := a
  have h : Legit deep chief bunch [] := hp
  have hd1 := h.d.1
  have hd2 := h.d.2.1
  have hc1 := h.c.1
  have hc2 := h.c.2.1
  have hb1 := h.b.1
  have hn : n + 10 ≤ 2 ^ 40 := hn
  have ckl : ∀ k ∈ chief, k.length = deep.length := fun k hk => (h.c.2.2 k hk).1
  show HS _ (GB BB [some (MBox b n), some ((ME K deep).at BB), some ((ME K chief).at BB), some ((ME K bunch).at BB), none, none, none, none, none]) _ _ _
  -- mate
  refine hs_cons (N' := fun σ H => ∃ mate : KEY, Mate deep chief mate ∧ GB BB [some (MBox b (n + 10)), some ((ME K deep).at BB), some ((ME K chief).at BB), some ((ME K bunch).at BB), some (ME K mate), none, none, none, none] σ H) (h1_post (h1_setE 4 sc__law_master_right.nd (Γ' := [some (MBox b (n + (List.range deep.length).length * 1)), some ((ME K deep).at BB), some ((ME K chief).at BB), some ((ME K bunch).at BB), none, none, none, none, none]) (M := MST K (Paired (fun k d => ∃ x, x ∈ chief ∧ d = PyData.int (x.getD k 0)) (List.range deep.length))) (eb_tupleS B.tuple (EC.eb (ec_lc (Γ0 := [some (MBox b n), some ((ME K deep).at BB), some ((ME K chief).at BB), some ((ME K bunch).at BB), none, none, none, none, none]) (Γ := [some (MBox b n), some ((ME K deep).at BB), some ((ME K chief).at BB), some ((ME K bunch).at BB), none, none, none, none, none]) (n := n) (c := 1) (List.range deep.length) enc (fun k d => ∃ x, x ∈ chief ∧ d = PyData.int (x.getD k 0)) (fun i k => [some (MBox b (n + i * 1)), some ((ME K deep).at BB), some ((ME K chief).at BB), some ((ME K bunch).at BB), none, some (ME K k), none, none, none]) (fun i k => [some (MBox b (n + i * 1 + 1)), some ((ME K deep).at BB), some ((ME K chief).at BB), some ((ME K bunch).at BB), none, some (ME K k), none, none, none]) [("_law_k", 5)] rfl sc__law_master_right.nd rfl hB
    (itb_of (dt_range B.range (de_gb (de_lenE B.len (de_v0 1))))) (blkOk_by (N := ["_law_box_here", "_law_deep_here", "_law_chief_here", "_law_bunch", "_law_mate", "_law_k", "_law_wider", "_law_got", "_law_due"]) (sc := defScope s__law_master_right) (by decide +kernel)) (fun _ _ _ _ _ => pg_name (i := 5) sc__law_master_right.nd rfl (by first | exact Or.inl rfl | exact Or.inr rfl)) (.skip (.cons (stb_at hB) (.cons (stb_at hB) (.cons (stb_at hB) (.skip (.skip (.skip (.skip (.skip .nil)))))))))
    (fun i d hd => tg_name) (fun i k hk _ _ _ _ _ => ?el) (fun i d hd => by show some (some (MBox b (n + i * 1 + 1))) = _; rw [Nat.add_mul, Nat.add_assoc]) (by rw [List.length_range]; omega))))) fun σ H g => ?ma) ?_
  case el =>
    have hil : i < deep.length := by have := (List.getElem?_eq_some_iff.mp hk).1; simpa using this
    have hik : k < deep.length := List.mem_range.mp (List.mem_of_getElem? hk)
    exact eb_ixE (φ := fun x => x ∈ chief) (k := k) (eb_call (Γ' := [some (MBox b (n + i * 1)), some ((ME K deep).at BB), some ((ME K chief).at BB), some ((ME K bunch).at BB), none, some (ME K k), none, none, none]) (M := MEx K (fun x => x ∈ chief)) (Ms := [ME K chief]) (n := n + i * 1) D0 (hr.mono (by omega)) (aeb_pure ⟨_, rfl⟩ de_ref (aeb_pure ⟨_, rfl⟩ (de_v0 2) aeb_nil (stk_d (Enc.to _))) stk_ref) rfl (by show _ ≤ 2 ^ 40; omega) hB (fun us H nt p => ⟨chief, ⟨hc1, by omega⟩, by
      cases p with
      | cons h1 h2 =>
        cases h2
        exact .cons (std_d (Enc.to _) _ _ nt h1) .nil, fun v H' p => p⟩) (.skip (.cons (stb_at hB) (.cons (stb_at hB) (.cons (stb_at hB) (.skip (.cons (stb_d rfl) (.skip (.skip (.skip .nil)))))))))) (de_v 5) (fun x hx => by rw [ckl x hx]; exact hik)
  case ma =>
    obtain ⟨v4, ev4, ds, hds, _, pv⟩ := g.2.get 4 _ rfl
    obtain ⟨mate, rfl, hm1, hm2⟩ := paired_col hds
    rw [List.length_range] at hm1
    refine ⟨mate, ⟨hm1, fun p hp => ?_⟩, g.1, ⟨g.2.len, fun j M e => ?_⟩⟩
    · have := hm2 p (by rw [List.length_range]; exact hp)
      rw [List.getElem_range] at this
      exact this
    · match j, e with
      | 4, e => cases e; exact ⟨_, ev4, pv⟩
      | 0, e =>
        cases e
        obtain ⟨v, ev, pv⟩ := g.2.get 0 _ rfl
        exact ⟨v, ev, by obtain ⟨rfl, _⟩ := id pv; exact mbox_le pv (by rw [List.length_range]; omega)⟩
      | 1, e => exact g.2.get 1 M e
      | 2, e => exact g.2.get 2 M e
      | 3, e => exact g.2.get 3 M e
      | 5, e => exact g.2.get 5 M e
      | 6, e => exact g.2.get 6 M e
      | 7, e => exact g.2.get 7 M e
      | 8, e => exact g.2.get 8 M e
      | j + 9, e => exact g.2.get (j + 9) M e
  refine hs_ex fun mate => hs_pure fun hm => ?_
  have fin : ∀ {σ H v} {Γ : En}, GB BB Γ σ H → Γ[0]? = some (some (MBox b (n + 10))) → (MB K true).P v H → Ex BB H ∧ (MBox b (n + 10)).P (.ref b) H ∧ (MB K true).P v H := fun {σ H v Γ} g h0 p => by
    obtain ⟨v0, _, hb0⟩ := g.2.get 0 _ h0
    obtain ⟨rfl, _⟩ := id hb0
    exact ⟨g.1, hb0, p⟩
  refine hs_cons (N' := fun σ H => (mate ∉ chief ∧ mate ∉ bunch) ∧ GB BB [some (MBox b (n + 10)), some ((ME K deep).at BB), some ((ME K chief).at BB), some ((ME K bunch).at BB), some (ME K mate), none, none, none, none] σ H) (h1_if (k := memE mate chief || (decide ((5 : Int) < (chief.length : Int)) || memE mate bunch)) (dt_gb (DW.t (dw_or (dt_inT hr (x := mate) (y := chief) (de_v 4) (de_v0 2)) fun _ => dw_or (dt_gt (de_lenE B.len (de_v0 2)) de_int) fun _ => dw_or1 (dt_inT hr (x := mate) (y := bunch) (de_v 4) (de_v0 3))))) (fun e => hs_one (h1_ret (M := MB K true) (de_gb de_bl) fun v σ H H' g x p => fin (MG.mono x g) rfl p)) fun e => hs_nil fun σ H g => ⟨?nm, g⟩) (hs_pure fun hnm => ?_)
  case nm =>
    obtain ⟨e1, e2⟩ := Bool.or_eq_false_iff.mp e
    obtain ⟨_, e3⟩ := Bool.or_eq_false_iff.mp e2
    exact ⟨fun z => (by rw [memE_iff.mpr z] at e1; cases e1), fun z => (by rw [memE_iff.mpr z] at e3; cases e3)⟩
  have wo := m_wo h
  have woM := m_woM h hm
  have hash := m_hash (P := P) (w := w) h
  have hashM := m_hashM (P := P) (w := w) h hm
  have e1 := m_mas1 h hm
  have e2 := m_mas2 h hm
  have e3 := m_mas3 h hm hnm.1 hnm.2
  have rl := ranksOf_len (furtherC (aB deep chief bunch)) chief deep.length
  have wl : (chief ++ [mate]).length ≤ 100000 := by rw [List.length_append]; simp; omega
  have ckm : ∀ k ∈ chief ++ [mate], k.length = deep.length := fun k hk => by
    rcases List.mem_append.mp hk with hk | hk
    · exact ckl k hk
    · rw [List.mem_singleton.mp hk]; exact hm.1
  -- wider
  refine hs_cons (h1_of (Γ' := [some (MBox b (n + 10)), some ((ME K deep).at BB), some ((ME K chief).at BB), some ((ME K bunch).at BB), some (ME K mate), none, some (ME K (sortE (chief ++ [mate]))), none, none]) (d1_set 6 sc__law_master_right.nd (de_tupleL B.tuple (de_sortK (n := deep.length) hr B.sorted (by omega) ckm wl (.inr (DE.to (de_catT (de_v0 2) (de_tup [enc mate] (da_cons (de_v 4) da_nil) (by simp)) ?wz) ?we)))))) ?_
  case wz => rw [List.length_map]; simp; omega
  case we =>
    show PyData.tuple _ = PyData.tuple ((chief ++ [mate]).map enc)
    rw [List.map_append]
    rfl
  generalize hT : totalC (furtherC (aB deep chief bunch)) = t1 at *
  generalize hR : ranksOf (furtherC (aB deep chief bunch)) chief deep.length = t2 at *
  generalize hS : totalC (harmlessC (aB deep chief bunch)) = t3 at *
  have htt : ∀ z : Int, tO.tOs [.int t1, enc t2, .int z] = true := fun z => by simp [tO.tOs, tO, Enc.to]
  -- got
  refine hs_cons (h1_of (Γ' := [some (MBox b (n + 10)), some ((ME K deep).at BB), some ((ME K chief).at BB), some ((ME K bunch).at BB), some (ME K mate), none, some (ME K (sortE (chief ++ [mate]))), some (MP.d K (.list [.int t1, enc t2])), none]) (d1_set 7 sc__law_master_right.nd (DE.to (de_lst [.int (totalC (furtherC (aM deep chief bunch mate))), enc (ranksOf (furtherC (aM deep chief bunch mate)) (sortE (chief ++ [mate])) deep.length)] (da_cons (de_call D1 hr (aM deep chief bunch mate) (da_cons (de_v0 1) (da_cons (de_v 6) (da_cons (de_v0 3) da_nil))) ⟨woM, hashM⟩) (da_cons (de_call D2 hr (aM deep chief bunch mate) (da_cons (de_v0 1) (da_cons (de_v 6) (da_cons (de_v0 3) da_nil))) ⟨woM, hashM⟩) da_nil)) (by simp)) (by rw [e1, e2])))) ?_
  generalize hu : t3 - (if bunch = [] then 1 else 0) = u3 at *
  refine hs_cons (h1_set 7 sc__law_master_right.nd (de_catLN (ds' := [.int u3]) (de_v 7) (de_lst [.int u3] (da_cons (DE.to (de_call D3 hr (aM deep chief bunch mate) (da_cons (de_v0 1) (da_cons (de_v 6) (da_cons (de_v0 3) da_nil))) woM) (by rw [e3])) da_nil) (by simp)) (by simp))) ?_
  refine hs_pre (G := fun σ H => ∃ L1, BB L1 = none ∧ GB BB [some (MBox b (n + 10)), some ((ME K deep).at BB), some ((ME K chief).at BB), some ((ME K bunch).at BB), some (ME K mate), none, some (ME K (sortE (chief ++ [mate]))), some (MLat K L1 [.int t1, enc t2, .int u3]), none] σ H) (hs_ex fun L1 => hs_pure fun hL1 => ?_) (fun σ H g => gb_newL (i := 7) (Γ := [some (MBox b (n + 10)), some ((ME K deep).at BB), some ((ME K chief).at BB), some ((ME K bunch).at BB), some (ME K mate), none, some (ME K (sortE (chief ++ [mate]))), none, none]) (by show 7 < 9; omega) g)
  -- due
  refine hs_cons (h1_of (Γ' := [some (MBox b (n + 10)), some ((ME K deep).at BB), some ((ME K chief).at BB), some ((ME K bunch).at BB), some (ME K mate), none, some (ME K (sortE (chief ++ [mate]))), some (MLat K L1 [.int t1, enc t2, .int u3]), some (MP.d K (.list [.int t1, enc t2]))]) (d1_set 8 sc__law_master_right.nd (DE.to (de_lst [.int (totalC (furtherC (aB deep chief bunch))), enc (ranksOf (furtherC (aB deep chief bunch)) chief deep.length)] (da_cons (de_call D1 hr (aB deep chief bunch) (da_cons (de_v0 1) (da_cons (de_v0 2) (da_cons (de_v0 3) da_nil))) ⟨wo, hash⟩) (da_cons (de_call D2 hr (aB deep chief bunch) (da_cons (de_v0 1) (da_cons (de_v0 2) (da_cons (de_v0 3) da_nil))) ⟨wo, hash⟩) da_nil)) (by simp)) (by rw [hT, hR])))) ?_
  refine hs_cons (N' := fun σ H => ∃ L2, (L1 ≠ L2 ∧ b ≠ L2 ∧ BB L2 = none) ∧ GB BB [some (MBox b (n + 10)), some ((ME K deep).at BB), some ((ME K chief).at BB), some ((ME K bunch).at BB), some (ME K mate), none, some (ME K (sortE (chief ++ [mate]))), some (MLat K L1 [.int t1, enc t2, .int u3]), some (MLat K L2 [.int t1, enc t2, .int t3])] σ H) (h1_now fun σ0 H0 g0 => ?due) (hs_ex fun L2 => hs_pure fun hL2 => ?_)
  case due =>
    obtain ⟨v0, ev0, rfl, x, y, z, hbx, _⟩ := g0.2.get 0 _ rfl
    obtain ⟨v7, ev7, rfl, us7, k7, _⟩ := g0.2.get 7 _ rfl
    refine h1_post (h1_pre (h1_set (B := H0) (Γ := [some (MBox b (n + 10)), some ((ME K deep).at BB), some ((ME K chief).at BB), some ((ME K bunch).at BB), some (ME K mate), none, some (ME K (sortE (chief ++ [mate]))), some (MLat K L1 [.int t1, enc t2, .int u3]), some (MP.d K (.list [.int t1, enc t2]))]) 8 sc__law_master_right.nd (de_catLN (ds' := [.int t3]) (de_v 8) (de_lst [.int t3] (da_cons (DE.to (de_call D3 hr (aB deep chief bunch) (da_cons (de_v0 1) (da_cons (de_v0 2) (da_cons (de_v0 3) da_nil))) wo) (by rw [hS])) da_nil) (by simp)) (by simp))) (fun σ H e => by obtain ⟨rfl, rfl⟩ := e; exact ⟨Ex.refl _, g0.2⟩)) (fun σ H g => ?_)
    obtain ⟨L2, hL2, g'⟩ := gb_newL (i := 8) (Γ := [some (MBox b (n + 10)), some ((ME K deep).at BB), some ((ME K chief).at BB), some ((ME K bunch).at BB), some (ME K mate), none, some (ME K (sortE (chief ++ [mate]))), some (MLat K L1 [.int t1, enc t2, .int u3]), none]) (by show 8 < 9; omega) g
    exact ⟨L2, ⟨fun e => (by subst e; rw [k7] at hL2; cases hL2), fun e => (by subst e; rw [hbx] at hL2; cases hL2), b_none g0.1 hL2⟩, g0.1.trans g'.1, g'.2⟩
  obtain ⟨hL12, hbL, hB2⟩ := hL2
  refine hs_cons (N' := GB BB [some (MBox b (n + 10)), some ((ME K deep).at BB), some ((ME K chief).at BB), some ((ME K bunch).at BB), some (ME K mate), none, some (ME K (sortE (chief ++ [mate]))), some (MLat K L1 [.int t1, enc t2, .int u3]), some (MLat K L2 [.int t1, enc t2, .int u3])]) (h1_if (k := decide (bunch = [])) (dt_gb (dt_eqE hr (x := bunch) (y := []) (de_v0 3) (de_tup [] da_nil))) (fun e => ?yes) (fun e => ?no)) (hs_one (h1_ret (M := MB K true) (de_gb (de_call D4 (hr.mono (by omega)) (.list [.int t1, enc t2, .int u3]) (da_cons ((de_v 7).cast fun v H p => MLat.dp p) (da_cons ((de_v 8).cast fun v H p => MLat.dp p) da_nil)) (same_list (by simp) fun x hx => ?sm))) fun v σ H H' g x p => fin (MG.mono x g) rfl p))
  case sm =>
    rcases List.mem_cons.mp hx with rfl | hx
    · exact same_int _
    rcases List.mem_cons.mp hx with rfl | hx
    · exact same_key (by omega)
    · rw [List.mem_singleton.mp hx]
      exact same_int _
  case no =>
    have e : bunch ≠ [] := by simpa using e
    rw [if_neg e, Int.sub_zero] at hu
    subst hu
    exact hs_nil fun σ H g => g
  case yes =>
    have e : bunch = [] := by simpa using e
    rw [if_pos e] at hu
    subst hu
    exact hs_one (h1_setL 8 (L := L2) (j := 2) (d := .int (t3 - 1)) rfl hB2 (de_v 8) de_int (de_sub (de_ixL 2 ((de_v 8).cast fun v H p => MLat.dp p) de_int rfl rfl) de_int) (by show 2 < 3; omega) (htt _) rfl (.cons (stb_box hbL) (.cons (stb_at hB2) (.cons (stb_at hB2) (.cons (stb_at hB2) (.cons stb_e (.skip (.cons stb_e (.cons (stb_l hL12 (htt _)) (.skip .nil))))))))))
end
end K78

-- part KBox3
set_option Elab.async false
set_option linter.all false
set_option maxRecDepth 100000
set_option maxHeartbeats 4000000
/-! KBox3: lists that stand when the box changes; a comprehension of lists of ints; list(range(n)); xs[::k]. -/
namespace K78
open PySem PySem.Spec PyProof.Rows L2
open Evl (Ex ex_t ex_l ex_rd fresh_back)
open Enc (enc)
theorem keepL {K : PySem.W.Frag} {b : Addr} {H H' : Hp} {ub : List V} {ds : List PyData} {v : V} (k : Kp b H H') (hb : H b = some (.lst ub)) (hn : ¬ DpAll K H ub ds) (ht : tO.tOs ds = true) (h : Dp K H v (.list ds)) : Dp K H' v (.list ds) := by
  obtain ⟨a, us, rfl, hq, hd⟩ := dp_lst h
  refine .lst ?_ (DpAll.tsub (k.sub (NT.lst hb)) _ _ ht hd)
  rcases hq with (h1 | ⟨o, h1⟩) | hk
  · by_cases e : a = b
    · subst e
      rw [hb] at h1
      cases h1
      exact (hn hd).elim
    · exact .inl (.inl (k a _ e h1))
  · by_cases e : a = b
    · subst e
      rw [hb] at h1
      cases h1
    · exact .inl (.inr ⟨o, k a _ e h1⟩)
  · exact .inr hk
/-- .. the box away -/
theorem goneL {K : PySem.W.Frag} {b : Addr} {H : Hp} {ub : List V} {ds : List PyData} {v : V} (hb : H b = some (.lst ub)) (hn : ¬ DpAll K H ub ds) (ht : tO.tOs ds = true) (h : Dp K H v (.list ds)) : Dp K (del b H) v (.list ds) :=
  keepL (H' := del b H) (fun a u ne e => by rw [del_ne ne]; exact e) hb hn ht h
def ilist (ns : List Int) : PyData := .list (ns.map .int)
def Tame (ns : List Int) : Prop := 2 ≤ ns.length ∧ ∀ x ∈ ns, x < 33
theorem tOs_ints (ns : List Int) : tO.tOs (ns.map PyData.int) = true := tOs_all.mpr fun d hd => by
  obtain ⟨i, _, rfl⟩ := List.mem_map.mp hd
  rfl
theorem tame_box {K : PySem.W.Frag} {H : Hp} {x y z : Int} {ns : List Int} (hy : 33 ≤ y) (hn : Tame ns) : ¬ DpAll K H [.int x, .int y, .int z] (ns.map .int) := fun h => by
  have e := DpAll.ints h
  match ns, e, hn with
  | [a, b, c], e, hn =>
    injection e with e1 e2
    injection e2 with e2 e3
    injection e2 with e2
    subst e2
    have := hn.2 y (by simp)
    omega
theorem dpl_keep {K : PySem.W.Frag} {b : Addr} {H H' : Hp} {ub : List V} (k : Kp b H H') (hb : H b = some (.lst ub)) : ∀ {nss : List (List Int)} {us : List V}, (∀ ns ∈ nss, ¬ DpAll K H ub (ns.map .int)) → DpAll K H us (nss.map ilist) → DpAll K H' us (nss.map ilist)
  | [], _, _, .nil => .nil
  | ns :: nss, _, hn, .cons h1 h2 => .cons (keepL k hb (hn ns List.mem_cons_self) (tOs_ints ns) h1) (dpl_keep k hb (fun m hm => hn m (List.mem_cons_of_mem _ hm)) h2)
theorem tame_refs {K : PySem.W.Frag} {H : Hp} {nss : List (List Int)} {us : List V} (h : DpAll K H us (nss.map ilist)) {ns : List Int} (hn : Tame ns) : ¬ DpAll K H us (ns.map .int) := fun h' => by
  have e := DpAll.ints h'
  subst e
  cases nss with
  | nil =>
    have h1 := h.length
    have h2 := hn.1
    rw [List.length_map] at h1
    have h1 : ns.length = 0 := h1
    omega
  | cons m nss =>
    cases ns with
    | nil => simp [Tame] at hn
    | cons x ns =>
      cases h with
      | cons h1 h2 =>
        obtain ⟨a, us, e, _⟩ := dp_lst h1
        cases e
theorem paired_all {β : Type} {φ : β → List Int → Prop} (hφ : ∀ z ns, φ z ns → Tame ns) : ∀ {zs : List β} {nss : List (List Int)}, Paired φ zs nss → ∀ ns ∈ nss, Tame ns
  | _, _, .nil, ns, h => nomatch h
  | _, _, .cons h1 h2, ns, h => by
    rcases List.mem_cons.mp h with rfl | h
    · exact hφ _ _ h1
    · exact paired_all hφ h2 ns h
/-- a list of ints with φ -/
def MIL (K : PySem.W.Frag) (φ : List Int → Prop) : MP := ⟨fun v H => ∃ ns, φ ns ∧ Dp K H v (ilist ns), fun x ⟨ns, h, p⟩ => ⟨ns, h, Dp.mono x _ _ p⟩⟩
def MIs {β : Type} (K : PySem.W.Frag) (φ : β → List Int → Prop) (zs : List β) : MP := ⟨fun v H => ∃ nss, Paired φ zs nss ∧ Dp K H v (.list (nss.map ilist)), fun x ⟨nss, h, p⟩ => ⟨nss, h, Dp.mono x _ _ p⟩⟩
section
variable {X : Cx} {B : Hp} {b : Addr} {tg e : Expr} {pos p : Pos}
theorem ec_lcI {β : Type} {Γ0 Γ : En} {n c : Nat} (zs : List β) (hd : β → PyData) (φ : β → List Int → Prop) (Γ' Γ'' : Nat → β → En) {elt tg iter : Expr} {scope : Scope} {g : TG} (own : List (Str × Nat)) (hφ : ∀ z ns, φ z ns → Tame ns) (hc : X.calm = true) (hN : X.N.Nodup) (h0 : Γ[0]? = some (some (MBox b n))) (hB : B b = none)
    (hi : PI X tg iter (iTb X.K B b Γ0 Γ (zs.map hd))) (ok : BlkOk X.N X.env.scope scope own) (hg : AllB X scope fun Y => PG Y tg g) (hst : AllS (Stb B b) (Γ.set 0 none))
    (htg : ∀ i z, zs[i]? = some z → Tg X.K g (own.map (·.2)) (hd z) (EnvOk (wipeG (Γ.set 0 (some (MBox b (n + i * c)))) (own.map (·.2)))) (EnvOk (Γ' i z)))
    (he : ∀ i z, zs[i]? = some z → AllB X scope fun Y => EB Y B b (Γ' i z) elt (Γ'' i z) (MIL X.K (φ z)))
    (h2 : ∀ i z, zs[i]? = some z → (Γ'' i z)[0]? = some (some (MBox b (n + (i + 1) * c)))) (hz : zs.length ≤ 100000) (hs : ∀ x, foldedSetIterable iter X.env x = pure x := by intro _; rfl) :
    EC X B b Γ0 (.ListComp elt [⟨tg, iter, [], 0⟩] scope pos) (Γ.set 0 (some (MBox b (n + zs.length * c)))) (MIs X.K φ zs) := by
  have HT : AllB X scope fun Y => PTs Y [] (fun σ H Q => Q true H) := fun s H C cl fp => pts_nil
  have HE : AllB X scope fun Y => PE Y elt (fun σ H Q => ∃ i, ∃ z, ∃ _ : zs[i]? = some z, tEB B b (Γ' i z) (Γ'' i z) (MIL X.K (φ z)) σ H Q) := fun s H C cl fp => ⟨fun pins s' σ H' Q I ⟨i, z, hz, q⟩ => (he i z hz s H C cl fp).run pins s' σ H' Q I q⟩
  refine ⟨_, ⟨pe_lc (own := own) hc hN hi ok hg HT HE hs, fun i y py spos hy hl hsw => ps_setLc (own := own) hc hN hy hl hsw hi ok hg HT HE hs⟩, fun σ H Q g0 q => ⟨g0, fun J H1 Gs Y x1 g1 mono gs1 W yd => ?_⟩⟩
  intro D hD
  rw [List.length_map] at W
  obtain ⟨v0, ev, pv⟩ := g1.2.get 0 _ h0
  have hb1 : ∃ u, H1 b = some u := by obtain ⟨_, x, y, z, h, _⟩ := pv; exact ⟨_, h⟩
  have hbD : b ≠ D := fun e => by subst e; obtain ⟨u, h⟩ := hb1; rw [hD] at h; cases h
  have hnt1 : NT H1 b := mbox_nt pv
  obtain ⟨rfl, _⟩ := id pv
  have hBD : B D = none := b_none g1.1 hD
  have env : ∀ {H' : Hp} {m : Nat}, Kp b H1 H' → (MBox b m).P (.ref b) H' → EnvOk (Γ.set 0 (some (MBox b m))) σ H' := fun {H' m} k hm => by
    have g4 : EnvOk (Γ.set 0 none) σ H' := (g1.2.drop 0).kp hst g1.1 hnt1 k
    have g5 := g4.set 0 (M := MBox b m) (v := .ref b) hm
    rw [List.set_set] at g5
    have e1 : σ.set 0 (some (.ref b)) = σ := by
      obtain ⟨hlt, e2⟩ := List.getElem?_eq_some_iff.mp ev
      rw [← e2]
      exact List.set_getElem_self hlt
    rw [e1] at g5
    exact g5
  have kpD : ∀ {H' : Hp} {o : HO}, Kp b H1 H' → Kp b H1 (upd H' D o) := fun {H' o} k a u ne e => by
    have ne2 : a ≠ D := fun z => by subst z; rw [hD] at e; cases e
    rw [upd_ne ne2]
    exact k a u ne e
  have boxD : ∀ {H' : Hp} {o : HO} {m : Nat}, (MBox b m).P (.ref b) H' → (MBox b m).P (.ref b) (upd H' D o) := fun {H' o m} ⟨e, x, y, z, h, r⟩ => ⟨e, x, y, z, by rw [upd_ne hbD]; exact h, r⟩
  refine ⟨fun i m H => m = zs.length - i ∧ i ≤ zs.length ∧ Ex B H ∧ Kp b H1 H ∧ TupSub H1 H ∧ (MBox b (n + i * c)).P (.ref b) H ∧ ∃ us nss, H D = some (.lst us) ∧ us.length ≤ i ∧ Paired φ (zs.take i) nss ∧ DpAll X.K H us (nss.map ilist),
    ⟨zs.length, by simp, Nat.zero_le _, ex_kp g1.1 hBD Kp.upd, kpD (fun _ _ _ e => e), TupSub.ofEx (Ex.new hD), by rw [Nat.zero_mul, Nat.add_zero]; exact boxD pv, [], [], upd_same, Nat.le_refl _, .nil, .nil⟩, ?_⟩
  rintro i m H2 ⟨rfl, hi2, xb2, k2, ts2, hm2, us, nss, hu, hul, hpr, hda⟩
  have gs := mono _ k2 ts2
  by_cases hlt : i < zs.length
  · refine .inr ⟨W.goes i H2 hlt gs, fun H => Ex B H ∧ Kp b H1 H ∧ TupSub H1 H ∧ (MBox b (n + (i + 1) * c)).P (.ref b) H ∧ ∃ us nss, H D = some (.lst us) ∧ us.length ≤ i + 1 ∧ Paired φ (zs.take (i + 1)) nss ∧ DpAll X.K H us (nss.map ilist), fun H' h => ⟨zs.length - (i + 1), by omega, rfl, hlt, h⟩, fun x H3 y => ?_⟩
    obtain ⟨d, e1, x3, p3⟩ := yd i H2 x H3 gs (W.yields i H2 x H3 hlt gs y)
    rw [List.getElem?_map] at e1
    obtain ⟨z, e4, e2⟩ := Option.map_eq_some_iff.mp e1
    subst e2
    have k3 : Kp b H1 H3 := k2.trans (Kp.ex x3)
    have hm3 : (MBox b (n + i * c)).P (.ref b) H3 := (MBox b (n + i * c)).mono x3 hm2
    refine htg i z e4 x (wipe σ (own.map (·.2))) H3 _ p3 ((env k3 hm3).wipe _) ?_
    intro σ' g' w'
    refine ⟨w'.trans (wipe_wipe _ _), ?_⟩
    dsimp only
    rw [if_pos rfl]
    refine ⟨i, z, e4, ⟨xb2.trans x3, g'⟩, fun v H4 x4 g4 ⟨ns4, hd4, p4⟩ => ?_⟩
    obtain ⟨v4, ev4, pv4⟩ := g4.2.get 0 _ (h2 i z e4)
    have hv4 : v4 = .ref b := pv4.1
    subst hv4
    have hu4 : H4 D = some (.lst us) := x4 D _ (fun e => hbD e.symm) (x3 _ _ hu)
    have nt3 : NT H3 b := mbox_nt hm3
    have ts4 : TupSub H3 H4 := x4.sub nt3
    refine ⟨us, hu4, Nat.lt_of_le_of_lt (Nat.le_trans hul (Nat.le_of_lt hlt)) (Nat.lt_of_le_of_lt hz (by decide)), ?_⟩
    have tsD : TupSub H4 (upd H4 D (.lst (us ++ [v]))) := TupSub.lst hu4
    have htm : ∀ ns ∈ nss, Tame ns := fun ns hns => paired_all hφ hpr ns hns
    have d3 : DpAll X.K H3 us (nss.map ilist) := DpAll.mono x3 _ _ hda
    have d4 : DpAll X.K H4 us (nss.map ilist) := by
      obtain ⟨_, bx, bh, bz, hbx, hy, _⟩ := id hm3
      exact dpl_keep x4 hbx (fun ns hns => tame_box hy (htm ns hns)) d3
    have d5 : DpAll X.K (upd H4 D (.lst (us ++ [v]))) us (nss.map ilist) := dpl_keep Kp.upd hu4 (fun ns hns => tame_refs d4 (htm ns hns)) d4
    refine ⟨ex_kp g4.1 hBD Kp.upd, kpD (k3.trans x4), ((ts2.trans (TupSub.ofEx x3)).trans ts4).trans tsD, boxD pv4, us ++ [v], nss ++ [ns4], upd_same, by rw [List.length_append]; show us.length + 1 ≤ i + 1; omega, ?_, ?_⟩
    · rw [List.take_add_one, e4]
      exact paired_app hpr (.cons hd4 .nil)
    · rw [List.map_append]
      exact DpAll.append d5 (.cons (keepL Kp.upd hu4 (tame_refs d4 (hφ z ns4 hd4)) (tOs_ints _) p4) .nil)
  · have e : i = zs.length := by omega
    subst e
    refine .inl ⟨W.stops H2 gs, q _ H2 (x1.trans k2) ⟨xb2, env k2 hm2⟩ ⟨nss, ?_, .lst (SqL.of hu) hda⟩⟩
    rw [List.take_length] at hpr
    exact hpr
/-- list(range(n)) -/
theorem de_listRg {i : Int} {p2 pos2 : Pos} {G : GP} (hc : X.calm = true) (hm : X.mg "list" = none) (hm2 : X.mg "range" = none) (h : DE X G e (MI X.K i)) (h1 : 0 ≤ i ∧ i ≤ 1000) (hg : Gl X "list" := by rfl) (hg2 : Gl X "range" := by rfl)
    (na : starEach [e] X.env = (false, eval e X.env) :: starEach [] X.env := by rfl) (nb : starEach [.Call (.Name "range" p2) [e] [] pos2] X.env = (false, eval (.Call (.Name "range" p2) [e] [] pos2) X.env) :: starEach [] X.env := by rfl) :
    DE X G (.Call (.Name "list" p) [.Call (.Name "range" p2) [e] [] pos2] [] pos) (MP.d X.K (ilist (upTo i))) :=
  de_of (pe_listRg hc hg hm (prg_1 hg2 hm2 h na) nb) fun σ H Q g q => ⟨g, fun v H1 x1 p1 => ⟨i, dp_int p1, ⟨by decide, by decide, by omega, by omega, by omega⟩, fun l hl => q _ _ (x1.trans (Ex.new hl)) (dp_newL hl (by
    have e : rgV 0 i = (upTo i).map V.int := by
      unfold rgV upTo
      rw [List.map_map, Int.sub_zero]
      refine List.map_congr_left fun k _ => ?_
      show V.int (0 + (k : Int)) = V.int (k : Int)
      rw [Int.zero_add]
    rw [e]
    exact DpAll.ofInts _))⟩⟩
/-! ### xs[::k] -/
def stpIx (n : Nat) (k : Int) : List Nat := (sliceRange (sliceBounds none none (some k) n).1 (sliceBounds none none (some k) n).2.1 (sliceBounds none none (some k) n).2.2)
def stpOf {α : Type} (k : Int) (xs : List α) : List α := (stpIx xs.length k).filterMap (xs[·]?)
theorem stp_mem {α : Type} {k : Int} {xs : List α} {x : α} (h : x ∈ stpOf k xs) : x ∈ xs := by
  obtain ⟨i, _, hi⟩ := List.mem_filterMap.mp h
  exact List.mem_of_getElem? hi
theorem stp_map {α β : Type} (f : α → β) (k : Int) (xs : List α) : stpOf k (xs.map f) = (stpOf k xs).map f := by
  unfold stpOf
  rw [List.length_map, List.map_filterMap]
  congr 1
  funext i
  rw [List.getElem?_map]
theorem vals_pickI {xs : List V} {us : List Value} (h : Vals xs us) : ∀ ix : List Nat, Vals (ix.filterMap (xs[·]?)) (ix.filterMap (us[·]?))
  | [] => .nil
  | i :: ix => by
    rw [List.filterMap_cons, List.filterMap_cons]
    cases e : xs[i]? with
    | none =>
      have e2 : us[i]? = none := by
        rw [List.getElem?_eq_none_iff] at e ⊢
        rw [← h.length]; exact e
      rw [e2]
      exact vals_pickI h ix
    | some x =>
      obtain ⟨u, e2, r⟩ := h.get e
      rw [e2]
      exact .cons r (vals_pickI h ix)
theorem dp_pick {K : PySem.W.Frag} {H : Hp} {us : List V} {ds : List PyData} (h : DpAll K H us ds) : ∀ ix : List Nat, DpAll K H (ix.filterMap (us[·]?)) (ix.filterMap (ds[·]?))
  | [] => .nil
  | i :: ix => by
    rw [List.filterMap_cons, List.filterMap_cons]
    cases e : us[i]? with
    | none =>
      have e2 : ds[i]? = none := by
        rw [List.getElem?_eq_none_iff] at e ⊢
        rw [← h.length]; exact e
      rw [e2]
      exact dp_pick h ix
    | some x =>
      obtain ⟨u, e2, r⟩ := h.get e
      rw [e2]
      exact .cons r (dp_pick h ix)
theorem stp_val {xs : List V} {us : List Value} (h : Vals xs us) (k : Int) : Vals (stpOf k xs) (slicePick us.toArray none none (some k)).toList := by
  have e : (slicePick us.toArray none none (some k)).toList = (stpIx xs.length k).filterMap (us[·]?) := by
    unfold slicePick stpIx
    rw [List.size_toArray, h.length]
    simp
  rw [e]
  exact vals_pickI h _
def tStp (K : PySem.W.Frag) (k : Int) (te : TE) : TE := fun σ H Q => te σ H fun x H1 => ∃ a xs, x = .ref a ∧ SqL K H1 a xs ∧ ∀ p, H1 p = none → Q (.ref p) (upd H1 p (.lst (stpOf k xs)))
theorem pe_stp {te : TE} {k : Nat} {kk : Nat} {p1 p3 : Pos} (he : PE X e te) (hk : k ≠ 0) : PE X (.Subscript e (.Slice none none (some (.Constant (.int k) kk p1)) p3) pos) (tStp X.K (k : Int) te) := by
  refine ⟨fun pins s σ H Q I h => ?_⟩
  refine Subscript_ (thn (he.run pins s σ H _ I h) fun v s1 ⟨x, H1, I1, r1, q1⟩ => ?_)
  obtain ⟨a, xs, ex, hx, q⟩ := q1
  subst ex
  cases r1
  have hst : PO X (some (.Constant (.int k) kk p1)) (tPart (tC (.int k))) := po_some pe_int
  refine wpAny_Slice (thn (po_none.run pins s1 σ H1 (fun o H2 => o = none ∧ H2 = H1) I1 ⟨rfl, rfl⟩) fun vl s2 ⟨l, H2, I2, pl, el, e2⟩ => ?_)
  subst el e2
  refine thn (po_none.run pins s2 σ H2 (fun o H3 => o = none ∧ H3 = H2) I2 ⟨rfl, rfl⟩) fun vu s3 ⟨u, H3, I3, pu, eu, e3⟩ => ?_
  subst eu e3
  refine thn (hst.run pins s3 σ H3 (fun o H4 => o = some (k : Int) ∧ H4 = H3) I3 ⟨(k : Int), rfl, rfl, rfl⟩) fun vs s4 ⟨o, H4, I4, ps, eo, e4⟩ => ?_
  subst eo e4
  have I5 : Inv X pins σ H4 { s4 with heap := s4.heap.push { cls := .type "slice", data := .fields #[vl, vu, vs] } } := I4.kept (t' := s4.toks) fun b ob q => Heap.get?_push_of_some _ q
  obtain ⟨its, r, ht, hz⟩ := I5.list hx
  have hlen := r.length
  show wpAny (model X.prog X.w) X.A (subscriptTail e (.Slice none none (some (.Constant (.int k) kk p1)) p3) (.ref a) (.ref s4.heap.objs.size)) (EP X pins σ Q) X.xe { s4 with heap := s4.heap.push { cls := .type "slice", data := .fields #[vl, vu, vs] } }
  refine tail_any (ops := [.ref a, .ref s4.heap.objs.size]) ht.isList.typeIs (PySem.slot_list_getitem.lookup) ?_ (by with_unfolding_all rfl)
  refine wpAny_getItem_list_slice ht.isList (Heap.IsSliceOf.new _ vl vu vs) pl pu ps (fun z => by injection z with z; omega) ?_ (by rw [List.size_toArray]; omega)
  have hr := stp_val r (k : Int)
  have hsz := slicePick_size_le its.toArray none none (some (k : Int))
  refine ⟨.ref _, _, I5.laid (t' := s4.toks) (o := .lst (stpOf (k : Int) xs)) (fun b ob q => Heap.get?_push_of_some _ q) (Nat.le_refl _) ?_, rfl, q _ (I5.hok.fresh (Nat.le_refl _))⟩
  refine ⟨?_, _, 0, hr, ?_⟩
  · rw [hr.length]
    have : (slicePick its.toArray none none (some (k : Int))).toList.length ≤ its.length := by simpa using hsz
    omega
  · rw [Array.toArray_toList]
    exact Heap.get?_push_size _ rfl
theorem de_stp {G : GP} {ds : List PyData} {k : Nat} {kk : Nat} {p1 p3 : Pos} (h : DE X G e (MP.d X.K (.list ds))) (hk : k ≠ 0) : DE X G (.Subscript e (.Slice none none (some (.Constant (.int k) kk p1)) p3) pos) (MP.d X.K (.list (stpOf (k : Int) ds))) :=
  de_of (pe_stp h hk) fun σ H Q g q => ⟨g, fun v H1 x1 p1 => by
    obtain ⟨a, us, rfl, hq, hd⟩ := dp_lst p1
    refine ⟨a, us, rfl, hq, fun l hl => q _ _ (x1.trans (Ex.new hl)) (dp_newL hl ?_)⟩
    unfold stpOf
    rw [hd.length]
    exact dp_pick hd _⟩
end
end K78

-- part KL9
set_option Elab.async false
set_option linter.all false
set_option maxRecDepth 100000
set_option maxHeartbeats 4000000
/-! KL9: _law_named_right. -/
namespace K78
open PySem PySem.Spec PyProof.Rows L2
open Evl (Ex ex_t ex_l ex_rd fresh_back)
open Enc (enc)
/-- .. stands when the box is away -/
def MGone (b : Addr) (M : MP) : MP := ⟨fun v H => M.P v (del b H), fun x p => M.mono (fun a u e => by
  by_cases h : a = b
  · subst h; rw [del_self] at e; cases e
  · rw [del_ne h] at e ⊢
    exact x a u e) p⟩
theorem stk_gone {b : Addr} {M : MP} : StK b (MGone b M) := fun v H H' n k p => M.mono (fun a u e => by
  by_cases h : a = b
  · subst h; rw [del_self] at e; cases e
  · rw [del_ne h] at e ⊢
    exact k a u h e) p
section
variable {X : Cx} {b : Addr} {Γ : En} {e : Expr} {pos p : Pos} {K : PySem.W.Frag} {vs : List Nat}
theorem de_gone {ds : List PyData} (h0 : BoxIn b Γ) (hn : ∀ H x y z, 33 ≤ y → ¬ DpAll X.K H [.int x, .int y, .int z] ds) (ht : tO.tOs ds = true) (h : DE X (EnvOk Γ) e (MP.d X.K (.list ds))) : DE X (EnvOk Γ) e (MGone b (MP.d X.K (.list ds))) :=
  de_of h fun σ H Q g q => ⟨g, fun v H' x p => q v H' x (by
    obtain ⟨n, h0⟩ := h0
    obtain ⟨_, _, pv⟩ := (MG.mono x g : EnvOk Γ σ H').get 0 _ h0
    obtain ⟨_, bx, bh, bz, hb, hy, _⟩ := pv
    exact goneL hb (hn _ _ _ _ hy) ht p)⟩
theorem tg_unl {js : List Nat} {ds : List PyData} (hl : ds.length = js.length) (hj : ∀ j ∈ js, j ∈ vs := by decide) : Tg K (gUnl K js.length (gNs js)) vs (.list ds) (EnvOk Γ) (EnvOk (setAll K Γ js ds)) := fun v σ H Q p g q => by
  obtain ⟨a, us, rfl, hq, hd⟩ := dp_lst p
  exact ⟨a, us, rfl, hq, by rw [hd.length, hl], gNs_ok hj hl hd g q⟩
end
theorem perm_map_int {l : List Int} {ds : List PyData} (h : ds.Perm (l.map PyData.int)) : ∃ l' : List Int, ds = l'.map .int ∧ l'.Perm l := by
  refine ⟨ds.map (fun d => match d with | .int i => i | _ => 0), ?_, ?_⟩
  · rw [List.map_map]
    have : ∀ d ∈ ds, d = PyData.int (match d with | .int i => i | _ => 0) := fun d hd => by
      obtain ⟨i, _, rfl⟩ := List.mem_map.mp (h.mem_iff.mp hd)
      rfl
    exact (List.map_id ds).symm.trans (List.map_congr_left this)
  · have := h.map (fun d => match d with | .int i => i | _ => (0 : Int))
    rw [List.map_map] at this
    exact this.trans (.of_eq ((List.map_congr_left fun _ _ => rfl).trans (List.map_id l)))
def NameOf (d : Int) (ns : List Int) : Prop := ns.Perm (upTo d) ∧ 2 ≤ d ∧ d ≤ 4
theorem upTo_length {d : Int} (h : 0 ≤ d) : (upTo d).length = d.toNat := by unfold upTo; rw [List.length_map, List.length_range]
theorem upTo_mem {d x : Int} : x ∈ upTo d ↔ 0 ≤ x ∧ x < d := by
  unfold upTo
  rw [List.mem_map]
  constructor
  · rintro ⟨i, hi, rfl⟩
    have := List.mem_range.mp hi
    omega
  · rintro ⟨h1, h2⟩
    exact ⟨x.toNat, List.mem_range.mpr (by omega), by show ((x.toNat : Nat) : Int) = x; omega⟩
theorem nameOf_tame (d : Int) (ns : List Int) (h : NameOf d ns) : Tame ns := by
  obtain ⟨h1, h2, h3⟩ := h
  refine ⟨by rw [h1.length_eq, upTo_length (by omega)]; omega, fun x hx => ?_⟩
  have := upTo_mem.mp (h1.mem_iff.mp hx)
  omega
theorem names_of {deep : KEY} : ∀ {nss : List (List Int)}, Paired NameOf deep nss → NamesP deep nss := by
  induction deep with
  | nil => intro nss h; cases h; exact ⟨rfl, fun p hp => absurd hp (Nat.not_lt_zero p)⟩
  | cons d deep ih =>
    intro nss h
    cases h with
    | cons h1 h2 =>
      obtain ⟨h3, h4⟩ := ih h2
      refine ⟨by simp [h3], fun p hp => ?_⟩
      cases p with
      | zero => exact h1.1
      | succ p => exact h4 p (by simpa using hp)
theorem names_ok {deep : KEY} {names : NAMES} {ks : KEYS} (hn : NamesP deep names) (hk : ∀ k ∈ ks, KeyIn deep k) : NamesOk deep.length names ks := ⟨hn.1, fun k h => ⟨(hk k h).1, fun p hp => by
  have h1 := (hk k h).2 p hp
  refine ⟨h1.1, ?_⟩
  rw [(hn.2 p hp).length_eq, upTo_length (by omega)]
  omega⟩⟩
theorem namedK_len (names : NAMES) (ks : KEYS) : (namedK names ks).length = ks.length := by unfold namedK; rw [sortE_len, List.length_map]
theorem namedK_w {names : NAMES} {ks : KEYS} {n : Nat} (h : ∀ k ∈ ks, k.length = n) : ∀ k ∈ namedK names ks, k.length = n := fun k hk => by
  obtain ⟨k', hk', rfl⟩ := List.mem_map.mp (sortE_mem.mp hk)
  rw [renK_len]
  exact h k' hk'
structure A_dcbl where
  deep : KEY
  chief : KEYS
  bunch : KEYS
  lone : KEYS
section
variable {P : Program} {w : World} {K : PySem.W.Frag} {mg : Str → Option Value} {base : Heap}
def sp_nam (K : PySem.W.Frag) : Sp := spB (fun a : A_dcbl => Legit a.deep a.chief a.bunch a.lone) 5000 (fun a => [ME K a.deep, ME K a.chief, ME K a.bunch, ME K a.lone]) (fun a => MB K true)
theorem ok_nam (T : Tx K mg) : DefOk P w K mg base "_law_named_right" 8 (sp_nam K) := by
  obtain ⟨f, fd, F, hg⟩ := at__law_named_right T
  have B := T.bl
  have D0 := ok_pick (P := P) (w := w) (base := base) T
  have D1 := ok_how_many_further (P := P) (w := w) (base := base) T
  have D2 := ok_further_ranks (P := P) (w := w) (base := base) T
  have D3 := ok_how_many_harmless (P := P) (w := w) (base := base) T
  have D4 := ok_same (P := P) (w := w) (base := base) T 2
  have D5 := ok_same (P := P) (w := w) (base := base) T 3
  have D6 := ok_named (P := P) (w := w) (base := base) T
  have D7 := ok_teeth (P := P) (w := w) (base := base) T
  have D8 := ok_is_house_closed (P := P) (w := w) (base := base) T
  have D9 := ok_is_further (P := P) (w := w) (base := base) T
  have D10 := ok_is_harmless (P := P) (w := w) (base := base) T
  have D11 := ok_kept_private (P := P) (w := w) (base := base) T
  refine fn_box F sc__law_named_right hg (fun _ => rfl) (fun _ _ _ _ _ _ us hl => match us, hl with | [_, _, _, _, _], _ => rfl) fun f cdv A outer s H E a BB b n hr hp hB hn => ?_
  obtain ⟨deep, chief, bunch, lone⟩ := a
  have h : Legit deep chief bunch lone := hp
  have hd1 := h.d.1
  have hd2 := h.d.2.1
  have hd3 := h.d.2.2
  have hc1 := h.c.1
  have hc2 := h.c.2.1
  have hb1 := h.b.1
  have hl1 := h.l.1
  have hn : n + 5000 ≤ 2 ^ 40 := hn
  have ckl : ∀ k ∈ chief, k.length = deep.length := fun k hk => (h.c.2.2 k hk).1
  have bkl : ∀ k ∈ bunch, k.length = deep.length := fun k hk => (h.b.2 k hk).1
  have lkl : ∀ k ∈ lone, k.length = deep.length := fun k hk => (h.l.2 k hk).1
  show HS _ (GB BB [some (MBox b n), some ((ME K deep).at BB), some ((ME K chief).at BB), some ((ME K bunch).at BB), some ((ME K lone).at BB), none, none, none, none, none, none, none, none, none, none]) _ _ _
  refine hs_cons (N' := fun σ H => ∃ names : NAMES, NamesP deep names ∧ GB BB [some (MBox b (n + 5000)), some ((ME K deep).at BB), some ((ME K chief).at BB), some ((ME K bunch).at BB), some ((ME K lone).at BB), some (MP.d K (namesD names)), none, none, none, none, none, none, none, none, none] σ H) (h1_post (h1_setE 5 sc__law_named_right.nd (Γ' := [some (MBox b (n + deep.length * 1000)), some ((ME K deep).at BB), some ((ME K chief).at BB), some ((ME K bunch).at BB), some ((ME K lone).at BB), none, none, none, none, none, none, none, none, none, none]) (EC.eb (ec_lcI (Γ0 := [some (MBox b n), some ((ME K deep).at BB), some ((ME K chief).at BB), some ((ME K bunch).at BB), some ((ME K lone).at BB), none, none, none, none, none, none, none, none, none, none]) (Γ := [some (MBox b n), some ((ME K deep).at BB), some ((ME K chief).at BB), some ((ME K bunch).at BB), some ((ME K lone).at BB), none, none, none, none, none, none, none, none, none, none]) (n := n) (c := 1000) deep enc NameOf (fun i d => [some (MBox b (n + i * 1000)), some ((ME K deep).at BB), some ((ME K chief).at BB), some ((ME K bunch).at BB), some ((ME K lone).at BB), none, some (MI K d), none, none, none, none, none, none, none, none]) (fun i d => [some (MBox b (n + i * 1000 + 1000)), some ((ME K deep).at BB), some ((ME K chief).at BB), some ((ME K bunch).at BB), some ((ME K lone).at BB), none, some (MI K d), none, none, none, none, none, none, none, none]) [("_law_high_so", 6)] nameOf_tame rfl sc__law_named_right.nd rfl hB
    (itb_of (dt_tup (de_gb (de_v0 1)) (encs_to _))) (blkOk_by (N := ["_law_box_here", "_law_deep_here", "_law_chief_here", "_law_bunch", "_law_lone_so", "_law_names_so", "_law_high_so", "_law_masters", "_law_homes", "_law_alone_so", "_law_some", "_law_got", "_law_due", "_law_tooth_here", "_law_mate"]) (sc := defScope s__law_named_right) (by decide +kernel)) (fun _ _ _ _ _ => pg_name (i := 6) sc__law_named_right.nd rfl (by first | exact Or.inl rfl | exact Or.inr rfl)) (.skip (.cons (stb_at hB) (.cons (stb_at hB) (.cons (stb_at hB) (.cons (stb_at hB) (.skip (.skip (.skip (.skip (.skip (.skip (.skip (.skip (.skip (.skip .nil)))))))))))))))
    (fun i d hd => tg_name) (fun i d hd _ _ _ _ _ => ?el) (fun i d hd => by show some (some (MBox b (n + i * 1000 + 1000))) = _; rw [Nat.add_mul, Nat.add_assoc]) (by omega)))) fun σ H g => ?na) ?_
  case el =>
    have hil : i < deep.length := (List.getElem?_eq_some_iff.mp hd).1
    have hdm := hd3 d (List.mem_of_getElem? hd)
    refine eb_call (Γ' := [some (MBox b (n + i * 1000)), some ((ME K deep).at BB), some ((ME K chief).at BB), some ((ME K bunch).at BB), some ((ME K lone).at BB), none, some (MI K d), none, none, none, none, none, none, none, none]) (M := MIL K (NameOf d)) (Ms := [MGone b (MP.d K (ilist (upTo d))), MI K d]) (n := n + i * 1000) D0 (hr.mono (by omega)) (aeb_pure ⟨_, rfl⟩ de_ref (aeb_pure ⟨_, rfl⟩ (de_gone ⟨_, rfl⟩ (fun H x y z hy => tame_box hy (nameOf_tame d _ ⟨.refl _, hdm⟩)) (tOs_ints _) (de_listRg rfl B.list B.range (de_v 6) (by omega))) (aeb_pure ⟨_, rfl⟩ (de_v 6) aeb_nil (stk_d rfl)) stk_gone) stk_ref) rfl (by show _ ≤ 2 ^ 40; omega) hB (fun us H nt p => ⟨⟨(upTo d).map .int, d⟩, ⟨?_, tOs_ints _, ?_, ?_⟩, ?_, ?_⟩) (.skip (.cons (stb_at hB) (.cons (stb_at hB) (.cons (stb_at hB) (.cons (stb_at hB) (.skip (.cons (stb_d rfl) (.skip (.skip (.skip (.skip (.skip (.skip (.skip (.skip .nil)))))))))))))))
    · intro z
      have := congrArg List.length z
      rw [List.length_map, upTo_length (by omega)] at this
      simp at this
      omega
    · show ((upTo d).map PyData.int).length ≤ 1000
      rw [List.length_map, upTo_length (by omega)]
      omega
    · show 0 ≤ d
      omega
    · cases p with
      | cons p1 p2 =>
        cases p2 with
        | cons p2 p3 =>
          cases p3
          exact .cons p1 (.cons (std_d rfl _ _ nt p2) .nil)
    · rintro v H' ⟨ds', ⟨rest, hp, hl⟩, ht, pv⟩
      have hpl := hp.length_eq
      have e : rest = [] := by
        have h1 : ((upTo d).map PyData.int).length = d.toNat := by rw [List.length_map, upTo_length (by omega)]
        have hl : ds'.length = min d.toNat ((upTo d).map PyData.int).length := hl
        rw [List.length_append] at hpl
        have hpl : ds'.length + rest.length = ((upTo d).map PyData.int).length := hpl
        exact List.eq_nil_of_length_eq_zero (by omega)
      subst e
      rw [List.append_nil] at hp
      obtain ⟨ns, rfl, hns⟩ := perm_map_int hp
      exact ⟨ns, ⟨hns, hdm⟩, pv⟩
  case na =>
    obtain ⟨v5, ev5, nss, hds, pv⟩ := g.2.get 5 _ rfl
    refine ⟨nss, names_of hds, g.1, ⟨g.2.len, fun j M e => ?_⟩⟩
    match j, e with
    | 5, e => cases e; exact ⟨_, ev5, pv⟩
    | 0, e =>
      cases e
      obtain ⟨v, ev, pv⟩ := g.2.get 0 _ rfl
      exact ⟨v, ev, by obtain ⟨rfl, _⟩ := id pv; exact mbox_le pv (by omega)⟩
    | 1, e => exact g.2.get 1 M e
    | 2, e => exact g.2.get 2 M e
    | 3, e => exact g.2.get 3 M e
    | 4, e => exact g.2.get 4 M e
    | 6, e => exact g.2.get 6 M e
    | 7, e => exact g.2.get 7 M e
    | 8, e => exact g.2.get 8 M e
    | 9, e => exact g.2.get 9 M e
    | 10, e => exact g.2.get 10 M e
    | 11, e => exact g.2.get 11 M e
    | 12, e => exact g.2.get 12 M e
    | 13, e => exact g.2.get 13 M e
    | 14, e => exact g.2.get 14 M e
    | j + 15, e => exact g.2.get (j + 15) M e
  refine hs_ex fun names => hs_pure fun hnm => ?_
  have okc := names_ok hnm h.c.2.2
  have okb := names_ok hnm h.b.2
  have okl := names_ok hnm h.l.2
  have wo := m_wo h
  have woN := m_woN h hnm
  have hash := m_hash (P := P) (w := w) h
  have hashN := m_hashN (P := P) (w := w) h hnm
  have e1 := m_nam1 h hnm
  have e2 := m_nam2 h hnm
  have e3 := m_nam3 h hnm
  have e4 := m_nam4 h hnm
  have rl := ranksOf_len (furtherC (aB deep chief bunch)) chief deep.length
  have lmc := namedK_len names chief
  have lmb := namedK_len names bunch
  have lml := namedK_len names lone
  have wmc := namedK_w (names := names) ckl
  have wmb := namedK_w (names := names) bkl
  have wml := namedK_w (names := names) lkl
  -- masters, homes, alone
  refine hs_cons (h1_of (Γ' := [some (MBox b (n + 5000)), some ((ME K deep).at BB), some ((ME K chief).at BB), some ((ME K bunch).at BB), some ((ME K lone).at BB), some (MP.d K (namesD names)), none, some (ME K (namedK names chief)), some (ME K (namedK names bunch)), some (ME K (namedK names lone)), none, none, none, none, none]) (d1_asg (vs := [7, 8, 9]) (d := .list [enc (namedK names chief), enc (namedK names bunch), enc (namedK names lone)]) (g := gUnl K 3 (gNs [7, 8, 9])) (de_lc0 [chief, bunch, lone] enc (fun ks => enc (namedK names ks)) (fun ks => [some (MBox b (n + 5000)), some ((ME K deep).at BB), some ((ME K chief).at BB), some ((ME K bunch).at BB), some ((ME K lone).at BB), some (MP.d K (namesD names)), none, none, none, none, some (ME K ks), none, none, none, none]) [("_law_some", 10)] rfl sc__law_named_right.nd (di_tup (de_tup [enc chief, enc bunch, enc lone] (da_cons (de_v0 2) (da_cons (de_v0 3) (da_cons (de_v0 4) da_nil))) (by simp))) (blkOk_by (N := ["_law_box_here", "_law_deep_here", "_law_chief_here", "_law_bunch", "_law_lone_so", "_law_names_so", "_law_high_so", "_law_masters", "_law_homes", "_law_alone_so", "_law_some", "_law_got", "_law_due", "_law_tooth_here", "_law_mate"]) (sc := defScope s__law_named_right) (by decide +kernel)) (fun _ _ _ _ _ => pg_name (i := 10) sc__law_named_right.nd rfl (by first | exact Or.inl rfl | exact Or.inr rfl)) (fun o ho => tg_name)
      (fun ks hks _ _ _ _ _ => de_call D6 (hr.mono (by omega)) ⟨deep.length, names, ks⟩ (da_cons (de_v 5) (da_cons (de_v 10) da_nil)) ?e0) (fun _ _ => Enc.to _) (by simp)) (pg_unl rfl (pgs_cons (pg_name (i := 7) sc__law_named_right.nd rfl (by first | exact Or.inl rfl | exact Or.inr rfl)) (pgs_cons (pg_name (i := 8) sc__law_named_right.nd rfl (by first | exact Or.inl rfl | exact Or.inr rfl)) (pgs_cons (pg_name (i := 9) sc__law_named_right.nd rfl (by first | exact Or.inl rfl | exact Or.inr rfl)) pgs_nil)))) (tg_unl (js := [7, 8, 9]) (vs := [7, 8, 9]) rfl))) ?_
  case e0 =>
    have : NamesOk deep.length names ks ∧ ks.length ≤ 1000 := by
      rcases List.mem_cons.mp hks with rfl | hks
      · exact ⟨okc, by omega⟩
      rcases List.mem_cons.mp hks with rfl | hks
      · exact ⟨okb, by omega⟩
      · rw [List.mem_singleton.mp hks]
        exact ⟨okl, by omega⟩
    exact ⟨this.1, hd1, by show deep.length ≤ 100; omega, this.2⟩
  generalize hT : totalC (furtherC (aB deep chief bunch)) = t1 at *
  generalize hR : ranksOf (furtherC (aB deep chief bunch)) chief deep.length = t2 at *
  generalize hS : totalC (harmlessC (aB deep chief bunch)) = t3 at *
  generalize hC : closedB ⟨deep, chief, bunch, lone⟩ = t4 at *
  have wp : Wp ⟨deep, chief, bunch, lone⟩ := ⟨⟨deep.length, by omega, ckl, bkl, lkl⟩, by show chief.length ≤ 100; omega, by show bunch.length ≤ 100; omega, by show lone.length ≤ 100; omega⟩
  have wpN : Wp ⟨deep, namedK names chief, namedK names bunch, namedK names lone⟩ := ⟨⟨deep.length, by omega, wmc, wmb, wml⟩, by show (namedK names chief).length ≤ 100; omega, by show (namedK names bunch).length ≤ 100; omega, by show (namedK names lone).length ≤ 100; omega⟩
  -- got
  refine hs_cons (h1_of (Γ' := [some (MBox b (n + 5000)), some ((ME K deep).at BB), some ((ME K chief).at BB), some ((ME K bunch).at BB), some ((ME K lone).at BB), some (MP.d K (namesD names)), none, some (ME K (namedK names chief)), some (ME K (namedK names bunch)), some (ME K (namedK names lone)), none, some (MP.d K (.list [.int t1, enc t2])), none, none, none]) (d1_set 11 sc__law_named_right.nd (DE.to (de_lst [.int (totalC (furtherC (aN deep chief bunch names))), enc (ranksOf (furtherC (aN deep chief bunch names)) (namedK names chief) deep.length)] (da_cons (de_call D1 (hr.mono (by omega)) (aN deep chief bunch names) (da_cons (de_v0 1) (da_cons (de_v 7) (da_cons (de_v 8) da_nil))) ⟨woN, hashN⟩) (da_cons (de_call D2 (hr.mono (by omega)) (aN deep chief bunch names) (da_cons (de_v0 1) (da_cons (de_v 7) (da_cons (de_v 8) da_nil))) ⟨woN, hashN⟩) da_nil)) (by simp)) (by rw [e1, e2])))) ?_
  refine hs_cons (h1_of (Γ' := [some (MBox b (n + 5000)), some ((ME K deep).at BB), some ((ME K chief).at BB), some ((ME K bunch).at BB), some ((ME K lone).at BB), some (MP.d K (namesD names)), none, some (ME K (namedK names chief)), some (ME K (namedK names bunch)), some (ME K (namedK names lone)), none, some (MP.d K (.list [.int t1, enc t2, .int t3])), none, none, none]) (d1_set 11 sc__law_named_right.nd (DE.to (de_catL (ds' := [.int (totalC (harmlessC (aN deep chief bunch names)))]) (de_v 11) (de_lst [.int (totalC (harmlessC (aN deep chief bunch names)))] (da_cons (de_call D3 (hr.mono (by omega)) (aN deep chief bunch names) (da_cons (de_v0 1) (da_cons (de_v 7) (da_cons (de_v 8) da_nil))) woN) da_nil) (by simp)) (by simp)) (by rw [e3]; rfl)))) ?_
  refine hs_cons (h1_of (Γ' := [some (MBox b (n + 5000)), some ((ME K deep).at BB), some ((ME K chief).at BB), some ((ME K bunch).at BB), some ((ME K lone).at BB), some (MP.d K (namesD names)), none, some (ME K (namedK names chief)), some (ME K (namedK names bunch)), some (ME K (namedK names lone)), none, some (MP.d K (.list [.int t1, enc t2, .int t3, .bool t4])), none, none, none]) (d1_set 11 sc__law_named_right.nd (DE.to (de_catL (ds' := [.bool (closedB ⟨deep, namedK names chief, namedK names bunch, namedK names lone⟩)]) (de_v 11) (de_lst [.bool (closedB ⟨deep, namedK names chief, namedK names bunch, namedK names lone⟩)] (da_cons (de_call D8 (hr.mono (by omega)) ⟨deep, namedK names chief, namedK names bunch, namedK names lone⟩ (da_cons (de_v0 1) (da_cons (de_v 7) (da_cons (de_v 8) (da_cons (de_v 9) da_nil)))) wpN) da_nil) (by simp)) (by simp)) (by rw [e4]; rfl)))) ?_
  -- due
  refine hs_cons (h1_of (Γ' := [some (MBox b (n + 5000)), some ((ME K deep).at BB), some ((ME K chief).at BB), some ((ME K bunch).at BB), some ((ME K lone).at BB), some (MP.d K (namesD names)), none, some (ME K (namedK names chief)), some (ME K (namedK names bunch)), some (ME K (namedK names lone)), none, some (MP.d K (.list [.int t1, enc t2, .int t3, .bool t4])), some (MP.d K (.list [.int t1, enc t2])), none, none]) (d1_set 12 sc__law_named_right.nd (DE.to (de_lst [.int (totalC (furtherC (aB deep chief bunch))), enc (ranksOf (furtherC (aB deep chief bunch)) chief deep.length)] (da_cons (de_call D1 (hr.mono (by omega)) (aB deep chief bunch) (da_cons (de_v0 1) (da_cons (de_v0 2) (da_cons (de_v0 3) da_nil))) ⟨wo, hash⟩) (da_cons (de_call D2 (hr.mono (by omega)) (aB deep chief bunch) (da_cons (de_v0 1) (da_cons (de_v0 2) (da_cons (de_v0 3) da_nil))) ⟨wo, hash⟩) da_nil)) (by simp)) (by rw [hT, hR])))) ?_
  refine hs_cons (h1_of (Γ' := [some (MBox b (n + 5000)), some ((ME K deep).at BB), some ((ME K chief).at BB), some ((ME K bunch).at BB), some ((ME K lone).at BB), some (MP.d K (namesD names)), none, some (ME K (namedK names chief)), some (ME K (namedK names bunch)), some (ME K (namedK names lone)), none, some (MP.d K (.list [.int t1, enc t2, .int t3, .bool t4])), some (MP.d K (.list [.int t1, enc t2, .int t3, .bool t4])), none, none]) (d1_set 12 sc__law_named_right.nd (DE.to (de_catL (ds' := [.int (totalC (harmlessC (aB deep chief bunch))), .bool (closedB ⟨deep, chief, bunch, lone⟩)]) (de_v 12) (de_lst [.int (totalC (harmlessC (aB deep chief bunch))), .bool (closedB ⟨deep, chief, bunch, lone⟩)] (da_cons (de_call D3 (hr.mono (by omega)) (aB deep chief bunch) (da_cons (de_v0 1) (da_cons (de_v0 2) (da_cons (de_v0 3) da_nil))) wo) (da_cons (de_call D8 (hr.mono (by omega)) ⟨deep, chief, bunch, lone⟩ (da_cons (de_v0 1) (da_cons (de_v0 2) (da_cons (de_v0 3) (da_cons (de_v0 4) da_nil)))) wp) da_nil)) (by simp)) (by simp)) (by rw [hS, hC]; rfl)))) ?_
  have hs2 : sameOk 2 (.list [.int t1, enc t2, .int t3, .bool t4]) := same_list (by simp) fun x hx => by
    rcases List.mem_cons.mp hx with rfl | hx
    · exact same_int _
    rcases List.mem_cons.mp hx with rfl | hx
    · exact same_key (by omega)
    rcases List.mem_cons.mp hx with rfl | hx
    · exact same_int _
    · rw [List.mem_singleton.mp hx]
      exact same_bool _
  refine hs_cons (h1_if (k := !true) (dt_gb (dt_not (dt_val (de_call D4 (hr.mono (by omega)) (.list [.int t1, enc t2, .int t3, .bool t4]) (da_cons (de_v 11) (da_cons (de_v 12) da_nil)) hs2)))) (fun e => nomatch e) fun e => hs_nil (N := GB BB [some (MBox b (n + 5000)), some ((ME K deep).at BB), some ((ME K chief).at BB), some ((ME K bunch).at BB), some ((ME K lone).at BB), some (MP.d K (namesD names)), none, some (ME K (namedK names chief)), some (ME K (namedK names bunch)), some (ME K (namedK names lone)), none, none, none, none, none]) fun σ H g => ⟨g.1, (g.2.drop 11).drop 12⟩) ?_
  refine hs_cons (h1_of (Γ' := [some (MBox b (n + 5000)), some ((ME K deep).at BB), some ((ME K chief).at BB), some ((ME K bunch).at BB), some ((ME K lone).at BB), some (MP.d K (namesD names)), none, some (ME K (namedK names chief)), some (ME K (namedK names bunch)), some (ME K (namedK names lone)), none, none, none, none, none]) (d1_for (vs := [13]) (ds := stpOf 3 ((teethL deep).map enc)) (g := gName 13) (Gi := fun _ => EnvOk [some (MBox b (n + 5000)), some ((ME K deep).at BB), some ((ME K chief).at BB), some ((ME K bunch).at BB), some ((ME K lone).at BB), some (MP.d K (namesD names)), none, some (ME K (namedK names chief)), some (ME K (namedK names bunch)), some (ME K (namedK names lone)), none, none, none, none, none]) rfl PassesOwn.never (di_list (de_stp (k := 3) (de_call D7 (hr.mono (by omega)) deep (da_cons (de_v0 1) da_nil) ⟨hd2, fun d hd => by have := hd3 d hd; omega⟩) (by decide))) (pg_name sc__law_named_right.nd rfl (by first | exact Or.inl rfl | exact Or.inr rfl)) (fun σ H g => g) (fun i σ H H' x g => MG.mono x g) (fun i d hd => ?body) (fun σ H g => g))) ?ret
  case ret =>
    refine hs_one (h1_ret (M := MB K true) (de_gb de_bl) fun v σ H H' g x p => ?_)
    obtain ⟨v0, _, hb0⟩ := (MG.mono x g : GB BB _ σ H').2.get 0 _ rfl
    obtain ⟨rfl, _⟩ := id hb0
    exact ⟨g.1.trans x, hb0, p⟩
  case body =>
    obtain ⟨t, ht, rfl⟩ := List.mem_map.mp (stp_mem (List.mem_of_getElem? hd))
    have hki := m_teeth h.d t ht
    have f1 := m_nam5 h hnm hki
    have f2 := m_nam6 h hnm hki
    have f3 := m_nam7 h hnm hki
    have okt : NamesOk deep.length names [t] := names_ok hnm fun k hk => by rw [List.mem_singleton.mp hk]; exact hki
    have ent : namedK names [t] = [renK names t] := List.perm_singleton.mp (sortE_perm [renK names t])
    have tl := hki.1
    have rtl := renK_len names t
    have wf : ∀ {k : KEY} {ks : KEYS}, k.length = deep.length → (∀ k ∈ ks, k.length = deep.length) → ks.length ≤ 1000 → Wf deep.length (k :: ks) := fun {k ks} h1 h2 h3 => ⟨fun x hx => by
      rcases List.mem_cons.mp hx with rfl | hx
      · exact h1
      · exact h2 x hx, by rw [List.length_cons]; omega, by omega⟩
    have w1 : Wf deep.length (renK names t :: namedK names chief) := wf (rtl.trans tl) wmc (by omega)
    have w2 : Wf deep.length (renK names t :: namedK names bunch) := wf (rtl.trans tl) wmb (by omega)
    have w3 : Wf deep.length (renK names t :: namedK names lone) := wf (rtl.trans tl) wml (by omega)
    have w4 : Wf deep.length (t :: chief) := wf tl ckl (by omega)
    have w5 : Wf deep.length (t :: bunch) := wf tl bkl (by omega)
    have w6 : Wf deep.length (t :: lone) := wf tl lkl (by omega)
    have kin : ∀ k ∈ keptPrivate ⟨deep, chief, lone, t⟩, KeyIn deep k := fun k hk => h.l.2 k (List.mem_filter.mp hk).1
    have kil : (keptPrivate ⟨deep, chief, lone, t⟩).length ≤ 6 := Nat.le_trans (List.length_filter_le _ _) hl1
    generalize hu1 : isFurther ⟨deep, chief, bunch, t⟩ = u1 at *
    generalize hu2 : isHarmless ⟨deep, chief, bunch, t⟩ = u2 at *
    generalize hu3 : keptPrivate ⟨deep, chief, lone, t⟩ = u3 at *
    refine ⟨EnvOk [some (MBox b (n + 5000)), some ((ME K deep).at BB), some ((ME K chief).at BB), some ((ME K bunch).at BB), some ((ME K lone).at BB), some (MP.d K (namesD names)), none, some (ME K (namedK names chief)), some (ME K (namedK names bunch)), some (ME K (namedK names lone)), none, none, none, some (ME K t), none], tg_name, ?_⟩
    refine ds_cons (N' := EnvOk [some (MBox b (n + 5000)), some ((ME K deep).at BB), some ((ME K chief).at BB), some ((ME K bunch).at BB), some ((ME K lone).at BB), some (MP.d K (namesD names)), none, some (ME K (namedK names chief)), some (ME K (namedK names bunch)), some (ME K (namedK names lone)), none, none, none, some (ME K t), some (ME K (renK names t))]) (d1_set 14 sc__law_named_right.nd (DE.to (de_ixT 0 (ds := [enc (renK names t)]) (d := enc (renK names t)) (DE.to (de_call D6 (hr.mono (by omega)) ⟨deep.length, names, [t]⟩ (da_cons (de_v 5) (da_cons (de_tup [enc t] (da_cons (de_v 13) da_nil) (by simp)) da_nil)) ⟨okt, hd1, by show deep.length ≤ 100; omega, by simp⟩) (by rw [ent]; rfl)) de_int rfl rfl) rfl)) ?_
    refine ds_cons (N' := EnvOk [some (MBox b (n + 5000)), some ((ME K deep).at BB), some ((ME K chief).at BB), some ((ME K bunch).at BB), some ((ME K lone).at BB), some (MP.d K (namesD names)), none, some (ME K (namedK names chief)), some (ME K (namedK names bunch)), some (ME K (namedK names lone)), none, some (MP.d K (.list [.bool u1, .bool u2])), none, some (ME K t), some (ME K (renK names t))]) (d1_set 11 sc__law_named_right.nd (DE.to (de_lst [.bool (isFurther ⟨deep, namedK names chief, namedK names bunch, renK names t⟩), .bool (isHarmless ⟨deep, namedK names chief, namedK names bunch, renK names t⟩)] (da_cons (de_call D9 (hr.mono (by omega)) ⟨deep, namedK names chief, namedK names bunch, renK names t⟩ (da_cons (de_v0 1) (da_cons (de_v 7) (da_cons (de_v 8) (da_cons (de_v 14) da_nil)))) ⟨_, w1, w2⟩) (da_cons (de_call D10 (hr.mono (by omega)) ⟨deep, namedK names chief, namedK names bunch, renK names t⟩ (da_cons (de_v0 1) (da_cons (de_v 7) (da_cons (de_v 8) (da_cons (de_v 14) da_nil)))) ⟨_, w1, w2⟩) da_nil)) (by simp)) (by rw [f1, f2]))) ?_
    refine ds_cons (N' := EnvOk [some (MBox b (n + 5000)), some ((ME K deep).at BB), some ((ME K chief).at BB), some ((ME K bunch).at BB), some ((ME K lone).at BB), some (MP.d K (namesD names)), none, some (ME K (namedK names chief)), some (ME K (namedK names bunch)), some (ME K (namedK names lone)), none, some (MP.d K (.list [.bool u1, .bool u2, enc (namedK names u3)])), none, some (ME K t), some (ME K (renK names t))]) (d1_set 11 sc__law_named_right.nd (DE.to (de_catL (ds' := [enc (keptPrivate ⟨deep, namedK names chief, namedK names lone, renK names t⟩)]) (de_v 11) (de_lst [enc (keptPrivate ⟨deep, namedK names chief, namedK names lone, renK names t⟩)] (da_cons (de_call D11 (hr.mono (by omega)) ⟨deep, namedK names chief, namedK names lone, renK names t⟩ (da_cons (de_v0 1) (da_cons (de_v 7) (da_cons (de_v 9) (da_cons (de_v 14) da_nil)))) ⟨_, w1, w3⟩) da_nil) (by simp)) (by simp)) (by rw [f3]; rfl))) ?_
    refine ds_cons (N' := EnvOk [some (MBox b (n + 5000)), some ((ME K deep).at BB), some ((ME K chief).at BB), some ((ME K bunch).at BB), some ((ME K lone).at BB), some (MP.d K (namesD names)), none, some (ME K (namedK names chief)), some (ME K (namedK names bunch)), some (ME K (namedK names lone)), none, some (MP.d K (.list [.bool u1, .bool u2, enc (namedK names u3)])), some (MP.d K (.list [.bool u1, .bool u2])), some (ME K t), some (ME K (renK names t))]) (d1_set 12 sc__law_named_right.nd (DE.to (de_lst [.bool (isFurther ⟨deep, chief, bunch, t⟩), .bool (isHarmless ⟨deep, chief, bunch, t⟩)] (da_cons (de_call D9 (hr.mono (by omega)) ⟨deep, chief, bunch, t⟩ (da_cons (de_v0 1) (da_cons (de_v0 2) (da_cons (de_v0 3) (da_cons (de_v 13) da_nil)))) ⟨_, w4, w5⟩) (da_cons (de_call D10 (hr.mono (by omega)) ⟨deep, chief, bunch, t⟩ (da_cons (de_v0 1) (da_cons (de_v0 2) (da_cons (de_v0 3) (da_cons (de_v 13) da_nil)))) ⟨_, w4, w5⟩) da_nil)) (by simp)) (by rw [hu1, hu2]))) ?_
    refine ds_cons (N' := EnvOk [some (MBox b (n + 5000)), some ((ME K deep).at BB), some ((ME K chief).at BB), some ((ME K bunch).at BB), some ((ME K lone).at BB), some (MP.d K (namesD names)), none, some (ME K (namedK names chief)), some (ME K (namedK names bunch)), some (ME K (namedK names lone)), none, some (MP.d K (.list [.bool u1, .bool u2, enc (namedK names u3)])), some (MP.d K (.list [.bool u1, .bool u2, enc (namedK names u3)])), some (ME K t), some (ME K (renK names t))]) (d1_set 12 sc__law_named_right.nd (DE.to (de_catL (ds' := [enc (namedK names u3)]) (de_v 12) (de_lst [enc (namedK names u3)] (da_cons (de_call D6 (hr.mono (by omega)) ⟨deep.length, names, u3⟩ (da_cons (de_v 5) (da_cons (DE.to (de_call D11 (hr.mono (by omega)) ⟨deep, chief, lone, t⟩ (da_cons (de_v0 1) (da_cons (de_v0 2) (da_cons (de_v0 4) (da_cons (de_v 13) da_nil)))) ⟨_, w4, w6⟩) (by rw [hu3])) da_nil)) ⟨names_ok hnm kin, hd1, by show deep.length ≤ 100; omega, by show u3.length ≤ 1000; omega⟩) da_nil) (by simp)) (by simp)) rfl)) ?_
    have hs3 : sameOk 3 (.list [.bool u1, .bool u2, enc (namedK names u3)]) := same_list (by simp) fun x hx => by
      rcases List.mem_cons.mp hx with rfl | hx
      · exact same_bool _
      rcases List.mem_cons.mp hx with rfl | hx
      · exact same_bool _
      · rw [List.mem_singleton.mp hx]
        refine same_keys (by rw [namedK_len]; omega) fun k hk => ?_
        rw [namedK_w (n := deep.length) (fun k hk => (kin k hk).1) k hk]
        omega
    exact ds_one (d1_if (k := !true) (dt_not (dt_val (de_call D5 (hr.mono (by omega)) (.list [.bool u1, .bool u2, enc (namedK names u3)]) (da_cons (de_v 11) (da_cons (de_v 12) da_nil)) hs3))) (fun e => nomatch e) fun e => ds_nil fun σ H g => (((g.drop 11).drop 12).drop 13).drop 14)
end
end K78

-- part KL10
set_option Elab.async false
set_option linter.all false
set_option maxRecDepth 100000
set_option maxHeartbeats 4000000
/-! KL10: _law_whole_right, _law_case_right, _law_right. -/
namespace K78
open PySem PySem.Spec PyProof.Rows L2
open Evl (Ex ex_t ex_l ex_rd fresh_back)
open Enc (enc)
def tTB (B : Hp) (b : Addr) (Γ Γ' : En) (k : Bool) : TT := fun σ H Q => GB B Γ σ H ∧ ∀ H', Kp b H H' → GB B Γ' σ H' → Q k H'
abbrev TW (X : Cx) (B : Hp) (b : Addr) (Γ : En) (e : Expr) (Γ' : En) (k : Bool) : Prop := PW X e (tTB B b Γ Γ' k)
section
variable {X : Cx} {B : Hp} {b : Addr} {Γ Γ' Γ'' : En} {a c e : Expr} {x y : List Stmt} {rest : List Expr} {k l : Bool} {pos : Pos} {N : GP} {R : V → Hp → Prop}
theorem tb_val (h : EB X B b Γ e Γ' (MB X.K k)) (he : ∀ whole, isTrue e X.env whole = (do let v ← whole; standAt e.pos; holding [v] (truthy v)) := by intro _; rfl) : TB X B b Γ e Γ' k :=
  pt_imp (pt_val h he) fun σ H Q q => ⟨q.1, fun v H1 x1 g1 p1 => ⟨k, dp_bl p1, q.2 H1 x1 g1⟩⟩
theorem tb_not (h : TB X B b Γ e Γ' k) : TB X B b Γ (.UnaryOp .Not e pos) Γ' (!k) := pt_imp (pt_not h) fun σ H Q q => ⟨q.1, fun H1 x1 g1 => q.2 H1 x1 g1⟩
theorem tb_pure (h : DT X (EnvOk Γ) e k) : TB X B b Γ e Γ k := pt_imp h fun σ H Q q => ⟨q.1.2, fun H1 x1 => q.2 H1 (Kp.ex x1) (MG.mono x1 q.1)⟩
theorem tw_or1 (ha : TB X B b Γ a Γ' k) : TW X B b Γ (.BoolOp .Or [a] pos) Γ' k := pw_or1 ha
theorem tw_or (ha : TB X B b Γ a Γ' false) (hb : TW X B b Γ' (.BoolOp .Or (e :: rest) pos) Γ'' l) : TW X B b Γ (.BoolOp .Or (a :: e :: rest) pos) Γ'' l :=
  ⟨fun wh pins s σ H Q I h => (pw_or ha hb).run wh pins s σ H Q I ⟨h.1, fun H1 x1 g1 => by
    show tTB B b Γ' Γ'' l σ H1 Q
    exact ⟨g1, fun H2 x2 g2 => h.2 H2 (x1.trans x2) g2⟩⟩⟩
theorem TW.t (h : TW X B b Γ e Γ' k) : TB X B b Γ e Γ' k := PW.pt h
theorem h1_ifE (hc : TB X B b Γ c Γ' k) (ha : k = true → HS X (GB B Γ') x N R) (hb : k = false → HS X (GB B Γ') y N R) : H1 X (GB B Γ) (.If c x y pos) N R := by
  cases k with
  | true => exact ps_imp (ps_if (u := tNever) hc (ha rfl) pss_never) fun D σ H q => ⟨q.1, fun H1 x1 g1 => ⟨g1, q.2⟩⟩
  | false => exact ps_imp (ps_if (t := tNever) hc pss_never (hb rfl)) fun D σ H q => ⟨q.1, fun H1 x1 g1 => ⟨g1, q.2⟩⟩
end
theorem Legit.short {deep : KEY} {chief bunch lone : KEYS} (h : Legit deep chief bunch lone) : Legit deep chief bunch [] := ⟨h.d, h.c, h.b, by simp, by simp⟩
/-- keys as arguments of a def that changes the box -/
theorem keys_arg {α : Type} [Enc α] {K : PySem.W.Frag} {b : Addr} {us : List V} {H : Hp} {l : α} {Ms : List MP} {Ms' : List MP} (nt : NT H b) (h : ∃ u us', us = u :: us' ∧ (ME K l).P u H ∧ (AllP Ms us' H)) (k : ∀ us', AllP Ms us' H → AllP Ms' us' (del b H)) : AllP (ME K l :: Ms') us (del b H) := by
  obtain ⟨u, us', rfl, h1, h2⟩ := h
  exact .cons (std_d (Enc.to _) _ _ nt h1) (k us' h2)
section
variable {P : Program} {w : World} {K : PySem.W.Frag} {mg : Str → Option Value} {base : Heap}
theorem tup_args {b : Addr} {H : Hp} {Ds : List PyData} (nt : NT H b) (ht : tO.tOs Ds = true) : ∀ {us : List V}, AllP (Ds.map (MP.d K)) us H → AllP (Ds.map (MP.d K)) us (del b H) := by
  induction Ds with
  | nil => intro us h; cases h; exact .nil
  | cons d Ds ih =>
    intro us h
    simp only [tO.tOs, Bool.and_eq_true] at ht
    cases h with
    | cons h1 h2 => exact .cons (std_d ht.1 _ _ nt h1) (ih ht.2 h2)
def sp_whole (K : PySem.W.Frag) : Sp := spB (fun a : A_dcbl => Legit a.deep a.chief a.bunch a.lone) 6000 (fun a => [ME K a.deep, ME K a.chief, ME K a.bunch, ME K a.lone]) (fun a => MB K true)
theorem ok_whole (T : Tx K mg) : DefOk P w K mg base "_law_whole_right" 9 (sp_whole K) := by
  obtain ⟨f, fd, F, hg⟩ := at__law_whole_right T
  have B := T.bl
  have D1 := ok_nam (P := P) (w := w) (base := base) T
  have D2 := ok_pin (P := P) (w := w) (base := base) T
  have D3 := ok_mas (P := P) (w := w) (base := base) T
  refine fn_box F sc__law_whole_right hg (fun _ => rfl) (fun _ _ _ _ _ _ us hl => match us, hl with | [_, _, _, _, _], _ => rfl) fun f cdv A outer s H E a BB b n hr hp hB hn => ?_
  obtain ⟨deep, chief, bunch, lone⟩ := a
  have h : Legit deep chief bunch lone := hp
  have hn : n + 6000 ≤ 2 ^ 40 := hn
  refine hs_cons (N' := GB BB [some (MBox b (n + 5000)), some ((ME K deep).at BB), some ((ME K chief).at BB), some ((ME K bunch).at BB), some ((ME K lone).at BB)]) (h1_ifE (Γ' := [some (MBox b (n + 5000)), some ((ME K deep).at BB), some ((ME K chief).at BB), some ((ME K bunch).at BB), some ((ME K lone).at BB)]) (k := false) (TW.t (tw_or (Γ' := [some (MBox b (n + 5000)), some ((ME K deep).at BB), some ((ME K chief).at BB), some ((ME K bunch).at BB), some ((ME K lone).at BB)]) (tb_not (k := true) (tb_val (eb_call (Γ := [some (MBox b n), some ((ME K deep).at BB), some ((ME K chief).at BB), some ((ME K bunch).at BB), some ((ME K lone).at BB)]) (Γ' := [some (MBox b n), some ((ME K deep).at BB), some ((ME K chief).at BB), some ((ME K bunch).at BB), some ((ME K lone).at BB)]) (M := MB K true) (Ms := [ME K deep, ME K chief, ME K bunch, ME K lone]) (n := n) D1 hr
      (aeb_pure ⟨_, rfl⟩ de_ref (aeb_pure ⟨_, rfl⟩ (de_v0 1) (aeb_pure ⟨_, rfl⟩ (de_v0 2) (aeb_pure ⟨_, rfl⟩ (de_v0 3) (aeb_pure ⟨_, rfl⟩ (de_v0 4) aeb_nil (stk_d (Enc.to _))) (stk_d (Enc.to _))) (stk_d (Enc.to _))) (stk_d (Enc.to _))) stk_ref) rfl (by show _ ≤ 2 ^ 40; omega) hB (fun us H nt p => ⟨⟨deep, chief, bunch, lone⟩, h, tup_args (Ds := [enc deep, enc chief, enc bunch, enc lone]) nt (by simp [tO.tOs, Enc.to]) p, fun v H' p => p⟩) (.skip (.cons (stb_at hB) (.cons (stb_at hB) (.cons (stb_at hB) (.cons (stb_at hB) .nil))))))))
      (tw_or1 (tb_pure (dt_not (k := true) (dt_val (de_call D2 (hr.mono (by omega)) ⟨deep, chief, bunch⟩ (da_cons (de_v0 1) (da_cons (de_v0 2) (da_cons (de_v0 3) da_nil))) h.short))))))) (fun e => nomatch e) fun e => hs_nil fun σ H g => g) ?_
  refine hs_one (h1_retE (M := MB K true) (Γ' := [some (MBox b (n + 5000 + 10)), some ((ME K deep).at BB), some ((ME K chief).at BB), some ((ME K bunch).at BB), some ((ME K lone).at BB)]) (eb_call (Γ := [some (MBox b (n + 5000)), some ((ME K deep).at BB), some ((ME K chief).at BB), some ((ME K bunch).at BB), some ((ME K lone).at BB)]) (Γ' := [some (MBox b (n + 5000)), some ((ME K deep).at BB), some ((ME K chief).at BB), some ((ME K bunch).at BB), some ((ME K lone).at BB)]) (M := MB K true) (Ms := [ME K deep, ME K chief, ME K bunch]) (n := n + 5000) D3 (hr.mono (by omega))
      (aeb_pure ⟨_, rfl⟩ de_ref (aeb_pure ⟨_, rfl⟩ (de_v0 1) (aeb_pure ⟨_, rfl⟩ (de_v0 2) (aeb_pure ⟨_, rfl⟩ (de_v0 3) aeb_nil (stk_d (Enc.to _))) (stk_d (Enc.to _))) (stk_d (Enc.to _))) stk_ref) rfl (by show _ ≤ 2 ^ 40; omega) hB (fun us H nt p => ⟨⟨deep, chief, bunch⟩, h.short, tup_args (Ds := [enc deep, enc chief, enc bunch]) nt (by simp [tO.tOs, Enc.to]) p, fun v H' p => p⟩) (.skip (.cons (stb_at hB) (.cons (stb_at hB) (.cons (stb_at hB) (.cons (stb_at hB) .nil)))))) fun v σ H' g p => ?_)
  obtain ⟨v0, _, hb0⟩ := g.2.get 0 _ rfl
  obtain ⟨rfl, _⟩ := id hb0
  exact ⟨g.1, mbox_le hb0 (by omega), p⟩
end
end K78

-- part KL11
set_option Elab.async false
set_option linter.all false
set_option maxRecDepth 100000
set_option maxHeartbeats 4000000
/-! KL11: _law_case_right, _law_right. -/
namespace K78
open PySem PySem.Spec PyProof.Rows L2
open Evl (Ex ex_t ex_l ex_rd fresh_back)
open Enc (enc)
theorem stb_gone {B : Hp} {b : Addr} {M : MP} : Stb B b (MGone b M) := fun v H H' xb nt k p => stk_gone v H H' nt k p
theorem keys_box {K : PySem.W.Frag} {H : Hp} {ks : KEYS} (x y z : Int) : ¬ DpAll K H [.int x, .int y, .int z] (ks.map enc) := fun h => by
  cases ks with
  | nil => cases h
  | cons k ks =>
    cases h with
    | cons h1 h2 =>
      obtain ⟨a, us, e, _⟩ := dp_tup (show Dp K H (.int x) (.tuple (k.map enc)) from h1)
      cases e
section
variable {X : Cx} {B : Hp} {b : Addr} {Γ Γ' Γ'' : En} {a c e : Expr} {es : List Expr} {M : MP} {Ms : List MP} {pos p : Pos} {R : V → Hp → Prop}
theorem eb_sortK {ψ : KEYS → Prop} {n k : Nat} (hr : Room k X.A) (hm : X.mg "sorted" = none) (hn : 1 ≤ n) (hψ : ∀ ks, ψ ks → ks.length ≤ 100000 ∧ ∀ k ∈ ks, k.length = n) (h : EB X B b Γ e Γ' (MSL X.K (KsP ψ))) (hg : Gl X "sorted" := by rfl) (hs2 : starEach [e] X.env = (false, eval e X.env) :: starEach [] X.env := by rfl) :
    EB X B b Γ (.Call (.Name "sorted" p) [e] [] pos) Γ' (MSL X.K (KsP fun ks' => ∃ ks, ψ ks ∧ ks' = sortE ks)) :=
  eb_callB1 (r := fun vs H Q => ∃ ks : KEYS, ψ ks ∧ rSortD X.K enc ks vs H Q) (fun pins s σ H vs us Q I r ⟨ks, hk, h⟩ => cr_sortD (un65 hr) (PySem.W.AllAlike.of alike_keys) (sortable_keys hn (hψ ks hk).2) (hψ ks hk).1 (fun b _ => Nat.le_trans (Enc.dp b) (by decide)) pins s σ H vs us Q I r h)
    (fun vs H Q pp q => by
      obtain ⟨v, rfl, ds, ⟨ks, rfl, hk⟩, ht, h⟩ := allP1 pp
      exact ⟨ks, hk, v, rfl, .inl h, fun z H' x d => q z H' x ⟨_, ⟨sortE ks, rfl, ks, hk, rfl⟩, encs_to _, d⟩⟩) hm bt_sorted h hg (by decide) (by decide) hs2
theorem aeb_cons (he : EB X B b Γ e Γ' M) (hr : AEB X B b Γ' es Γ'' Ms) (hb : BoxIn b Γ') (hk : StK b M) (hs : starEach (e :: es) X.env = (false, eval e X.env) :: starEach es X.env := by rfl) : AEB X B b Γ (e :: es) Γ'' (M :: Ms) :=
  pa_imp (pa_cons he hr hs) fun σ H Q q => ⟨q.1, fun v H1 x1 g1 p1 => ⟨g1, fun vs H2 x2 g2 p2 => q.2 _ H2 (x1.trans x2) g2 (.cons (hk v H1 H2 (boxin_nt hb g1) x2 p1) p2)⟩⟩
theorem aeb_one (he : DE X (EnvOk Γ) e M) (hs : starEach [e] X.env = (false, eval e X.env) :: starEach [] X.env := by rfl) : AEB X B b Γ [e] Γ [M] :=
  pa_imp (pa_cons he pa_nil hs) fun σ H Q q => ⟨q.1.2, fun v H1 x1 p1 => q.2 [v] H1 (Kp.ex x1) (MG.mono x1 q.1) (.cons p1 .nil)⟩
theorem stk_ex {α : Type} [Enc α] {K : PySem.W.Frag} {φ : α → Prop} : StK b (MEx K φ) := fun v H H' n k ⟨x, hx, p⟩ => ⟨x, hx, stk_d (Enc.to x) v H H' n k p⟩
/-- a, b = x, y; they change the box -/
theorem h1_par2E {M1 M2 : MP} (i j : Nat) {x y : Str} {px py pt : Pos} {kt k2 pt2} (hc : X.calm = true) (hN : X.N.Nodup) (ha : AEB X B b Γ [a, c] Γ' [M1, M2]) (hi : X.N[i]? = some x := by rfl) (hj : X.N[j]? = some y := by rfl) (hij : i ≠ j := by decide)
    (hx : X.env.scope.names.lookup x = some .local := by rfl) (hy : X.env.scope.names.lookup y = some .local := by rfl)
    (hw : swappedStores [.Tuple [.Name x px, .Name y py] kt pt] (.Tuple [a, c] k2 pt2) X.env = pure (some [x, y]) := by rfl)
    (hs : swapsWithSole [.Tuple [.Name x px, .Name y py] kt pt] (.Tuple [a, c] k2 pt2) pos.line X.env = pure false := by rfl) :
    H1 X (GB B Γ) (.Assign [.Tuple [.Name x px, .Name y py] kt pt] (.Tuple [a, c] k2 pt2) pos) (GB B ((Γ'.set i (some M1)).set j (some M2))) R :=
  ps_imp (ps_par hc hN hi hj hij hx hy ha hw hs) fun D σ H q => ⟨q.1, fun vs H' x g p => by
    obtain ⟨v, w, rfl, p1, p2⟩ := allP2 p
    exact ⟨v, w, rfl, q.2.1 _ H' ⟨g.1, (g.2.set i p1).set j p2⟩⟩⟩
end
theorem teethStep_ne {acc : KEYS} {d : Int} (h : acc ≠ []) (hd : 1 ≤ d) : teethStep acc d ≠ [] := fun e => by
  cases acc with
  | nil => exact h rfl
  | cons t acc =>
    have h0 : (0 : Int) ∈ upTo d := upTo_mem.mpr ⟨by omega, by omega⟩
    have : t ++ [(0 : Int)] ∈ teethStep (t :: acc) d := List.mem_flatMap.mpr ⟨t, List.mem_cons_self, List.mem_map.mpr ⟨0, h0, rfl⟩⟩
    rw [e] at this
    cases this
theorem teeth_ne : ∀ (deep : KEY) (acc : KEYS), acc ≠ [] → (∀ d ∈ deep, 1 ≤ d) → deep.foldl teethStep acc ≠ []
  | [], acc, h, _ => h
  | d :: deep, acc, h, hd => teeth_ne deep (teethStep acc d) (teethStep_ne h (hd d List.mem_cons_self)) fun x hx => hd x (List.mem_cons_of_mem _ hx)
theorem teeth_lenA : ∀ (deep : KEY) (acc : KEYS), (∀ d ∈ deep, 0 ≤ d ∧ d ≤ 4) → (deep.foldl teethStep acc).length ≤ acc.length * 4 ^ deep.length
  | [], acc, _ => by simp
  | d :: deep, acc, hd => by
    have h1 := teeth_lenA deep (teethStep acc d) fun x hx => hd x (List.mem_cons_of_mem _ hx)
    have h2 := teethStep_len (acc := acc) (hd d List.mem_cons_self)
    refine Nat.le_trans h1 (Nat.le_trans (Nat.mul_le_mul_right _ h2) ?_)
    rw [List.length_cons, Nat.pow_succ, Nat.mul_assoc, Nat.mul_comm 4]
    exact Nat.le_refl _
theorem perm_map_enc {α : Type} [Enc α] : ∀ {l : List α} {ds : List PyData}, (∀ d ∈ ds, d ∈ l.map enc) → ∃ l' : List α, ds = l'.map enc ∧ ∀ x ∈ l', x ∈ l
  | _, [], _ => ⟨[], rfl, by simp⟩
  | l, d :: ds, h => by
    obtain ⟨x, hx, rfl⟩ := List.mem_map.mp (h d List.mem_cons_self)
    obtain ⟨l', rfl, h2⟩ := perm_map_enc (l := l) (ds := ds) fun d hd => h d (List.mem_cons_of_mem _ hd)
    refine ⟨x :: l', rfl, fun y hy => ?_⟩
    rcases List.mem_cons.mp hy with rfl | hy
    · exact hx
    · exact h2 y hy
section
variable {P : Program} {w : World} {K : PySem.W.Frag} {mg : Str → Option Value} {base : Heap}
def sp_case (K : PySem.W.Frag) : Sp := spB (fun _ : Unit => True) 8000 (fun _ => []) (fun _ => MB K true)
theorem ok_case (T : Tx K mg) : DefOk P w K mg base "_law_case_right" 10 (sp_case K) := by
  obtain ⟨f, fd, F, hg⟩ := at__law_case_right T
  have B := T.bl
  have D0 := ok_deep (P := P) (w := w) (base := base) T
  have D1 := ok_chief (P := P) (w := w) (base := base) T
  have D2 := ok_quiet (P := P) (w := w) (base := base) T
  have D3 := ok_teeth (P := P) (w := w) (base := base) T
  have D4 := ok_take (P := P) (w := w) (base := base) T
  have D5 := ok_pick (P := P) (w := w) (base := base) T
  have D6 := ok_whole (P := P) (w := w) (base := base) T
  refine fn_box F sc__law_case_right hg (fun _ => rfl) (fun _ _ _ _ _ _ us hl => match us, hl with | [_], _ => rfl) fun f cdv A outer s H E a BB b n hr hp hB hn => ?_
  have hn : n + 8000 ≤ 2 ^ 40 := hn
  show HS _ (GB BB [some (MBox b n), none, none, none, none]) _ _ _
  refine hs_cons (N' := fun σ H => ∃ deep : KEY, DeepOk deep ∧ GB BB [some (MBox b (n + 10)), some (ME K deep), none, none, none] σ H) (h1_post (h1_setE 1 sc__law_case_right.nd (eb_call (Γ := [some (MBox b n), none, none, none, none]) (Γ' := [some (MBox b n), none, none, none, none]) (M := MEx K DeepOk) (Ms := [MI K 4, MI K 4]) (n := n) D0 (hr.mono (by omega)) (aeb_pure ⟨_, rfl⟩ de_ref (aeb_pure ⟨_, rfl⟩ de_int (aeb_pure ⟨_, rfl⟩ de_int aeb_nil (stk_d rfl)) (stk_d rfl)) stk_ref) rfl (by show _ ≤ 2 ^ 40; omega) hB (fun us H nt p => ⟨(), trivial, tup_args (Ds := [.int 4, .int 4]) nt rfl p, fun v H' p => p⟩) (.skip (.skip (.skip (.skip (.skip .nil))))))) fun σ H g => gb_ex (i := 1) (Γ := [some (MBox b (n + 10)), none, none, none, none]) (by show 1 < 5; omega) g) (hs_ex fun deep => hs_pure fun hd => ?_)
  refine hs_cons (N' := fun σ H => ∃ chief : KEYS, ChiefOk deep chief ∧ GB BB [some (MBox b (n + 10 + 50)), some (ME K deep), some (ME K chief), none, none] σ H) (h1_post (h1_setE 2 sc__law_case_right.nd (eb_call (Γ := [some (MBox b (n + 10)), some (ME K deep), none, none, none]) (Γ' := [some (MBox b (n + 10)), some (ME K deep), none, none, none]) (M := MEx K (ChiefOk deep)) (Ms := [ME K deep, MI K 3]) (n := n + 10) D1 (hr.mono (by omega)) (aeb_pure ⟨_, rfl⟩ de_ref (aeb_pure ⟨_, rfl⟩ (de_v 1) (aeb_pure ⟨_, rfl⟩ de_int aeb_nil (stk_d rfl)) (stk_d (Enc.to _))) stk_ref) rfl (by show _ ≤ 2 ^ 40; omega) hB (fun us H nt p => ⟨deep, hd, tup_args (Ds := [enc deep, .int 3]) nt (by simp [tO.tOs, tO, Enc.to]) p, fun v H' p => p⟩) (.skip (.cons (stb_d (Enc.to _)) (.skip (.skip (.skip .nil))))))) fun σ H g => gb_ex (i := 2) (Γ := [some (MBox b (n + 10 + 50)), some (ME K deep), none, none, none]) (by show 2 < 5; omega) g) (hs_ex fun chief => hs_pure fun hc => ?_)
  have hd4 : ∀ d ∈ deep, 0 ≤ d ∧ d ≤ 4 := fun d hd' => by have := hd.2.2 d hd'; omega
  have htn : teethL deep ≠ [] := teeth_ne deep [[]] (by simp) fun d hd' => by have := hd.2.2 d hd'; omega
  have htl : (teethL deep).length ≤ 256 := by
    have h1 := teeth_lenA deep [[]] hd4
    have h2 : 4 ^ deep.length ≤ 4 ^ 4 := Nat.pow_le_pow_right (by decide) hd.2.1
    have h3 : (teethL deep).length ≤ 1 * 4 ^ deep.length := h1
    omega
  refine hs_cons (N' := fun σ H => ∃ bunch : KEYS, BunchOk deep 4 bunch ∧ GB BB [some (MBox b (n + 10 + 50 + 100)), some (ME K deep), some (ME K chief), some (ME K bunch), some (MGone b (MP.d K (.list ((teethL deep).map enc))))] σ H) (h1_post (h1_par2E 3 4 (Γ' := [some (MBox b (n + 10 + 50 + 100)), some (ME K deep), some (ME K chief), none, none]) (M1 := MEx K (BunchOk deep 4)) (M2 := MGone b (MP.d K (.list ((teethL deep).map enc)))) rfl sc__law_case_right.nd (aeb_cons (Γ' := [some (MBox b (n + 10 + 50 + 100)), some (ME K deep), some (ME K chief), none, none]) (eb_call (Γ := [some (MBox b (n + 10 + 50)), some (ME K deep), some (ME K chief), none, none]) (Γ' := [some (MBox b (n + 10 + 50)), some (ME K deep), some (ME K chief), none, none]) (M := MEx K (BunchOk deep 4)) (Ms := [ME K deep, ME K chief, MI K 4]) (n := n + 10 + 50) D2 (hr.mono (by omega)) (aeb_pure ⟨_, rfl⟩ de_ref (aeb_pure ⟨_, rfl⟩ (de_v 1) (aeb_pure ⟨_, rfl⟩ (de_v 2) (aeb_pure ⟨_, rfl⟩ de_int aeb_nil (stk_d rfl)) (stk_d (Enc.to _))) (stk_d (Enc.to _))) stk_ref) rfl (by show _ ≤ 2 ^ 40; omega) hB (fun us H nt p => ⟨⟨deep, chief⟩, ⟨hd, hc⟩, tup_args (Ds := [enc deep, enc chief, .int 4]) nt (by simp [tO.tOs, tO, Enc.to]) p, fun v H' p => p⟩) (.skip (.cons (stb_d (Enc.to _)) (.cons (stb_d (Enc.to _)) (.skip (.skip .nil))))))
      (aeb_one (de_gone ⟨_, rfl⟩ (fun H x y z hy => keys_box x y z) (encs_to _) (de_call D3 (hr.mono (by omega)) deep (da_cons (de_v 1) da_nil) ⟨hd.2.1, hd4⟩))) ⟨_, rfl⟩ stk_ex)) fun σ H g => ?bu) (hs_ex fun bunch => hs_pure fun hb => ?_)
  case bu =>
    obtain ⟨v3, ev3, bunch, hb, pv⟩ := g.2.get 3 _ rfl
    refine ⟨bunch, hb, g.1, ⟨g.2.len, fun j M e => ?_⟩⟩
    match j, e with
    | 3, e => cases e; exact ⟨_, ev3, pv⟩
    | 0, e => exact g.2.get 0 M e
    | 1, e => exact g.2.get 1 M e
    | 2, e => exact g.2.get 2 M e
    | 4, e => exact g.2.get 4 M e
    | j + 5, e => exact g.2.get (j + 5) M e
  have hst : ∀ m, AllS (Stb BB b) (List.set [some (MBox b m), some (ME K deep), some (ME K chief), some (ME K bunch), some (MGone b (MP.d K (.list ((teethL deep).map enc))))] 0 none) := fun m => .skip (.cons (stb_d (Enc.to _)) (.cons (stb_d (Enc.to _)) (.cons (stb_d (Enc.to _)) (.cons stb_gone .nil))))
  refine hs_one (h1_retE (M := MB K true) (Γ' := [some (MBox b (n + 10 + 50 + 100 + 1 + 1000 + 6000)), some (ME K deep), some (ME K chief), some (ME K bunch), some (MGone b (MP.d K (.list ((teethL deep).map enc))))]) (eb_call (Γ := [some (MBox b (n + 10 + 50 + 100)), some (ME K deep), some (ME K chief), some (ME K bunch), some (MGone b (MP.d K (.list ((teethL deep).map enc))))]) (Γ' := [some (MBox b (n + 10 + 50 + 100 + 1 + 1000)), some (ME K deep), some (ME K chief), some (ME K bunch), some (MGone b (MP.d K (.list ((teethL deep).map enc))))]) (M := MB K true) (Ms := [ME K deep, ME K chief, ME K bunch, MEx K (BunchOk deep 6)]) (n := n + 10 + 50 + 100 + 1 + 1000) D6 (hr.mono (by omega))
    (aeb_pure ⟨_, rfl⟩ de_ref (aeb_pure ⟨_, rfl⟩ (de_v 1) (aeb_pure ⟨_, rfl⟩ (de_v 2) (aeb_pure ⟨_, rfl⟩ (de_v 3) (aeb_last (eb_cast (eb_tupleS B.tuple (eb_sortK (ψ := BunchOk deep 6) (n := deep.length) hr B.sorted hd.1 (fun ks h => ⟨by have := h.1; omega, fun k hk => (h.2 k hk).1⟩)
      (eb_call (Γ := [some (MBox b (n + 10 + 50 + 100)), some (ME K deep), some (ME K chief), some (ME K bunch), some (MGone b (MP.d K (.list ((teethL deep).map enc))))]) (Γ' := [some (MBox b (n + 10 + 50 + 100 + 1)), some (ME K deep), some (ME K chief), some (ME K bunch), some (MGone b (MP.d K (.list ((teethL deep).map enc))))]) (M := MSL K (KsP (BunchOk deep 6))) (Ms := [MGone b (MP.d K (.list ((teethL deep).map enc))), MSat K (dig 6)]) (n := n + 10 + 50 + 100 + 1) D5 (hr.mono (by omega))
        (aeb_pure ⟨_, rfl⟩ de_ref (aeb_pure ⟨_, rfl⟩ (de_v 4) (aeb_last (eb_call (Γ := [some (MBox b (n + 10 + 50 + 100)), some (ME K deep), some (ME K chief), some (ME K bunch), some (MGone b (MP.d K (.list ((teethL deep).map enc))))]) (Γ' := [some (MBox b (n + 10 + 50 + 100)), some (ME K deep), some (ME K chief), some (ME K bunch), some (MGone b (MP.d K (.list ((teethL deep).map enc))))]) (M := MSat K (dig 6)) (Ms := [MI K 6]) (n := n + 10 + 50 + 100) D4 (hr.mono (by omega)) (aeb_pure ⟨_, rfl⟩ de_ref (aeb_pure ⟨_, rfl⟩ de_int aeb_nil (stk_d rfl)) stk_ref) rfl (by show _ ≤ 2 ^ 40; omega) hB (take_arg ⟨by decide, by decide⟩) (hst _))) stk_gone) stk_ref) rfl (by show _ ≤ 2 ^ 40; omega) hB ?pick (hst _)))) ?cast)) (stk_d (Enc.to _))) (stk_d (Enc.to _))) (stk_d (Enc.to _))) stk_ref) rfl (by show _ ≤ 2 ^ 40; omega) hB ?whole (hst _)) fun v σ H' g p => ?fin)
  case cast =>
    rintro v H ⟨ds, ⟨ks', rfl, ks, hks, rfl⟩, ht, pv⟩
    exact ⟨sortE ks, ⟨by rw [sortE_len]; exact hks.1, fun k hk => hks.2 k (sortE_mem.mp hk)⟩, pv⟩
  case whole =>
    intro us H nt p
    cases p with
    | cons p1 p =>
      cases p with
      | cons p2 p =>
        cases p with
        | cons p3 p =>
          cases p with
          | cons p4 p =>
            cases p
            obtain ⟨lone, hl, p4⟩ := p4
            exact ⟨⟨deep, chief, bunch, lone⟩, ⟨hd, hc, hb, hl⟩, tup_args (Ds := [enc deep, enc chief, enc bunch, enc lone]) nt (by simp [tO.tOs, tO, Enc.to]) (.cons p1 (.cons p2 (.cons p3 (.cons p4 .nil)))), fun v H' p => p⟩
  case pick =>
    intro us H nt p
    cases p with
    | cons p1 p =>
      cases p with
      | cons p2 p =>
        cases p
        obtain ⟨_, ⟨i, rfl, hi0, hi6⟩, _, p2⟩ := p2
        refine ⟨⟨(teethL deep).map enc, i⟩, ⟨fun e => htn (List.map_eq_nil_iff.mp e), encs_to _, by show ((teethL deep).map enc).length ≤ 1000; rw [List.length_map]; omega, hi0⟩, .cons p1 (.cons (std_d rfl _ _ nt p2) .nil), ?_⟩
        rintro v H' ⟨ds', ⟨rest, hpm, hlen⟩, ht, pv⟩
        obtain ⟨ks, rfl, hks⟩ := perm_map_enc (l := teethL deep) (ds := ds') fun d hd => hpm.mem_iff.mp (List.mem_append_left _ hd)
        refine ⟨_, ⟨ks, rfl, ?_, fun k hk => m_teeth hd k (hks k hk)⟩, ht, pv⟩
        rw [List.length_map] at hlen
        have hlen : ks.length = min i.toNat ((teethL deep).map enc).length := hlen
        omega
  case fin =>
    obtain ⟨v0, _, hb0⟩ := g.2.get 0 _ rfl
    obtain ⟨rfl, _⟩ := id hb0
    exact ⟨g.1, mbox_le hb0 (by omega), p⟩
end
end K78

-- part KL12
set_option Elab.async false
set_option linter.all false
set_option maxRecDepth 100000
set_option maxHeartbeats 4000000
/-! KL12: _law_right, _law_by_hand_right. -/
namespace K78
open PySem PySem.Spec PyProof.Rows L2
open Evl (Ex ex_t ex_l ex_rd fresh_back)
open Enc (enc)
def isT {β : Type} (_ : β) (d : PyData) : Prop := d = .bool true
theorem paired_true {β : Type} : ∀ {zs : List β} {ds : List PyData}, Paired isT zs ds → ds = (zs.map fun _ => true).map .bool
  | _, _, .nil => rfl
  | _, _, .cons h1 h2 => by
    cases h1
    rw [paired_true h2]
    rfl
section
variable {X : Cx} {B : Hp} {b : Addr} {Γ Γ' Γ'' : En} {a c e : Expr} {es : List Expr} {M : MP} {Ms : List MP} {pos p : Pos} {R : V → Hp → Prop}
/-- all(..) of true things -/
theorem eb_allT {β : Type} {zs : List β} (hc : X.calm = true) (hm : X.mg "all" = none) (h : EB X B b Γ e Γ' (MLx X.K isT zs)) (hg : Gl X "all" := by rfl) (hs2 : starEach [e] X.env = (false, eval e X.env) :: starEach [] X.env := by rfl) :
    EB X B b Γ (.Call (.Name "all" p) [e] [] pos) Γ' (MB X.K true) :=
  eb_callB1 (cr_all hc) (fun vs H Q pp q => by
    obtain ⟨v, rfl, ds, hd, ht, h⟩ := allP1 pp
    have e := paired_true hd
    subst e
    refine cv_all [v] H Q (.cons h .nil) fun z H' x d => q z H' x ?_
    have e2 : (zs.map fun _ => true).all id = true := by
      rw [List.all_map, List.all_eq_true]
      intro _ _
      rfl
    rw [e2] at d
    exact d) hm bt_all h hg (by decide) (by decide) hs2
theorem itb_list {tg : Expr} {ds : List PyData} (h : DE X (EnvOk Γ) e (MGone b (MP.d X.K (.list ds)))) : PI X tg e (iTb X.K B b Γ Γ ds) :=
  pi_imp (pi_list h) fun σ H R q => ⟨q.1.2, fun v H1 x1 p1 => by
    obtain ⟨a, us, rfl, hq, hd⟩ := dp_lst (show Dp X.K (del b H1) v (.list ds) from p1)
    refine ⟨a, rfl, ⟨us, ex_l del_ex hq⟩, ?_⟩
    have hl := hd.length
    refine q.2 _ H1 (fun H2 => Ex (del b H1) H2) (YAt us) (Kp.ex x1) (MG.mono x1 q.1) (fun H2 k _ => fun a u e => ?_) del_ex (by rw [← hl]; exact walk_list.mono (fun H z => ex_l z hq) (fun i H x H' _ _ y => y)) fun i H2 x H3 z y => ?_
    · by_cases h : a = b
      · subst h; rw [del_self] at e; cases e
      · rw [del_ne h] at e
        exact k a u h e
    · obtain ⟨rfl, hx⟩ := y
      obtain ⟨d, e1, p⟩ := (DpAll.mono z _ _ hd).get hx
      exact ⟨d, e1, Ex.refl _, p⟩⟩
/-- a, b = x, y, by way of a tuple -/
theorem h1_asgT2 {M1 M2 : MP} (i j : Nat) {tx ty : Expr} {kt pt k2 pt2} (hc : X.calm = true) (ha : DE X (GB B Γ) a M1) (hb : DE X (GB B Γ) c M2) (hg : PGs X [tx, ty] (gNs [i, j]))
    (hn : (assignEach [tx, ty] X.env).length = 2 := by rfl) (hst : (assignEach [tx, ty] X.env).findIdx? (·.1) = none := by rfl)
    (hs : swapsWithSole [.Tuple [tx, ty] kt pt] (.Tuple [a, c] k2 pt2) pos.line X.env = pure false := by rfl) (hw : swappedStores [.Tuple [tx, ty] kt pt] (.Tuple [a, c] k2 pt2) X.env = pure none := by rfl) (h1 : (assignEach [.Tuple [tx, ty] kt pt] X.env).map (·.2) = [assign (.Tuple [tx, ty] kt pt) X.env] := by rfl)
    (hs1 : starEach [a, c] X.env = (false, eval a X.env) :: starEach [c] X.env := by rfl) (hs2 : starEach [c] X.env = (false, eval c X.env) :: starEach [] X.env := by rfl) :
    H1 X (GB B Γ) (.Assign [.Tuple [tx, ty] kt pt] (.Tuple [a, c] k2 pt2) pos) (GB B ((Γ.set i (some M1)).set j (some M2))) R :=
  ps_imp (ps_asg (pe_tup (da_cons ha (da_cons hb da_nil hs2) hs1)) (pg_tup (n := 2) hc hg hn hst) hs hw h1) fun D σ H q => ⟨q.1, fun vs H' x p => by
    obtain ⟨v, u, rfl, p1, p2⟩ := allP2 p
    refine ⟨sz3 (show (2 : Nat) ≤ 100000 by decide), fun l hl => ⟨l, [v, u], rfl, .inl (.inl upd_same), rfl, v, [u], rfl, ?_⟩⟩
    refine ⟨u, [], rfl, rfl, ?_⟩
    have x' : Ex H (upd H' l (.tup [v, u])) := x.trans (Ex.new hl)
    exact q.2.1 _ _ ⟨q.1.1.trans x', ((MG.mono x' q.1.2).set i (M1.mono (Ex.new hl) p1)).set j (M2.mono (Ex.new hl) p2)⟩⟩
end
def hand : List A_dcbl := [⟨[3, 3], [[0, 0]], [[1, 0]], [[1, 1], [2, 1]]⟩, ⟨[4, 3], [[0, 0], [1, 0]], [[0, 1], [2, 0]], []⟩, ⟨[4, 4], [[0, 0], [1, 1]], [[2, 0]], [[3, 3]]⟩, ⟨[4, 4], [[0, 0], [1, 1]], [], [[0, 1]]⟩]
instance {deep k : KEY} : Decidable (KeyIn deep k) := by unfold KeyIn; exact inferInstance
instance {deep : KEY} : Decidable (DeepOk deep) := by unfold DeepOk; exact inferInstance
instance {deep : KEY} {ks : KEYS} : Decidable (ChiefOk deep ks) := by unfold ChiefOk; exact inferInstance
instance {deep : KEY} {m : Nat} {ks : KEYS} : Decidable (BunchOk deep m ks) := by unfold BunchOk; exact inferInstance
theorem hand_ok : ∀ a ∈ hand, Legit a.deep a.chief a.bunch a.lone := fun a ha => by
  have : DeepOk a.deep ∧ ChiefOk a.deep a.chief ∧ BunchOk a.deep 4 a.bunch ∧ BunchOk a.deep 6 a.lone := by
    revert a
    decide
  exact ⟨this.1, this.2.1, this.2.2.1, this.2.2.2⟩
def caseD (z : A_dcbl) : PyData := .tuple [enc z.deep, enc z.chief, enc z.bunch, enc z.lone]
section
variable {P : Program} {w : World} {K : PySem.W.Frag} {mg : Str → Option Value} {base : Heap}
def sp_right (K : PySem.W.Frag) : Sp := spB (fun _ : Unit => True) 50000 (fun _ => []) (fun _ => MB K true)
theorem ok_right (T : Tx K mg) : DefOk P w K mg base "_law_right" 11 (sp_right K) := by
  obtain ⟨f, fd, F, hg⟩ := at__law_right T
  have B := T.bl
  have D := ok_case (P := P) (w := w) (base := base) T
  refine fn_box F sc__law_right hg (fun _ => rfl) (fun _ _ _ _ _ _ us hl => match us, hl with | [_], _ => rfl) fun f cdv A outer s H E a BB b n hr hp hB hn => ?_
  have hn : n + 50000 ≤ 2 ^ 40 := hn
  refine hs_one (h1_retE (M := MB K true) (Γ' := [some (MBox b (n + (List.range 6).length * 8000)), none]) (eb_allT rfl B.all (zs := List.range 6) (EC.eb (ec_lc (Γ0 := [some (MBox b n), none]) (Γ := [some (MBox b n), none]) (n := n) (c := 8000) (List.range 6) enc isT (fun i k => [some (MBox b (n + i * 8000)), some (ME K k)]) (fun i k => [some (MBox b (n + i * 8000 + 8000)), some (ME K k)]) [("_law_turn", 1)] rfl sc__law_right.nd rfl hB
    (itb_of (dt_range (n := 6) B.range (de_gb de_int) (by decide))) (blkOk_by (N := ["_law_box_here", "_law_turn"]) (sc := defScope s__law_right) (by decide +kernel)) (fun _ _ _ _ _ => pg_name (i := 1) sc__law_right.nd rfl (by first | exact Or.inl rfl | exact Or.inr rfl)) (.skip (.skip .nil)) (fun i d hd => tg_name) (fun i k hk _ _ _ _ _ => ?el) (fun i d hd => by show some (some (MBox b (n + i * 8000 + 8000))) = _; rw [Nat.add_mul, Nat.add_assoc]) (by decide)))) fun v σ H' g p => ?fin)
  case el =>
    have hil : i < 6 := by have := (List.getElem?_eq_some_iff.mp hk).1; simpa using this
    exact eb_cast (eb_call (Γ := [some (MBox b (n + i * 8000)), some (ME K k)]) (Γ' := [some (MBox b (n + i * 8000)), some (ME K k)]) (M := MB K true) (Ms := []) (n := n + i * 8000) D hr (aeb_pure ⟨_, rfl⟩ de_ref aeb_nil stk_ref) rfl (by show _ ≤ 2 ^ 40; omega) hB (fun us H nt p => ⟨(), trivial, by cases p; exact .nil, fun v H' p => p⟩) (.skip (.cons (stb_d rfl) .nil))) (fun v H p => ⟨.bool true, rfl, rfl, p⟩)
  case fin =>
    obtain ⟨v0, _, hb0⟩ := g.2.get 0 _ rfl
    obtain ⟨rfl, _⟩ := id hb0
    exact ⟨g.1, mbox_le hb0 (by rw [List.length_range]; omega), p⟩
theorem wo_hand3 : Wo (aB [4, 4] [[0, 0], [0, 1], [1, 0], [1, 1]] []) := by
  refine ⟨?_, by decide, ⟨rfl, by decide⟩, by simp [aB], by decide⟩
  show Wc 2 _
  unfold Wc
  decide
theorem fn_H {x : Str} {st : Stmt} {f : Addr} {fd : FuncData} {N ps : List Str} {k : Nat} {α : Type} {pre : α → Prop} {args : α → List MP} {res : α → MP} (F : FnP K x st f fd) (S : FnScope N ps (defScope st)) (hg : mg x = some (.ref f)) (len : ∀ a, (args a).length = ps.length)
    (hb : ∀ (kV doc pm : Value) (an : Option Addr) (cdv ct : Value) (us : List Value), us.length = ps.length → bindArgs (PySem.W.fnOf x x (defArgs st) (defBody st) (defScope st) .none kV doc pm an cdv ct) ⟨us, []⟩ = pure (ps.zip us))
    (body : ∀ (f : Addr) (cdv : Value) (A : Around) (outer : List Env) (s : Shared) (H : Hp) (E : XK) (a : α), Room k (A.deeper (envOfC x (defScope st) s.heap.objs.size f cdv)) → pre a →
      HS (cxOf CX0 P w K mg base N x (defScope st) f cdv A outer s H E).nox (GB H (startG N (args a))) (defBody st) (fun _ _ => False) (fun v H' => Ex H H' ∧ (res a).P v H')) : DefOk P w K mg base x (k + 1) (spM pre args res) :=
  fn_raw F S hg (fun vs H Q E ⟨a, _, p, _⟩ => by rw [p.length, len a]) hb fun f cdv A outer s H E vs Q hr ⟨a, hp, p, q⟩ =>
    ⟨_, body f cdv A outer s H E a hr hp, ⟨Ex.refl _, EnvOk.start p⟩, fun _ _ z => z.elim, fun v H' ⟨x, r⟩ => q v H' x r⟩
def pairK : KEYS := [[0, 0], [1, 1]]
def sp_hand (K : PySem.W.Frag) : Sp := spM (fun _ : Unit => True) (fun _ => []) (fun _ => MB K true)
theorem ok_hand (T : Tx K mg) : DefOk P w K mg base "_law_by_hand_right" 10 (sp_hand K) := by
  obtain ⟨f, fd, F, hg⟩ := at__law_by_hand_right T
  have B := T.bl
  have D := ok_whole (P := P) (w := w) (base := base) T
  have D3 := ok_how_many_harmless (P := P) (w := w) (base := base) T
  have D4 := ok_same (P := P) (w := w) (base := base) T 1
  refine fn_H F sc__law_by_hand_right hg (fun _ => rfl) (fun _ _ _ _ _ _ us hl => match us, hl with | [], _ => rfl) fun f cdv A outer s BB E a hr hp => ?_
  show HS _ (GB BB [none, none, none, none, none, none, none, none]) _ _ _
  refine hs_cons (N' := fun σ H => ∃ b, BB b = none ∧ GB BB [some (MBox b (0)), some (ME K pairK), none, none, none, none, none, none] σ H) (h1_post (h1_asgT2 (M1 := MNewL K BB [.int 0, .int 33, .int 0]) (M2 := ME K pairK) 0 1 rfl (de_newL [.int 0, .int 33, .int 0] (da_cons de_int (da_cons de_int (da_cons de_int da_nil)))) (de_gb (de_tup [enc ([0, 0] : KEY), enc ([1, 1] : KEY)] (da_cons (de_tup [enc (0 : Int), enc (0 : Int)] (da_cons de_int (da_cons de_int da_nil))) (da_cons (de_tup [enc (1 : Int), enc (1 : Int)] (da_cons de_int (da_cons de_int da_nil))) da_nil))))
    (pgs_cons (pg_name (i := 0) sc__law_by_hand_right.nd rfl (by first | exact Or.inl rfl | exact Or.inr rfl)) (pgs_cons (pg_name (i := 1) sc__law_by_hand_right.nd rfl (by first | exact Or.inl rfl | exact Or.inr rfl)) pgs_nil))) fun σ H g => ?nb) (hs_ex fun b => hs_pure fun hB => ?_)
  case nb =>
    obtain ⟨v0, ev0, b, hb, rfl, us, hH, hd⟩ := g.2.get 0 _ rfl
    have e := DpAll.ints (ns := [0, 33, 0]) hd
    subst e
    refine ⟨b, hb, g.1, ⟨g.2.len, fun j M e => ?_⟩⟩
    match j, e with
    | 0, e => cases e; exact ⟨_, ev0, rfl, 0, 33, 0, hH, by decide, by decide, by decide⟩
    | j + 1, e => exact g.2.get (j + 1) M e
  have hneq : ∀ H x y z, 33 ≤ y → ¬ DpAll K H [.int x, .int y, .int z] (hand.map caseD) := fun H x y z _ h => by
    cases h with
    | cons h1 h2 =>
      obtain ⟨a, us, e, _⟩ := dp_tup h1
      cases e
  refine hs_cons (h1_of (Γ' := [some (MBox b (0)), some (ME K pairK), some (MGone b (MP.d K (.list (hand.map caseD)))), none, none, none, none, none]) (d1_set 2 sc__law_by_hand_right.nd (de_gone ⟨_, rfl⟩ hneq (by simp [tO.tOs, tO, caseD, Enc.to, hand]) (DE.to (de_lst (hand.map caseD) (da_cons (de_tup [enc ([3, 3] : KEY), enc ([[0, 0]] : KEYS), enc ([[1, 0]] : KEYS), enc ([[1, 1], [2, 1]] : KEYS)] (da_cons (de_tup [enc (3 : Int), enc (3 : Int)] (da_cons de_int (da_cons de_int da_nil))) (da_cons (de_tup [enc ([0, 0] : KEY)] (da_cons (de_tup [enc (0 : Int), enc (0 : Int)] (da_cons de_int (da_cons de_int da_nil))) da_nil)) (da_cons (de_tup [enc ([1, 0] : KEY)] (da_cons (de_tup [enc (1 : Int), enc (0 : Int)] (da_cons de_int (da_cons de_int da_nil))) da_nil)) (da_cons (de_tup [enc ([1, 1] : KEY), enc ([2, 1] : KEY)] (da_cons (de_tup [enc (1 : Int), enc (1 : Int)] (da_cons de_int (da_cons de_int da_nil))) (da_cons (de_tup [enc (2 : Int), enc (1 : Int)] (da_cons de_int (da_cons de_int da_nil))) da_nil))) da_nil))))) (da_cons (de_tup [enc ([4, 3] : KEY), enc ([[0, 0], [1, 0]] : KEYS), enc ([[0, 1], [2, 0]] : KEYS), enc ([] : KEYS)] (da_cons (de_tup [enc (4 : Int), enc (3 : Int)] (da_cons de_int (da_cons de_int da_nil))) (da_cons (de_tup [enc ([0, 0] : KEY), enc ([1, 0] : KEY)] (da_cons (de_tup [enc (0 : Int), enc (0 : Int)] (da_cons de_int (da_cons de_int da_nil))) (da_cons (de_tup [enc (1 : Int), enc (0 : Int)] (da_cons de_int (da_cons de_int da_nil))) da_nil))) (da_cons (de_tup [enc ([0, 1] : KEY), enc ([2, 0] : KEY)] (da_cons (de_tup [enc (0 : Int), enc (1 : Int)] (da_cons de_int (da_cons de_int da_nil))) (da_cons (de_tup [enc (2 : Int), enc (0 : Int)] (da_cons de_int (da_cons de_int da_nil))) da_nil))) (da_cons (de_tup [] da_nil) da_nil))))) (da_cons (de_tup [enc ([4, 4] : KEY), enc pairK, enc ([[2, 0]] : KEYS), enc ([[3, 3]] : KEYS)] (da_cons (de_tup [enc (4 : Int), enc (4 : Int)] (da_cons de_int (da_cons de_int da_nil))) (da_cons (de_v 1) (da_cons (de_tup [enc ([2, 0] : KEY)] (da_cons (de_tup [enc (2 : Int), enc (0 : Int)] (da_cons de_int (da_cons de_int da_nil))) da_nil)) (da_cons (de_tup [enc ([3, 3] : KEY)] (da_cons (de_tup [enc (3 : Int), enc (3 : Int)] (da_cons de_int (da_cons de_int da_nil))) da_nil)) da_nil))))) (da_cons (de_tup [enc ([4, 4] : KEY), enc pairK, enc ([] : KEYS), enc ([[0, 1]] : KEYS)] (da_cons (de_tup [enc (4 : Int), enc (4 : Int)] (da_cons de_int (da_cons de_int da_nil))) (da_cons (de_v 1) (da_cons (de_tup [] da_nil) (da_cons (de_tup [enc ([0, 1] : KEY)] (da_cons (de_tup [enc (0 : Int), enc (1 : Int)] (da_cons de_int (da_cons de_int da_nil))) da_nil)) da_nil))))) da_nil))))) rfl)))) ?_
  refine hs_cons (N' := GB BB [some (MBox b (0 + hand.length * 6000)), some (ME K pairK), some (MGone b (MP.d K (.list (hand.map caseD)))), none, none, none, none, none]) (h1_ifE (Γ' := [some (MBox b (0 + hand.length * 6000)), some (ME K pairK), some (MGone b (MP.d K (.list (hand.map caseD)))), none, none, none, none, none]) (k := false) (tb_not (k := true) (tb_val (eb_allT rfl B.all (zs := hand) (EC.eb (ec_lc (Γ0 := [some (MBox b (0)), some (ME K pairK), some (MGone b (MP.d K (.list (hand.map caseD)))), none, none, none, none, none]) (Γ := [some (MBox b (0)), some (ME K pairK), some (MGone b (MP.d K (.list (hand.map caseD)))), none, none, none, none, none]) (n := 0) (c := 6000) hand caseD isT (fun i z => [some (MBox b (0 + i * 6000)), some (ME K pairK), some (MGone b (MP.d K (.list (hand.map caseD)))), some (ME K z.deep), some (ME K z.chief), some (ME K z.bunch), some (ME K z.lone), none]) (fun i z => [some (MBox b (0 + i * 6000 + 6000)), some (ME K pairK), some (MGone b (MP.d K (.list (hand.map caseD)))), some (ME K z.deep), some (ME K z.chief), some (ME K z.bunch), some (ME K z.lone), none]) [("_law_deep_here", 3), ("_law_chief_here", 4), ("_law_bunch", 5), ("_law_lone_so", 6)] rfl sc__law_by_hand_right.nd rfl hB
    (itb_list (de_v 2)) (blkOk_by (N := ["_law_box_here", "_law_pair_so", "_law_cases_so", "_law_deep_here", "_law_chief_here", "_law_bunch", "_law_lone_so", "_law_got"]) (sc := defScope s__law_by_hand_right) (by decide +kernel)) (fun _ _ _ _ _ => pg_tup rfl (pgs_cons (pg_name (i := 3) sc__law_by_hand_right.nd rfl (by first | exact Or.inl rfl | exact Or.inr rfl)) (pgs_cons (pg_name (i := 4) sc__law_by_hand_right.nd rfl (by first | exact Or.inl rfl | exact Or.inr rfl)) (pgs_cons (pg_name (i := 5) sc__law_by_hand_right.nd rfl (by first | exact Or.inl rfl | exact Or.inr rfl)) (pgs_cons (pg_name (i := 6) sc__law_by_hand_right.nd rfl (by first | exact Or.inl rfl | exact Or.inr rfl)) pgs_nil))))) (.skip (.cons (stb_d (Enc.to _)) (.cons stb_gone (.skip (.skip (.skip (.skip (.skip .nil)))))))) (fun i z hz => tg_tup (js := [3, 4, 5, 6]) (ds := [enc z.deep, enc z.chief, enc z.bunch, enc z.lone]) rfl) (fun i z hz _ _ _ _ _ => ?el) (fun i d hd => by show some (some (MBox b (0 + i * 6000 + 6000))) = _; rw [Nat.add_mul, Nat.add_assoc]) (by decide)))))) (fun e => nomatch e) fun e => hs_nil fun σ H g => g) ?_
  case el =>
    have hil : i < 4 := (List.getElem?_eq_some_iff.mp hz).1
    have h := hand_ok z (List.mem_of_getElem? hz)
    exact eb_cast (eb_call (Γ := [some (MBox b (0 + i * 6000)), some (ME K pairK), some (MGone b (MP.d K (.list (hand.map caseD)))), some (ME K z.deep), some (ME K z.chief), some (ME K z.bunch), some (ME K z.lone), none]) (Γ' := [some (MBox b (0 + i * 6000)), some (ME K pairK), some (MGone b (MP.d K (.list (hand.map caseD)))), some (ME K z.deep), some (ME K z.chief), some (ME K z.bunch), some (ME K z.lone), none]) (M := MB K true) (Ms := [ME K z.deep, ME K z.chief, ME K z.bunch, ME K z.lone]) (n := 0 + i * 6000) D hr (aeb_pure ⟨_, rfl⟩ de_ref (aeb_pure ⟨_, rfl⟩ (de_v 3) (aeb_pure ⟨_, rfl⟩ (de_v 4) (aeb_pure ⟨_, rfl⟩ (de_v 5) (aeb_pure ⟨_, rfl⟩ (de_v 6) aeb_nil (stk_d (Enc.to _))) (stk_d (Enc.to _))) (stk_d (Enc.to _))) (stk_d (Enc.to _))) stk_ref) rfl (by show _ ≤ 2 ^ 40; omega) hB (fun us H nt p => ⟨z, h, tup_args (Ds := [enc z.deep, enc z.chief, enc z.bunch, enc z.lone]) nt (by simp [tO.tOs, Enc.to]) p, fun v H' p => p⟩) (.skip (.cons (stb_d (Enc.to _)) (.cons stb_gone (.cons (stb_d (Enc.to _)) (.cons (stb_d (Enc.to _)) (.cons (stb_d (Enc.to _)) (.cons (stb_d (Enc.to _)) (.skip .nil))))))))) (fun v H p => ⟨.bool true, rfl, rfl, p⟩)
  have l1 : Legit [4, 4] [[0, 0], [1, 1]] [] [[0, 1]] := hand_ok ⟨[4, 4], [[0, 0], [1, 1]], [], [[0, 1]]⟩ (by simp [hand])
  have l2 : Legit [4, 4] [[0, 0], [1, 0], [1, 1]] [] [] := ⟨by decide, by decide, by decide, by decide⟩
  have w1 := m_wo l1
  have w2 := m_wo l2
  refine hs_cons (h1_of (Γ' := [some (MBox b (0 + hand.length * 6000)), some (ME K pairK), some (MGone b (MP.d K (.list (hand.map caseD)))), none, none, none, none, some (MP.d K (.list [.int 14]))]) (d1_set 7 sc__law_by_hand_right.nd (DE.to (de_lst [.int (totalC (harmlessC (aB [4, 4] [[0, 0], [1, 1]] [])))] (da_cons (de_call D3 (hr.mono (by omega)) (aB [4, 4] [[0, 0], [1, 1]] []) (da_cons (de_tup [enc (4 : Int), enc (4 : Int)] (da_cons de_int (da_cons de_int da_nil))) (da_cons (de_v 1) (da_cons (de_tup [] da_nil) da_nil))) w1) da_nil)) (by rw [m_hand1])))) ?_
  refine hs_cons (h1_of (Γ' := [some (MBox b (0 + hand.length * 6000)), some (ME K pairK), some (MGone b (MP.d K (.list (hand.map caseD)))), none, none, none, none, some (MP.d K (.list [.int 14, .int 13]))]) (d1_set 7 sc__law_by_hand_right.nd (DE.to (de_catL (ds' := [.int (totalC (harmlessC (aB [4, 4] [[0, 0], [1, 0], [1, 1]] [])))]) (de_v 7) (de_lst [.int (totalC (harmlessC (aB [4, 4] [[0, 0], [1, 0], [1, 1]] [])))] (da_cons (de_call D3 (hr.mono (by omega)) (aB [4, 4] [[0, 0], [1, 0], [1, 1]] []) (da_cons (de_tup [enc (4 : Int), enc (4 : Int)] (da_cons de_int (da_cons de_int da_nil))) (da_cons (de_tup [enc ([0, 0] : KEY), enc ([1, 0] : KEY), enc ([1, 1] : KEY)] (da_cons (de_tup [enc (0 : Int), enc (0 : Int)] (da_cons de_int (da_cons de_int da_nil))) (da_cons (de_tup [enc (1 : Int), enc (0 : Int)] (da_cons de_int (da_cons de_int da_nil))) (da_cons (de_tup [enc (1 : Int), enc (1 : Int)] (da_cons de_int (da_cons de_int da_nil))) da_nil)))) (da_cons (de_tup [] da_nil) da_nil))) w2) da_nil)) (by simp)) (by rw [m_hand2]; rfl)))) ?_
  refine hs_cons (h1_of (Γ' := [some (MBox b (0 + hand.length * 6000)), some (ME K pairK), some (MGone b (MP.d K (.list (hand.map caseD)))), none, none, none, none, some (MP.d K (.list [.int 14, .int 13, .int 12]))]) (d1_set 7 sc__law_by_hand_right.nd (DE.to (de_catL (ds' := [.int (totalC (harmlessC (aB [4, 4] [[0, 0], [0, 1], [1, 0], [1, 1]] [])))]) (de_v 7) (de_lst [.int (totalC (harmlessC (aB [4, 4] [[0, 0], [0, 1], [1, 0], [1, 1]] [])))] (da_cons (de_call D3 (hr.mono (by omega)) (aB [4, 4] [[0, 0], [0, 1], [1, 0], [1, 1]] []) (da_cons (de_tup [enc (4 : Int), enc (4 : Int)] (da_cons de_int (da_cons de_int da_nil))) (da_cons (de_tup [enc ([0, 0] : KEY), enc ([0, 1] : KEY), enc ([1, 0] : KEY), enc ([1, 1] : KEY)] (da_cons (de_tup [enc (0 : Int), enc (0 : Int)] (da_cons de_int (da_cons de_int da_nil))) (da_cons (de_tup [enc (0 : Int), enc (1 : Int)] (da_cons de_int (da_cons de_int da_nil))) (da_cons (de_tup [enc (1 : Int), enc (0 : Int)] (da_cons de_int (da_cons de_int da_nil))) (da_cons (de_tup [enc (1 : Int), enc (1 : Int)] (da_cons de_int (da_cons de_int da_nil))) da_nil))))) (da_cons (de_tup [] da_nil) da_nil))) wo_hand3) da_nil)) (by simp)) (by rw [m_hand3]; rfl)))) ?_
  refine hs_one (h1_ret (M := MB K true) (de_gb (de_call D4 (hr.mono (by omega)) (.list [.int 14, .int 13, .int 12]) (da_cons (de_v 7) (da_cons (de_lst [.int 14, .int 13, .int 12] (da_cons de_int (da_cons de_int (da_cons de_int da_nil)))) da_nil)) (same_list (by simp) fun x hx => ?_))) fun v σ H H' g x p => ⟨g.1.trans x, p⟩)
  rcases List.mem_cons.mp hx with rfl | hx
  · exact same_int _
  rcases List.mem_cons.mp hx with rfl | hx
  · exact same_int _
  · rw [List.mem_singleton.mp hx]; exact same_int _
end
end K78

-- part KL13
set_option Elab.async false
set_option linter.all false
set_option maxRecDepth 100000
set_option maxHeartbeats 4000000
/-! KL13: _law_box, _law_cells, law. -/
namespace K78
open PySem PySem.Spec PyProof.Rows L2
open Evl (Ex ex_t ex_l ex_rd fresh_back)
open Enc (enc)
def cutA {α : Type} (xs : List α) (lo hi : Option Int) : List α := (xs.drop (HT.sIx xs.length 0 lo)).take (HT.sIx xs.length xs.length hi - HT.sIx xs.length 0 lo)
theorem cutA_map {α β : Type} (f : α → β) (xs : List α) (lo hi : Option Int) : cutA (xs.map f) lo hi = (cutA xs lo hi).map f := by
  unfold cutA
  rw [List.length_map, List.map_take, List.map_drop]
theorem cutA_to (ns : List Int) : cutA ns none (some 3) = ns.take 3 := by
  unfold cutA
  rw [HT.sIx_none, show (3 : Int) = ((3 : Nat) : Int) from rfl, HT.sIx_nat, List.drop_zero, Nat.sub_zero]
  by_cases h : 3 ≤ ns.length
  · rw [Nat.min_eq_left h]
  · rw [Nat.min_eq_right (by omega), List.take_of_length_le (by omega), List.take_of_length_le (by omega)]
theorem cutA_nil {ns : List Int} (h : ns.length ≤ 3) : cutA ns (some 3) (some 63) = [] := by
  unfold cutA
  rw [show (3 : Int) = ((3 : Nat) : Int) from rfl, HT.sIx_nat, Nat.min_eq_right h, List.drop_of_length_le (Nat.le_refl _), List.take_nil]
theorem cutA_len (ns : List Int) (lo hi : Option Int) : (cutA ns lo hi).length ≤ ns.length := by
  unfold cutA
  rw [List.length_take, List.length_drop]
  omega
section
variable {X : Cx} {B : Hp} {Γ : En} {G : GP} {a c e lo hi : Expr} {pos p p2 : Pos}
theorem po_of {i : Int} [MG G] (h : DE X G e (MI X.K i)) : PO X (some e) (fun σ H Q => G σ H ∧ ∀ H', Ex H H' → Q (some i) H') :=
  let h2 := po_some h
  ⟨fun pins s σ H Q I q => h2.run pins s σ H Q I ⟨q.1, fun v H' x p => ⟨i, dp_int p, q.2 H' x⟩⟩⟩
theorem de_slTo [MG G] {ns : List Int} {j : Int} (h : DE X G e (MP.d X.K (ilist ns))) (hh : DE X G hi (MI X.K j)) : DE X G (.Subscript e (.Slice none (some hi) none p2) pos) (MP.d X.K (ilist (cutA ns none (some j)))) :=
  de_of (pe_slice sl_list h po_none (po_of hh)) fun σ H Q g q => ⟨g, fun v H1 x1 p1 => ⟨MG.mono x1 g, fun H2 x2 => by
    obtain ⟨b, us, rfl, hq, hd⟩ := dp_lst ((MP.d X.K (ilist ns)).mono x2 p1)
    have e := DpAll.ints hd
    subst e
    refine ⟨b, _, rfl, hq, fun l hl => q _ _ ((x1.trans x2).trans (Ex.new hl)) (dp_newL hl ?_)⟩
    show DpAll X.K H2 (cutA (ns.map V.int) _ _) _
    rw [cutA_map]
    exact DpAll.ofInts _⟩⟩
/-- .. the new list is not L -/
theorem de_slGone [MG G] {L : Addr} {ns : List Int} {i j : Int} (hL : ∀ σ H, G σ H → ∃ u, H L = some u) (h : DE X G e (MP.d X.K (ilist ns))) (hl : DE X G lo (MI X.K i)) (hh : DE X G hi (MI X.K j)) : DE X G (.Subscript e (.Slice (some lo) (some hi) none p2) pos) (MGone L (MP.d X.K (ilist (cutA ns (some i) (some j))))) :=
  de_of (pe_slice sl_list h (po_of hl) (po_of hh)) fun σ H Q g q => ⟨g, fun v H1 x1 p1 => ⟨MG.mono x1 g, fun H2 x2 => ⟨MG.mono (x1.trans x2) g, fun H3 x3 => by
    obtain ⟨b, us, rfl, hq, hd⟩ := dp_lst ((MP.d X.K (ilist ns)).mono (x2.trans x3) p1)
    have e := DpAll.ints hd
    subst e
    obtain ⟨u, hu⟩ := hL σ H g
    have hu3 := ((x1.trans x2).trans x3) _ _ hu
    refine ⟨b, _, rfl, hq, fun l hl => q _ _ (((x1.trans x2).trans x3).trans (Ex.new hl)) ?_⟩
    have ne : l ≠ L := fun z => by subst z; rw [hu3] at hl; cases hl
    show Dp X.K (del L (upd H3 l (.lst (cutA (ns.map V.int) _ _)))) (.ref l) (.list _)
    rw [cutA_map]
    exact .lst (.inl (.inl (by rw [del_ne ne]; exact upd_same))) (DpAll.ofInts _)⟩⟩⟩
/-- a or c, new lists -/
theorem de_orN {ds1 ds2 : List PyData} (ha : DE X (GB B Γ) a (MNewL X.K B ds1)) (hb : DE X (GB B Γ) c (MNewL X.K B ds2)) : DE X (GB B Γ) (.BoolOp .Or [a, c] pos) (MNewL X.K B (if ds1 = [] then ds2 else ds1)) :=
  de_of (pe_orT ha (pe_one hb)) fun σ H Q g q => ⟨g, fun v H1 x1 p1 => by
    obtain ⟨L, hL, rfl, us, hH, hd⟩ := id p1
    refine ⟨!us.isEmpty, .inl ⟨us, SqL.of hH, rfl⟩, ?_⟩
    cases us with
    | nil =>
      cases hd
      rw [if_neg (by simp)]
      refine ⟨MG.mono x1 g, fun v H2 x2 p2 => q v H2 (x1.trans x2) ?_⟩
      rw [if_pos rfl]
      exact p2
    | cons u us =>
      cases hd with
      | cons h1 h2 =>
        rw [if_pos (by rfl)]
        refine q _ H1 x1 ?_
        rw [if_neg (by simp)]
        exact p1⟩
/-- enumerate(a list that is not L) -/
theorem dx_enumG {L : Addr} {ds : List PyData} {elts : List Expr} {kk : Nat} {tpos : Pos} (hm : X.mg "enumerate" = none) [MG G] (h1 : DE X G e (MGone L (MP.d X.K (.list ds)))) (hg : Gl X "enumerate" := by rfl) (hs : starEach [e] X.env = [(false, eval e X.env)] := by rfl)
    (hs2 : starEach [e] X.env = (false, eval e X.env) :: starEach [] X.env := by rfl) :
    PI X (.Tuple elts kk tpos) (.Call (.Name "enumerate" p) [e] [] pos) (iX (del L) X.K G (enumD ds)) :=
  pi_imp (pi_enum hg hm (da_cons h1 da_nil hs2) hs) fun σ H R q => ⟨q.1, fun vs H1 x1 p1 => by
    obtain ⟨v, rfl, p2⟩ := allP1 p1
    obtain ⟨b, xs, rfl, hq, hd⟩ := dp_lst (show Dp X.K (del L H1) v (.list ds) from p2)
    refine ⟨b, xs, rfl, ex_l del_ex hq, ?_⟩
    refine q.2 _ H1 _ x1 (by rw [enumD_length, ← hd.length]; exact walk_enum.mono (fun H z => ex_l z hq) (fun i H x H' _ _ y => y)) fun i H2 x H3 z y => ?_
    obtain ⟨T, u, v, rfl, hT, rfl, h1, h2⟩ := y
    obtain ⟨d2, e2, p2⟩ := (DpAll.mono z _ _ hd).get h2
    cases h1
    exact ⟨_, enumD_get e2, Ex.new hT, dp_newT hT (.cons (.int _) (.cons p2 .nil))⟩⟩
/-- f() -/
theorem de_call0 {α : Type} {pre : α → Prop} {res : α → MP} {x : Str} {k : Nat} {M : MP} (D : DefOk X.prog X.w X.K X.mg X.base x k (spM pre (fun _ => []) res)) (hr : Room k X.A) (y : α) (hp : pre y) (hM : res y = M := by rfl)
    (hg : Gl X x := by rfl) (hdb : (x == ("__debug__" : Str)) = false := by decide) : DE X G (.Call (.Name x p) [] [] pos) M := by
  subst hM
  obtain ⟨f, fd, ps, F, hm, hk, hb⟩ := D.ex
  exact de_of (pe_call0 (E := E0) F hr hg hm hk hb .nil pass0 hdb) fun σ H Q g q => ⟨y, hp, .nil, fun v H' x r => q v H' x r⟩
end
def spBox (K : PySem.W.Frag) : Sp := fun vs H Q _ => ∃ (v0 : V) (ns : List Int) (k : Nat), vs = [v0, .int (k : Int)] ∧ Dp K H v0 (ilist ns) ∧ ∀ L (x y : Int) H', Ex H H' → H L = none → H' L = some (.lst [.int x, .int y, .int 0]) → 33 ≤ y → Q (.ref L) H'
section
variable {P : Program} {w : World} {K : PySem.W.Frag} {mg : Str → Option Value} {base : Heap}
theorem ok_box (T : Tx K mg) : DefOk P w K mg base "_law_box" 1 (spBox K) := by
  obtain ⟨f, fd, F, hg⟩ := at__law_box T
  have B := T.bl
  refine fn_raw F sc__law_box hg (fun vs H Q E ⟨v0, ns, k, e, _⟩ => by rw [e]; rfl) (fun _ _ _ _ _ _ us hl => match us, hl with | [_, _], _ => rfl) fun f cdv A outer s BB E vs Q hr ⟨v0, ns, k, e, hd, q⟩ => ?_
  subst e
  have main : HS (cxOf CX0 P w K mg base ["_law_script", "_law_k", "_law_great_so"] "_law_box" (defScope s__law_box) f cdv A outer s BB E).nox (GB BB [some (MP.d K (ilist ns)), some (MI K (k : Int)), none]) (defBody s__law_box) (fun _ _ => False) (fun v H' => Ex BB H' ∧ ∃ x y, 33 ≤ y ∧ (MNewL K BB [.int x, .int y, .int 0]).P v H') := by
    refine hs_cons (h1_of (Γ' := [some (MP.d K (ilist ns)), some (MI K (k : Int)), some (MI K (ns.getD k 0))]) (d1_set 2 sc__law_box.nd (de_ifExp (k := decide ((k : Int) < (ns.length : Int))) (dt_lt (de_v 1) (DE.to (de_lenL (ds := ns.map .int) B.len (de_v 0)) (by rw [List.length_map]))) (fun e => de_ixL (ds := ns.map .int) k (de_v 0) (de_v 1) rfl ?g1) (fun e => DE.to de_int ?g2)))) ?_
    case g1 =>
      have e := of_decide_eq_true e
      have hk : k < ns.length := by omega
      rw [List.getElem?_map, List.getElem?_eq_getElem hk, List.getD_eq_getElem?_getD, List.getElem?_eq_getElem hk]
      rfl
    case g2 =>
      have e := of_decide_eq_false e
      rw [List.getD_eq_getElem?_getD, List.getElem?_eq_none (by omega)]
      rfl
    generalize ns.getD k 0 = g
    refine hs_one (h1_ret (M := MNewL K BB [.int ((if g < 0 then -g else g) * (if decide ((10 : Int) ^ 18 ≤ (if g < 0 then -g else g)) then 1 else 0)), .int (g % 2305843009213693951 + 39373 * (k : Int) + 2625), .int 0]) (de_newL _ (da_cons (de_gb (de_mul (de_abs B.abs (de_v 2)) (de_intB B.int (de_ge (de_abs B.abs (de_v 2)) (DE.to (de_pow (i := 10) (j := 18) de_int de_int ⟨by decide, by decide, by decide⟩) rfl))) ?cm)) (da_cons (de_gb (de_add (de_add (de_mod (de_intI B.int (de_v 2)) de_int (by decide)) (de_mul de_int (de_v 1) (.inl ⟨by decide, by decide⟩))) de_int)) (da_cons de_int da_nil))) (by simp)) fun v σ H H' g1 x p => ⟨g1.1.trans x, _, _, ?_, p⟩)
    case cm =>
      have h2 : ∀ bb : Bool, (-(2 : Int) ^ 64 < (if bb then (1 : Int) else 0)) ∧ ((if bb then (1 : Int) else 0) < (2 : Int) ^ 64) := by decide
      exact .inr (h2 _)
    have := Int.emod_nonneg g (b := 2305843009213693951) (by decide)
    omega
  exact ⟨_, main, ⟨Ex.refl _, EnvOk.start (N := ["_law_script", "_law_k", "_law_great_so"]) (Ms := [MP.d K (ilist ns), MI K (k : Int)]) (.cons hd (.cons (.int _) .nil))⟩, fun _ _ z => z.elim, fun v H' ⟨x, a, y, hy, L, hL, e, us, hH, hda⟩ => by
    subst e
    have e := DpAll.ints (ns := [a, y, 0]) hda
    subst e
    exact q L a y H' x hL hH hy⟩
def CellsOk (cs : List Int) : Prop := 1 ≤ cs.length ∧ cs.length ≤ 3
def sp_cells (K : PySem.W.Frag) : Sp := spM (fun ns : List Int => ns.length ≤ 1000) (fun ns => [MP.d K (ilist ns), MI K 3]) (fun _ => MIL K CellsOk)
theorem ok_cells (T : Tx K mg) : DefOk P w K mg base "_law_cells" 1 (sp_cells K) := by
  obtain ⟨f, fd, F, hg⟩ := at__law_cells T
  have B := T.bl
  refine fn_H F sc__law_cells hg (fun _ => rfl) (fun _ _ _ _ _ _ us hl => match us, hl with | [_, _], _ => rfl) fun f cdv A outer s BB E ns hr hp => ?_
  have hp : ns.length ≤ 1000 := hp
  show HS _ (GB BB [some (MP.d K (ilist ns)), some (MI K 3), none, none, none, none]) _ _ _
  refine hs_cons (h1_set 2 sc__law_cells.nd (de_orN (de_listN B.list (de_slTo (de_v 0) (de_v 1))) (de_newL [.int 0] (da_cons de_int da_nil)))) ?_
  obtain ⟨c0, hc0, hc1⟩ : ∃ c0 : List Int, (if (cutA ns none (some 3)).map PyData.int = [] then [PyData.int 0] else (cutA ns none (some 3)).map PyData.int) = c0.map .int ∧ CellsOk c0 ∧ (c0.length = 3 ∨ ns.length ≤ 3) := by
    rw [cutA_to]
    cases ns with
    | nil => exact ⟨[0], rfl, ⟨by simp, by simp⟩, .inr (by simp)⟩
    | cons n ns =>
      refine ⟨(n :: ns).take 3, if_neg (by simp), ⟨by rw [List.length_take, List.length_cons]; omega, by rw [List.length_take]; omega⟩, ?_⟩
      rw [List.length_take, List.length_cons]
      omega
  refine hs_pre (G := fun σ H => ∃ L, BB L = none ∧ GB BB [some (MP.d K (ilist ns)), some (MI K 3), some (MLat K L (c0.map .int)), none, none, none] σ H) (hs_ex fun L => hs_pure fun hL => ?_) (fun σ H g => ?pre)
  case pre =>
    have g' := gb_newL (i := 2) (Γ := [some (MP.d K (ilist ns)), some (MI K 3), none, none, none, none]) (by show 2 < 6; omega) g
    rw [hc0] at g'
    exact g'
  obtain ⟨hc1, hc3⟩ := hc1
  refine hs_cons (h1_forX (vs := [3, 4]) (ds := enumD ((cutA ns (some 3) (some 63)).map .int)) (g := gTup K 2 (gNs [3, 4])) (del L) (fun B1 => Ex BB B1 ∧ B1 L = none) (fun B1 i σ H => ∃ cs : List Int, cs.length = c0.length ∧ GB B1 [none, some (MI K 3), some (MLat K L (cs.map .int)), none, none, none] σ H) (N := fun σ H => ∃ cs : List Int, cs.length = c0.length ∧ GB BB [none, some (MI K 3), some (MLat K L (cs.map .int)), none, none, none] σ H)
    (fun σ H' g => ⟨⟨ex_del g.1 hL, del_self⟩, del_ex⟩) rfl PassesOwn.never (dx_enumG B.enumerate (de_slGone (fun σ H g => (gb_nt (i := 2) g rfl).2) (de_gb (de_v 0)) (de_gb (de_v 1)) de_int)) (pg_tup rfl (pgs_cons (pg_name (i := 3) sc__law_cells.nd rfl (by first | exact Or.inl rfl | exact Or.inr rfl)) (pgs_cons (pg_name (i := 4) sc__law_cells.nd rfl (by first | exact Or.inl rfl | exact Or.inr rfl)) pgs_nil)))
    (fun B1 σ H e x g => ⟨c0, rfl, x, g.2.drop 0⟩) (fun B1 i σ H ⟨_, _, g⟩ => g.1) (fun B1 i σ H H' x ⟨cs, h, g⟩ => ⟨cs, h, MG.mono x g⟩) (fun B1 hB1 i d hd => ?body) (fun B1 σ H hB1 ⟨cs, h, g⟩ => ⟨cs, h, hB1.1.trans g.1, g.2⟩)) ?ret
  case ret =>
    refine hs_ex fun cs => hs_pure fun h => hs_one (h1_ret (M := MLat K L (cs.map .int)) (de_gb (de_v 2)) fun v σ H H' g x p => ⟨g.1.trans x, cs, ?_, MLat.dp p⟩)
    obtain ⟨h1, h2⟩ := hc1
    exact ⟨by omega, by omega⟩
  case body =>
    have hil : i < ((cutA ns (some 3) (some 63)).map PyData.int).length := by have := (List.getElem?_eq_some_iff.mp hd).1; rwa [enumD_length] at this
    rw [enumD_get (d := .int ((cutA ns (some 3) (some 63)).getD i 0)) (by rw [List.length_map] at hil; rw [List.getElem?_map, List.getElem?_eq_getElem hil, List.getD_eq_getElem?_getD, List.getElem?_eq_getElem hil]; rfl)] at hd
    cases hd
    have h3 : c0.length = 3 := by
      rcases hc3 with h | h
      · exact h
      · rw [cutA_nil h] at hil
        simp at hil
    have hsm : i < 1000 := by
      rw [List.length_map] at hil
      have := cutA_len ns (some 3) (some 63)
      omega
    generalize (cutA ns (some 3) (some 63)).getD i 0 = g
    refine ⟨fun σ H => ∃ cs : List Int, cs.length = c0.length ∧ GB B1 [none, some (MI K 3), some (MLat K L (cs.map .int)), some (MI K (i : Int)), some (MI K g), none] σ H, tg_ex fun cs => tg_pure (tg_gb (tg_tup (js := [3, 4]) rfl)), hs_ex fun cs => hs_pure fun hcs => ?_⟩
    refine hs_cons (h1_of (Γ' := [none, some (MI K 3), some (MLat K L (cs.map .int)), some (MI K (i : Int)), some (MI K g), some (MI K ((i % 3 : Nat) : Int))]) (d1_set 5 sc__law_cells.nd (DE.to (de_mod (i := (i : Int)) (j := 3) (de_intI B.int (de_v 3)) (de_v 1) (by decide)) (by rw [show ((i : Int) % 3) = ((i % 3 : Nat) : Int) by omega])))) ?_
    have hj : i % 3 < cs.length := by omega
    refine hs_one (h1_post (h1_setL 2 (L := L) (j := i % 3) (d := .int (cs.getD (i % 3) 0 + g * ((i : Int) + 2))) rfl hB1.2 (de_v 2) (de_v 5) (de_add (de_ixL (ds := cs.map .int) (i % 3) ((de_v 2).cast fun v H p => MLat.dp p) (de_v 5) rfl ?g1) (de_mul (de_v 4) (de_add (de_v 3) de_int) (.inr ⟨by omega, by omega⟩))) (by rw [List.length_map]; exact hj) (tOs_ints cs) rfl (.skip (.cons (stb_d rfl) (.skip (.cons (stb_d rfl) (.cons (stb_d rfl) (.cons (stb_d rfl) .nil))))))) fun σ H g1 => ⟨cs.set (i % 3) (cs.getD (i % 3) 0 + g * ((i : Int) + 2)), by rw [List.length_set]; exact hcs, g1.1, ?g2⟩)
    case g1 => rw [List.getElem?_map, List.getElem?_eq_getElem hj, List.getD_eq_getElem?_getD, List.getElem?_eq_getElem hj]; rfl
    case g2 =>
      have := ((g1.2.drop 3).drop 4).drop 5
      rw [List.map_set]
      exact this
/-- right(box(lots, k)) -/
theorem de_turn {X : Cx} {Γ : En} {a c : Expr} {p pos p2 pos2 : Pos} {ns : List Int} {k k1 k2 : Nat} (D : DefOk X.prog X.w X.K X.mg X.base "_law_right" k1 (sp_right X.K)) (D' : DefOk X.prog X.w X.K X.mg X.base "_law_box" k2 (spBox X.K)) (hr : Room k1 X.A) (hr' : Room k2 X.A)
    (ha : DE X (EnvOk Γ) a (MP.d X.K (ilist ns))) (hc : DE X (EnvOk Γ) c (MI X.K (k : Int))) (hg : Gl X "_law_right" := by rfl) (hg' : Gl X "_law_box" := by rfl)
    (hs : starEach [a, c] X.env = (false, eval a X.env) :: starEach [c] X.env := by rfl) (hs2 : starEach [c] X.env = (false, eval c X.env) :: starEach [] X.env := by rfl)
    (hs3 : starEach [.Call (.Name "_law_box" p2) [a, c] [] pos2] X.env = (false, eval (.Call (.Name "_law_box" p2) [a, c] [] pos2) X.env) :: starEach [] X.env := by rfl)
    (hp1 : (backTo pos2 (starEach [c] X.env)).any (·.1) = false := by rfl) (hp2 : (backTo pos (starEach [] X.env)).any (·.1) = false := by rfl) :
    DE X (EnvOk Γ) (.Call (.Name "_law_right" p) [.Call (.Name "_law_box" p2) [a, c] [] pos2] [] pos) (MB X.K true) := by
  obtain ⟨f, fd, ps, F, hm, hk, hb⟩ := D.ex
  obtain ⟨f', fd', ps', F', hm', hk', hb'⟩ := D'.ex
  refine de_of (pe_call (E := E0) F hr hg hm hk hb .nil pass0 (pa_cons (pe_call (E := E0) F' hr' hg' hm' hk' hb' .nil pass0 (da_cons ha (da_cons hc da_nil hs2) hs) (by decide) hs hp1) pa_nil hs3) (by decide) hs3 hp2) fun σ H Q g q => ⟨g, fun vs H1 x1 p1 => ?_⟩
  obtain ⟨v, u, rfl, h1, h2⟩ := allP2 p1
  have e := dp_int h2
  subst e
  refine ⟨v, ns, k, rfl, h1, fun L x y H2 x2 hL hH hy => ?_⟩
  refine ⟨L, 0, (), [], rfl, ⟨rfl, x, y, 0, hH, hy, by decide, by decide⟩, by decide, .nil, trivial, fun v3 H3 k3 _ p3 => q v3 H3 (x1.trans fun a u e => ?_) p3⟩
  have ne : a ≠ L := fun z => by subst z; rw [hL] at e; cases e
  exact k3 a u ne (x2 a u e)
end
end K78

-- part KL14
set_option Elab.async false
set_option linter.all false
set_option maxRecDepth 100000
set_option maxHeartbeats 4000000
/-! KL14: law. -/
namespace K78
open PySem PySem.Spec PyProof.Rows L2
open Evl (Ex ex_t ex_l ex_rd fresh_back)
open Enc (enc)
def spLaw (K : PySem.W.Frag) : Sp := fun vs H Q _ => ∃ (a : Addr) (ns : List Int), vs = [.ref a] ∧ SqL K H a (ns.map V.int) ∧ ns.length ≤ 63 ∧ ∀ H', Q (.bl true) H'
section
variable {P : Program} {w : World} {K : PySem.W.Frag} {mg : Str → Option Value} {base : Heap}
theorem law_body (T : Tx K mg) {f : Addr} {cdv : Value} {A : Around} {outer : List Env} {s : Shared} {BB : Hp} {E : XK} {ns : List Int} (hn : ns.length ≤ 63) (hr : Room 19 (A.deeper (envOfC "law" (defScope s_law) s.heap.objs.size f cdv))) :
    HS (cxOf CX0 P w K mg base ["_law_script", "_law_lots_so", "_law_k"] "law" (defScope s_law) f cdv A outer s BB E).nox (GB BB [some (MP.d K (ilist ns)), none, none]) (defBody s_law) (fun _ _ => False) (fun v H' => (MB K true).P v H') := by
  have B := T.bl
  have D0 := ok_hand (P := P) (w := w) (base := base) T
  have D1 := ok_cells (P := P) (w := w) (base := base) T
  have D2 := ok_right (P := P) (w := w) (base := base) T
  have D3 := ok_box (P := P) (w := w) (base := base) T
  refine hs_cons (N' := GB BB [some (MP.d K (ilist ns)), none, none]) (h1_if (k := !true) (dt_gb (dt_not (dt_val (de_call0 D0 (hr.mono (by omega)) () trivial)))) (fun e => nomatch e) fun e => hs_nil fun σ H g => g) ?_
  refine hs_cons (h1_of (Γ' := [some (MP.d K (ilist ns)), some (MIL K CellsOk), none]) (d1_set 1 sc_law.nd (de_call D1 (hr.mono (by omega)) ns (da_cons (de_v 0) (da_cons de_int da_nil)) (by show ns.length ≤ 1000; omega)))) ?_
  refine hs_pre (G := fun σ H => ∃ cs : List Int, CellsOk cs ∧ GB BB [some (MP.d K (ilist ns)), some (MP.d K (ilist cs)), none] σ H) (hs_ex fun cs => hs_pure fun hcs => ?_) (fun σ H g => ?pre)
  case pre =>
    obtain ⟨v1, ev1, cs, hcs, pv⟩ := g.2.get 1 _ rfl
    refine ⟨cs, hcs, g.1, ⟨g.2.len, fun j M e => ?_⟩⟩
    match j, e with
    | 1, e => cases e; exact ⟨_, ev1, pv⟩
    | 0, e => exact g.2.get 0 M e
    | 2, e => exact g.2.get 2 M e
    | j + 3, e => exact g.2.get (j + 3) M e
  have hc3 := hcs.2
  refine hs_one (h1_ret (M := MB K true) (de_gb ((de_all (List.range cs.length) (fun _ => true) rfl B.all (de_lc0 (List.range cs.length) enc (fun _ => .bool true) (fun k => [some (MP.d K (ilist ns)), some (MP.d K (ilist cs)), some (ME K k)]) [("_law_k", 2)] rfl sc_law.nd (di_rangeN (n := cs.length) B.range (DE.to (de_lenL (ds := cs.map .int) B.len (de_v 1)) (by rw [List.length_map]; rfl))) (blkOk_by (N := ["_law_script", "_law_lots_so", "_law_k"]) (sc := defScope s_law) (by decide +kernel)) (fun _ _ _ _ _ => pg_name (i := 2) sc_law.nd rfl (by first | exact Or.inl rfl | exact Or.inr rfl)) (fun o ho => tg_name)
      (fun k hk _ _ _ _ _ => de_turn (k := k) D2 D3 (hr.mono (by omega)) (hr.mono (by omega)) (de_v 1) (de_v 2)) (fun _ _ => rfl) (by rw [List.length_range]; omega))).cast fun v H p => ?_)) fun v σ H H' g x p => p)
  have e : (List.range cs.length).all (fun _ => true) = true := by
    rw [List.all_eq_true]
    intro _ _
    rfl
  rw [e] at p
  exact p
theorem ok_lawF (T : Tx K mg) {f : Addr} {fd : FuncData} (F : FnP K "law" s_law f fd) : FnOk P w K mg base CX0 20 f fd ["_law_script"] (spLaw K) :=
  F.ok sc_law (fun vs H Q E ⟨a, ns, e, _⟩ => by rw [e]; rfl) fun cdv A outer s H vs Q E hr ⟨a, ns, e, hq, hn, q⟩ => by
    subst e
    exact ⟨_, (law_body T hn hr).nox, ⟨Ex.refl _, EnvOk.start (N := ["_law_script", "_law_lots_so", "_law_k"]) (Ms := [MP.d K (ilist ns)]) (.cons (.lst hq (DpAll.ofInts _)) .nil)⟩, fun _ _ z => z.elim, fun v H' p => by
      have e := dp_bl p
      subst e
      exact q H'⟩
end
end K78

-- part KEnd
set_option Elab.async false
set_option linter.all false
set_option maxRecDepth 100000
set_option maxHeartbeats 0
namespace K78
open PySem PySem.Spec PyProof.Rows L2
/-- what the top has written -/
abbrev Tp (K : PySem.W.Frag) : Prop := He.SaysD fa fn K
abbrev Rw : PySem.W.OpenRow := PySem.W.OpenLaw.row PySem.Challenge.rw_undermasters_k78_whole_cuts_named_otherw
abbrev hk : PySem.W.Hook := He.hookD 4 fa fn
def ob (s : PySem.W.SharedT) : He.AlD := He.obsDG 4 fa fn (HandSHeadRun.getT s)
theorem ob_eq (s : PySem.W.SharedT) : ob s = hk.obs s.abs := He.obsDG_eq (HandSHeadRun.getT_eq s)
def loose1 : List PySem.Str := ["tupled", "set_of", "product", "common_cuts", "is_free", "free_pins", "row_of", "barring_pin", "opens_room", "openers_of", "opened_by", "whole_box", "meeting", "together", "added", "opening_box", "opened_box", "alike_box", "further_counts", "total", "ranks_in", "ranks_of", "who_bars", "is_further", "how_many_further", "further_ranks", "is_harmless"]
def loose2 : List PySem.Str := ["harmless_counts", "how_many_harmless", "breach", "is_house_closed", "kept_private", "_law_box", "_law_take", "_law_cells", "_law_of", "_law_pick", "_law_same", "_law_deep", "_law_tooth", "_law_chief", "_law_stars", "_law_lets", "_law_loud", "_law_teeth", "_law_quiet", "_law_named", "_law_named_right", "_law_pin_right", "_law_master_right", "_law_whole_right", "_law_by_hand_right", "_law_case_right", "_law_right"]
def loose : List PySem.Str := loose1 ++ loose2
theorem run (w : World) : HandSHeadRun.RunEq Rw (PySem.W.view Rw.prog [59]) hk ob 4000 loose w := by
  intro os
  kernel_rfl
end K78

-- part KFin
set_option Elab.async false
set_option linter.all false
set_option maxRecDepth 100000
set_option maxHeartbeats 0
namespace K78
open PySem PySem.Spec PyProof.Rows L2
theorem facts {kk : Nat} {P : Program} {w : World} {K : PySem.W.Frag} {h : Heap} {mg : Str → Option Value} {f : Addr} (okl : ∀ (fd : FuncData) (f : Addr) (base : Heap), Tp K → K.In base → base.Ns mainGlobals mg → FnP K "law" s_law f fd → (∀ (i : Nat) x, fa[i]? = some (He.Fa.glo x) → mg x = some (.ref (He.ga K x))) → (∀ (i : Nat) x, fa[i]? = some (He.Fa.free x) → mg x = none) → FnOk P w K mg base CX0 kk f fd ["_law_script"] (spLaw K))
    (X : K.In h) (G : h.Ns mainGlobals mg) (hfa : mg ("law" : Str) = some (.ref f)) (c : He.SaysD fa fn K) :
    ∃ fd : FuncData, (∀ (s : Shared) (v : Value), BindsTo s fd ⟨[v], []⟩ [("_law_script", v)]) ∧ ∀ base : Heap, K.In base → base.Ns mainGlobals mg → FnOk P w K mg base CX0 kk f fd ["_law_script"] (spLaw K) := by
  obtain ⟨fd, F⟩ := c.def_ 54 (d := d_law) rfl
  have e := hfa.symm.trans (He.glo_ok X G (c.fact 54 (f := .glo "law") rfl))
  cases e
  have b := FunD.bindsA (ps := ["_law_script"]) F fun _ _ _ _ _ _ us hl => match us, hl with | [_], _ => rfl
  refine ⟨fd, fun s v => b s [v] rfl, fun base X2 G2 => okl fd _ base c X2 G2 F (fun i x hx => He.glo_ok X G (c.fact i (f := .glo x) hx)) (fun i x hx => He.free_ok X G (c.fact i (f := .free x) hx))⟩
end K78
open PySem PySem.W PySem.Calls PyProof.Rows
theorem tst (kk : Nat) (hkk : kk ≤ 20) (okl : ∀ (P : Program) (w : World) (K : PySem.W.Frag) (mg : PySem.Str → Option Value) (fd : FuncData) (f : Addr) (base : Heap), K78.Tp K → K.In base → base.Ns mainGlobals mg → K78.FnP K "law" K78.s_law f fd → (∀ (i : Nat) x, K78.fa[i]? = some (He.Fa.glo x) → mg x = some (.ref (He.ga K x))) → (∀ (i : Nat) x, K78.fa[i]? = some (He.Fa.free x) → mg x = none) → L2.FnOk P w K mg base L2.CX0 20 f fd ["_law_script"] (K78.spLaw K)) : PySem.Challenge.rw_undermasters_k78_whole_cuts_named_otherw.Holds := by
  w_on; o_law
  refine HandSHeadRun.head_any (r := OpenLaw.row PySem.Challenge.rw_undermasters_k78_whole_cuts_named_otherw) (q := view (OpenLaw.row PySem.Challenge.rw_undermasters_k78_whole_cuts_named_otherw).prog [59]) (H := K78.hk) (ob := K78.ob) (M := 4000) (loose := K78.loose) (d := HandSHeadRun.topDef (OpenLaw.row PySem.Challenge.rw_undermasters_k78_whole_cuts_named_otherw).prog 59) (kwd := []) K78.ob_eq
    (by kernel_rfl) (fun s => by kernel_rfl) K78.run (by kernel_rfl) (by kernel_rfl) (by kernel_rfl) (by rfl) (by first | assumption | decide +kernel) (by decide +kernel) ⟨rfl, rfl, rfl, rfl, rfl, by decide +kernel⟩ ?hw ?hc
  case hw => w_witness2
  case hc =>
    refine L2.walk_ofE (l := PySem.Challenge.rw_undermasters_k78_whole_cuts_named_otherw) (n := 63) (k := 20) (x := "_law_script") (CX := L2.CX0) rfl (by decide) (by kernel_rfl) ⟨rfl, by decide, by decide⟩ ?F (fun _ _ _ _ z => z)
    intro w mg fa h Y G hmg0
    obtain ⟨K, KX, c⟩ := Y
    have hmg : mg ("law" : PySem.Str) = some (.ref fa) := by
      have e : (HandSHeadRun.topDef (OpenLaw.row PySem.Challenge.rw_undermasters_k78_whole_cuts_named_otherw).prog 59).name = ("law" : PySem.Str) := by kernel_rfl
      rw [← e]
      exact hmg0
    obtain ⟨fd, hb, hF⟩ := K78.facts (kk := 20) (P := (PySem.Challenge.rw_undermasters_k78_whole_cuts_named_otherw).prog) (w := w) (okl _ _ K mg) KX G hmg c
    exact ⟨K, fd, K78.spLaw K, KX, hb, fun H a ns hl _ hS => ⟨a, ns, rfl, hS, hl, fun _ => rfl⟩, hF⟩

theorem PySem.Challenge.cw_undermasters_k78_whole_cuts_named_otherw_holds : PySem.Challenge.rw_undermasters_k78_whole_cuts_named_otherw.Holds :=
  tst 20 (by decide) fun P w K mg fd f base tp _ _ F gl fr => K78.ok_lawF ⟨tp, gl, fr⟩ F
