import PyProof.Rows.All
import Wide.All
import OpenK.AllK
import Wide.FinOn
import HandS.Base
import HandS.Call
import KE.KStateDown
import HandS.Ends
import HandS.More
import HandS.Words
import HandS.WordsExc
import HandS.Defaults
import HandS.Head0
import HandS.Head1
import HandS.Head2
import HandS.HeadEnd
import HandS.HeadHook1
import HandS.HeadHook2
import PySem.Challenge.RW_weftmill_k92_whole_pieces
import HandS.ForMost
import HandS.Flow
import HandS.Style
import HandS.Codes
import HandS.Deep
import HandS.TupAny
import HandS.IsInst
import HandS.SortRule
import HandS.SortInts
import HandS.Conv
import HandS.Small
import HandS.Walk
import HandS.Zip
import KE.GoesMore
import KE.KRevSl
import HandS.DictTup
import HandS.DictSubView
import KE.KDictDisplayH
import KE.SortData
import KE.DataMinMax
import HandS.SetBool
import HandS.SetFor
import HandS.Strs
import HandS.MakeKwOnly
set_option Elab.async false
set_option linter.all false
set_option maxRecDepth 100000
set_option maxHeartbeats 0
namespace W92
open PySem
def topS (i : Nat) : Stmt := PySem.Challenge.pw_weftmill_k92_whole_pieces.main.body.getD i (.Pass ⟨0, 0, 0, 0⟩)
end W92
namespace H92
open PySem PySem.Spec PyProof.Rows L2 W92
def dis_whole : He.DefD := ⟨("is_whole", none), "is_whole", "is_whole", defArgs (topS 10), defBody (topS 10), defScope (topS 10), [], []⟩
def dis_within : He.DefD := ⟨("is_within", none), "is_within", "is_within", defArgs (topS 11), defBody (topS 11), defScope (topS 11), [], []⟩
def dis_from : He.DefD := ⟨("is_from", none), "is_from", "is_from", defArgs (topS 12), defBody (topS 12), defScope (topS 12), [], []⟩
def dis_long : He.DefD := ⟨("is_long", none), "is_long", "is_long", defArgs (topS 13), defBody (topS 13), defScope (topS 13), [], []⟩
def drises : He.DefD := ⟨("rises", none), "rises", "rises", defArgs (topS 14), defBody (topS 14), defScope (topS 14), [], []⟩
def dcommon_of : He.DefD := ⟨("common_of", none), "common_of", "common_of", defArgs (topS 15), defBody (topS 15), defScope (topS 15), [], []⟩
def dfraction : He.DefD := ⟨("fraction", none), "fraction", "fraction", defArgs (topS 16), defBody (topS 16), defScope (topS 16), [], []⟩
def dis_fraction : He.DefD := ⟨("is_fraction", none), "is_fraction", "is_fraction", defArgs (topS 17), defBody (topS 17), defScope (topS 17), [], []⟩
def dis_less : He.DefD := ⟨("is_less", none), "is_less", "is_less", defArgs (topS 18), defBody (topS 18), defScope (topS 18), [], []⟩
def dis_roller : He.DefD := ⟨("is_roller", none), "is_roller", "is_roller", defArgs (topS 25), defBody (topS 25), defScope (topS 25), [], []⟩
def dis_train : He.DefD := ⟨("is_train", none), "is_train", "is_train", defArgs (topS 26), defBody (topS 26), defScope (topS 26), [], []⟩
def dneed_train : He.DefD := ⟨("need_train", none), "need_train", "need_train", defArgs (topS 27), defBody (topS 27), defScope (topS 27), [], []⟩
def dis_look : He.DefD := ⟨("is_look", none), "is_look", "is_look", defArgs (topS 28), defBody (topS 28), defScope (topS 28), [], []⟩
def dneed_looks : He.DefD := ⟨("need_looks", none), "need_looks", "need_looks", defArgs (topS 29), defBody (topS 29), defScope (topS 29), [], []⟩
def dneed_looked : He.DefD := ⟨("need_looked", none), "need_looked", "need_looked", defArgs (topS 30), defBody (topS 30), defScope (topS 30), [], []⟩
def dperiods_by : He.DefD := ⟨("periods_by", none), "periods_by", "periods_by", defArgs (topS 31), defBody (topS 31), defScope (topS 31), [], []⟩
def dis_dent : He.DefD := ⟨("is_dent", none), "is_dent", "is_dent", defArgs (topS 32), defBody (topS 32), defScope (topS 32), [], []⟩
def dis_story_by : He.DefD := ⟨("is_story_by", none), "is_story_by", "is_story_by", defArgs (topS 33), defBody (topS 33), defScope (topS 33), [], []⟩
def dneed_story : He.DefD := ⟨("need_story", none), "need_story", "need_story", defArgs (topS 34), defBody (topS 34), defScope (topS 34), [], []⟩
def dhas_mark : He.DefD := ⟨("has_mark", none), "has_mark", "has_mark", defArgs (topS 35), defBody (topS 35), defScope (topS 35), [], []⟩
def dmarks_by : He.DefD := ⟨("marks_by", none), "marks_by", "marks_by", defArgs (topS 36), defBody (topS 36), defScope (topS 36), [], []⟩
def dmarks_of : He.DefD := ⟨("marks_of", none), "marks_of", "marks_of", defArgs (topS 37), defBody (topS 37), defScope (topS 37), [], []⟩
def dstretches : He.DefD := ⟨("stretches", none), "stretches", "stretches", defArgs (topS 38), defBody (topS 38), defScope (topS 38), [], []⟩
def dlet_by : He.DefD := ⟨("let_by", none), "let_by", "let_by", defArgs (topS 39), defBody (topS 39), defScope (topS 39), [], []⟩
def dcommon_stretches : He.DefD := ⟨("common_stretches", none), "common_stretches", "common_stretches", defArgs (topS 40), defBody (topS 40), defScope (topS 40), [], []⟩
def dlet_by_all : He.DefD := ⟨("let_by_all", none), "let_by_all", "let_by_all", defArgs (topS 41), defBody (topS 41), defScope (topS 41), [], []⟩
def darcs_by : He.DefD := ⟨("arcs_by", none), "arcs_by", "arcs_by", defArgs (topS 42), defBody (topS 42), defScope (topS 42), [], []⟩
def darcs : He.DefD := ⟨("arcs", none), "arcs", "arcs", defArgs (topS 43), defBody (topS 43), defScope (topS 43), [], []⟩
def dis_sound : He.DefD := ⟨("is_sound", none), "is_sound", "is_sound", defArgs (topS 46), defBody (topS 46), defScope (topS 46), [], []⟩
def dphases_of : He.DefD := ⟨("phases_of", none), "phases_of", "phases_of", defArgs (topS 47), defBody (topS 47), defScope (topS 47), [], []⟩
def dnumbers_of_marks : He.DefD := ⟨("numbers_of_marks", none), "numbers_of_marks", "numbers_of_marks", defArgs (topS 48), defBody (topS 48), defScope (topS 48), [], []⟩
def dshown_by : He.DefD := ⟨("shown_by", none), "shown_by", "shown_by", defArgs (topS 49), defBody (topS 49), defScope (topS 49), [], []⟩
def dways_of : He.DefD := ⟨("ways_of", none), "ways_of", "ways_of", defArgs (topS 50), defBody (topS 50), defScope (topS 50), [], []⟩
def djoined : He.DefD := ⟨("joined", none), "joined", "joined", defArgs (topS 51), defBody (topS 51), defScope (topS 51), [], []⟩
def dtold_by : He.DefD := ⟨("told_by", none), "told_by", "told_by", defArgs (topS 52), defBody (topS 52), defScope (topS 52), [], []⟩
def dlots_of : He.DefD := ⟨("lots_of", none), "lots_of", "lots_of", defArgs (topS 53), defBody (topS 53), defScope (topS 53), [], []⟩
def dstories_by : He.DefD := ⟨("stories_by", none), "stories_by", "stories_by", defArgs (topS 54), defBody (topS 54), defScope (topS 54), [], []⟩
def dfewest_by : He.DefD := ⟨("fewest_by", none), "fewest_by", "fewest_by", defArgs (topS 55), defBody (topS 55), defScope (topS 55), [], []⟩
def dfewest : He.DefD := ⟨("fewest", none), "fewest", "fewest", defArgs (topS 56), defBody (topS 56), defScope (topS 56), [], []⟩
def dsome_story : He.DefD := ⟨("some_story", none), "some_story", "some_story", defArgs (topS 57), defBody (topS 57), defScope (topS 57), [], []⟩
def dneed_ahead : He.DefD := ⟨("need_ahead", none), "need_ahead", "need_ahead", defArgs (topS 58), defBody (topS 58), defScope (topS 58), [], []⟩
def dis_piece : He.DefD := ⟨("is_piece", none), "is_piece", "is_piece", defArgs (topS 65), defBody (topS 65), defScope (topS 65), [], []⟩
def dneed_told : He.DefD := ⟨("need_told", none), "need_told", "need_told", defArgs (topS 66), defBody (topS 66), defScope (topS 66), [], []⟩
def dmay_be : He.DefD := ⟨("may_be", none), "may_be", "may_be", defArgs (topS 67), defBody (topS 67), defScope (topS 67), [], []⟩
def dword_by : He.DefD := ⟨("word_by", none), "word_by", "word_by", defArgs (topS 68), defBody (topS 68), defScope (topS 68), [], []⟩
def dword_of : He.DefD := ⟨("word_of", none), "word_of", "word_of", defArgs (topS 69), defBody (topS 69), defScope (topS 69), [], []⟩
def dsure_pieces : He.DefD := ⟨("sure_pieces", none), "sure_pieces", "sure_pieces", defArgs (topS 70), defBody (topS 70), defScope (topS 70), [], [("length", .int 5), ("end", .int 40)]⟩
def d_law_cell_at : He.DefD := ⟨("_law_cell_at", none), "_law_cell_at", "_law_cell_at", defArgs (topS 72), defBody (topS 72), defScope (topS 72), [], []⟩
def d_law_pen : He.DefD := ⟨("_law_pen", none), "_law_pen", "_law_pen", defArgs (topS 73), defBody (topS 73), defScope (topS 73), [], []⟩
def d_law_draw : He.DefD := ⟨("_law_draw", none), "_law_draw", "_law_draw", defArgs (topS 74), defBody (topS 74), defScope (topS 74), [], []⟩
def d_law_pick : He.DefD := ⟨("_law_pick", none), "_law_pick", "_law_pick", defArgs (topS 75), defBody (topS 75), defScope (topS 75), [], []⟩
def d_law_lots : He.DefD := ⟨("_law_lots", none), "_law_lots", "_law_lots", defArgs (topS 76), defBody (topS 76), defScope (topS 76), [], []⟩
def d_law_common : He.DefD := ⟨("_law_common", none), "_law_common", "_law_common", defArgs (topS 77), defBody (topS 77), defScope (topS 77), [], []⟩
def d_law_fraction : He.DefD := ⟨("_law_fraction", none), "_law_fraction", "_law_fraction", defArgs (topS 78), defBody (topS 78), defScope (topS 78), [], []⟩
def d_law_train : He.DefD := ⟨("_law_train", none), "_law_train", "_law_train", defArgs (topS 79), defBody (topS 79), defScope (topS 79), [], []⟩
def d_law_periods : He.DefD := ⟨("_law_periods", none), "_law_periods", "_law_periods", defArgs (topS 80), defBody (topS 80), defScope (topS 80), [], []⟩
def d_law_looks : He.DefD := ⟨("_law_looks", none), "_law_looks", "_law_looks", defArgs (topS 81), defBody (topS 81), defScope (topS 81), [], []⟩
def d_law_near : He.DefD := ⟨("_law_near", none), "_law_near", "_law_near", defArgs (topS 82), defBody (topS 82), defScope (topS 82), [], []⟩
def d_law_comes : He.DefD := ⟨("_law_comes", none), "_law_comes", "_law_comes", defArgs (topS 83), defBody (topS 83), defScope (topS 83), [], []⟩
def d_law_ways : He.DefD := ⟨("_law_ways", none), "_law_ways", "_law_ways", defArgs (topS 84), defBody (topS 84), defScope (topS 84), [], []⟩
def d_law_tells : He.DefD := ⟨("_law_tells", none), "_law_tells", "_law_tells", defArgs (topS 85), defBody (topS 85), defScope (topS 85), [], []⟩
def d_law_fewest : He.DefD := ⟨("_law_fewest", none), "_law_fewest", "_law_fewest", defArgs (topS 86), defBody (topS 86), defScope (topS 86), [], []⟩
def d_law_told_looks : He.DefD := ⟨("_law_told_looks", none), "_law_told_looks", "_law_told_looks", defArgs (topS 87), defBody (topS 87), defScope (topS 87), [], []⟩
def d_law_more_right : He.DefD := ⟨("_law_more_right", none), "_law_more_right", "_law_more_right", defArgs (topS 88), defBody (topS 88), defScope (topS 88), [], []⟩
def d_law_story_right : He.DefD := ⟨("_law_story_right", none), "_law_story_right", "_law_story_right", defArgs (topS 89), defBody (topS 89), defScope (topS 89), [], []⟩
def d_law_within_right : He.DefD := ⟨("_law_within_right", none), "_law_within_right", "_law_within_right", defArgs (topS 90), defBody (topS 90), defScope (topS 90), [], []⟩
def d_law_sure_right : He.DefD := ⟨("_law_sure_right", none), "_law_sure_right", "_law_sure_right", defArgs (topS 91), defBody (topS 91), defScope (topS 91), [], []⟩
def d_law_alone_right : He.DefD := ⟨("_law_alone_right", none), "_law_alone_right", "_law_alone_right", defArgs (topS 92), defBody (topS 92), defScope (topS 92), [], []⟩
def d_law_right : He.DefD := ⟨("_law_right", none), "_law_right", "_law_right", defArgs (topS 93), defBody (topS 93), defScope (topS 93), [], []⟩
def dlaw : He.DefD := ⟨("law", none), "law", "law", defArgs (topS 94), defBody (topS 94), defScope (topS 94), [], []⟩
def fn0 : List He.DefD := [dis_whole, dis_within, dis_from, dis_long, drises, dcommon_of, dfraction, dis_fraction, dis_less, dis_roller, dis_train, dneed_train, dis_look, dneed_looks, dneed_looked, dperiods_by, dis_dent, dis_story_by]
def fn1 : List He.DefD := [dneed_story, dhas_mark, dmarks_by, dmarks_of, dstretches, dlet_by, dcommon_stretches, dlet_by_all, darcs_by, darcs, dis_sound, dphases_of, dnumbers_of_marks, dshown_by, dways_of, djoined, dtold_by, dlots_of]
def fn2 : List He.DefD := [dstories_by, dfewest_by, dfewest, dsome_story, dneed_ahead, dis_piece, dneed_told, dmay_be, dword_by, dword_of, dsure_pieces, d_law_cell_at, d_law_pen, d_law_draw, d_law_pick, d_law_lots, d_law_common, d_law_fraction]
def fn3 : List He.DefD := [d_law_train, d_law_periods, d_law_looks, d_law_near, d_law_comes, d_law_ways, d_law_tells, d_law_fewest, d_law_told_looks, d_law_more_right, d_law_story_right, d_law_within_right, d_law_sure_right, d_law_alone_right, d_law_right, dlaw]
def fn : List He.DefD := fn0 ++ fn1 ++ fn2 ++ fn3
def fa0 : List He.Fa := [.glo "is_whole", .glo "is_within", .glo "is_from", .glo "is_long", .glo "rises", .glo "common_of", .glo "fraction", .glo "is_fraction", .glo "is_less", .glo "is_roller", .glo "is_train", .glo "need_train", .glo "is_look", .glo "need_looks", .glo "need_looked", .glo "periods_by", .glo "is_dent", .glo "is_story_by"]
def fa1 : List He.Fa := [.glo "need_story", .glo "has_mark", .glo "marks_by", .glo "marks_of", .glo "stretches", .glo "let_by", .glo "common_stretches", .glo "let_by_all", .glo "arcs_by", .glo "arcs", .glo "is_sound", .glo "phases_of", .glo "numbers_of_marks", .glo "shown_by", .glo "ways_of", .glo "joined", .glo "told_by", .glo "lots_of"]
def fa2 : List He.Fa := [.glo "stories_by", .glo "fewest_by", .glo "fewest", .glo "some_story", .glo "need_ahead", .glo "is_piece", .glo "need_told", .glo "may_be", .glo "word_by", .glo "word_of", .glo "sure_pieces", .glo "_law_cell_at", .glo "_law_pen", .glo "_law_draw", .glo "_law_pick", .glo "_law_lots", .glo "_law_common", .glo "_law_fraction"]
def fa3 : List He.Fa := [.glo "_law_train", .glo "_law_periods", .glo "_law_looks", .glo "_law_near", .glo "_law_comes", .glo "_law_ways", .glo "_law_tells", .glo "_law_fewest", .glo "_law_told_looks", .glo "_law_more_right", .glo "_law_story_right", .glo "_law_within_right", .glo "_law_sure_right", .glo "_law_alone_right", .glo "_law_right", .glo "law", .free "isinstance", .free "int"]
def fa4 : List He.Fa := [.free "bool", .free "tuple", .free "str", .free "len", .free "all", .free "any", .free "zip", .free "max", .free "min", .free "sorted", .free "range", .free "enumerate", .free "list", .free "set", .int "MOST_ROLLERS" 4, .int "MOST_TURN" 60, .int "MOST_TOP" 8, .int "MOST_LENGTH" 400]
def fa5 : List He.Fa := [.int "MOST_LOOKS" 8, .int "MOST_AHEAD" 7, .int "MOST_PIECE" 20, .int "MOST_END" 40, .str "SOUND" "sound", .str "MARKED" "marked", .str "MAYBE" "maybe"]
def fa : List He.Fa := fa0 ++ fa1 ++ fa2 ++ fa3 ++ fa4 ++ fa5
def ls0 : List PySem.Str := ["MillError", "NoNumber", "NoTrain", "NoLooks", "NoRoller", "NoStory", "NoPiece", "TooMany", "is_whole", "is_within", "is_from", "is_long", "rises", "common_of", "fraction", "is_fraction", "is_less", "MOST_ROLLERS"]
def ls1 : List PySem.Str := ["MOST_TURN", "MOST_TOP", "MOST_LENGTH", "MOST_LOOKS", "is_roller", "is_train", "need_train", "is_look", "need_looks", "need_looked", "periods_by", "is_dent", "is_story_by", "need_story", "has_mark", "marks_by", "marks_of", "stretches"]
def ls2 : List PySem.Str := ["let_by", "common_stretches", "let_by_all", "arcs_by", "arcs", "MOST_AHEAD", "is_sound", "phases_of", "numbers_of_marks", "shown_by", "ways_of", "joined", "told_by", "lots_of", "stories_by", "fewest_by", "fewest", "some_story"]
def ls3 : List PySem.Str := ["need_ahead", "MOST_PIECE", "MOST_END", "SOUND", "MARKED", "MAYBE", "is_piece", "need_told", "may_be", "word_by", "word_of", "sure_pieces", "_law_cell_at", "_law_pen", "_law_draw", "_law_pick", "_law_lots", "_law_common"]
def ls4 : List PySem.Str := ["_law_fraction", "_law_train", "_law_periods", "_law_looks", "_law_near", "_law_comes", "_law_ways", "_law_tells", "_law_fewest", "_law_told_looks", "_law_more_right", "_law_story_right", "_law_within_right", "_law_sure_right", "_law_alone_right", "_law_right"]
def ls : List PySem.Str := ls0 ++ ls1 ++ ls2 ++ ls3 ++ ls4
abbrev R : PySem.W.OpenRow := PySem.W.OpenLaw.row PySem.Challenge.rw_weftmill_k92_whole_pieces
abbrev hk : PySem.W.Hook := He.hookD 4 fa fn
def ob (s : PySem.W.SharedT) : He.AlD := He.obsDG 4 fa fn (HandSHeadRun.getT s)
theorem ob_eq (s : PySem.W.SharedT) : ob s = hk.obs s.abs := He.obsDG_eq (HandSHeadRun.getT_eq s)
theorem run (w : World) : HandSHeadRun.RunEq R (PySem.W.view R.prog [94]) hk ob 9000 ls w := by
  intro os
  kernel_rfl
end H92
set_option maxHeartbeats 4000000
set_option Elab.async false
set_option linter.all false
set_option maxRecDepth 100000
set_option maxHeartbeats 4000000
/-! A small logic over the layer: a def's slots are said by what they hold (Γ), an expression by what it is worth. -/
namespace Gm
open PySem PySem.Spec PyProof.Rows L2
abbrev HSt := L2.St

/-! ### heaps -/
/-- tuples stay -/
def Tu (H H' : Hp) : Prop := ∀ a xs, H a = some (.tup xs) → H' a = some (.tup xs)
theorem tu_of {H H' : Hp} (e : Same H H') : Tu H H' := fun a _ h => e a _ h
theorem Tu.trans {H H1 H2 : Hp} (a : Tu H H1) (b : Tu H1 H2) : Tu H H2 := fun c x h => b c x (a c x h)
theorem same_new {H : Hp} {p : Addr} {o : HO} (h : H p = none) : Same H (upd H p o) := fun b x e => by
  rw [upd_ne (ne_of_none e h)]
  exact e
/-- an object that H does not know may change -/
theorem same_mut {H H' : Hp} {p : Addr} {o : HO} (e : Same H H') (h : H p = none) : Same H (upd H' p o) := fun b x q => by
  rw [upd_ne (ne_of_none q h)]
  exact e b x q
theorem tu_mut {H : Hp} {p : Addr} {o u : HO} (h : H p = some o) (n : ∀ xs, o ≠ .tup xs) : Tu H (upd H p u) := fun b x q => by
  have e : b ≠ p := fun z => by
    rw [z, h] at q
    exact n x (Option.some.inj q)
  rw [upd_ne e]
  exact q

/-! ### what a value stands for -/
structure Rep (α : Type) where
  r : α → V → Hp → Prop
  mono : ∀ {a : α} {v : V} {H H' : Hp}, Same H H' → r a v H → r a v H'
/-- it leans on tuples alone -/
class Imm {α : Type} (F : Rep α) : Prop where
  tu : ∀ {a : α} {v : V} {H H' : Hp}, Tu H H' → F.r a v H → F.r a v H'

def vI : Rep Int := ⟨fun i v _ => v = .int i, fun _ h => h⟩
def vB : Rep Bool := ⟨fun i v _ => v = .bl i, fun _ h => h⟩
def vS : Rep Str := ⟨fun i v _ => v = .str i, fun _ h => h⟩
def vU : Rep Unit := ⟨fun _ v _ => v = .non, fun _ h => h⟩
instance : Imm vI := ⟨fun _ h => h⟩
instance : Imm vB := ⟨fun _ h => h⟩
instance : Imm vS := ⟨fun _ h => h⟩
instance : Imm vU := ⟨fun _ h => h⟩

/-- item by item -/
def Al {α β : Type} (P : α → β → Hp → Prop) : List α → List β → Hp → Prop
  | [], [], _ => True
  | a :: as, v :: vs, H => P a v H ∧ Al P as vs H
  | _, _, _ => False
section
variable {α β : Type} {P : α → β → Hp → Prop} {H H' : Hp}
theorem Al.length : ∀ {as : List α} {vs : List β}, Al P as vs H → vs.length = as.length
  | [], [], _ => rfl
  | [], _ :: _, h => False.elim h
  | _ :: _, [], h => False.elim h
  | a :: as, v :: vs, h => by rw [List.length_cons, List.length_cons, Al.length h.2]
theorem Al.map (k : ∀ a v, P a v H → P a v H') : ∀ {as : List α} {vs : List β}, Al P as vs H → Al P as vs H'
  | [], [], _ => trivial
  | [], _ :: _, h => False.elim h
  | _ :: _, [], h => False.elim h
  | a :: as, v :: vs, h => ⟨k a v h.1, Al.map k h.2⟩
theorem Al.app : ∀ {as : List α} {vs : List β} {bs : List α} {ws : List β}, Al P as vs H → Al P bs ws H → Al P (as ++ bs) (vs ++ ws) H
  | [], [], _, _, _, k => k
  | [], _ :: _, _, _, h, _ => False.elim h
  | _ :: _, [], _, _, h, _ => False.elim h
  | a :: as, v :: vs, _, _, h, k => ⟨h.1, Al.app h.2 k⟩
theorem Al.get : ∀ {as : List α} {vs : List β} {i : Nat} {a : α}, Al P as vs H → as[i]? = some a → ∃ v, vs[i]? = some v ∧ P a v H
  | [], _, _, _, _, e => by simp at e
  | _ :: _, [], _, _, h, _ => False.elim h
  | a :: as, v :: vs, 0, _, h, e => by
    simp at e
    subst e
    exact ⟨v, rfl, h.1⟩
  | a :: as, v :: vs, i + 1, x, h, e => by
    obtain ⟨u, h1, h2⟩ := Al.get (i := i) (a := x) h.2 (by simpa using e)
    exact ⟨u, by simpa using h1, h2⟩
theorem Al.get' : ∀ {as : List α} {vs : List β} {i : Nat} {v : β}, Al P as vs H → vs[i]? = some v → ∃ a, as[i]? = some a ∧ P a v H
  | _, [], _, _, _, e => by simp at e
  | [], _ :: _, _, _, h, _ => False.elim h
  | a :: as, v :: vs, 0, _, h, e => by
    simp at e
    subst e
    exact ⟨a, rfl, h.1⟩
  | a :: as, v :: vs, i + 1, x, h, e => by
    obtain ⟨u, h1, h2⟩ := Al.get' (i := i) (v := x) h.2 (by simpa using e)
    exact ⟨u, by simpa using h1, h2⟩
theorem Al.drop : ∀ {as : List α} {vs : List β} (n : Nat), Al P as vs H → Al P (as.drop n) (vs.drop n) H
  | [], [], n, _ => by simp; trivial
  | [], _ :: _, _, h => False.elim h
  | _ :: _, [], _, h => False.elim h
  | _ :: _, _ :: _, 0, h => h
  | a :: as, v :: vs, n + 1, h => by
    simp only [List.drop_succ_cons]
    exact Al.drop n h.2
theorem Al.take : ∀ {as : List α} {vs : List β} (n : Nat), Al P as vs H → Al P (as.take n) (vs.take n) H
  | [], [], n, _ => by simp; trivial
  | [], _ :: _, _, h => False.elim h
  | _ :: _, [], _, h => False.elim h
  | _ :: _, _ :: _, 0, h => trivial
  | a :: as, v :: vs, n + 1, h => by
    simp only [List.take_succ_cons]
    exact ⟨h.1, Al.take n h.2⟩
theorem Al.rev : ∀ {as : List α} {vs : List β}, Al P as vs H → Al P as.reverse vs.reverse H
  | [], [], _ => trivial
  | [], _ :: _, h => False.elim h
  | _ :: _, [], h => False.elim h
  | a :: as, v :: vs, h => by
    rw [List.reverse_cons, List.reverse_cons]
    exact Al.app (Al.rev h.2) ⟨h.1, trivial⟩
theorem Al.nil_iff {as : List α} {vs : List β} (h : Al P as vs H) : vs = [] ↔ as = [] := by
  have e := h.length
  constructor
  · intro z
    rw [z] at e
    exact List.eq_nil_of_length_eq_zero e.symm
  · intro z
    rw [z] at e
    exact List.eq_nil_of_length_eq_zero e
theorem Al.nil : Al P [] [] H := trivial
theorem Al.one {a : α} {v : β} (h : P a v H) : Al P [a] [v] H := ⟨h, trivial⟩
end

def vT {α : Type} (F : Rep α) : Rep (List α) := ⟨fun xs v H => ∃ p vs, v = .ref p ∧ H p = some (.tup vs) ∧ Al F.r xs vs H,
  fun e ⟨p, vs, h1, h2, h3⟩ => ⟨p, vs, h1, e _ _ h2, h3.map fun _ _ q => F.mono e q⟩⟩
def vP {α β : Type} (F : Rep α) (G : Rep β) : Rep (α × β) := ⟨fun x v H => ∃ p v1 v2, v = .ref p ∧ H p = some (.tup [v1, v2]) ∧ F.r x.1 v1 H ∧ G.r x.2 v2 H,
  fun e ⟨p, v1, v2, h1, h2, h3, h4⟩ => ⟨p, v1, v2, h1, e _ _ h2, F.mono e h3, G.mono e h4⟩⟩
def vQ {α β γ : Type} (F : Rep α) (G : Rep β) (J : Rep γ) : Rep (α × β × γ) := ⟨fun x v H => ∃ p v1 v2 v3, v = .ref p ∧ H p = some (.tup [v1, v2, v3]) ∧ F.r x.1 v1 H ∧ G.r x.2.1 v2 H ∧ J.r x.2.2 v3 H,
  fun e ⟨p, v1, v2, v3, h1, h2, h3, h4, h5⟩ => ⟨p, v1, v2, v3, h1, e _ _ h2, F.mono e h3, G.mono e h4, J.mono e h5⟩⟩
/-- None or something -/
def vO {α : Type} (F : Rep α) : Rep (Option α) := ⟨fun x v H => match x with
  | none => v = .non
  | some a => F.r a v H, fun {a v H H'} e h => match a, h with
  | none, h => h
  | some _, h => F.mono e h⟩
section
variable {α β γ : Type} {F : Rep α} {G : Rep β} {J : Rep γ}
instance [i : Imm F] : Imm (vT F) := ⟨fun e ⟨p, vs, h1, h2, h3⟩ => ⟨p, vs, h1, e _ _ h2, h3.map fun _ _ q => i.tu e q⟩⟩
instance [i : Imm F] [j : Imm G] : Imm (vP F G) := ⟨fun e ⟨p, v1, v2, h1, h2, h3, h4⟩ => ⟨p, v1, v2, h1, e _ _ h2, i.tu e h3, j.tu e h4⟩⟩
instance [i : Imm F] [j : Imm G] [k : Imm J] : Imm (vQ F G J) := ⟨fun e ⟨p, v1, v2, v3, h1, h2, h3, h4, h5⟩ => ⟨p, v1, v2, v3, h1, e _ _ h2, i.tu e h3, j.tu e h4, k.tu e h5⟩⟩
instance [i : Imm F] : Imm (vO F) := ⟨fun {a v H H'} e h => match a, h with
  | none, h => h
  | some _, h => i.tu (F := F) e h⟩
end

/-- what a changing object holds -/
structure Con (α : Type) where
  c : α → HO → Hp → Prop
  mono : ∀ {a : α} {o : HO} {H H' : Hp}, Same H H' → c a o H → c a o H'
  nt : ∀ {a : α} {o : HO} {H : Hp}, c a o H → ∀ xs, o ≠ .tup xs
class ImmC {α : Type} (C : Con α) : Prop where
  tu : ∀ {a : α} {o : HO} {H H' : Hp}, Tu H H' → C.c a o H → C.c a o H'
def vC {α : Type} (C : Con α) : Rep α := ⟨fun a v H => ∃ p o, v = .ref p ∧ H p = some o ∧ C.c a o H, fun e ⟨p, o, h1, h2, h3⟩ => ⟨p, o, h1, e _ _ h2, C.mono e h3⟩⟩
def cL {α : Type} (F : Rep α) : Con (List α) := ⟨fun xs o H => ∃ vs, o = .lst vs ∧ Al F.r xs vs H, fun e ⟨vs, h1, h2⟩ => ⟨vs, h1, h2.map fun _ _ q => F.mono e q⟩, fun ⟨vs, h1, _⟩ xs e => by
  rw [h1] at e
  cases e⟩
abbrev vL {α : Type} (F : Rep α) : Rep (List α) := vC (cL F)
instance {α : Type} {F : Rep α} [i : Imm F] : ImmC (cL F) := ⟨fun e ⟨vs, h1, h2⟩ => ⟨vs, h1, h2.map fun _ _ q => i.tu e q⟩⟩
/-- a dict whose keys are tuples of whole numbers -/
def cD {α : Type} (F : Rep α) : Con (List (List Int × α)) := ⟨fun xs o H => ∃ ws, o = .dT ws ∧ Al (fun (x : List Int × α) (y : List Key × V) H => y.1 = x.1.map Sum.inl ∧ F.r x.2 y.2 H) xs ws H,
  fun e ⟨vs, h1, h2⟩ => ⟨vs, h1, h2.map fun _ _ q => ⟨q.1, F.mono e q.2⟩⟩, fun ⟨vs, h1, _⟩ xs e => by
  rw [h1] at e
  cases e⟩
abbrev vD {α : Type} (F : Rep α) : Rep (List (List Int × α)) := vC (cD F)
instance {α : Type} {F : Rep α} [i : Imm F] : ImmC (cD F) := ⟨fun e ⟨vs, h1, h2⟩ => ⟨vs, h1, h2.map fun _ _ q => ⟨q.1, i.tu e q.2⟩⟩⟩
/-- a dict of whole numbers, all with True -/
def cM : Con (List Int) := ⟨fun xs o _ => o = .dK (xs.map fun i => (Sum.inl i, V.bl true)), fun _ h => h, fun h xs e => by
  rw [h] at e
  cases e⟩
abbrev vM : Rep (List Int) := vC cM
instance : ImmC cM := ⟨fun _ h => h⟩

/-! ### slots -/
inductive Slot where
  | no
  | im (P : V → Hp → Prop) (h : ∀ (v : V) (H H' : Hp), Tu H H' → P v H → P v H')
  | ge (Hc : Hp) (P : V → Hp → Prop) (h : ∀ (v : V) (H H' : Hp), Same H H' → P v H → P v H')
  | ow (C : Addr → HO → Hp → Prop) (h : ∀ (p : Addr) (o : HO) (H H' : Hp), Tu H H' → C p o H → C p o H') (n : ∀ (p : Addr) (o : HO) (H : Hp), C p o H → ∀ xs, o ≠ .tup xs)
abbrev im {α : Type} (F : Rep α) [i : Imm F] (a : α) : Slot := .im (F.r a) fun _ _ _ e h => i.tu e h
abbrev ge {α : Type} (F : Rep α) (Hc : Hp) (a : α) : Slot := .ge Hc (F.r a) fun _ _ _ e h => F.mono e h
abbrev ow {α : Type} (C : Con α) [i : ImmC C] (a : α) : Slot := .ow (fun _ => C.c a) (fun _ _ _ _ e h => i.tu e h) fun _ _ _ h => C.nt h
/-- .. at p -/
abbrev owA {α : Type} (p : Addr) (C : Con α) [i : ImmC C] (a : α) : Slot := .ow (fun q o H => q = p ∧ C.c a o H) (fun _ _ _ _ e h => ⟨h.1, i.tu e h.2⟩) fun _ _ _ h => C.nt h.2
def Slot.ok (H0 H : Hp) : Slot → Option V → Prop
  | .no, _ => True
  | .im P _, v => ∃ x, v = some x ∧ P x H
  | .ge Hc P _, v => ∃ x, v = some x ∧ P x Hc ∧ Same Hc H0
  | .ow C _ _, v => ∃ p o, v = some (.ref p) ∧ H0 p = none ∧ H p = some o ∧ C p o H
def Slot.own : Slot → Bool
  | .ow _ _ _ => true
  | _ => false
theorem Slot.ok_same {H0 H H' : Hp} {s : Slot} {v : Option V} (e : Same H H') (h : s.ok H0 H v) : s.ok H0 H' v := by
  cases s with
  | no => trivial
  | im P k =>
    obtain ⟨x, h1, h2⟩ := h
    exact ⟨x, h1, k _ _ _ (tu_of e) h2⟩
  | ge Hc P k => exact h
  | ow C k n =>
    obtain ⟨p, o, h1, h2, h3, h4⟩ := h
    exact ⟨p, o, h1, h2, e _ _ h3, k _ _ _ _ (tu_of e) h4⟩
/-- the slots hold what Γ says; the objects of one's own are apart -/
structure En (H0 : Hp) (Γ : List Slot) (σ : HSt) (H : Hp) : Prop where
  same : Same H0 H
  len : σ.length = Γ.length
  ok : ∀ (i : Nat) (s : Slot), Γ[i]? = some s → s.ok H0 H ((σ[i]?).getD none)
  apart : ∀ (i j : Nat) (s t : Slot) (p : Addr), i ≠ j → Γ[i]? = some s → Γ[j]? = some t → s.own = true → t.own = true → (σ[i]?).getD none = some (.ref p) → (σ[j]?).getD none = some (.ref p) → False
section
variable {H0 H H' : Hp} {Γ : List Slot} {σ : HSt}
theorem En.mono (G : En H0 Γ σ H) (e : Same H H') : En H0 Γ σ H' := ⟨G.same.trans e, G.len, fun i s h => Slot.ok_same e (G.ok i s h), G.apart⟩
theorem getD_some {α : Type} {l : List (Option α)} {i : Nat} {x : α} (h : (l[i]?).getD none = some x) : l[i]? = some (some x) := by
  cases e : l[i]? with
  | none =>
    rw [e] at h
    cases h
  | some y =>
    rw [e] at h
    exact congrArg some h
theorem En.im (G : En H0 Γ σ H) {i : Nat} {P : V → Hp → Prop} {k} (h : Γ[i]? = some (.im P k)) : ∃ x, σ[i]? = some (some x) ∧ P x H := by
  obtain ⟨x, h1, h2⟩ := G.ok i _ h
  exact ⟨x, getD_some h1, h2⟩
theorem En.ge (G : En H0 Γ σ H) {i : Nat} {Hc : Hp} {P : V → Hp → Prop} {k} (h : Γ[i]? = some (.ge Hc P k)) : ∃ x, σ[i]? = some (some x) ∧ P x Hc ∧ Same Hc H := by
  obtain ⟨x, h1, h2, h3⟩ := G.ok i _ h
  exact ⟨x, getD_some h1, h2, h3.trans G.same⟩
theorem En.ow (G : En H0 Γ σ H) {i : Nat} {C : Addr → HO → Hp → Prop} {k n} (h : Γ[i]? = some (.ow C k n)) : ∃ p o, σ[i]? = some (some (.ref p)) ∧ H0 p = none ∧ H p = some o ∧ C p o H := by
  obtain ⟨p, o, h1, h2⟩ := G.ok i _ h
  exact ⟨p, o, getD_some h1, h2⟩
theorem getD_set_eq {α : Type} {l : List (Option α)} {i : Nat} {x : Option α} (h : i < l.length) : ((l.set i x)[i]?).getD none = x := by
  rw [List.getElem?_set_self h] <;> rfl
theorem getD_set_ne {α : Type} {l : List (Option α)} {i j : Nat} {x : Option α} (h : i ≠ j) : ((l.set i x)[j]?).getD none = (l[j]?).getD none := by
  rw [List.getElem?_set_ne h]
/-- a slot is set -/
theorem En.set (G : En H0 Γ σ H) {i : Nat} {s : Slot} {x : Option V} (ok : s.ok H0 H x) (ap : s.own = true → ∀ (j : Nat) (t : Slot) (p : Addr), j ≠ i → Γ[j]? = some t → t.own = true → x = some (.ref p) → (σ[j]?).getD none = some (.ref p) → False) : En H0 (Γ.set i s) (σ.set i x) H := by
  refine ⟨G.same, by simp [G.len], fun j t h => ?_, fun j k t u p hjk h1 h2 o1 o2 e1 e2 => ?_⟩
  · by_cases e : i = j
    · subst e
      have hl : i < Γ.length := by
        have q := (List.getElem?_eq_some_iff.mp h).1
        simpa using q
      rw [List.getElem?_set_self hl] at h
      cases h
      rw [getD_set_eq (by rw [G.len]; exact hl)]
      exact ok
    · rw [List.getElem?_set_ne e] at h
      rw [getD_set_ne e]
      exact G.ok j t h
  · by_cases ej : i = j
    · subst ej
      have hl : i < Γ.length := by
        have q := (List.getElem?_eq_some_iff.mp h1).1
        simpa using q
      rw [List.getElem?_set_self hl] at h1
      cases h1
      rw [List.getElem?_set_ne hjk] at h2
      rw [getD_set_eq (by rw [G.len]; exact hl)] at e1
      rw [getD_set_ne hjk] at e2
      exact ap o1 k u p (Ne.symm hjk) h2 o2 e1 e2
    · by_cases ek : i = k
      · subst ek
        have hl : i < Γ.length := by
          have q := (List.getElem?_eq_some_iff.mp h2).1
          simpa using q
        rw [List.getElem?_set_self hl] at h2
        cases h2
        rw [List.getElem?_set_ne ej] at h1
        rw [getD_set_eq (by rw [G.len]; exact hl)] at e2
        rw [getD_set_ne ej] at e1
        exact ap o2 j t p hjk h1 o1 e2 e1
      · rw [List.getElem?_set_ne ej] at h1
        rw [List.getElem?_set_ne ek] at h2
        rw [getD_set_ne ej] at e1
        rw [getD_set_ne ek] at e2
        exact G.apart j k t u p hjk h1 h2 o1 o2 e1 e2
theorem En.set_no (G : En H0 Γ σ H) {i : Nat} {x : Option V} : En H0 (Γ.set i .no) (σ.set i x) H := G.set trivial fun h => nomatch h
theorem En.set_im (G : En H0 Γ σ H) {i : Nat} {P : V → Hp → Prop} {k} {x : V} (h : P x H) : En H0 (Γ.set i (.im P k)) (σ.set i (some x)) H := G.set ⟨x, rfl, h⟩ fun h => nomatch h
theorem En.set_ge (G : En H0 Γ σ H) {i : Nat} {Hc : Hp} {P : V → Hp → Prop} {k} {x : V} (h : P x Hc) (s : Same Hc H0) : En H0 (Γ.set i (.ge Hc P k)) (σ.set i (some x)) H := G.set ⟨x, rfl, h, s⟩ fun h => nomatch h
/-- a new object of one's own: at p, where the heap H (in which the slots held) had none -/
theorem En.set_ow (G : En H0 Γ σ H) (e : Same H H') {i : Nat} {C : Addr → HO → Hp → Prop} {k n} {p : Addr} {o : HO} (hp : H p = none) (h1 : H' p = some o) (h2 : C p o H') : En H0 (Γ.set i (.ow C k n)) (σ.set i (some (.ref p))) H' := by
  refine (G.mono e).set ⟨p, o, rfl, ?_, h1, h2⟩ fun _ j t q hj ht to hq e2 => ?_
  · cases z : H0 p with
    | none => rfl
    | some u =>
      rw [G.same _ _ z] at hp
      cases hp
  · cases hq
    cases t with
    | ow D kd nd =>
      obtain ⟨p2, o2, w1, w2, w3, w4⟩ := G.ok j _ ht
      rw [e2] at w1
      cases w1
      rw [hp] at w3
      cases w3
    | _ => cases to
/-- an object of one's own is changed -/
theorem En.mut (G : En H0 Γ σ H) {i : Nat} {C : Addr → HO → Hp → Prop} {k n} {D : Addr → HO → Hp → Prop} {kd nd} {p : Addr} {o u : HO} (hi : Γ[i]? = some (.ow C k n)) (hs : σ[i]? = some (some (.ref p))) (hp : H p = some o) (ho : C p o H) (hu : D p u (upd H p u)) : En H0 (Γ.set i (.ow D kd nd)) σ (upd H p u) := by
  have t : Tu H (upd H p u) := tu_mut hp (n p o H ho)
  obtain ⟨p1, o1, w1, w2, w3, w4⟩ := G.ow hi
  rw [hs] at w1
  cases w1
  have hi' : i < Γ.length := (List.getElem?_eq_some_iff.mp hi).1
  refine ⟨same_mut G.same w2, by simp [G.len], fun j s h => ?_, fun a b s q r hab h1 h2 o1 o2 e1 e2 => ?_⟩
  · by_cases e : i = j
    · subst e
      rw [List.getElem?_set_self hi'] at h
      cases h
      exact ⟨p, u, by rw [hs] <;> rfl, w2, upd_same, hu⟩
    · rw [List.getElem?_set_ne e] at h
      have z := G.ok j s h
      cases s with
      | no => trivial
      | im P kk =>
        obtain ⟨x, z1, z2⟩ := z
        exact ⟨x, z1, kk _ _ _ t z2⟩
      | ge Hc P kk => exact z
      | ow E ke ne =>
        obtain ⟨p2, o2, z1, z2, z3, z4⟩ := z
        have npp : p2 ≠ p := fun q => by
          rw [q] at z1
          exact G.apart i j _ _ p e hi h rfl rfl (by rw [hs] <;> rfl) z1
        exact ⟨p2, o2, z1, z2, by rw [upd_ne npp]; exact z3, ke _ _ _ _ t z4⟩
  · have back : ∀ (c : Nat) (s : Slot), (Γ.set i (.ow D kd nd))[c]? = some s → s.own = true → ∃ s', Γ[c]? = some s' ∧ s'.own = true := fun c s h o => by
      by_cases e : i = c
      · subst e
        exact ⟨_, hi, rfl⟩
      · rw [List.getElem?_set_ne e] at h
        exact ⟨s, h, o⟩
    obtain ⟨s', a1, a2⟩ := back a s h1 o1
    obtain ⟨q', b1, b2⟩ := back b q h2 o2
    exact G.apart a b s' q' r hab a1 b1 a2 b2 e1 e2
/-- the heap without what is one's own -/
noncomputable def bare (Γ : List Slot) (σ : HSt) (H : Hp) : Hp := fun a => open Classical in if ∃ (i : Nat) (s : Slot), Γ[i]? = some s ∧ s.own = true ∧ (σ[i]?).getD none = some (V.ref a) then none else H a
theorem bare_sub : Same (bare Γ σ H) H := fun a o h => by
  unfold bare at h
  split at h
  · cases h
  · exact h
theorem bare_at {a : Addr} {o : HO} (h : H a = some o) (n : ∀ (i : Nat) (s : Slot), Γ[i]? = some s → s.own = true → (σ[i]?).getD none ≠ some (V.ref a)) : bare Γ σ H a = some o := by
  unfold bare
  rw [if_neg]
  · exact h
  · rintro ⟨i, s, h1, h2, h3⟩
    exact n i s h1 h2 h3
theorem En.bare_tu (G : En H0 Γ σ H) : Tu H (bare Γ σ H) := fun a xs h => bare_at h fun i s h1 h2 h3 => by
  cases s with
  | ow C k n =>
    obtain ⟨p, o, w1, w2, w3, w4⟩ := G.ok i _ h1
    rw [h3] at w1
    cases w1
    rw [h] at w3
    exact n _ _ _ w4 xs (Option.some.inj w3).symm
  | _ => cases h2
theorem En.bare_same (G : En H0 Γ σ H) : Same H0 (bare Γ σ H) := fun a o h => bare_at (G.same _ _ h) fun i s h1 h2 h3 => by
  cases s with
  | ow C k n =>
    obtain ⟨p, u, w1, w2, w3, w4⟩ := G.ok i _ h1
    rw [h3] at w1
    cases w1
    rw [h] at w2
    cases w2
  | _ => cases h2
/-- all that is there by now may count as given -/
theorem En.rebase (G : En H0 Γ σ H) : En (bare Γ σ H) Γ σ H := by
  refine ⟨bare_sub, G.len, fun i s h => ?_, G.apart⟩
  have z := G.ok i s h
  cases s with
  | no => trivial
  | im P k => exact z
  | ge Hc P k =>
    obtain ⟨x, z1, z2, z3⟩ := z
    exact ⟨x, z1, z2, z3.trans G.bare_same⟩
  | ow C k n =>
    obtain ⟨p, o, z1, z2, z3, z4⟩ := z
    refine ⟨p, o, z1, ?_, z3, z4⟩
    unfold bare
    rw [if_pos ⟨i, _, h, rfl, z1⟩]
/-- slots forgotten -/
inductive Sub : List Slot → List Slot → Prop
  | nil : Sub [] []
  | keep {s : Slot} {a b : List Slot} : Sub a b → Sub (s :: a) (s :: b)
  | drop {s : Slot} {a b : List Slot} : Sub a b → Sub (s :: a) (.no :: b)
theorem Sub.len : ∀ {a b : List Slot}, Sub a b → a.length = b.length
  | _, _, .nil => rfl
  | _, _, .keep h => congrArg Nat.succ h.len
  | _, _, .drop h => congrArg Nat.succ h.len
theorem Sub.get : ∀ {a b : List Slot} {i : Nat} {s : Slot}, Sub a b → b[i]? = some s → s = .no ∨ a[i]? = some s
  | _, _, _, _, .nil, e => by simp at e
  | _, _, 0, _, .keep h, e => .inr e
  | _, _, 0, _, .drop h, e => .inl (Option.some.inj e).symm
  | _, _, i + 1, _, .keep h, e => Sub.get (i := i) h e
  | _, _, i + 1, _, .drop h, e => Sub.get (i := i) h e
theorem Sub.refl : ∀ a : List Slot, Sub a a
  | [] => .nil
  | _ :: r => .keep (Sub.refl r)
theorem En.sub (G : En H0 Γ σ H) {Γ' : List Slot} (h : Sub Γ Γ') : En H0 Γ' σ H := by
  refine ⟨G.same, by rw [← h.len]; exact G.len, fun i s e => ?_, fun i j s t p hij h1 h2 o1 o2 e1 e2 => ?_⟩
  · rcases h.get e with z | z
    · rw [z]
      trivial
    · exact G.ok i s z
  · rcases h.get h1 with z | z
    · rw [z] at o1
      cases o1
    · rcases h.get h2 with z2 | z2
      · rw [z2] at o2
        cases o2
      · exact G.apart i j s t p hij z z2 o1 o2 e1 e2
/-- what a slot leans on is in H0 -/
def Slot.based (H0 : Hp) : Slot → Prop
  | .ge Hc _ _ => Same Hc H0
  | _ => True
def Bs (H0 : Hp) : List Slot → Prop
  | [] => True
  | s :: r => s.based H0 ∧ Bs H0 r
theorem Bs.get : ∀ {l : List Slot} {i : Nat} {s : Slot}, Bs H0 l → l[i]? = some s → s.based H0
  | [], _, _, _, e => by simp at e
  | _ :: _, 0, _, h, e => by
    cases (Option.some.inj e)
    exact h.1
  | _ :: r, i + 1, _, h, e => Bs.get (l := r) (i := i) h.2 e
/-- a smaller base -/
theorem En.base {H1 : Hp} (G : En H1 Γ σ H) (e : Same H0 H1) (b : Bs H0 Γ) : En H0 Γ σ H := by
  refine ⟨e.trans G.same, G.len, fun i s h => ?_, G.apart⟩
  have z := G.ok i s h
  cases s with
  | no => trivial
  | im P k => exact z
  | ge Hc P k =>
    obtain ⟨x, z1, z2, z3⟩ := z
    exact ⟨x, z1, z2, b.get h⟩
  | ow C k n =>
    obtain ⟨p, o, z1, z2, z3, z4⟩ := z
    exact ⟨p, o, z1, e.free z2, z3, z4⟩
end
end Gm
set_option Elab.async false
set_option linter.all false
set_option maxRecDepth 100000
set_option maxHeartbeats 4000000
namespace Gm
open PySem PySem.Spec PyProof.Rows L2

/-! ### what is said of an expression, a test, arguments, statements -/
def Fre (fr : Bool) (v : V) (H : Hp) : Prop := fr = true → ∃ p, v = .ref p ∧ H p = none
theorem same_free {H H' : Hp} (e : Same H H') {p : Addr} (h : H' p = none) : H p = none := e.free h
theorem Fre.back {fr : Bool} {v : V} {H H' : Hp} (e : Same H H') (h : Fre fr v H') : Fre fr v H := fun f => by
  obtain ⟨p, h1, h2⟩ := h f
  exact ⟨p, h1, e.free h2⟩
theorem fre0 {v : V} {H : Hp} : Fre false v H := fun h => nomatch h
/-- worth a under F (fr: a new object) -/
def tE {α : Type} (fr : Bool) (F : Rep α) (H0 : Hp) (Γ : List Slot) (a : α) : TE := fun σ H Q => En H0 Γ σ H ∧ ∀ v H2, Same H H2 → F.r a v H2 → Fre fr v H → Q v H2
def tT (H0 : Hp) (Γ : List Slot) (b : Bool) : TT := fun σ H Q => En H0 Γ σ H ∧ ∀ H2, Same H H2 → Q b H2
structure RepA (ι : Type) where
  r : ι → List V → Hp → Prop
  mono : ∀ {a : ι} {v : List V} {H H' : Hp}, Same H H' → r a v H → r a v H'
def aN : RepA Unit := ⟨fun _ vs _ => vs = [], fun _ h => h⟩
def aC {α ι : Type} (F : Rep α) (A : RepA ι) : RepA (α × ι) := ⟨fun x vs H => ∃ v r, vs = v :: r ∧ F.r x.1 v H ∧ A.r x.2 r H, fun e ⟨v, r, h1, h2, h3⟩ => ⟨v, r, h1, F.mono e h2, A.mono e h3⟩⟩
abbrev a1 {α : Type} (F : Rep α) : RepA (α × Unit) := aC F aN
abbrev a2 {α β : Type} (F : Rep α) (G : Rep β) : RepA (α × β × Unit) := aC F (aC G aN)
abbrev a3 {α β γ : Type} (F : Rep α) (G : Rep β) (J : Rep γ) : RepA (α × β × γ × Unit) := aC F (aC G (aC J aN))
def tA {ι : Type} (A : RepA ι) (H0 : Hp) (Γ : List Slot) (i : ι) : TA := fun σ H Q => En H0 Γ σ H ∧ ∀ vs H2, Same H H2 → A.r i vs H2 → Q vs H2
/-- a def's promise: from arguments i it hands back f i -/
def spG {ι ρ : Type} (A : RepA ι) (fr : Bool) (R : Rep ρ) (pre : ι → Prop) (f : ι → ρ) : Sp := fun vs H Q _ => ∃ i, A.r i vs H ∧ pre i ∧ ∀ v H2, Same H H2 → R.r (f i) v H2 → Fre fr v H → Q v H2
/-- statements: what they hand back is R, what they leave is N -/
def tS (H0 : Hp) (Γ : List Slot) (R : V → Hp → Prop) (N : HSt → Hp → Prop) : TS := fun D σ H => En H0 Γ σ H ∧ (∀ v H2, Same H0 H2 → R v H2 → D.rt v H2) ∧ ∀ σ2 H2, N σ2 H2 → D.nx σ2 H2

section
variable {X : Cx} {e a b : Expr} {es : List Expr} {pos : Pos} {H0 : Hp} {Γ : List Slot} {fr f1 f2 : Bool}
theorem _root_.L2.PE.wk {t t' : TE} (h : PE X e t) (k : ∀ σ H Q, t' σ H Q → t σ H Q) : PE X e t' := ⟨fun pins s σ H Q I q => h.run pins s σ H Q I (k σ H Q q)⟩
theorem _root_.L2.PT.wk {t t' : TT} (h : PT X e t) (k : ∀ σ H Q, t' σ H Q → t σ H Q) : PT X e t' := ⟨fun pins s σ H Q I q => h.run pins s σ H Q I (k σ H Q q)⟩
theorem _root_.L2.PW.wk {t t' : TT} (h : PW X e t) (k : ∀ σ H Q, t' σ H Q → t σ H Q) : PW X e t' := ⟨fun wh pins s σ H Q I q => h.run wh pins s σ H Q I (k σ H Q q)⟩
theorem _root_.L2.PA.wk {t t' : TA} (h : PA X es t) (k : ∀ σ H Q, t' σ H Q → t σ H Q) : PA X es t' := ⟨fun pos pins s σ H Q I q => h.run pos pins s σ H Q I (k σ H Q q)⟩
theorem _root_.L2.PSs.wk {sts : List Stmt} {t t' : TS} (h : PSs X sts t) (k : ∀ D σ H, t' D σ H → t D σ H) : PSs X sts t' := ⟨fun pins s σ H D I q => h.run pins s σ H D I (k D σ H q)⟩
theorem _root_.L2.PS.wk {st : Stmt} {t t' : TS} (h : PS X st t) (k : ∀ D σ H, t' D σ H → t D σ H) : PS X st t' := ⟨fun pins s σ H D I q => h.run pins s σ H D I (k D σ H q)⟩
theorem pe_never : PE X e (fun _ _ _ => False) := ⟨fun _ _ _ _ _ _ h => h.elim⟩
theorem pt_never : PT X e (fun _ _ _ => False) := ⟨fun _ _ _ _ _ _ h => h.elim⟩
theorem pw_never : PW X e (fun _ _ _ => False) := ⟨fun _ _ _ _ _ _ _ h => h.elim⟩
/-- of many readings -/
def tEx {ι : Sort _} (p : ι → Prop) (t : ι → TE) : TE := fun σ H Q => ∃ i, p i ∧ t i σ H Q
def tTx {ι : Sort _} (p : ι → Prop) (t : ι → TT) : TT := fun σ H Q => ∃ i, p i ∧ t i σ H Q
def tSx {ι : Sort _} (p : ι → Prop) (t : ι → TS) : TS := fun D σ H => ∃ i, p i ∧ t i D σ H
theorem _root_.L2.PE.ex {ι : Sort _} {p : ι → Prop} {t : ι → TE} (h : ∀ i, p i → PE X e (t i)) : PE X e (tEx p t) := ⟨fun pins s σ H Q I ⟨i, hp, q⟩ => (h i hp).run pins s σ H Q I q⟩
theorem _root_.L2.PT.ex {ι : Sort _} {p : ι → Prop} {t : ι → TT} (h : ∀ i, p i → PT X e (t i)) : PT X e (tTx p t) := ⟨fun pins s σ H Q I ⟨i, hp, q⟩ => (h i hp).run pins s σ H Q I q⟩
theorem _root_.L2.PSs.ex {sts : List Stmt} {ι : Sort _} {p : ι → Prop} {t : ι → TS} (h : ∀ i, p i → PSs X sts (t i)) : PSs X sts (tSx p t) := ⟨fun pins s σ H D I ⟨i, hp, q⟩ => (h i hp).run pins s σ H D I q⟩

/-! ### rewriting -/
theorem ex_is {α : Type} {F : Rep α} {x y : α} (h : PE X e (tE fr F H0 Γ x)) (q : x = y) : PE X e (tE fr F H0 Γ y) := by
  rw [← q]
  exact h
theorem et_is {x y : Bool} (h : PT X e (tT H0 Γ x)) (q : x = y) : PT X e (tT H0 Γ y) := by
  rw [← q]
  exact h
theorem ex_old {α : Type} {F : Rep α} {x : α} (h : PE X e (tE fr F H0 Γ x)) : PE X e (tE false F H0 Γ x) := h.wk fun _ _ _ ⟨G, q⟩ => ⟨G, fun v H2 s r _ => q v H2 s r fre0⟩

/-! ### names, constants -/
theorem ex_im {α : Type} {F : Rep α} [Imm F] {x : α} {z : Str} (i : Nat) (h : Γ[i]? = some (im F x) := by rfl) (hN : X.N[i]? = some z := by rfl) (hv : Vis X.env.scope z := by first | exact Or.inl rfl | exact Or.inr (Or.inl rfl) | exact Or.inr (Or.inr rfl))
    (hd : (z == ("__debug__" : Str)) = false := by decide) (hcd : (z == ("__classdict__" : Str)) = false := by decide) : PE X (.Name z pos) (tE false F H0 Γ x) :=
  (pv i hN hv hd hcd).wk fun σ H Q ⟨G, q⟩ => by
    obtain ⟨v, h1, h2⟩ := G.im h
    exact ⟨v, h1, q v H (Same.refl H) h2 fre0⟩
theorem ex_ge {α : Type} {F : Rep α} {Hc : Hp} {x : α} {z : Str} (i : Nat) (h : Γ[i]? = some (ge F Hc x) := by rfl) (hN : X.N[i]? = some z := by rfl) (hv : Vis X.env.scope z := by first | exact Or.inl rfl | exact Or.inr (Or.inl rfl) | exact Or.inr (Or.inr rfl))
    (hd : (z == ("__debug__" : Str)) = false := by decide) (hcd : (z == ("__classdict__" : Str)) = false := by decide) : PE X (.Name z pos) (tE false F H0 Γ x) :=
  (pv i hN hv hd hcd).wk fun σ H Q ⟨G, q⟩ => by
    obtain ⟨v, h1, h2, h3⟩ := G.ge h
    exact ⟨v, h1, q v H (Same.refl H) (F.mono h3 h2) fre0⟩
theorem ex_ow {α : Type} {C : Con α} [ImmC C] {x : α} {z : Str} (i : Nat) (h : Γ[i]? = some (ow C x) := by rfl) (hN : X.N[i]? = some z := by rfl) (hv : Vis X.env.scope z := by first | exact Or.inl rfl | exact Or.inr (Or.inl rfl) | exact Or.inr (Or.inr rfl))
    (hd : (z == ("__debug__" : Str)) = false := by decide) (hcd : (z == ("__classdict__" : Str)) = false := by decide) : PE X (.Name z pos) (tE false (vC C) H0 Γ x) :=
  (pv i hN hv hd hcd).wk fun σ H Q ⟨G, q⟩ => by
    obtain ⟨p, o, h1, h2, h3, h4⟩ := G.ow h
    exact ⟨_, h1, q _ H (Same.refl H) ⟨p, o, rfl, h3, h4⟩ fre0⟩
theorem ex_int {i : Int} {j : Nat} : PE X (.Constant (.int i) j pos) (tE false vI H0 Γ i) := pe_int.wk fun σ H Q ⟨G, q⟩ => q _ H (Same.refl H) rfl fre0
theorem ex_bl {i : Bool} {j : Nat} : PE X (.Constant (.bool i) j pos) (tE false vB H0 Γ i) := pe_bl.wk fun σ H Q ⟨G, q⟩ => q _ H (Same.refl H) rfl fre0
theorem ex_str {i : Str} {j : Nat} : PE X (.Constant (.str i) j pos) (tE false vS H0 Γ i) := pe_str.wk fun σ H Q ⟨G, q⟩ => q _ H (Same.refl H) rfl fre0
theorem ex_non {α : Type} {F : Rep α} {j : Nat} : PE X (.Constant .none j pos) (tE false (vO F) H0 Γ none) := pe_non.wk fun σ H Q ⟨G, q⟩ => q _ H (Same.refl H) rfl fre0
theorem ex_gint {i : Int} {z : Str} (hm : ∃ t, X.mg z = some (.int i t)) (hg : Gl X z := by rfl) (hd : (z == ("__debug__" : Str)) = false := by decide) : PE X (.Name z pos) (tE false vI H0 Γ i) := by
  obtain ⟨t, hm⟩ := hm
  exact (pe_glob hg hm (v := .int i) ⟨t, rfl⟩ hd).wk fun σ H Q ⟨G, q⟩ => q _ H (Same.refl H) rfl fre0
theorem ex_gstr {i : Str} {z : Str} (hm : ∃ t, X.mg z = some (.str i t)) (hg : Gl X z := by rfl) (hd : (z == ("__debug__" : Str)) = false := by decide) : PE X (.Name z pos) (tE false vS H0 Γ i) := by
  obtain ⟨t, hm⟩ := hm
  exact (pe_glob hg hm (v := .str i) ⟨t, rfl⟩ hd).wk fun σ H Q ⟨G, q⟩ => q _ H (Same.refl H) rfl fre0

/-! ### operators -/
variable {α β γ : Type} {F : Rep α} {G : Rep β} {J : Rep γ} {x : α} {y : β} {z : γ}
theorem ex_bin {op : Operator} {r : R2} (ho : OpR X (binaryOp op) r) (k : ∀ v w H Q, F.r x v H → G.r y w H → (∀ u H2, Same H H2 → J.r z u H2 → Fre fr u H → Q u H2) → r v w H Q)
    (ha : PE X a (tE f1 F H0 Γ x)) (hb : PE X b (tE f2 G H0 Γ y)) : PE X (.BinOp a op b pos) (tE fr J H0 Γ z) :=
  (pe_op ho ha hb).wk fun σ H Q ⟨g, q⟩ => ⟨g, fun v H1 e1 r1 _ => ⟨g.mono e1, fun w H2 e2 r2 _ => k v w H2 Q (F.mono e2 r1) r2 fun u H3 e3 r3 fz => q u H3 ((e1.trans e2).trans e3) r3 (fz.back (e1.trans e2))⟩⟩
theorem ex_cmp {op : CmpOp} {r : R2} (ho : OpR X (compareOp op) r) (k : ∀ v w H Q, F.r x v H → G.r y w H → (∀ u H2, Same H H2 → J.r z u H2 → Q u H2) → r v w H Q)
    (hm : behindInMarks op b = false) (ha : PE X a (tE f1 F H0 Γ x)) (hb : PE X b (tE f2 G H0 Γ y)) : PE X (.Compare a [op] [b] pos) (tE false J H0 Γ z) :=
  (pe_cmpR ho ha hb hm).wk fun σ H Q ⟨g, q⟩ => ⟨g, fun v H1 e1 r1 _ => ⟨g.mono e1, fun w H2 e2 r2 _ => k v w H2 Q (F.mono e2 r1) r2 fun u H3 e3 r3 => q u H3 ((e1.trans e2).trans e3) r3 fre0⟩⟩
theorem et_cmp {op : CmpOp} {r : R2} {c : Bool} (ho : OpR X (compareOp op) r) (k : ∀ v w H Q, F.r x v H → G.r y w H → (∀ u H2, Same H H2 → vB.r c u H2 → Q u H2) → r v w H Q)
    (hm : behindInMarks op b = false) (ha : PE X a (tE f1 F H0 Γ x)) (hb : PE X b (tE f2 G H0 Γ y)) : PT X (.Compare a [op] [b] pos) (tT H0 Γ c) :=
  (pt_cmpR ho ha hb hm).wk fun σ H Q ⟨g, q⟩ => ⟨g, fun v H1 e1 r1 _ => ⟨g.mono e1, fun w H2 e2 r2 _ => k v w H2 _ (F.mono e2 r1) r2 fun u H3 e3 r3 => ⟨c, r3, q H3 ((e1.trans e2).trans e3)⟩⟩⟩
section
variable {i j : Int}
theorem k0 {g : Int → Int → V} {v w : V} {H : Hp} {Q : VK} (h1 : vI.r i v H) (h2 : vI.r j w H) (q : ∀ u H2, Same H H2 → u = g i j → Q u H2) : rI0 g v w H Q := ⟨i, j, h1, h2, q _ H (Same.refl H) rfl⟩
theorem kC {C : Int → Int → Prop} {g : Int → Int → V} {v w : V} {H : Hp} {Q : VK} (hc : C i j) (h1 : vI.r i v H) (h2 : vI.r j w H) (q : ∀ u H2, Same H H2 → u = g i j → Q u H2) : rI C g v w H Q := ⟨i, j, h1, h2, hc, q _ H (Same.refl H) rfl⟩
theorem ex_add (ha : PE X a (tE f1 vI H0 Γ i)) (hb : PE X b (tE f2 vI H0 Γ j)) : PE X (.BinOp a .Add b pos) (tE false vI H0 Γ (i + j)) := ex_bin op_add (fun _ _ _ _ h1 h2 q => k0 h1 h2 fun u H2 s e => q u H2 s e fre0) ha hb
theorem ex_sub (ha : PE X a (tE f1 vI H0 Γ i)) (hb : PE X b (tE f2 vI H0 Γ j)) : PE X (.BinOp a .Sub b pos) (tE false vI H0 Γ (i - j)) := ex_bin op_sub (fun _ _ _ _ h1 h2 q => k0 h1 h2 fun u H2 s e => q u H2 s e fre0) ha hb
theorem ex_mul (ha : PE X a (tE f1 vI H0 Γ i)) (hb : PE X b (tE f2 vI H0 Γ j)) (hc : CMul i j) : PE X (.BinOp a .Mult b pos) (tE false vI H0 Γ (i * j)) := ex_bin op_mul (fun _ _ _ _ h1 h2 q => kC hc h1 h2 fun u H2 s e => q u H2 s e fre0) ha hb
theorem ex_mod (ha : PE X a (tE f1 vI H0 Γ i)) (hb : PE X b (tE f2 vI H0 Γ j)) (hc : 0 < j) : PE X (.BinOp a .Mod b pos) (tE false vI H0 Γ (i % j)) := ex_bin op_mod (fun _ _ _ _ h1 h2 q => kC hc h1 h2 fun u H2 s e => q u H2 s e fre0) ha hb
theorem ex_fdiv (ha : PE X a (tE f1 vI H0 Γ i)) (hb : PE X b (tE f2 vI H0 Γ j)) (hc : CDiv i j) : PE X (.BinOp a .FloorDiv b pos) (tE false vI H0 Γ (i / j)) := ex_bin op_fdiv (fun _ _ _ _ h1 h2 q => kC hc h1 h2 fun u H2 s e => q u H2 s e fre0) ha hb
theorem ex_pow (ha : PE X a (tE f1 vI H0 Γ i)) (hb : PE X b (tE f2 vI H0 Γ j)) (hc : CPow i j) : PE X (.BinOp a .Pow b pos) (tE false vI H0 Γ (i ^ j.toNat)) := ex_bin op_pow (fun _ _ _ _ h1 h2 q => kC hc h1 h2 fun u H2 s e => q u H2 s e fre0) ha hb
theorem ex_neg (ha : PE X a (tE f1 vI H0 Γ i)) : PE X (.UnaryOp .USub a pos) (tE false vI H0 Γ (-i)) :=
  (pe_un un_neg ha).wk fun σ H Q ⟨g, q⟩ => ⟨g, fun v H1 e1 r1 _ => ⟨i, r1, q _ H1 e1 rfl fre0⟩⟩
theorem ex_lt (ha : PE X a (tE f1 vI H0 Γ i)) (hb : PE X b (tE f2 vI H0 Γ j)) : PE X (.Compare a [.Lt] [b] pos) (tE false vB H0 Γ (decide (i < j))) := ex_cmp op_lt (fun _ _ _ _ h1 h2 q => k0 h1 h2 q) (nomark _) ha hb
theorem ex_le (ha : PE X a (tE f1 vI H0 Γ i)) (hb : PE X b (tE f2 vI H0 Γ j)) : PE X (.Compare a [.LtE] [b] pos) (tE false vB H0 Γ (decide (i ≤ j))) := ex_cmp op_le (fun _ _ _ _ h1 h2 q => k0 h1 h2 q) (nomark _) ha hb
theorem ex_gt (ha : PE X a (tE f1 vI H0 Γ i)) (hb : PE X b (tE f2 vI H0 Γ j)) : PE X (.Compare a [.Gt] [b] pos) (tE false vB H0 Γ (decide (j < i))) := ex_cmp op_gt (fun _ _ _ _ h1 h2 q => k0 h1 h2 q) (nomark _) ha hb
theorem ex_geq (ha : PE X a (tE f1 vI H0 Γ i)) (hb : PE X b (tE f2 vI H0 Γ j)) : PE X (.Compare a [.GtE] [b] pos) (tE false vB H0 Γ (decide (j ≤ i))) := ex_cmp op_ge (fun _ _ _ _ h1 h2 q => k0 h1 h2 q) (nomark _) ha hb
theorem et_lt (ha : PE X a (tE f1 vI H0 Γ i)) (hb : PE X b (tE f2 vI H0 Γ j)) : PT X (.Compare a [.Lt] [b] pos) (tT H0 Γ (decide (i < j))) := et_cmp op_lt (fun _ _ _ _ h1 h2 q => k0 h1 h2 q) (nomark _) ha hb
theorem et_le (ha : PE X a (tE f1 vI H0 Γ i)) (hb : PE X b (tE f2 vI H0 Γ j)) : PT X (.Compare a [.LtE] [b] pos) (tT H0 Γ (decide (i ≤ j))) := et_cmp op_le (fun _ _ _ _ h1 h2 q => k0 h1 h2 q) (nomark _) ha hb
theorem et_gt (ha : PE X a (tE f1 vI H0 Γ i)) (hb : PE X b (tE f2 vI H0 Γ j)) : PT X (.Compare a [.Gt] [b] pos) (tT H0 Γ (decide (j < i))) := et_cmp op_gt (fun _ _ _ _ h1 h2 q => k0 h1 h2 q) (nomark _) ha hb
theorem et_geq (ha : PE X a (tE f1 vI H0 Γ i)) (hb : PE X b (tE f2 vI H0 Γ j)) : PT X (.Compare a [.GtE] [b] pos) (tT H0 Γ (decide (j ≤ i))) := et_cmp op_ge (fun _ _ _ _ h1 h2 q => k0 h1 h2 q) (nomark _) ha hb
end
/-- == of scalars of one kind -/
class Sca {α : Type} [DecidableEq α] (F : Rep α) where
  v : α → V
  r : ∀ {x : α} {u : V} {H : Hp}, F.r x u H → u = v x
  sc : ∀ x y : α, scal (v x) (v y) = true
  inj : ∀ x y : α, v x = v y → x = y
instance : Sca vI := ⟨.int, fun h => h, fun _ _ => rfl, fun _ _ h => V.int.inj h⟩
instance : Sca vB := ⟨.bl, fun h => h, fun _ _ => rfl, fun _ _ h => V.bl.inj h⟩
instance : Sca vS := ⟨.str, fun h => h, fun _ _ => rfl, fun _ _ h => V.str.inj h⟩
theorem sca_dec {α : Type} [DecidableEq α] {F : Rep α} [s : Sca F] {x x' : α} : decide (s.v x = s.v x') = decide (x = x') := by
  by_cases e : x = x'
  · rw [e, decide_eq_true rfl, decide_eq_true rfl]
  · rw [decide_eq_false e, decide_eq_false fun q => e (s.inj _ _ q)]
theorem kEq {α : Type} [DecidableEq α] {F : Rep α} [s : Sca F] {x x' : α} {v w : V} {H : Hp} {Q : VK} (h1 : F.r x v H) (h2 : F.r x' w H) (q : ∀ u H2, Same H H2 → vB.r (decide (x = x')) u H2 → Q u H2) : rEq v w H Q := by
  rw [s.r h1, s.r h2]
  exact ⟨s.sc _ _, q _ H (Same.refl H) (by show V.bl _ = V.bl _; rw [sca_dec])⟩
theorem kNe {α : Type} [DecidableEq α] {F : Rep α} [s : Sca F] {x x' : α} {v w : V} {H : Hp} {Q : VK} (h1 : F.r x v H) (h2 : F.r x' w H) (q : ∀ u H2, Same H H2 → vB.r (!decide (x = x')) u H2 → Q u H2) : rNe v w H Q := by
  rw [s.r h1, s.r h2]
  exact ⟨s.sc _ _, q _ H (Same.refl H) (by show V.bl _ = V.bl _; rw [sca_dec])⟩
section
variable [DecidableEq α] [Sca F] {x' : α}
theorem ex_eq (ha : PE X a (tE f1 F H0 Γ x)) (hb : PE X b (tE f2 F H0 Γ x')) : PE X (.Compare a [.Eq] [b] pos) (tE false vB H0 Γ (decide (x = x'))) := ex_cmp op_eq (fun _ _ _ _ h1 h2 q => kEq h1 h2 q) (nomark _) ha hb
theorem ex_ne (ha : PE X a (tE f1 F H0 Γ x)) (hb : PE X b (tE f2 F H0 Γ x')) : PE X (.Compare a [.NotEq] [b] pos) (tE false vB H0 Γ (!decide (x = x'))) := ex_cmp op_ne (fun _ _ _ _ h1 h2 q => kNe h1 h2 q) (nomark _) ha hb
theorem et_eq (ha : PE X a (tE f1 F H0 Γ x)) (hb : PE X b (tE f2 F H0 Γ x')) : PT X (.Compare a [.Eq] [b] pos) (tT H0 Γ (decide (x = x'))) := et_cmp op_eq (fun _ _ _ _ h1 h2 q => kEq h1 h2 q) (nomark _) ha hb
theorem et_ne (ha : PE X a (tE f1 F H0 Γ x)) (hb : PE X b (tE f2 F H0 Γ x')) : PT X (.Compare a [.NotEq] [b] pos) (tT H0 Γ (!decide (x = x'))) := et_cmp op_ne (fun _ _ _ _ h1 h2 q => kNe h1 h2 q) (nomark _) ha hb
end
/-- a <= b <= c, a < b < c -/
theorem et_chain {op op' : CmpOp} {g g' : Int → Int → Bool} {i j k : Int} {c : Expr} (ho : OpR X (compareOp op) (rI0 fun i j => .bl (g i j))) (ho' : OpR X (compareOp op') (rI0 fun i j => .bl (g' i j))) (ha : PE X a (tE f1 vI H0 Γ i)) (hb : PE X b (tE f2 vI H0 Γ j)) (hc : PE X c (tE fr vI H0 Γ k))
    (hm : lastMarks [op, op'] [b, c] = false := by with_unfolding_all rfl) : PT X (.Compare a [op, op'] [b, c] pos) (tT H0 Γ (g i j && g' j k)) :=
  (pt_chain ho ho' ha hb hc hm).wk fun σ H Q ⟨gg, q⟩ => ⟨gg, fun v H1 e1 r1 _ => ⟨gg.mono e1, fun w H2 e2 r2 _ => ⟨i, j, r1, r2, g i j, rfl, by
    cases hk : g i j with
    | true => exact iteT ⟨gg.mono (e1.trans e2), fun u H3 e3 r3 _ => ⟨j, k, r2, r3, _, rfl, by
        have z := q H3 ((e1.trans e2).trans e3)
        rw [hk] at z
        exact z⟩⟩
    | false => exact iteF ⟨_, rfl, by
        have z := q H2 (e1.trans e2)
        rw [hk] at z
        exact z⟩⟩⟩⟩
theorem et_lele {i j k : Int} {c : Expr} (ha : PE X a (tE f1 vI H0 Γ i)) (hb : PE X b (tE f2 vI H0 Γ j)) (hc : PE X c (tE fr vI H0 Γ k)) (hm : lastMarks [.LtE, .LtE] [b, c] = false := by with_unfolding_all rfl) : PT X (.Compare a [.LtE, .LtE] [b, c] pos) (tT H0 Γ (decide (i ≤ j) && decide (j ≤ k))) := et_chain op_le op_le ha hb hc hm
theorem et_ltlt {i j k : Int} {c : Expr} (ha : PE X a (tE f1 vI H0 Γ i)) (hb : PE X b (tE f2 vI H0 Γ j)) (hc : PE X c (tE fr vI H0 Γ k)) (hm : lastMarks [.Lt, .Lt] [b, c] = false := by with_unfolding_all rfl) : PT X (.Compare a [.Lt, .Lt] [b, c] pos) (tT H0 Γ (decide (i < j) && decide (j < k))) := et_chain op_lt op_lt ha hb hc hm
theorem ex_chain {op op' : CmpOp} {g g' : Int → Int → Bool} {i j k : Int} {c : Expr} (ho : OpR X (compareOp op) (rI0 fun i j => .bl (g i j))) (ho' : OpR X (compareOp op') (rI0 fun i j => .bl (g' i j))) (ha : PE X a (tE f1 vI H0 Γ i)) (hb : PE X b (tE f2 vI H0 Γ j)) (hc : PE X c (tE fr vI H0 Γ k))
    (hm : lastMarks [op, op'] [b, c] = false := by with_unfolding_all rfl) : PE X (.Compare a [op, op'] [b, c] pos) (tE false vB H0 Γ (g i j && g' j k)) :=
  (pe_chain ho ho' ha hb hc hm).wk fun σ H Q ⟨gg, q⟩ => ⟨gg, fun v H1 e1 r1 _ => ⟨gg.mono e1, fun w H2 e2 r2 _ => ⟨i, j, r1, r2, g i j, rfl, by
    cases hk : g i j with
    | true => exact iteT ⟨gg.mono (e1.trans e2), fun u H3 e3 r3 _ => ⟨j, k, r2, r3, q _ H3 ((e1.trans e2).trans e3) (by show V.bl _ = V.bl _; rw [hk] <;> rfl) fre0⟩⟩
    | false => exact iteF (q _ H2 (e1.trans e2) (by show V.bl _ = V.bl _; rw [hk] <;> rfl) fre0)⟩⟩⟩
theorem ex_lele {i j k : Int} {c : Expr} (ha : PE X a (tE f1 vI H0 Γ i)) (hb : PE X b (tE f2 vI H0 Γ j)) (hc : PE X c (tE fr vI H0 Γ k)) (hm : lastMarks [.LtE, .LtE] [b, c] = false := by with_unfolding_all rfl) : PE X (.Compare a [.LtE, .LtE] [b, c] pos) (tE false vB H0 Γ (decide (i ≤ j) && decide (j ≤ k))) := ex_chain op_le op_le ha hb hc hm
/-- is None, is not None -/
class NN {α : Type} (F : Rep α) : Prop where
  nn : ∀ {x : α} {v : V} {H : Hp}, F.r x v H → v ≠ .non
instance : NN vI := ⟨fun h e => by rw [e] at h; cases h⟩
instance : NN (vT F) := ⟨fun ⟨p, vs, h, _⟩ e => by rw [e] at h; cases h⟩
instance : NN (vP F G) := ⟨fun ⟨p, v1, v2, h, _⟩ e => by rw [e] at h; cases h⟩
theorem rO_dec [n : NN F] {o : Option α} {v : V} {H : Hp} (h : (vO F).r o v H) : decide (v = .non) = o.isNone := by
  cases o with
  | none => exact decide_eq_true (show v = .non from h)
  | some x => exact decide_eq_false (n.nn (show F.r x v H from h))
theorem ex_isN [NN F] {o : Option α} {j : Nat} {p' : Pos} (ha : PE X a (tE f1 (vO F) H0 Γ o)) : PE X (.Compare a [.Is] [.Constant .none j p'] pos) (tE false vB H0 Γ o.isNone) :=
  (pe_cmp (pc_isN ha)).wk fun σ H Q ⟨g, q⟩ => ⟨g, fun v H1 e1 r1 _ => q _ H1 e1 (by show V.bl _ = V.bl _; rw [rO_dec r1]) fre0⟩
theorem ex_notN [NN F] {o : Option α} {j : Nat} {p' : Pos} (ha : PE X a (tE f1 (vO F) H0 Γ o)) : PE X (.Compare a [.IsNot] [.Constant .none j p'] pos) (tE false vB H0 Γ o.isSome) :=
  (pe_cmp (pc_notN ha)).wk fun σ H Q ⟨g, q⟩ => ⟨g, fun v H1 e1 r1 _ => q _ H1 e1 (by show V.bl _ = V.bl _; rw [rO_dec r1]; cases o <;> rfl) fre0⟩
theorem et_isN [NN F] {o : Option α} {j : Nat} {p' : Pos} (ha : PE X a (tE f1 (vO F) H0 Γ o)) : PT X (.Compare a [.Is] [.Constant .none j p'] pos) (tT H0 Γ o.isNone) :=
  (pt_cmp (pc_isN ha)).wk fun σ H Q ⟨g, q⟩ => ⟨g, fun v H1 e1 r1 _ => ⟨_, rfl, by rw [rO_dec r1]; exact q H1 e1⟩⟩
/-- what is not None -/
theorem ex_got {o : Option α} (ha : PE X a (tE f1 (vO F) H0 Γ o)) (h : o = some x) : PE X a (tE f1 F H0 Γ x) := by
  subst h
  exact ha.wk fun σ H Q ⟨g, q⟩ => ⟨g, fun v H1 e1 r1 fz => q v H1 e1 r1 fz⟩
theorem ex_some (ha : PE X a (tE f1 F H0 Γ x)) : PE X a (tE f1 (vO F) H0 Γ (some x)) := ha.wk fun σ H Q ⟨g, q⟩ => ⟨g, fun v H1 e1 r1 fz => q v H1 e1 r1 fz⟩

/-! ### and, or, not, a if c else b -/
theorem et_val {c : Bool} (h : PE X e (tE f1 vB H0 Γ c)) (he : ∀ whole, isTrue e X.env whole = (do let v ← whole; standAt e.pos; holding [v] (truthy v)) := by intro _; rfl) : PT X e (tT H0 Γ c) :=
  (pt_val h he).wk fun σ H Q ⟨g, q⟩ => ⟨g, fun v H1 e1 r1 _ => ⟨c, r1, q H1 e1⟩⟩
theorem et_not {c : Bool} (h : PT X a (tT H0 Γ c)) : PT X (.UnaryOp .Not a pos) (tT H0 Γ (!c)) := (pt_not h).wk fun σ H Q ⟨g, q⟩ => ⟨g, fun H1 e1 => q H1 e1⟩
theorem ew_and1 {c : Bool} (h : PT X a (tT H0 Γ c)) : PW X (.BoolOp .And [a] pos) (tT H0 Γ c) := pw_and1 h
theorem ew_or1 {c : Bool} (h : PT X a (tT H0 Γ c)) : PW X (.BoolOp .Or [a] pos) (tT H0 Γ c) := pw_or1 h
theorem ew_and {c d : Bool} {rest : List Expr} (ha : PT X a (tT H0 Γ c)) (hb : c = true → PW X (.BoolOp .And (b :: rest) pos) (tT H0 Γ d)) : PW X (.BoolOp .And (a :: b :: rest) pos) (tT H0 Γ (c && d)) := by
  cases c with
  | true => exact (pw_and ha (hb rfl)).wk fun σ H Q ⟨g, q⟩ => ⟨g, fun H1 e1 => iteT ⟨g.mono e1, fun H2 e2 => q H2 (e1.trans e2)⟩⟩
  | false => exact (pw_and ha pw_never).wk fun σ H Q ⟨g, q⟩ => ⟨g, fun H1 e1 => iteF (q H1 e1)⟩
theorem ew_or {c d : Bool} {rest : List Expr} (ha : PT X a (tT H0 Γ c)) (hb : c = false → PW X (.BoolOp .Or (b :: rest) pos) (tT H0 Γ d)) : PW X (.BoolOp .Or (a :: b :: rest) pos) (tT H0 Γ (c || d)) := by
  cases c with
  | false => exact (pw_or ha (hb rfl)).wk fun σ H Q ⟨g, q⟩ => ⟨g, fun H1 e1 => iteF ⟨g.mono e1, fun H2 e2 => q H2 (e1.trans e2)⟩⟩
  | true => exact (pw_or ha pw_never).wk fun σ H Q ⟨g, q⟩ => ⟨g, fun H1 e1 => iteT (q H1 e1)⟩
theorem ew_pt {c : Bool} (h : PW X e (tT H0 Γ c)) : PT X e (tT H0 Γ c) := PW.pt h
theorem ex_one {op} {c : Bool} (h : PE X a (tE f1 vB H0 Γ c)) : PE X (.BoolOp op [a] pos) (tE f1 vB H0 Γ c) := pe_one h
theorem ex_and {c d : Bool} {rest : List Expr} (ha : PE X a (tE f1 vB H0 Γ c)) (hb : c = true → PE X (.BoolOp .And (b :: rest) pos) (tE f2 vB H0 Γ d)) : PE X (.BoolOp .And (a :: b :: rest) pos) (tE false vB H0 Γ (c && d)) := by
  cases c with
  | true => exact (pe_and ha (hb rfl)).wk fun σ H Q ⟨g, q⟩ => ⟨g, fun v H1 e1 r1 _ => ⟨true, r1, iteT ⟨g.mono e1, fun w H2 e2 r2 _ => q w H2 (e1.trans e2) r2 fre0⟩⟩⟩
  | false => exact (pe_and ha pe_never).wk fun σ H Q ⟨g, q⟩ => ⟨g, fun v H1 e1 r1 _ => ⟨false, r1, iteF (q _ H1 e1 rfl fre0)⟩⟩
theorem ex_or {c d : Bool} {rest : List Expr} (ha : PE X a (tE f1 vB H0 Γ c)) (hb : c = false → PE X (.BoolOp .Or (b :: rest) pos) (tE f2 vB H0 Γ d)) : PE X (.BoolOp .Or (a :: b :: rest) pos) (tE false vB H0 Γ (c || d)) := by
  cases c with
  | false => exact (pe_or ha (hb rfl)).wk fun σ H Q ⟨g, q⟩ => ⟨g, fun v H1 e1 r1 _ => ⟨false, r1, iteF ⟨g.mono e1, fun w H2 e2 r2 _ => q w H2 (e1.trans e2) r2 fre0⟩⟩⟩
  | true => exact (pe_or ha pe_never).wk fun σ H Q ⟨g, q⟩ => ⟨g, fun v H1 e1 r1 _ => ⟨true, r1, iteT (q _ H1 e1 rfl fre0)⟩⟩
theorem ex_not {c : Bool} (ha : PE X a (tE f1 vB H0 Γ c)) : PE X (.UnaryOp .Not a pos) (tE false vB H0 Γ (!c)) := (pe_not ha).wk fun σ H Q ⟨g, q⟩ => ⟨g, fun v H1 e1 r1 _ => ⟨c, r1, q _ H1 e1 rfl fre0⟩⟩
theorem ex_if {c : Bool} {t : Expr} {x' : α} (ht : PT X t (tT H0 Γ c)) (ha : c = true → PE X a (tE fr F H0 Γ x)) (hb : c = false → PE X b (tE fr F H0 Γ x')) : PE X (.IfExp t a b pos) (tE fr F H0 Γ (if c = true then x else x')) := by
  cases c with
  | true => exact (pe_ifExp ht (ha rfl) pe_never).wk fun σ H Q ⟨g, q⟩ => ⟨g, fun H1 e1 => iteT ⟨g.mono e1, fun v H2 e2 r2 fz => q v H2 (e1.trans e2) r2 (fz.back e1)⟩⟩
  | false => exact (pe_ifExp ht pe_never (hb rfl)).wk fun σ H Q ⟨g, q⟩ => ⟨g, fun H1 e1 => iteF ⟨g.mono e1, fun v H2 e2 r2 fz => q v H2 (e1.trans e2) r2 (fz.back e1)⟩⟩
end
end Gm
set_option Elab.async false
set_option linter.all false
set_option maxRecDepth 100000
set_option maxHeartbeats 4000000
namespace Gm
open PySem PySem.Spec PyProof.Rows L2
section
variable {X : Cx} {e a b : Expr} {es : List Expr} {pos : Pos} {H0 : Hp} {Γ : List Slot} {fr f1 f2 f3 : Bool}
variable {α β γ ι ρ : Type} {F : Rep α} {G : Rep β} {J : Rep γ} {x : α} {y : β} {z : γ}

/-! ### subscripts -/
theorem atI_map {P : α → β → Hp → Prop} {as : List α} {vs : List β} {H : Hp} {i : Int} {c : α} (h : Al P as vs H) (q : atI as i = some c) : ∃ v, atI vs i = some v ∧ P c v H := by
  unfold atI at q ⊢
  rw [h.length]
  cases k : ixN as.length i with
  | none =>
    rw [k] at q
    cases q
  | some j =>
    rw [k] at q
    exact h.get q
theorem at_nat {xs : List α} {i : Int} {c : α} (h0 : 0 ≤ i) (h : xs[i.toNat]? = some c) : atI xs i = some c := by
  have e : i = ((i.toNat : Nat) : Int) := by omega
  rw [e]
  exact atI_nat h
theorem ex_bin' {op : Operator} {r : R2} (ho : OpR X (binaryOp op) r) (ha : PE X a (tE f1 F H0 Γ x)) (hb : PE X b (tE f2 G H0 Γ y)) (k : ∀ v w H Q, F.r x v H → G.r y w H → (∀ u H2, Same H H2 → J.r z u H2 → Fre fr u H → Q u H2) → r v w H Q) : PE X (.BinOp a op b pos) (tE fr J H0 Γ z) := ex_bin ho k ha hb
theorem ex_cmp' {op : CmpOp} {r : R2} (ho : OpR X (compareOp op) r) (ha : PE X a (tE f1 F H0 Γ x)) (hb : PE X b (tE f2 G H0 Γ y)) (hm : behindInMarks op b = false) (k : ∀ v w H Q, F.r x v H → G.r y w H → (∀ u H2, Same H H2 → J.r z u H2 → Q u H2) → r v w H Q) : PE X (.Compare a [op] [b] pos) (tE false J H0 Γ z) := ex_cmp ho k hm ha hb
theorem et_cmp' {op : CmpOp} {r : R2} {c : Bool} (ho : OpR X (compareOp op) r) (ha : PE X a (tE f1 F H0 Γ x)) (hb : PE X b (tE f2 G H0 Γ y)) (hm : behindInMarks op b = false) (k : ∀ v w H Q, F.r x v H → G.r y w H → (∀ u H2, Same H H2 → vB.r c u H2 → Q u H2) → r v w H Q) : PT X (.Compare a [op] [b] pos) (tT H0 Γ c) := et_cmp ho k hm ha hb
theorem ex_ixr {r : R2} {i : Int} (hr : IxR X r) (ha : PE X a (tE f1 F H0 Γ x)) (hb : PE X b (tE f2 vI H0 Γ i)) (hs : PlainIx b) (k : ∀ v w H (Q : VK), F.r x v H → vI.r i w H → (∀ u, G.r y u H → Q u H) → r v w H Q) : PE X (.Subscript a b pos) (tE false G H0 Γ y) :=
  (pe_ix hr ha hb hs).wk fun σ H Q ⟨g, q⟩ => ⟨g, fun v H1 e1 r1 _ => ⟨g.mono e1, fun w H2 e2 r2 _ => k v w H2 Q (F.mono e2 r1) r2 fun u r3 => q u H2 (e1.trans e2) r3 fre0⟩⟩
theorem ex_ixT {xs : List α} {i : Int} (ha : PE X a (tE f1 (vT F) H0 Γ xs)) (hb : PE X b (tE f2 vI H0 Γ i)) (h : atI xs i = some x) (hs : PlainIx b := by exact fun _ _ => rfl) : PE X (.Subscript a b pos) (tE false F H0 Γ x) :=
  ex_ixr ix_tup ha hb hs fun v w H Q ⟨p, vs, h1, h2, h3⟩ r2 q => by
    obtain ⟨u, h4, h5⟩ := atI_map h3 h
    exact ⟨p, vs, i, u, h1, r2, SqT.of h2, h4, q u h5⟩
theorem ex_ixL {xs : List α} {i : Int} (ha : PE X a (tE f1 (vL F) H0 Γ xs)) (hb : PE X b (tE f2 vI H0 Γ i)) (h : atI xs i = some x) (hs : PlainIx b := by exact fun _ _ => rfl) : PE X (.Subscript a b pos) (tE false F H0 Γ x) :=
  ex_ixr ix_list ha hb hs fun v w H Q ⟨p, o, h1, h2, vs, h3, h4⟩ r2 q => by
    obtain ⟨u, h5, h6⟩ := atI_map h4 h
    exact ⟨p, vs, i, u, h1, r2, SqL.of (by rw [h2, h3]), h5, q u h6⟩
theorem ex_p0 {p : α × β} {j : Nat} {p' : Pos} (ha : PE X a (tE f1 (vP F G) H0 Γ p)) : PE X (.Subscript a (.Constant (.int 0) j p') pos) (tE false F H0 Γ p.1) :=
  ex_ixr ix_tup ha ex_int (fun _ _ => rfl) fun v w H Q ⟨p, v1, v2, h1, h2, h3, h4⟩ r2 q => ⟨p, _, 0, v1, h1, r2, SqT.of h2, rfl, q _ h3⟩
theorem ex_p1 {p : α × β} {j : Nat} {p' : Pos} (ha : PE X a (tE f1 (vP F G) H0 Γ p)) : PE X (.Subscript a (.Constant (.int 1) j p') pos) (tE false G H0 Γ p.2) :=
  ex_ixr ix_tup ha ex_int (fun _ _ => rfl) fun v w H Q ⟨p, v1, v2, h1, h2, h3, h4⟩ r2 q => ⟨p, _, 1, v2, h1, r2, SqT.of h2, rfl, q _ h4⟩
theorem ex_q0 {p : α × β × γ} {j : Nat} {p' : Pos} (ha : PE X a (tE f1 (vQ F G J) H0 Γ p)) : PE X (.Subscript a (.Constant (.int 0) j p') pos) (tE false F H0 Γ p.1) :=
  ex_ixr ix_tup ha ex_int (fun _ _ => rfl) fun v w H Q ⟨p, v1, v2, v3, h1, h2, h3, h4, h5⟩ r2 q => ⟨p, _, 0, v1, h1, r2, SqT.of h2, rfl, q _ h3⟩
theorem ex_q1 {p : α × β × γ} {j : Nat} {p' : Pos} (ha : PE X a (tE f1 (vQ F G J) H0 Γ p)) : PE X (.Subscript a (.Constant (.int 1) j p') pos) (tE false G H0 Γ p.2.1) :=
  ex_ixr ix_tup ha ex_int (fun _ _ => rfl) fun v w H Q ⟨p, v1, v2, v3, h1, h2, h3, h4, h5⟩ r2 q => ⟨p, _, 1, v2, h1, r2, SqT.of h2, rfl, q _ h4⟩
theorem ex_q2 {p : α × β × γ} {j : Nat} {p' : Pos} (ha : PE X a (tE f1 (vQ F G J) H0 Γ p)) : PE X (.Subscript a (.Constant (.int 2) j p') pos) (tE false J H0 Γ p.2.2) :=
  ex_ixr ix_tup ha ex_int (fun _ _ => rfl) fun v w H Q ⟨p, v1, v2, v3, h1, h2, h3, h4, h5⟩ r2 q => ⟨p, _, 2, v3, h1, r2, SqT.of h2, rfl, q _ h5⟩

/-! ### displays -/
def tIs (F : Rep α) (H0 : Hp) (Γ : List Slot) (xs : List α) : TA := fun σ H Q => En H0 Γ σ H ∧ ∀ vs H2, Same H H2 → Al F.r xs vs H2 → Q vs H2
theorem xi_nil : PA X [] (tIs F H0 Γ []) := pa_nil.wk fun σ H Q ⟨g, q⟩ => q [] H (Same.refl H) trivial
theorem xi_cons {xs : List α} (ha : PE X e (tE f1 F H0 Γ x)) (hr : PA X es (tIs F H0 Γ xs)) (hs : starEach (e :: es) X.env = (false, eval e X.env) :: starEach es X.env := by rfl) : PA X (e :: es) (tIs F H0 Γ (x :: xs)) :=
  (pa_cons ha hr hs).wk fun σ H Q ⟨g, q⟩ => ⟨g, fun v H1 e1 r1 _ => ⟨g.mono e1, fun vs H2 e2 r2 => q _ H2 (e1.trans e2) ⟨F.mono e2 r1, r2⟩⟩⟩
theorem line_of {n : Nat} (h : n ≤ 100000) : n ≤ sizeLine := Nat.le_trans h (by decide)
theorem line_lt {n : Nat} (h : n < 100000) : n < sizeLine := Nat.lt_of_lt_of_le h (by decide)
theorem al_new {F : Rep α} {as : List α} {vs : List V} {H : Hp} {p : Addr} {o : HO} (h : Al F.r as vs H) (hp : H p = none) : Al F.r as vs (upd H p o) := h.map fun _ _ q => F.mono (same_new hp) q
theorem ex_lst {xs : List α} (h : PA X es (tIs F H0 Γ xs)) (hl : xs.length ≤ 100000 := by first | decide | (simp only [List.length_cons, List.length_nil]; decide)) : PE X (.List es pos) (tE true (vL F) H0 Γ xs) :=
  (pe_lst h).wk fun σ H Q ⟨g, q⟩ => ⟨g, fun vs H1 e1 r1 => ⟨by rw [r1.length]; exact line_of hl, fun p hp => q _ _ (e1.trans (same_new hp)) ⟨p, _, rfl, upd_same, vs, rfl, al_new r1 hp⟩ fun _ => ⟨p, rfl, e1.free hp⟩⟩⟩
theorem ex_tup {x1} {xs : List α} (h : PA X es (tIs F H0 Γ xs)) (hl : xs.length ≤ 100000 := by first | decide | (simp only [List.length_cons, List.length_nil]; decide)) : PE X (.Tuple es x1 pos) (tE false (vT F) H0 Γ xs) :=
  (pe_tup h).wk fun σ H Q ⟨g, q⟩ => ⟨g, fun vs H1 e1 r1 => ⟨by rw [r1.length]; exact line_of hl, fun p hp => q _ _ (e1.trans (same_new hp)) ⟨p, vs, rfl, upd_same, al_new r1 hp⟩ fre0⟩⟩
theorem one_le : 1 ≤ sizeLine := by decide
theorem two_le : 2 ≤ sizeLine := by decide
theorem three_le : 3 ≤ sizeLine := by decide
theorem ex_tp {x1} (ha : PE X a (tE f1 F H0 Γ x)) (hb : PE X b (tE f2 G H0 Γ y)) (hs : starEach [a, b] X.env = (false, eval a X.env) :: starEach [b] X.env := by rfl) (hs2 : starEach [b] X.env = (false, eval b X.env) :: starEach [] X.env := by rfl) : PE X (.Tuple [a, b] x1 pos) (tE false (vP F G) H0 Γ (x, y)) :=
  (pe_tup (pa_cons ha (pa_cons hb pa_nil hs2) hs)).wk fun σ H Q ⟨g, q⟩ => ⟨g, fun v H1 e1 r1 _ => ⟨g.mono e1, fun w H2 e2 r2 _ => ⟨two_le, fun p hp => q _ _ ((e1.trans e2).trans (same_new hp)) ⟨p, v, w, rfl, upd_same, F.mono (e2.trans (same_new hp)) r1, G.mono (same_new hp) r2⟩ fre0⟩⟩⟩
theorem ex_tq {c : Expr} {x1} (ha : PE X a (tE f1 F H0 Γ x)) (hb : PE X b (tE f2 G H0 Γ y)) (hc : PE X c (tE f3 J H0 Γ z)) (hs : starEach [a, b, c] X.env = (false, eval a X.env) :: starEach [b, c] X.env := by rfl) (hs2 : starEach [b, c] X.env = (false, eval b X.env) :: starEach [c] X.env := by rfl) (hs3 : starEach [c] X.env = (false, eval c X.env) :: starEach [] X.env := by rfl) : PE X (.Tuple [a, b, c] x1 pos) (tE false (vQ F G J) H0 Γ (x, y, z)) :=
  (pe_tup (pa_cons ha (pa_cons hb (pa_cons hc pa_nil hs3) hs2) hs)).wk fun σ H Q ⟨g, q⟩ => ⟨g, fun v H1 e1 r1 _ => ⟨g.mono e1, fun w H2 e2 r2 _ => ⟨g.mono (e1.trans e2), fun u H3 e3 r3 _ => ⟨three_le, fun p hp => q _ _ (((e1.trans e2).trans e3).trans (same_new hp)) ⟨p, v, w, u, rfl, upd_same, F.mono ((e2.trans e3).trans (same_new hp)) r1, G.mono (e3.trans (same_new hp)) r2, J.mono (same_new hp) r3⟩ fre0⟩⟩⟩⟩
/-- (x,) -/
def vW (F : Rep α) : Rep α := ⟨fun x v H => ∃ p v1, v = .ref p ∧ H p = some (.tup [v1]) ∧ F.r x v1 H, fun e ⟨p, v1, h1, h2, h3⟩ => ⟨p, v1, h1, e _ _ h2, F.mono e h3⟩⟩
theorem ex_tw {x1} (ha : PE X a (tE f1 F H0 Γ x)) (hs : starEach [a] X.env = (false, eval a X.env) :: starEach [] X.env := by rfl) : PE X (.Tuple [a] x1 pos) (tE false (vW F) H0 Γ x) :=
  (pe_tup (pa_cons ha pa_nil hs)).wk fun σ H Q ⟨g, q⟩ => ⟨g, fun v H1 e1 r1 _ => ⟨one_le, fun p hp => q _ _ (e1.trans (same_new hp)) ⟨p, v, rfl, upd_same, F.mono (same_new hp) r1⟩ fre0⟩⟩

/-! ### + of tuples, of lists -/
theorem ex_catT {xs ys : List α} (ha : PE X a (tE f1 (vT F) H0 Γ xs)) (hb : PE X b (tE f2 (vT F) H0 Γ ys)) (hl : xs.length + ys.length ≤ 100000) : PE X (.BinOp a .Add b pos) (tE false (vT F) H0 Γ (xs ++ ys)) :=
  ex_bin' op_catA ha hb (fun v w H Q ⟨p, vs, h1, h2, h3⟩ ⟨p', ws, h4, h5, h6⟩ q => ⟨p, p', vs, ws, h1, h4, SqT.of h2, SqT.of h5, by rw [h3.length, h6.length]; exact line_of hl,
    fun e => by
      have e1 := h3.nil_iff.mp e
      subst e1
      exact q _ H (Same.refl H) ⟨p', ws, rfl, h5, h6⟩ fre0,
    fun _ e => by
      have e1 := h6.nil_iff.mp e
      subst e1
      exact q _ H (Same.refl H) ⟨p, vs, rfl, h2, by rw [List.append_nil]; exact h3⟩ fre0,
    fun _ _ r hr => q _ _ (same_new hr) ⟨r, _, rfl, upd_same, al_new (h3.app h6) hr⟩ fre0⟩)
theorem ex_catW {y : β × γ} (ha : PE X a (tE f1 (vW F) H0 Γ x)) (hb : PE X b (tE f2 (vP G J) H0 Γ y)) : PE X (.BinOp a .Add b pos) (tE false (vQ F G J) H0 Γ (x, y)) :=
  ex_bin' op_catA ha hb (fun v w H Q ⟨p, v1, h1, h2, h3⟩ ⟨p', w1, w2, h4, h5, h6, h7⟩ q => ⟨p, p', _, _, h1, h4, SqT.of h2, SqT.of h5, three_le, fun e => (nomatch e), fun _ e => (nomatch e),
    fun _ _ r hr => q _ _ (same_new hr) ⟨r, v1, w1, w2, rfl, upd_same, F.mono (same_new hr) h3, G.mono (same_new hr) h6, J.mono (same_new hr) h7⟩ fre0⟩)
theorem ex_catL {xs ys : List α} (ha : PE X a (tE f1 (vL F) H0 Γ xs)) (hb : PE X b (tE f2 (vL F) H0 Γ ys)) (hl : xs.length + ys.length ≤ 100000) : PE X (.BinOp a .Add b pos) (tE true (vL F) H0 Γ (xs ++ ys)) :=
  ex_bin' op_cat ha hb (fun v w H Q ⟨p, o, h1, h2, vs, h3, h4⟩ ⟨p', o', h5, h6, ws, h7, h8⟩ q => ⟨p, p', vs, ws, h1, h5, by rw [h2, h3], by rw [h6, h7], by rw [h4.length, h8.length]; exact line_of hl,
    fun r hr => q _ _ (same_new hr) ⟨r, _, rfl, upd_same, _, rfl, al_new (h4.app h8) hr⟩ fun _ => ⟨r, rfl, hr⟩⟩)

/-! ### slices -/
def tOo (H0 : Hp) (Γ : List Slot) (o : Option Int) : TO := fun σ H Q => En H0 Γ σ H ∧ ∀ H2, Same H H2 → Q o H2
theorem _root_.L2.PO.wk {o : Option Expr} {t t' : TO} (h : PO X o t) (k : ∀ σ H Q, t' σ H Q → t σ H Q) : PO X o t' := ⟨fun pins s σ H Q I q => h.run pins s σ H Q I (k σ H Q q)⟩
theorem eo_none : PO X none (tOo H0 Γ none) := po_none.wk fun σ H Q ⟨g, q⟩ => q H (Same.refl H)
theorem eo_some {i : Int} (h : PE X e (tE f1 vI H0 Γ i)) : PO X (some e) (tOo H0 Γ (some i)) := (po_some h).wk fun σ H Q ⟨g, q⟩ => ⟨g, fun v H1 e1 r1 _ => ⟨i, r1, q H1 e1⟩⟩
def cut {α : Type} (xs : List α) (lo hi : Option Int) : List α := (xs.drop (HT.sIx xs.length 0 lo)).take (HT.sIx xs.length xs.length hi - HT.sIx xs.length 0 lo)
theorem al_cut {P : α → V → Hp → Prop} {as : List α} {vs : List V} {H : Hp} {lo hi : Option Int} (h : Al P as vs H) : Al P (cut as lo hi) (cutV vs lo hi) H := by
  unfold cut cutV
  rw [h.length]
  exact (h.drop _).take _
theorem ex_slT {l h : Option Expr} {p2 : Pos} {lo hi : Option Int} {xs : List α} (ha : PE X a (tE f1 (vT F) H0 Γ xs)) (hl : PO X l (tOo H0 Γ lo)) (hh : PO X h (tOo H0 Γ hi)) : PE X (.Subscript a (.Slice l h none p2) pos) (tE false (vT F) H0 Γ (cut xs lo hi)) :=
  (pe_slice sl_tupA ha hl hh).wk fun σ H Q ⟨g, q⟩ => ⟨g, fun v H1 e1 r1 _ => ⟨g.mono e1, fun H2 e2 => ⟨g.mono (e1.trans e2), fun H3 e3 => by
    obtain ⟨p, vs, h1, h2, h3⟩ := (vT F).mono (e2.trans e3) r1
    refine ⟨p, vs, h1, SqT.of h2, fun w => q _ H3 ((e1.trans e2).trans e3) ⟨p, vs, rfl, h2, ?_⟩ fre0, fun _ r hr => q _ _ (((e1.trans e2).trans e3).trans (same_new hr)) ⟨r, _, rfl, upd_same, al_new (al_cut h3) hr⟩ fre0⟩
    have c := al_cut (lo := lo) (hi := hi) h3
    have e5 : cutV vs lo hi = vs := by
      unfold cutV
      rw [w.1, w.2, List.drop_zero, Nat.sub_zero, List.take_length]
    rw [e5] at c
    exact c⟩⟩⟩
theorem ex_slL {l h : Option Expr} {p2 : Pos} {lo hi : Option Int} {xs : List α} (ha : PE X a (tE f1 (vL F) H0 Γ xs)) (hl : PO X l (tOo H0 Γ lo)) (hh : PO X h (tOo H0 Γ hi)) : PE X (.Subscript a (.Slice l h none p2) pos) (tE true (vL F) H0 Γ (cut xs lo hi)) :=
  (pe_slice sl_list ha hl hh).wk fun σ H Q ⟨g, q⟩ => ⟨g, fun v H1 e1 r1 _ => ⟨g.mono e1, fun H2 e2 => ⟨g.mono (e1.trans e2), fun H3 e3 => by
    obtain ⟨p, o, h1, h2, vs, h3, h4⟩ := (vL F).mono (e2.trans e3) r1
    exact ⟨p, vs, h1, SqL.of (by rw [h2, h3]), fun r hr => q _ _ (((e1.trans e2).trans e3).trans (same_new hr)) ⟨r, _, rfl, upd_same, _, rfl, al_new (al_cut h4) hr⟩ fun _ => ⟨r, rfl, ((e1.trans e2).trans e3).free hr⟩⟩⟩⟩⟩
theorem cut_from (xs : List α) (n : Nat) : cut xs (some (n : Int)) none = xs.drop n := by
  unfold cut
  rw [show HT.sIx xs.length 0 (some (n : Int)) = min n xs.length from HT.sIx_nat xs.length 0 n, HT.sIx_none]
  by_cases h : n ≤ xs.length
  · rw [Nat.min_eq_left h, List.take_of_length_le (by simp)]
  · rw [Nat.min_eq_right (by omega), List.drop_length, List.drop_eq_nil_of_le (by omega)]
    exact List.take_nil
theorem cut_to (xs : List α) (n : Nat) : cut xs none (some (n : Int)) = xs.take n := by
  unfold cut
  rw [show HT.sIx xs.length xs.length (some (n : Int)) = min n xs.length from HT.sIx_nat xs.length xs.length n, HT.sIx_none, List.drop_zero, Nat.sub_zero]
  by_cases h : n ≤ xs.length
  · rw [Nat.min_eq_left h]
  · rw [Nat.min_eq_right (by omega), List.take_length, List.take_of_length_le (by omega)]
theorem cut_butlast (xs : List α) : cut xs none (some (-1)) = xs.dropLast := by
  unfold cut
  rw [HT.sIx_none, List.drop_zero, Nat.sub_zero, List.dropLast_eq_take]
  have e : HT.sIx xs.length xs.length (some (-1)) = xs.length - 1 := by
    show (if (-1 : Int) < 0 then ((-1 : Int) + (xs.length : Int)).toNat else min (-1 : Int).toNat xs.length) = xs.length - 1
    rw [if_pos (by decide)]
    omega
  rw [e]
/-- xs[::-1] of a list -/
theorem ex_revL {xs : List α} {k : Nat} {p1 p2 p3 : Pos} (ha : PE X a (tE f1 (vL F) H0 Γ xs)) : PE X (.Subscript a (.Slice none none (some (.UnaryOp .USub (.Constant (.int 1) k p1) p2)) p3) pos) (tE true (vL F) H0 Γ xs.reverse) :=
  (pe_revL ha).wk fun σ H Q ⟨g, q⟩ => ⟨g, fun v H1 e1 ⟨p, o, h1, h2, vs, h3, h4⟩ _ => ⟨p, vs, h1, SqL.of (by rw [h2, h3]), fun r hr => q _ _ (e1.trans (same_new hr)) ⟨r, _, rfl, upd_same, _, rfl, al_new h4.rev hr⟩ fun _ => ⟨r, rfl, e1.free hr⟩⟩⟩

/-! ### == of data -/
class Dat {α : Type} [DecidableEq α] (F : Rep α) where
  d : α → PyData
  dp : ∀ {K : PySem.W.Frag} {x : α} {v : V} {H : Hp}, F.r x v H → Dp K H v (d x)
  eqv : ∀ x y : α, PyData.eqv (d x) (d y) = decide (x = y)
  lay : ∀ x : α, (d x).canLay0 = true
  dep : Nat
  le : ∀ x : α, (d x).depth ≤ dep
theorem beq_dec {α : Type} [BEq α] [LawfulBEq α] [DecidableEq α] (x y : α) : (x == y) = decide (x = y) := by
  rw [Bool.eq_iff_iff, beq_iff_eq, decide_eq_true_eq]
instance : Dat vI := ⟨.int, fun h => by rw [show _ = V.int _ from h]; exact .int _, fun x y => by simp only [PyData.eqv]; exact beq_dec x y, fun _ => rfl, 0, fun _ => Nat.le_refl _⟩
instance : Dat vB := ⟨.bool, fun h => by rw [show _ = V.bl _ from h]; exact .bl _, fun x y => by simp only [PyData.eqv]; exact beq_dec x y, fun _ => rfl, 0, fun _ => Nat.le_refl _⟩
section
variable [DecidableEq α] [DecidableEq β] [s : Dat F] [t : Dat G]
theorem dat_all {K : PySem.W.Frag} {H : Hp} : ∀ {xs : List α} {vs : List V}, Al F.r xs vs H → DpAll K H vs (xs.map s.d)
  | [], [], _ => .nil
  | [], _ :: _, h => False.elim h
  | _ :: _, [], h => False.elim h
  | x :: xs, v :: vs, h => .cons (s.dp h.1) (dat_all h.2)
theorem dat_eqv : ∀ xs ys : List α, PyData.eqvAll (xs.map s.d) (ys.map s.d) = decide (xs = ys)
  | [], [] => by simp only [List.map_nil, PyData.eqvAll, decide_true]
  | [], _ :: _ => by simp [PyData.eqvAll]
  | _ :: _, [] => by simp [PyData.eqvAll]
  | x :: xs, y :: ys => by
    rw [List.map_cons, List.map_cons, PyData.eqvAll, s.eqv x y, dat_eqv xs ys, ← Bool.decide_and]
    exact decide_eq_decide.mpr (by rw [List.cons.injEq])
theorem dat_lay : ∀ xs : List α, PyData.canLayAll0 (xs.map s.d) = true
  | [] => rfl
  | x :: xs => by
    rw [List.map_cons, PyData.canLayAll0, s.lay x, dat_lay xs]
    rfl
theorem dat_dep : ∀ xs : List α, PyData.depthAll (xs.map s.d) ≤ s.dep
  | [] => Nat.zero_le _
  | x :: xs => by
    rw [List.map_cons, PyData.depthAll]
    exact Nat.max_le.mpr ⟨s.le x, dat_dep xs⟩
instance : Dat (vT F) := ⟨fun xs => .tuple (xs.map s.d), fun ⟨p, vs, h1, h2, h3⟩ => by rw [h1]; exact .tup (SqT.of h2) (dat_all h3), fun x y => by simp only [PyData.eqv]; exact dat_eqv x y, fun x => by simp only [PyData.canLay0]; exact dat_lay x, s.dep + 1, fun x => by simp only [PyData.depth]; exact Nat.succ_le_succ (dat_dep x)⟩
instance : Dat (vL F) := ⟨fun xs => .list (xs.map s.d), fun ⟨p, o, h1, h2, vs, h3, h4⟩ => by rw [h1]; exact .lst (SqL.of (by rw [h2, h3])) (dat_all h4), fun x y => by simp only [PyData.eqv]; exact dat_eqv x y, fun x => by simp only [PyData.canLay0]; exact dat_lay x, s.dep + 1, fun x => by simp only [PyData.depth]; exact Nat.succ_le_succ (dat_dep x)⟩
instance : Dat (vP F G) := ⟨fun x => .tuple [s.d x.1, t.d x.2], fun ⟨p, v1, v2, h1, h2, h3, h4⟩ => by rw [h1]; exact .tup (SqT.of h2) (.cons (s.dp h3) (.cons (t.dp h4) .nil)),
  fun p q => by
    simp only [PyData.eqv, PyData.eqvAll]
    rw [s.eqv, t.eqv, Bool.and_true, ← Bool.decide_and]
    exact decide_eq_decide.mpr ⟨fun e => Prod.ext e.1 e.2, fun e => by rw [e]; exact ⟨rfl, rfl⟩⟩,
  fun x => by simp only [PyData.canLay0, PyData.canLayAll0, s.lay, t.lay, Bool.and_self], max s.dep t.dep + 1, fun p => by
    simp only [PyData.depth, PyData.depthAll]
    exact Nat.succ_le_succ (Nat.max_le.mpr ⟨Nat.le_trans (s.le p.1) (Nat.le_max_left _ _), Nat.max_le.mpr ⟨Nat.le_trans (t.le p.2) (Nat.le_max_right _ _), Nat.zero_le _⟩⟩)⟩
theorem dat_shaped (h : s.dep ≤ 64) (x : α) : SeqAt.shaped (s.d x) = true := by
  unfold SeqAt.shaped
  rw [s.lay x, decide_eq_true (Nat.le_trans (s.le x) h)]
  rfl
theorem ex_eqD {x' : α} {k : Nat} (hr : Room k X.A) (ha : PE X a (tE f1 F H0 Γ x)) (hb : PE X b (tE f2 F H0 Γ x')) (h : s.dep ≤ 64 := by decide) : PE X (.Compare a [.Eq] [b] pos) (tE false vB H0 Γ (decide (x = x'))) :=
  ex_cmp' (op_eqD hr.units) ha hb (nomark _) (fun v w H Q h1 h2 q => ⟨_, _, s.dp h1, s.dp h2, dat_shaped h _, dat_shaped h _, by rw [s.eqv]; exact q _ H (Same.refl H) rfl⟩)
theorem ex_neD {x' : α} {k : Nat} (hr : Room k X.A) (ha : PE X a (tE f1 F H0 Γ x)) (hb : PE X b (tE f2 F H0 Γ x')) (h : s.dep ≤ 64 := by decide) : PE X (.Compare a [.NotEq] [b] pos) (tE false vB H0 Γ (!decide (x = x'))) :=
  ex_cmp' (op_neD hr.units) ha hb (nomark _) (fun v w H Q h1 h2 q => ⟨_, _, s.dp h1, s.dp h2, dat_shaped h _, dat_shaped h _, by rw [s.eqv]; exact q _ H (Same.refl H) rfl⟩)
theorem et_eqD {x' : α} {k : Nat} (hr : Room k X.A) (ha : PE X a (tE f1 F H0 Γ x)) (hb : PE X b (tE f2 F H0 Γ x')) (h : s.dep ≤ 64 := by decide) : PT X (.Compare a [.Eq] [b] pos) (tT H0 Γ (decide (x = x'))) :=
  et_cmp' (op_eqD hr.units) ha hb (nomark _) (fun v w H Q h1 h2 q => ⟨_, _, s.dp h1, s.dp h2, dat_shaped h _, dat_shaped h _, by rw [s.eqv]; exact q _ H (Same.refl H) rfl⟩)
theorem et_neD {x' : α} {k : Nat} (hr : Room k X.A) (ha : PE X a (tE f1 F H0 Γ x)) (hb : PE X b (tE f2 F H0 Γ x')) (h : s.dep ≤ 64 := by decide) : PT X (.Compare a [.NotEq] [b] pos) (tT H0 Γ (!decide (x = x'))) :=
  et_cmp' (op_neD hr.units) ha hb (nomark _) (fun v w H Q h1 h2 q => ⟨_, _, s.dp h1, s.dp h2, dat_shaped h _, dat_shaped h _, by rw [s.eqv]; exact q _ H (Same.refl H) rfl⟩)
theorem dat_any (x : α) : ∀ xs : List α, ((xs.map s.d).any fun z => PyData.eqv z (s.d x)) = decide (x ∈ xs)
  | [] => by simp
  | y :: ys => by
    rw [List.map_cons, List.any_cons, dat_any x ys, s.eqv]
    by_cases e : y = x
    · subst e
      simp
    · rw [decide_eq_false e, Bool.false_or]
      exact decide_eq_decide.mpr ⟨fun h => List.mem_cons_of_mem _ h, fun h => (List.mem_cons.mp h).elim (fun q => absurd q.symm e) id⟩
theorem ex_inD {xs : List α} {k : Nat} (hr : Room k X.A) (ha : PE X a (tE f1 F H0 Γ x)) (hb : PE X b (tE f2 (vL F) H0 Γ xs)) (h : s.dep + 1 ≤ 64 := by decide) (hm : behindInMarks .In b = false := by rfl) : PE X (.Compare a [.In] [b] pos) (tE false vB H0 Γ (decide (x ∈ xs))) :=
  ex_cmp' (op_inD (by have := hr.un; omega)) ha hb hm (fun v w H Q h1 h2 q => ⟨_, xs.map s.d, s.dp h1, (instDatListVL (F := F)).dp h2, dat_shaped (Nat.le_of_succ_le h) _, dat_shaped (F := vL F) h _, by rw [dat_any]; exact q _ H (Same.refl H) rfl⟩)
theorem et_notInD {xs : List α} {k : Nat} (hr : Room k X.A) (ha : PE X a (tE f1 F H0 Γ x)) (hb : PE X b (tE f2 (vL F) H0 Γ xs)) (h : s.dep + 1 ≤ 64 := by decide) (hm : behindInMarks .NotIn b = false := by rfl) : PT X (.Compare a [.NotIn] [b] pos) (tT H0 Γ (!decide (x ∈ xs))) :=
  et_cmp' (op_notInD (by have := hr.un; omega)) ha hb hm (fun v w H Q h1 h2 q => ⟨_, xs.map s.d, s.dp h1, (instDatListVL (F := F)).dp h2, dat_shaped (Nat.le_of_succ_le h) _, dat_shaped (F := vL F) h _, by rw [dat_any]; exact q _ H (Same.refl H) rfl⟩)
end
theorem strs_of {H : Hp} : ∀ {xs : List Str} {vs : List V}, Al vS.r xs vs H → vs = xs.map V.str
  | [], [], _ => rfl
  | [], _ :: _, h => False.elim h
  | _ :: _, [], h => False.elim h
  | y :: ys, u :: us, h => by rw [List.map_cons, strs_of h.2, show u = V.str y from h.1]
theorem strs_in (x : Str) : ∀ xs : List Str, inV (V.str x) (xs.map V.str) = decide (x ∈ xs)
  | [] => rfl
  | y :: ys => by
    have e3 : inV (V.str x) ((y :: ys).map V.str) = ((y == x) || inV (V.str x) (ys.map V.str)) := rfl
    rw [e3, strs_in x ys]
    by_cases e : y = x
    · subst e
      simp
    · have e4 : (y == x) = false := by
        rw [Bool.eq_false_iff]
        exact fun q => e (eq_of_beq q)
      rw [e4, Bool.false_or]
      exact decide_eq_decide.mpr ⟨fun h => List.mem_cons_of_mem _ h, fun h => (List.mem_cons.mp h).elim (fun q => absurd q.symm e) id⟩
/-- x not in ("a", "b") -/
theorem et_notInS {x : Str} {xs : List Str} (ha : PE X a (tE f1 vS H0 Γ x)) (hb : PE X b (tE f2 (vT vS) H0 Γ xs)) (hm : behindInMarks .NotIn b = false := by rfl) : PT X (.Compare a [.NotIn] [b] pos) (tT H0 Γ (!decide (x ∈ xs))) :=
  et_cmp' op_notIn_seq ha hb hm fun v w H Q h1 ⟨p, vs, h2, h3, h4⟩ q => by
    have ev := strs_of h4
    have e1 : v = V.str x := h1
    refine ⟨p, vs, h2, Or.inr (SqT.of h3), by rw [e1] <;> rfl, ?_, ?_⟩
    · rw [ev, List.all_map]
      exact List.all_eq_true.mpr fun _ _ => rfl
    · show Q (.bl (if true = true then !inV v vs else inV v vs)) H
      rw [if_pos rfl, ev, e1, strs_in]
      exact q _ H (Same.refl H) rfl

/-! ### calls -/
theorem xa_nil : PA X [] (tA aN H0 Γ ()) := pa_nil.wk fun σ H Q ⟨g, q⟩ => q [] H (Same.refl H) rfl
theorem xa_cons {A : RepA ι} {i : ι} (ha : PE X e (tE f1 F H0 Γ x)) (hr : PA X es (tA A H0 Γ i)) (hs : starEach (e :: es) X.env = (false, eval e X.env) :: starEach es X.env := by rfl) : PA X (e :: es) (tA (aC F A) H0 Γ (x, i)) :=
  (pa_cons ha hr hs).wk fun σ H Q ⟨g, q⟩ => ⟨g, fun v H1 e1 r1 _ => ⟨g.mono e1, fun vs H2 e2 r2 => q _ H2 (e1.trans e2) ⟨v, vs, rfl, F.mono e2 r1, r2⟩⟩⟩
open C8 in
theorem ex_call {A : RepA ι} {i : ι} {R : Rep ρ} {pre : ι → Prop} {f : ι → ρ} {k j : Nat} {n : Str} {p : Pos} (c : Cal X.prog X.w X.K X.mg X.base k n (spG A fr R pre f) []) (hr : Room j X.A) (hp : pre i) (ha : PA X (e :: es) (tA A H0 Γ i)) (hk : k ≤ j := by decide) (hg : Gl X n := by rfl)
    (hdb : (n == ("__debug__" : Str)) = false := by decide) (he : starEach (e :: es) X.env = (false, eval e X.env) :: starEach es X.env := by rfl) (hpl : (backTo pos (starEach es X.env)).any (·.1) = false := by rfl) :
    PE X (.Call (.Name n p) (e :: es) [] pos) (tE fr R H0 Γ (f i)) :=
  (pe_c c hr hk hg ha hdb he hpl).wk fun σ H Q ⟨g, q⟩ => ⟨g, fun vs H1 e1 r1 => ⟨i, by rw [List.append_nil]; exact r1, hp, fun v H2 e2 r2 fz => q v H2 (e1.trans e2) r2 (fz.back e1)⟩⟩
theorem ex_cb {A : RepA ι} {i : ι} {id : String} {r : List V → Hp → VK → Prop} {n : Str} {p : Pos} (hc : CallR X (.builtin id) r) (hv : bootBuiltins n = some (.builtin id)) (hm : X.mg n = none) (k : ∀ vs H (Q : VK), A.r i vs H → (∀ u H2, Same H H2 → G.r y u H2 → Fre fr u H → Q u H2) → r vs H Q) (ha : PA X (e :: es) (tA A H0 Γ i))
    (hg : Gl X n := by rfl) (hn : n ≠ "__name__" := by decide) (hdb : (n == ("__debug__" : Str)) = false := by decide) (he : starEach (e :: es) X.env = (false, eval e X.env) :: starEach es X.env := by rfl) (hpl : (backTo pos (starEach es X.env)).any (·.1) = false := by rfl) :
    PE X (.Call (.Name n p) (e :: es) [] pos) (tE fr G H0 Γ y) :=
  (pe_callB hc hg hm hv ha hn hdb he hpl).wk fun σ H Q ⟨g, q⟩ => ⟨g, fun vs H1 e1 r1 => k vs H1 Q r1 fun u H2 e2 r2 fz => q u H2 (e1.trans e2) r2 (fz.back e1)⟩
theorem ex_ct {A : RepA ι} {i : ι} {T : String} {r : List V → Hp → VK → Prop} {n : Str} {p : Pos} (hc : CallR X (.type T) r) (hv : bootBuiltins n = some (.type T)) (hm : X.mg n = none) (k : ∀ vs H (Q : VK), A.r i vs H → (∀ u H2, Same H H2 → G.r y u H2 → Fre fr u H → Q u H2) → r vs H Q) (ha : PA X (e :: es) (tA A H0 Γ i))
    (hg : Gl X n := by rfl) (hn : n ≠ "__name__" := by decide) (hdb : (n == ("__debug__" : Str)) = false := by decide) (he : starEach (e :: es) X.env = (false, eval e X.env) :: starEach es X.env := by rfl) (hpl : (backTo pos (starEach es X.env)).any (·.1) = false := by rfl) :
    PE X (.Call (.Name n p) (e :: es) [] pos) (tE fr G H0 Γ y) :=
  (pe_callTy hc hg hm hv ha hn hdb he hpl).wk fun σ H Q ⟨g, q⟩ => ⟨g, fun vs H1 e1 r1 => k vs H1 Q r1 fun u H2 e2 r2 fz => q u H2 (e1.trans e2) r2 (fz.back e1)⟩
end
end Gm
set_option Elab.async false
set_option linter.all false
set_option maxRecDepth 100000
set_option maxHeartbeats 4000000
namespace Gm
open PySem PySem.Spec PyProof.Rows L2
/-- what a def hands back -/
def Rt {α : Type} (fr : Bool) (F : Rep α) (He : Hp) (a : α) : V → Hp → Prop := fun v H2 => F.r a v H2 ∧ Fre fr v He
theorem set_same {α : Type} : ∀ {l : List α} {i : Nat} {x : α}, l[i]? = some x → l.set i x = l
  | [], _, _, h => by simp at h
  | a :: l, 0, x, h => by
    simp at h
    rw [h] <;> rfl
  | a :: l, i + 1, x, h => by
    rw [List.set_cons_succ, set_same (l := l) (i := i) (by simpa using h)]
def Nv : HSt → Hp → Prop := fun _ _ => False
section
variable {X : Cx} {e a b : Expr} {es : List Expr} {rest body orelse : List Stmt} {pos p' : Pos} {H0 : Hp} {Γ Γ' : List Slot} {fr f1 f2 f3 : Bool} {R : V → Hp → Prop} {N : HSt → Hp → Prop}
variable {α β γ ι ρ : Type} {F : Rep α} {G : Rep β} {J : Rep γ} {x : α} {y : β} {z : γ}
theorem ss_nil (h : ∀ σ H, En H0 Γ σ H → N σ H) : PSs X [] (tS H0 Γ R N) := pss_nil.wk fun D σ H ⟨g, _, q⟩ => q σ H (h σ H g)
/-- a statement that goes on with Γ' -/
theorem ss_go {st : Stmt} {t : TS} (h1 : PS X st t) (h2 : PSs X rest (tS H0 Γ' R N)) (k : ∀ (D : Ends) σ H, En H0 Γ σ H → (∀ v H2, Same H0 H2 → R v H2 → D.rt v H2) → (∀ σ' H', En H0 Γ' σ' H' → D.nx σ' H') → t D σ H) : PSs X (st :: rest) (tS H0 Γ R N) :=
  (pss_cons h1 h2).wk fun D σ H ⟨g, q1, q2⟩ => k _ σ H g q1 fun σ' H' g' => ⟨g', q1, q2⟩
/-- .. with a larger base -/
theorem ss_go' {st : Stmt} {t : TS} {Γ' : Hp → List Slot} (h1 : PS X st t) (h2 : ∀ H1, Same H0 H1 → PSs X rest (tS H1 (Γ' H1) R N)) (k : ∀ (D : Ends) σ H, En H0 Γ σ H → (∀ v H2, Same H0 H2 → R v H2 → D.rt v H2) → (∀ H1 σ' H', Same H0 H1 → En H1 (Γ' H1) σ' H' → D.nx σ' H') → t D σ H) : PSs X (st :: rest) (tS H0 Γ R N) :=
  (pss_cons h1 (PSs.ex h2)).wk fun D σ H ⟨g, q1, q2⟩ => k _ σ H g q1 fun H1 σ' H' s g' => ⟨H1, s, g', fun v H2 s2 r => q1 v H2 (s.trans s2) r, q2⟩
theorem ss_im [Imm F] {n : Str} (i : Nat) (nd : X.N.Nodup) (he : PE X e (tE fr F H0 Γ x)) (hr : PSs X rest (tS H0 (Γ.set i (im F x)) R N)) (hi : X.N[i]? = some n := by rfl) (hx : Loc X.env.scope n := by first | exact Or.inl rfl | exact Or.inr rfl)
    (hs : swapsWith e (some (.Name n p')) pos.line X.env = pure false := by rfl) (hf : X.fn n = true ∨ X.env.scope.names.lookup n = some .local := by first | exact .inl rfl | exact .inr rfl | assumption) : PSs X (.Assign [.Name n p'] e pos :: rest) (tS H0 Γ R N) :=
  ss_go (ps_set nd hi hx he hs hf) hr fun D σ H g _ q => ⟨g, fun v H2 s r _ => q _ _ ((g.mono s).set_im r)⟩
theorem ss_ow {C : Con α} [ImmC C] {n : Str} (i : Nat) (nd : X.N.Nodup) (he : PE X e (tE true (vC C) H0 Γ x)) (hr : PSs X rest (tS H0 (Γ.set i (ow C x)) R N)) (hi : X.N[i]? = some n := by rfl) (hx : Loc X.env.scope n := by first | exact Or.inl rfl | exact Or.inr rfl)
    (hs : swapsWith e (some (.Name n p')) pos.line X.env = pure false := by rfl) (hf : X.fn n = true ∨ X.env.scope.names.lookup n = some .local := by first | exact .inl rfl | exact .inr rfl | assumption) : PSs X (.Assign [.Name n p'] e pos :: rest) (tS H0 Γ R N) :=
  ss_go (ps_set nd hi hx he hs hf) hr fun D σ H g _ q => ⟨g, fun v H2 s ⟨p, o, h1, h2, h3⟩ fz => by
    obtain ⟨p1, e1, e2⟩ := fz rfl
    rw [h1] at e1
    cases e1
    rw [h1]
    exact q _ _ (g.set_ow s e2 h2 h3)⟩
/-- what is one's own counts as given from now on -/
theorem ss_frz {C : Con α} [ImmC C] {sts : List Stmt} (i : Nat) (h : Γ[i]? = some (ow C x)) (hr : ∀ H1, Same H0 H1 → PSs X sts (tS H1 (Γ.set i (ge (vC C) H1 x)) R N)) : PSs X sts (tS H0 Γ R N) :=
  (PSs.ex hr).wk fun D σ H ⟨g, q1, q2⟩ => by
    have hl : i < Γ.length := (List.getElem?_eq_some_iff.mp h).1
    obtain ⟨p, o, h1, h2, h3, h4⟩ := g.ow h
    have gn : En H0 (Γ.set i .no) σ H := by
      have z := g.set_no (i := i) (x := some (.ref p))
      rw [set_same h1] at z
      exact z
    have g2 := gn.rebase
    have e1 : bare (Γ.set i .no) σ H p = some o := bare_at h3 fun j s k1 k2 k3 => by
      by_cases e : i = j
      · subst e
        rw [List.getElem?_set_self hl] at k1
        cases k1
        cases k2
      · rw [List.getElem?_set_ne e] at k1
        refine g.apart i j _ s p e h k1 rfl k2 ?_ k3
        rw [h1] <;> rfl
    have r1 : (vC C).r x (.ref p) (bare (Γ.set i .no) σ H) := ⟨p, o, rfl, e1, ImmC.tu gn.bare_tu h4⟩
    have g3 := g2.set_ge (i := i) (P := (vC C).r x) (x := .ref p) (k := fun _ _ _ e h => (vC C).mono e h) r1 (Same.refl _)
    rw [List.set_set, set_same h1] at g3
    exact ⟨_, gn.bare_same, g3, fun v H2 s2 r => q1 v H2 (gn.bare_same.trans s2) r, q2⟩
/-- a value that leans on lists, where nothing is one's own -/
theorem ss_ge {n : Str} (i : Nat) (nd : X.N.Nodup) (hno : ∀ s ∈ Γ, s.own = false) (he : PE X e (tE fr F H0 Γ x)) (hr : ∀ H1, Same H0 H1 → PSs X rest (tS H1 (Γ.set i (ge F H1 x)) R N)) (hi : X.N[i]? = some n := by rfl) (hx : Loc X.env.scope n := by first | exact Or.inl rfl | exact Or.inr rfl)
    (hs : swapsWith e (some (.Name n p')) pos.line X.env = pure false := by rfl) (hf : X.fn n = true ∨ X.env.scope.names.lookup n = some .local := by first | exact .inl rfl | exact .inr rfl | assumption) : PSs X (.Assign [.Name n p'] e pos :: rest) (tS H0 Γ R N) :=
  ss_go' (Γ' := fun H1 => Γ.set i (ge F H1 x)) (ps_set nd hi hx he hs hf) hr fun D σ H g _ q => ⟨g, fun v H2 s r _ => by
    refine q H2 _ _ (g.same.trans s) (En.set_ge (H0 := H2) (Hc := H2) ⟨Same.refl _, g.len, fun j t h => ?_, g.apart⟩ r (Same.refl _))
    have w := g.ok j t h
    cases t with
    | no => trivial
    | im P k =>
      obtain ⟨u, w1, w2⟩ := w
      exact ⟨u, w1, k _ _ _ (tu_of s) w2⟩
    | ge Hc P k =>
      obtain ⟨u, w1, w2, w3⟩ := w
      exact ⟨u, w1, w2, w3.trans (g.same.trans s)⟩
    | ow C k n =>
      have z := hno _ (List.mem_of_getElem? h)
      cases z⟩
theorem ss_sub {sts : List Stmt} (h : Sub Γ Γ') (hr : PSs X sts (tS H0 Γ' R N)) : PSs X sts (tS H0 Γ R N) := hr.wk fun D σ H ⟨g, q1, q2⟩ => ⟨g.sub h, q1, q2⟩
/-- x = y, where y is one's own: y's name is forgotten -/
theorem ss_mv {C : Con α} [ImmC C] {n m : Str} (i j : Nat) (hij : i ≠ j) (h : Γ[j]? = some (ow C x)) (nd : X.N.Nodup) (hr : PSs X rest (tS H0 ((Γ.set j .no).set i (ow C x)) R N)) (hi : X.N[i]? = some n := by rfl) (hj : X.N[j]? = some m := by rfl) (hx : Loc X.env.scope n := by first | exact Or.inl rfl | exact Or.inr rfl)
    (hv : Vis X.env.scope m := by first | exact Or.inl rfl | exact Or.inr (Or.inl rfl)) (hd : (m == ("__debug__" : Str)) = false := by decide) (hcd : (m == ("__classdict__" : Str)) = false := by decide) {p2 : Pos}
    (hs : swapsWith (.Name m p2) (some (.Name n p')) pos.line X.env = pure false := by rfl) (hf : X.fn n = true ∨ X.env.scope.names.lookup n = some .local := by first | exact .inl rfl | exact .inr rfl | assumption) : PSs X (.Assign [.Name n p'] (.Name m p2) pos :: rest) (tS H0 Γ R N) :=
  ss_go (ps_set nd hi hx (pv j hj hv hd hcd) hs hf) hr fun D σ H g _ q => by
    obtain ⟨p, o, h1, h2, h3, h4⟩ := g.ow h
    refine ⟨.ref p, h1, q _ _ ?_⟩
    have gn : En H0 (Γ.set j .no) σ H := by
      have z := g.set_no (i := j) (x := some (.ref p))
      rw [set_same h1] at z
      exact z
    refine gn.set ⟨p, o, rfl, h2, h3, h4⟩ fun _ k t r hk k1 k2 k3 k4 => ?_
    cases k3
    by_cases ek : j = k
    · subst ek
      rw [List.getElem?_set_self (List.getElem?_eq_some_iff.mp h).1] at k1
      cases k1
      cases k2
    · rw [List.getElem?_set_ne ek] at k1
      refine g.apart j k _ t p ek h k1 rfl k2 ?_ k4
      rw [h1] <;> rfl

/-! ### if -/
theorem ss_if {c : Expr} {d : Bool} (Γ' : List Slot) (hc : PT X c (tT H0 Γ d)) (ht : d = true → PSs X body (tS H0 Γ R (En H0 Γ'))) (hf : d = false → PSs X orelse (tS H0 Γ R (En H0 Γ'))) (hr : PSs X rest (tS H0 Γ' R N)) : PSs X (.If c body orelse pos :: rest) (tS H0 Γ R N) := by
  cases d with
  | true => exact ss_go (ps_if hc (ht rfl) pss_never) hr fun D σ H g q1 q => ⟨g, fun H2 s => iteT ⟨g.mono s, q1, fun σ2 H2 g2 => q _ _ g2⟩⟩
  | false => exact ss_go (ps_if hc pss_never (hf rfl)) hr fun D σ H g q1 q => ⟨g, fun H2 s => iteF ⟨g.mono s, q1, fun σ2 H2 g2 => q _ _ g2⟩⟩
/-- the last statement -/
theorem ss_ift {c : Expr} {d : Bool} (hc : PT X c (tT H0 Γ d)) (ht : d = true → PSs X body (tS H0 Γ R N)) (hf : d = false → PSs X orelse (tS H0 Γ R N)) : PSs X [.If c body orelse pos] (tS H0 Γ R N) := by
  cases d with
  | true => exact (pss_one (ps_if hc (ht rfl) pss_never)).wk fun D σ H ⟨g, q1, q2⟩ => ⟨g, fun H2 s => iteT ⟨g.mono s, q1, q2⟩⟩
  | false => exact (pss_one (ps_if hc pss_never (hf rfl))).wk fun D σ H ⟨g, q1, q2⟩ => ⟨g, fun H2 s => iteF ⟨g.mono s, q1, q2⟩⟩
/-- if c: (it leaves the def) -/
theorem ss_ifr {c : Expr} {d : Bool} (hc : PT X c (tT H0 Γ d)) (ht : d = true → PSs X body (tS H0 Γ R Nv)) (hr : d = false → PSs X rest (tS H0 Γ R N)) : PSs X (.If c body [] pos :: rest) (tS H0 Γ R N) := by
  cases d with
  | true =>
    exact (pss_cons (ps_if hc (ht rfl) pss_never) pss_never).wk fun D σ H ⟨g, q1, q2⟩ => ⟨g, fun H2 s => iteT ⟨g.mono s, q1, fun _ _ z => z.elim⟩⟩
  | false =>
    exact (pss_cons (ps_if hc pss_never pss_nil) (hr rfl)).wk fun D σ H ⟨g, q1, q2⟩ => ⟨g, fun H2 s => iteF ⟨g.mono s, q1, q2⟩⟩
theorem ss_ret {He : Hp} (he : PE X e (tE fr F H0 Γ x)) (s : Same He H0) : PSs X (.Return (some e) pos :: rest) (tS H0 Γ (Rt fr F He x) N) :=
  (pss_cons (ps_ret he) pss_never).wk fun D σ H ⟨g, q1, _⟩ => ⟨g, fun v H2 s2 r fz => q1 v H2 (g.same.trans s2) ⟨r, fz.back (s.trans g.same)⟩⟩
theorem ss_ret' {He : Hp} {x' : α} (he : PE X e (tE fr F H0 Γ x')) (q : x' = x) (s : Same He H0) : PSs X (.Return (some e) pos :: rest) (tS H0 Γ (Rt fr F He x) N) := by
  rw [← q]
  exact ss_ret he s
/-- a fresh thing where any will do -/
theorem ss_retN {He : Hp} {x' : α} (he : PE X e (tE true F H0 Γ x')) (q : x' = x) (s : Same He H0) : PSs X (.Return (some e) pos :: rest) (tS H0 Γ (Rt false F He x) N) := ss_ret' (ex_old he) q s
/-- return of one's own -/
theorem ss_retO {C : Con α} [ImmC C] {He : Hp} {n : Str} {p2 : Pos} (i : Nat) (h : Γ[i]? = some (ow C x)) (s : Same He H0) (hN : X.N[i]? = some n := by rfl) (hv : Vis X.env.scope n := by first | exact Or.inl rfl | exact Or.inr (Or.inl rfl))
    (hd : (n == ("__debug__" : Str)) = false := by decide) (hcd : (n == ("__classdict__" : Str)) = false := by decide) : PSs X (.Return (some (.Name n p2)) pos :: rest) (tS H0 Γ (Rt true (vC C) He x) N) :=
  (pss_cons (ps_ret (pv i hN hv hd hcd)) pss_never).wk fun D σ H ⟨g, q1, _⟩ => by
    obtain ⟨p, o, h1, h2, h3, h4⟩ := g.ow h
    exact ⟨_, h1, q1 _ H g.same ⟨⟨p, o, rfl, h3, h4⟩, fun _ => ⟨p, rfl, s.free h2⟩⟩⟩

/-! ### changes of one's own -/
theorem ss_app [Imm F] {xs : List α} {n : Str} {p2 p3 p4 : Pos} (i : Nat) (h : Γ[i]? = some (ow (cL F) xs)) (he : PE X e (tE fr F H0 Γ x)) (hl : xs.length < 100000) (hr : PSs X rest (tS H0 (Γ.set i (ow (cL F) (xs ++ [x]))) R N)) (hN : X.N[i]? = some n := by rfl) (hv : Vis X.env.scope n := by first | exact Or.inl rfl | exact Or.inr (Or.inl rfl))
    (hd : (n == ("__debug__" : Str)) = false := by decide) (hcd : (n == ("__classdict__" : Str)) = false := by decide)
    (hbase : attributeBase (.Name n p2) "append" X.env (eval (.Name n p2) X.env) = eval (.Name n p2) X.env := by rfl) (hline : (p3.endLine == p4.line) = true := by rfl) (hs : starEach [e] X.env = (false, eval e X.env) :: starEach [] X.env := by rfl)
    (hfew : ((backTo p4 (starEach [e] X.env)).all (fun x => !x.1) && (backToKw p4 (keywordEach [] X.env)).all (fun x => x.1.isSome) && decide ([e].length + ([] : List Keyword).length + (if ([] : List Keyword).isEmpty then 0 else 1) < 30)) = true := by rfl)
    (hsw : swapsWith (.Call (.Attribute (.Name n p2) "append" p3) [e] [] p4) none pos.line X.env = pure false := by rfl) : PSs X (.Expr (.Call (.Attribute (.Name n p2) "append" p3) [e] [] p4) pos :: rest) (tS H0 Γ R N) :=
  ss_go (ps_expr (pe_bm PySem.F.plainAttrs_list PySem.F.slot_list_append PySem.F.type_list_append mt_append (pv i hN hv hd hcd) (pa_cons he pa_nil hs) hbase hfew hline hs) hsw) hr fun D σ H g _ q => by
    obtain ⟨p, o, h1, h2, h3, vs, h4, h5⟩ := g.ow h
    subst h4
    refine ⟨_, h1, Or.inl ⟨rfl, _, SqL.of h3⟩, g, fun v H2 s r _ => ⟨p, vs, v, rfl, rfl, s _ _ h3, by rw [h5.length]; exact line_lt hl, q _ _ ?_⟩⟩
    have g2 := g.mono s
    have h6 : Al F.r xs vs H2 := h5.map fun _ _ q => Imm.tu (tu_of s) q
    refine g2.mut h h1 (s _ _ h3) ⟨vs, rfl, h6⟩ ⟨_, rfl, ?_⟩
    have t : Tu H2 (upd H2 p (.lst (vs ++ [v]))) := tu_mut (s _ _ h3) (fun xs z => (nomatch z))
    exact (h6.map fun _ _ q => Imm.tu t q).app ⟨Imm.tu t r, trivial⟩
end

/-! ### a def by its body -/
section
open C8
variable {P : Program} {w : World} {K : PySem.W.Frag} {mg : Str → Option Value} {base : Heap}
/-- its slots at the entry -/
def SlA (H : Hp) : List Slot → List V → Prop
  | [], [] => True
  | s :: ss, v :: vs => s.ok H H (some v) ∧ s.own = false ∧ SlA H ss vs
  | _, _ => False
theorem SlA.len {H : Hp} : ∀ {ss : List Slot} {vs : List V}, SlA H ss vs → vs.length = ss.length
  | [], [], _ => rfl
  | [], _ :: _, h => False.elim h
  | _ :: _, [], h => False.elim h
  | _ :: _, _ :: _, h => congrArg Nat.succ (SlA.len h.2.2)
theorem SlA.get {H : Hp} : ∀ {ss : List Slot} {vs : List V} {i : Nat} {s : Slot}, SlA H ss vs → ss[i]? = some s → s.own = false ∧ ∃ v, vs[i]? = some v ∧ s.ok H H (some v)
  | [], _, _, _, _, e => by simp at e
  | _ :: _, [], _, _, h, _ => False.elim h
  | s :: ss, v :: vs, 0, _, h, e => by
    cases (Option.some.inj e)
    exact ⟨h.2.1, v, rfl, h.1⟩
  | s :: ss, v :: vs, i + 1, _, h, e => SlA.get (i := i) h.2.2 e
theorem SlA.en {H : Hp} {ss : List Slot} {vs : List V} (h : SlA H ss vs) (n : Nat) : En H (ss ++ List.replicate n .no) (vs.map some ++ List.replicate n none) H := by
  have nown : ∀ (i : Nat) (s : Slot), (ss ++ List.replicate n .no)[i]? = some s → s.own = false := fun i s e => by
    by_cases hi : i < ss.length
    · rw [List.getElem?_append_left hi] at e
      exact (h.get e).1
    · rw [List.getElem?_append_right (by omega)] at e
      have z := (List.mem_replicate.mp (List.mem_of_getElem? e)).2
      rw [z]
      rfl
  refine ⟨Same.refl H, by simp [h.len], fun i s e => ?_, fun i j s t p _ h1 h2 o1 _ _ _ => by rw [nown i s h1] at o1; cases o1⟩
  by_cases hi : i < ss.length
  · rw [List.getElem?_append_left hi] at e
    obtain ⟨_, v, h1, h2⟩ := h.get e
    have e2 : (vs.map some ++ List.replicate n none)[i]? = some (some v) := by
      rw [List.getElem?_append_left (by rw [List.length_map, h.len]; exact hi), List.getElem?_map, h1] <;> rfl
    rw [e2]
    exact h2
  · rw [List.getElem?_append_right (by omega)] at e
    have z := (List.mem_replicate.mp (List.mem_of_getElem? e)).2
    rw [z]
    trivial
/-- how arguments fill slots -/
structure Fits {ι : Type} (A : RepA ι) (sl : Hp → ι → List Slot) (n : Nat) : Prop where
  to : ∀ {i : ι} {vs : List V} {H : Hp}, A.r i vs H → SlA H (sl H i) vs
  n : ∀ (H : Hp) (i : ι), (sl H i).length = n
theorem fits_nil : Fits aN (fun _ _ => []) 0 := ⟨fun h => by rw [show _ = ([] : List V) from h]; trivial, fun _ _ => rfl⟩
theorem fits_im {α ι : Type} {F : Rep α} [Imm F] {A : RepA ι} {sl : Hp → ι → List Slot} {n : Nat} (h : Fits A sl n) : Fits (aC F A) (fun H i => im F i.1 :: sl H i.2) (n + 1) :=
  ⟨fun ⟨v, r, h1, h2, h3⟩ => by rw [h1]; exact ⟨⟨v, rfl, h2⟩, rfl, h.to h3⟩, fun H i => congrArg Nat.succ (h.n H i.2)⟩
theorem fits_ge {α ι : Type} {F : Rep α} {A : RepA ι} {sl : Hp → ι → List Slot} {n : Nat} (h : Fits A sl n) : Fits (aC F A) (fun H i => ge F H i.1 :: sl H i.2) (n + 1) :=
  ⟨fun ⟨v, r, h1, h2, h3⟩ => by rw [h1]; exact ⟨⟨v, rfl, h2, Same.refl _⟩, rfl, h.to h3⟩, fun H i => congrArg Nat.succ (h.n H i.2)⟩
/-- a def of the text: where it stands, by name -/
structure DefT (K : PySem.W.Frag) (mg : Str → Option Value) (n : Str) (st : Stmt) : Prop where
  ex : ∃ (f : Addr) (fd : FuncData), FunD K n n (L2.defArgs st) (L2.defBody st) (L2.defScope st) [] [] f fd ∧ mg n = some (.ref f)
/-- a context that is this def's -/
abbrev CxD (P : Program) (w : World) (K : PySem.W.Frag) (mg : Str → Option Value) (base : Heap) (N : List Str) (n : Str) (st : Stmt) (f : Addr) (cdv : Value) (A : Around) (outer : List Env) (s : Shared) (H : Hp) (E : XK) : Cx :=
  (cxOf L2.CX0 P w K mg base N n (L2.defScope st) f cdv A outer s H E).nox
theorem cal_of {n : Str} {st : Stmt} {N ps : List Str} {k m : Nat} {ι ρ : Type} {A : RepA ι} {fr : Bool} {R : Rep ρ} {pre : ι → Prop} {f : ι → ρ} {sl : Hp → ι → List Slot}
    (D : DefT K mg n st) (S : FnScope N ps (L2.defScope st)) (hf : Fits A sl ps.length) (hm : N.length = ps.length + m)
    (hb : ∀ (kV doc pm : Value) (an : Option Addr) (cdv ct : Value) (us : List Value), us.length = ps.length → bindArgs (PySem.W.fnOf n n (L2.defArgs st) (L2.defBody st) (L2.defScope st) .none kV doc pm an cdv ct) ⟨us, []⟩ = pure (ps.zip us))
    (body : ∀ (a : Addr) (cdv : Value) (A : Around) (outer : List Env) (s : Shared) (H : Hp) (E : XK) (i : ι), Room k (CxD P w K mg base N n st a cdv A outer s H E).A → pre i →
      PSs (CxD P w K mg base N n st a cdv A outer s H E) (L2.defBody st) (tS H (sl H i ++ List.replicate m .no) (Rt fr R H (f i)) Nv)) : Cal P w K mg base (k + 1) n (spG A fr R pre f) [] := by
  obtain ⟨a, fd, F, hmg⟩ := D.ex
  refine ⟨a, fd, ps, [], ?_, hmg, F.kp, F.bindsN hb, .nil⟩
  refine F.ok S (fun vs H Q E ⟨i, h, _⟩ => by rw [(hf.to h).len, hf.n]) fun cdv Ar outer s H vs Q E hr h => ?_
  obtain ⟨i, h1, h2, h3⟩ := h
  refine ⟨_, PSs.nox (body a cdv Ar outer s H E i hr h2), ?_⟩
  have hs := hf.to h1
  refine ⟨?_, fun v H2 s2 r => h3 v H2 s2 r.1 r.2, fun _ _ z => z.elim⟩
  have e : L2.start N vs = vs.map some ++ List.replicate m none := by
    unfold L2.start
    rw [hs.len, hf.n, hm, Nat.add_sub_cancel_left]
  rw [e]
  exact hs.en m
end
end Gm
set_option Elab.async false
set_option linter.all false
set_option maxRecDepth 100000
set_option maxHeartbeats 4000000
namespace Gm
open PySem PySem.Spec PyProof.Rows L2
theorem _root_.L2.PI.wk {X : Cx} {tg iter : Expr} {t t' : TI} (h : PI X tg iter t) (k : ∀ σ H R, t' σ H R → t σ H R) : PI X tg iter t' := ⟨fun pins s σ H R I q => h.run pins s σ H R I (k σ H R q)⟩
theorem _root_.L2.PG.wk {X : Cx} {tg : Expr} {t t' : TG} (h : PG X tg t) (k : ∀ v σ H Q, t' v σ H Q → t v σ H Q) : PG X tg t' := ⟨fun pins s σ H v u Q I r q => h.run pins s σ H v u Q I r (k v σ H Q q)⟩
def tGx {ι : Sort _} (p : ι → Prop) (t : ι → TG) : TG := fun v σ H Q => ∃ i, p i ∧ t i v σ H Q
theorem _root_.L2.PG.ex {X : Cx} {tg : Expr} {ι : Sort _} {p : ι → Prop} {t : ι → TG} (h : ∀ i, p i → PG X tg (t i)) : PG X tg (tGx p t) := ⟨fun pins s σ H v u Q I r ⟨i, hp, q⟩ => (h i hp).run pins s σ H v u Q I r q⟩
theorem _root_.L2.PTs.wk {X : Cx} {es : List Expr} {t t' : TT} (h : PTs X es t) (k : ∀ σ H Q, t' σ H Q → t σ H Q) : PTs X es t' := ⟨fun pins s σ H Q I q => h.run pins s σ H Q I (k σ H Q q)⟩
theorem _root_.L2.PTs.ex {X : Cx} {es : List Expr} {ι : Sort _} {p : ι → Prop} {t : ι → TT} (h : ∀ i, p i → PTs X es (t i)) : PTs X es (tTx p t) := ⟨fun pins s σ H Q I ⟨i, hp, q⟩ => (h i hp).run pins s σ H Q I q⟩

section
variable {X : Cx} {e a b tg l iter : Expr} {es : List Expr} {rest body orelse : List Stmt} {pos p' : Pos} {H0 : Hp} {Γ Γ' : List Slot} {fr f1 f2 f3 : Bool} {R : V → Hp → Prop} {N : HSt → Hp → Prop}
variable {α β γ ι ρ : Type} {F : Rep α} {G : Rep β} {J : Rep γ} {x : α} {y : β} {z : γ}
/-- what is walked: the items xs, whatever becomes of what is one's own -/
def tWk (F : Rep α) (H0 : Hp) (Γ : List Slot) (xs : List α) : TI := fun σ H R => En H0 Γ σ H ∧ ∀ (J : It) (H1 : Hp) (G : Hp → Prop) (Y : Nat → Hp → V → Hp → Prop), Same H H1 → Walk J xs.length G Y → (∀ H', Same (bare Γ σ H1) H' → G H') →
  (∀ i H2 v H3, i < xs.length → Same (bare Γ σ H1) H2 → Y i H2 v H3 → Same H2 H3 ∧ ∃ x, xs[i]? = some x ∧ F.r x v H3) → R J H1
theorem wk_seq {J : It} {xs : List α} {vs : List V} {Gp : Hp → Prop} {Hb : Hp} {R : It → Hp → Prop} (hw : Walk J vs.length Gp (YAt vs)) (ha : Al F.r xs vs Hb) {σ : HSt} {H H1 : Hp} (s : Same H H1) (hb : Hb = bare Γ σ H1) (hG : ∀ H', Same Hb H' → Gp H')
    (q : ∀ (J : It) (H1 : Hp) (G : Hp → Prop) (Y : Nat → Hp → V → Hp → Prop), Same H H1 → Walk J xs.length G Y → (∀ H', Same (bare Γ σ H1) H' → G H') → (∀ i H2 v H3, i < xs.length → Same (bare Γ σ H1) H2 → Y i H2 v H3 → Same H2 H3 ∧ ∃ x, xs[i]? = some x ∧ F.r x v H3) → R J H1) : R J H1 := by
  subst hb
  refine q J H1 Gp (YAt vs) s (by rw [← ha.length]; exact hw) hG fun i H2 v H3 hi s2 ⟨e, y⟩ => ?_
  subst e
  obtain ⟨c, h1, h2⟩ := ha.get' y
  exact ⟨Same.refl _, c, h1, F.mono s2 h2⟩
theorem wk_tup [Imm F] {xs : List α} (hl : PE X l (tE fr (vT F) H0 Γ xs)) : PI X tg l (tWk F H0 Γ xs) :=
  (pi_tup hl).wk fun σ H R ⟨g, q⟩ => ⟨g, fun v H1 s ⟨p, vs, h1, h2, h3⟩ _ => ⟨p, h1, ⟨vs, SqT.of h2⟩, by
    have t := (g.mono s).bare_tu
    exact wk_seq (walk_tup (K := X.K)) (h3.map fun _ _ q => Imm.tu t q) s rfl (fun H' s' => SqT.of (s' _ _ (t _ _ h2))) q⟩⟩
/-- a new object is none of one's own -/
theorem bare_new {σ : HSt} {H H1 : Hp} (g : En H0 Γ σ H) (s : Same H H1) {p : Addr} {o : HO} (hn : H p = none) (h : H1 p = some o) : bare Γ σ H1 p = some o := bare_at h fun i t k1 k2 k3 => by
  cases t with
  | ow C k n =>
    obtain ⟨p2, o2, w1, w2, w3, w4⟩ := g.ok i _ k1
    rw [k3] at w1
    cases w1
    rw [hn] at w3
    cases w3
  | _ => cases k2
theorem wk_lstN [Imm F] {xs : List α} (hl : PE X l (tE true (vL F) H0 Γ xs)) : PI X tg l (tWk F H0 Γ xs) :=
  (pi_list hl).wk fun σ H R ⟨g, q⟩ => ⟨g, fun v H1 s ⟨p, o, h1, h2, vs, h3, h4⟩ fz => by
    obtain ⟨p2, e1, e2⟩ := fz rfl
    rw [h1] at e1
    cases e1
    subst h3
    have t := (g.mono s).bare_tu
    exact ⟨p, h1, ⟨vs, SqL.of h2⟩, wk_seq (walk_list (K := X.K)) (h4.map fun _ _ q => Imm.tu t q) s rfl (fun H' s' => SqL.of (s' _ _ (bare_new g s e2 h2))) q⟩⟩
/-- a list that was handed in (or frozen) -/
theorem wk_lstG {Hc : Hp} {xs : List α} {n : Str} (i : Nat) (h : Γ[i]? = some (ge (vL F) Hc xs) := by rfl) (hN : X.N[i]? = some n := by rfl) (hv : Vis X.env.scope n := by first | exact Or.inl rfl | exact Or.inr (Or.inl rfl) | exact Or.inr (Or.inr rfl))
    (hd : (n == ("__debug__" : Str)) = false := by decide) (hcd : (n == ("__classdict__" : Str)) = false := by decide) : PI X tg (.Name n pos) (tWk F H0 Γ xs) :=
  (pi_list (pv i hN hv hd hcd)).wk fun σ H R ⟨g, q⟩ => by
    obtain ⟨v, h1, ⟨p, o, h2, h3, vs, h4, h5⟩, s⟩ := g.ge h
    obtain ⟨_, _, _, s0⟩ := g.ok i _ h
    subst h4
    have sb : Same Hc (bare Γ σ H) := s0.trans g.bare_same
    exact ⟨v, h1, p, h2, ⟨vs, SqL.of (s _ _ h3)⟩, wk_seq (walk_list (K := X.K)) (h5.map fun _ _ q => F.mono sb q) (Same.refl H) rfl (fun H' s' => SqL.of (s' _ _ (sb _ _ h3))) q⟩
/-- xs[i] of a list of lists that was handed in -/
theorem wk_ixG {Hc : Hp} {xss : List (List α)} {xs : List α} {n : Str} {j : Int} {p2 : Pos} (i : Nat) (hj : PE X b (tE f2 vI H0 Γ j)) (hx : atI xss j = some xs) (h : Γ[i]? = some (ge (vL (vL F)) Hc xss) := by rfl) (hN : X.N[i]? = some n := by rfl) (hv : Vis X.env.scope n := by first | exact Or.inl rfl | exact Or.inr (Or.inl rfl) | exact Or.inr (Or.inr rfl))
    (hd : (n == ("__debug__" : Str)) = false := by decide) (hcd : (n == ("__classdict__" : Str)) = false := by decide) (hs : PlainIx b := by exact fun _ _ => rfl) : PI X tg (.Subscript (.Name n pos) b p2) (tWk F H0 Γ xs) :=
  (pi_list (pe_ix ix_list (pv i hN hv hd hcd) hj hs)).wk fun σ H R ⟨g, q⟩ => by
    obtain ⟨v, h1, ⟨p, o, h2, h3, vs, h4, h5⟩, s⟩ := g.ge h
    obtain ⟨_, _, _, s0⟩ := g.ok i _ h
    subst h4
    obtain ⟨u, h6, p3, o3, h7, h8, ws, h9, h10⟩ := atI_map h5 hx
    subst h9
    refine ⟨v, h1, g, fun w H2 s2 r2 _ => ⟨p, vs, j, u, h2, r2, SqL.of (s2 _ _ (s _ _ h3)), h6, p3, h7, ⟨ws, SqL.of (s2 _ _ (s _ _ h8))⟩, ?_⟩⟩
    have sb : Same Hc (bare Γ σ H2) := s0.trans (g.mono s2).bare_same
    exact wk_seq (walk_list (K := X.K)) (h10.map fun _ _ q => F.mono sb q) s2 rfl (fun H' s' => SqL.of (s' _ _ (sb _ _ h8))) q
/-- lo, lo + 1, .. n of them -/
def rng (lo : Int) (n : Nat) : List Int := (List.range n).map fun (i : Nat) => lo + (i : Int)
theorem rng_len (lo : Int) (n : Nat) : (rng lo n).length = n := by simp [rng]
theorem rng_get {lo : Int} {n i : Nat} (h : i < n) : (rng lo n)[i]? = some (lo + (i : Int)) := by
  unfold rng
  rw [List.getElem?_map, List.getElem?_range h] <;> rfl
theorem wk_rng {lo : Int} {n : Nat} {σ : HSt} {H H1 : Hp} {R : It → Hp → Prop} (s : Same H H1)
    (q : ∀ (J : It) (H1 : Hp) (G : Hp → Prop) (Y : Nat → Hp → V → Hp → Prop), Same H H1 → Walk J (rng lo n).length G Y → (∀ H', Same (bare Γ σ H1) H' → G H') → (∀ i H2 v H3, i < (rng lo n).length → Same (bare Γ σ H1) H2 → Y i H2 v H3 → Same H2 H3 ∧ ∃ x, (rng lo n)[i]? = some x ∧ vI.r x v H3) → R J H1) : R (Itr lo n) H1 :=
  q (Itr lo n) H1 (fun _ => True) (YFn fun i => .int (lo + i)) s (by rw [rng_len]; exact walk_range) (fun _ _ => trivial) fun i H2 v H3 hi _ y => by
    obtain ⟨e, y⟩ := y
    subst e
    rw [rng_len] at hi
    exact ⟨Same.refl _, _, rng_get hi, y⟩
theorem wk_range1 {n : Int} {p : Pos} (hm : X.mg "range" = none) (ha : PE X a (tE f1 vI H0 Γ n)) (hn : 0 ≤ n ∧ n ≤ 100000) (hg : Gl X "range" := by rfl) (hs : starEach [a] X.env = [(false, eval a X.env)] := by rfl) : PI X tg (.Call (.Name "range" p) [a] [] pos) (tWk vI H0 Γ (rng 0 n.toNat)) :=
  (pi_range1 hg hm (pa_cons ha pa_nil hs) hs).wk fun σ H R ⟨g, q⟩ => ⟨g, fun v H1 s r _ => ⟨n, by rw [show v = V.int n from r], by omega, by omega, wk_rng s q⟩⟩
theorem wk_range2 {lo n : Int} {p : Pos} (hm : X.mg "range" = none) (ha : PE X a (tE f1 vI H0 Γ lo)) (hb : PE X b (tE f2 vI H0 Γ n)) (hn : -100000 ≤ lo ∧ lo ≤ 100000 ∧ -100000 ≤ n ∧ n ≤ 100000) (hg : Gl X "range" := by rfl) (hs : starEach [a, b] X.env = [(false, eval a X.env), (false, eval b X.env)] := by rfl) (hs2 : starEach [b] X.env = [(false, eval b X.env)] := by rfl) :
    PI X tg (.Call (.Name "range" p) [a, b] [] pos) (tWk vI H0 Γ (rng lo (n - lo).toNat)) :=
  (pi_range2 hg hm (pa_cons ha (pa_cons hb pa_nil hs2) (by rw [hs, hs2])) hs hs2).wk fun σ H R ⟨g, q⟩ => ⟨g, fun v H1 s r _ => ⟨g.mono s, fun w H2 s2 r2 _ => ⟨lo, n, by rw [show v = V.int lo from r, show w = V.int n from r2], ⟨by omega, by omega, by omega, by omega⟩, wk_rng (s.trans s2) q⟩⟩⟩

/-! ### targets -/
def tGt (F : Rep α) (H0 : Hp) (Γ Γ' : List Slot) (x : α) : TG := fun v σ H Q => En H0 Γ σ H ∧ F.r x v H ∧ ∀ σ', En H0 Γ' σ' H → Q σ' H
theorem gt_name [Imm F] {n : Str} (i : Nat) (nd : X.N.Nodup) (hi : X.N[i]? = some n := by rfl) (hx : Loc X.env.scope n := by first | exact Or.inl rfl | exact Or.inr rfl) (hf : X.fn n = true ∨ X.env.scope.names.lookup n = some .local := by first | exact .inl rfl | exact .inr rfl | assumption) : PG X (.Name n pos) (tGt F H0 Γ (Γ.set i (im F x)) x) :=
  (pg_name nd hi hx hf).wk fun v σ H Q ⟨g, r, q⟩ => q _ (g.set_im r)
theorem gt_ge {n : Str} (i : Nat) (nd : X.N.Nodup) (hi : X.N[i]? = some n := by rfl) (hx : Loc X.env.scope n := by first | exact Or.inl rfl | exact Or.inr rfl) (hf : X.fn n = true ∨ X.env.scope.names.lookup n = some .local := by first | exact .inl rfl | exact .inr rfl | assumption) : PG X (.Name n pos) (tGt F H0 Γ (Γ.set i .no) x) :=
  (pg_name nd hi hx hf).wk fun v σ H Q ⟨g, r, q⟩ => q _ g.set_no
theorem gt_pair [Imm F] [Imm G] {x : α × β} {n m : Str} {k : Nat} {p1 p2 : Pos} (i j : Nat) (hc : X.calm = true) (nd : X.N.Nodup) (hi : X.N[i]? = some n := by rfl) (hj : X.N[j]? = some m := by rfl) (hx : Loc X.env.scope n := by first | exact Or.inl rfl | exact Or.inr rfl) (hy : Loc X.env.scope m := by first | exact Or.inl rfl | exact Or.inr rfl)
    (hf : X.fn n = true ∨ X.env.scope.names.lookup n = some .local := by first | exact .inl rfl | exact .inr rfl | assumption) (hf2 : X.fn m = true ∨ X.env.scope.names.lookup m = some .local := by first | exact .inl rfl | exact .inr rfl | assumption) :
    PG X (.Tuple [.Name n p1, .Name m p2] k pos) (tGt (vP F G) H0 Γ ((Γ.set i (im F x.1)).set j (im G x.2)) x) :=
  (pg_tup hc (pgs_cons (pg_name nd hi hx hf) (pgs_cons (pg_name nd hj hy hf2) pgs_nil))).wk fun v σ H Q ⟨g, ⟨p, v1, v2, h1, h2, h3, h4⟩, q⟩ =>
    ⟨p, _, h1, SqT.of h2, rfl, v1, _, rfl, v2, _, rfl, rfl, q _ ((g.set_im h3).set_im h4)⟩
theorem gt_trip [Imm F] [Imm G] [Imm J] {x : α × β × γ} {n m o : Str} {k : Nat} {p1 p2 p3 : Pos} (i j l : Nat) (hc : X.calm = true) (nd : X.N.Nodup) (hi : X.N[i]? = some n := by rfl) (hj : X.N[j]? = some m := by rfl) (hl : X.N[l]? = some o := by rfl) (hx : Loc X.env.scope n := by first | exact Or.inl rfl | exact Or.inr rfl) (hy : Loc X.env.scope m := by first | exact Or.inl rfl | exact Or.inr rfl) (hz : Loc X.env.scope o := by first | exact Or.inl rfl | exact Or.inr rfl)
    (hf : X.fn n = true ∨ X.env.scope.names.lookup n = some .local := by first | exact .inl rfl | exact .inr rfl | assumption) (hf2 : X.fn m = true ∨ X.env.scope.names.lookup m = some .local := by first | exact .inl rfl | exact .inr rfl | assumption) (hf3 : X.fn o = true ∨ X.env.scope.names.lookup o = some .local := by first | exact .inl rfl | exact .inr rfl | assumption) :
    PG X (.Tuple [.Name n p1, .Name m p2, .Name o p3] k pos) (tGt (vQ F G J) H0 Γ (((Γ.set i (im F x.1)).set j (im G x.2.1)).set l (im J x.2.2)) x) :=
  (pg_tup hc (pgs_cons (pg_name nd hi hx hf) (pgs_cons (pg_name nd hj hy hf2) (pgs_cons (pg_name nd hl hz hf3) pgs_nil)))).wk fun v σ H Q ⟨g, ⟨p, v1, v2, v3, h1, h2, h3, h4, h5⟩, q⟩ =>
    ⟨p, _, h1, SqT.of h2, rfl, v1, _, rfl, v2, _, rfl, v3, _, rfl, rfl, q _ (((g.set_im h3).set_im h4).set_im h5)⟩
/-- a target that one value, a pair, is stored into: a, b = e -/
theorem ss_tgt {Γ' : List Slot} (he : PE X e (tE fr F H0 Γ x)) (hg : PG X tg (tGt F H0 Γ Γ' x)) (hr : PSs X rest (tS H0 Γ' R N)) (hs : swapsWithSole [tg] e pos.line X.env = pure false := by rfl) (hw : swappedStores [tg] e X.env = pure none := by rfl) (h1 : (assignEach [tg] X.env).map (·.2) = [assign tg X.env] := by rfl) : PSs X (.Assign [tg] e pos :: rest) (tS H0 Γ R N) :=
  ss_go (ps_asg he hg hs hw h1) hr fun D σ H g _ q => ⟨g, fun v H2 s r _ => ⟨g.mono s, r, fun σ' g' => q _ _ g'⟩⟩

/-! ### for -/
theorem ss_for {xs : List α} (Γi : Nat → List Slot) (Γb : Nat → α → List Slot) (hp : PassesOwn (model X.prog X.w) X.A X.env X.xe) (hc : X.calm = true) (hi : PI X tg iter (tWk F H0 Γ xs)) (hg : ∀ H1 i x, xs[i]? = some x → PG X tg (tGt F H1 (Γi i) (Γb i x) x)) (h0 : Sub Γ (Γi 0))
    (hb : ∀ H1 i x, Same H0 H1 → xs[i]? = some x → PSs X body (tS H1 (Γb i x) R (En H1 (Γi (i + 1))))) (hr : ∀ H1, Same H0 H1 → PSs X rest (tS H1 (Γi xs.length) R N)) (hs : ∀ x, foldedSetIterable iter X.env x = pure x := by intro _; rfl) : PSs X (.For tg iter body [] pos :: rest) (tS H0 Γ R N) := by
  refine (pss_cons (ps_for hp hc hi (PG.ex (p := fun (z : Hp × Nat × α) => xs[z.2.1]? = some z.2.2) (t := fun z => tGt F z.1 (Γi z.2.1) (Γb z.2.1 z.2.2) z.2.2) fun z h => hg z.1 z.2.1 z.2.2 h)
    (PSs.ex (p := fun (z : Hp × Nat × α) => Same H0 z.1 ∧ xs[z.2.1]? = some z.2.2) (t := fun z => tS z.1 (Γb z.2.1 z.2.2) R (En z.1 (Γi (z.2.1 + 1)))) fun z h => hb z.1 z.2.1 z.2.2 h.1 h.2) hs) (PSs.ex hr)).wk fun D σ H ⟨g, q1, q2⟩ => ⟨g, fun J H1 Gp Y s w hG hY => ?_⟩
  have g1 := (g.mono s).rebase
  have s0 : Same H0 (bare Γ σ H1) := (g.mono s).bare_same
  refine for_it w (fun i σ' H' => En (bare Γ σ H1) (Γi i) σ' H') ?_ ?_ ?_ ?_
  · exact g1.sub h0
  · exact fun i σ' H' _ g' => hG H' g'.same
  · intro i v σ' H' H'' hi' g' y
    obtain ⟨s3, c, e1, e2⟩ := hY i H' v H'' hi' g'.same y
    exact ⟨(bare Γ σ H1, i, c), e1, g'.mono s3, e2, fun σ2 g2 => ⟨(bare Γ σ H1, i, c), ⟨s0, e1⟩, g2, fun v H2 s2 r => q1 v H2 (s0.trans s2) r, fun σ3 H3 g3 => g3⟩⟩
  · exact fun σ' H' g' => ⟨_, s0, g', fun v H2 s2 r => q1 v H2 (s0.trans s2) r, q2⟩

/-! ### comprehensions -/
def wipeG (Γ : List Slot) : List Nat → List Slot
  | [] => Γ
  | v :: vs => (wipeG Γ vs).set v .no
theorem set_set_comm {α : Type} (l : List α) (i j : Nat) (x : α) : (l.set i x).set j x = (l.set j x).set i x := by
  by_cases h : i = j
  · rw [h]
  · exact List.set_comm _ _ h
theorem wipe_set (σ : HSt) (v : Nat) : ∀ vs : List Nat, L2.wipe (σ.set v none) vs = (L2.wipe σ vs).set v none
  | [] => rfl
  | u :: us => by
    show (L2.wipe (σ.set v none) us).set u none = ((L2.wipe σ us).set u none).set v none
    rw [wipe_set σ v us, set_set_comm]
theorem wipe_wipe (σ : HSt) : ∀ vs : List Nat, L2.wipe (L2.wipe σ vs) vs = L2.wipe σ vs
  | [] => rfl
  | v :: vs => by
    show (L2.wipe ((L2.wipe σ vs).set v none) vs).set v none = (L2.wipe σ vs).set v none
    rw [wipe_set, wipe_wipe σ vs, List.set_set]
theorem En.wipe {σ : HSt} {H : Hp} (g : En H0 Γ σ H) : ∀ vs : List Nat, En H0 (wipeG Γ vs) (L2.wipe σ vs) H
  | [] => g
  | v :: vs => (g.wipe vs).set_no
/-- the block of a comprehension -/
abbrev Blk (X : Cx) (scope : Scope) (s : Shared) (H : Hp) (C : Addr) (cl : List (Str × Addr)) (fp : List Addr) : Cx := X.blk s H scope (compEnvC scope cl C X.env) fp
/-- the readings of a comprehension's parts -/
abbrev rdG (F : Rep α) (Γ : List Slot) (vs : List Nat) (xs : List α) (Γb : α → List Slot) : TG := tGx (fun (z : Hp × α) => z.2 ∈ xs) fun z v σ H Q => En z.1 (wipeG Γ vs) σ H ∧ F.r z.2 v H ∧ ∀ σ', En z.1 (Γb z.2) σ' H → L2.wipe σ' vs = L2.wipe σ vs → Q σ' H
abbrev rdT (H0 : Hp) (xs : List α) (Γb : α → List Slot) (p : α → Bool) : TT := tTx (fun (z : Hp × α) => Same H0 z.1 ∧ z.2 ∈ xs) fun z => tT z.1 (Γb z.2) (p z.2)
abbrev rdE (G : Rep β) (H0 : Hp) (xs : List α) (Γb : α → List Slot) (p : α → Bool) (f : α → β) : TE := tEx (fun (z : Hp × α) => Same H0 z.1 ∧ z.2 ∈ xs ∧ p z.2 = true) fun z => tE false G z.1 (Γb z.2) (f z.2)
theorem lc_rd [Imm G] {vs : List Nat} {xs : List α} {p : α → Bool} {f : α → β} (Γb : α → List Slot) (hl : xs.length ≤ 100000) {σ : HSt} {H : Hp} {Q : VK} (h : tE true (vL G) H0 Γ ((xs.filter p).map f) σ H Q) : tLc (tWk F H0 Γ xs) (rdG F Γ vs xs Γb) (rdT H0 xs Γb p) (rdE G H0 xs Γb p f) vs σ H Q := by
  obtain ⟨g, q⟩ := h
  refine ⟨g, fun J H1 Gp Y s w hG hY => fun Dl hD => ?_⟩
  have g1 := (g.mono s).rebase
  have s0 : Same H0 (bare Γ σ H1) := (g.mono s).bare_same
  have sw : ∀ H', Same H1 H' → Same (bare Γ σ H1) H' := fun H' h => bare_sub.trans h
  refine lc_it w (fun i H' => Same H1 H' ∧ ∃ ws, H' Dl = some (.lst ws) ∧ Al G.r (((xs.take i).filter p).map f) ws H') ?_ ?_ ?_ ?_
  · exact ⟨same_new hD, [], upd_same, trivial⟩
  · exact fun i H' _ h => hG H' (sw H' h.1)
  · intro i v H' H'' hi' h123 y
    obtain ⟨h1, ws, h2, h3⟩ := h123
    obtain ⟨s3, c, e1, e2⟩ := hY i H' v H'' hi' (sw H' h1) y
    have hm : c ∈ xs := List.mem_of_getElem? e1
    have gw : En (bare Γ σ H1) (wipeG Γ vs) (L2.wipe σ vs) H'' := (g1.mono (h1.trans s3)).wipe _
    have ww : ∀ us : List Nat, L2.wipe (L2.wipe σ us) us = L2.wipe σ us := wipe_wipe σ
    refine ⟨(bare Γ σ H1, c), hm, gw, e2, fun σ2 g2 ew => ⟨by rw [ew, ww], (bare Γ σ H1, c), ⟨s0, hm⟩, g2, fun H3 s4 => ?_⟩⟩
    have ht1 : (xs.take (i + 1)).filter p = (xs.take i).filter p ++ (if p c = true then [c] else []) := by
      rw [List.take_add_one, e1, List.filter_append]
      congr 1
      cases hp : p c <;> simp [hp]
    have h23 := (s3.trans s4) _ _ h2
    have a23 := h3.map fun _ _ z => G.mono (s3.trans s4) z
    by_cases hp : p c = true
    · show if p c = true then _ else _
      rw [if_pos hp]
      rw [if_pos hp] at ht1
      refine ⟨(bare Γ σ H1, c), ⟨s0, hm, hp⟩, g2.mono s4, fun u H4 s5 r5 _ => ⟨ws, s5 _ _ h23, ?_, ?_, ws ++ [u], upd_same, ?_⟩⟩
      · rw [h3.length, List.length_map]
        have z := List.length_filter_le p (xs.take i)
        have z2 : (xs.take i).length ≤ i := by simp; omega
        exact line_lt (by omega)
      · exact same_mut (((h1.trans s3).trans s4).trans s5) hD
      · rw [ht1, List.map_append]
        have t : Tu H4 (upd H4 Dl (.lst (ws ++ [u]))) := tu_mut (s5 _ _ h23) (fun xs z => (nomatch z))
        exact (a23.map fun _ _ z => Imm.tu t (G.mono s5 z)).app ⟨Imm.tu t r5, trivial⟩
    · show if p c = true then _ else _
      rw [if_neg hp]
      rw [if_neg hp] at ht1
      refine ⟨(h1.trans s3).trans s4, ws, h23, ?_⟩
      rw [ht1, List.append_nil]
      exact a23
  · intro H' h123
    obtain ⟨h1, ws, h2, h3⟩ := h123
    refine q _ H' (s.trans h1) ⟨Dl, _, rfl, h2, ws, rfl, ?_⟩ fun _ => ⟨Dl, rfl, s.free hD⟩
    rw [List.take_length] at h3
    exact h3
theorem ex_lc [Imm G] {elt : Expr} {ifs : List Expr} {scope : Scope} {own : List (Str × Nat)} {xs : List α} {p : α → Bool} {f : α → β} (Γb : α → List Slot) (hc : X.calm = true) (nd : X.N.Nodup) (hi : PI X tg iter (tWk F H0 Γ xs)) (ok : BlkOk X.N X.env.scope scope own)
    (hg : ∀ s H C cl fp H1 x, x ∈ xs → PG (Blk X scope s H C cl fp) tg (fun v σ H Q => En H1 (wipeG Γ (own.map (·.2))) σ H ∧ F.r x v H ∧ ∀ σ', En H1 (Γb x) σ' H → L2.wipe σ' (own.map (·.2)) = L2.wipe σ (own.map (·.2)) → Q σ' H))
    (ht : ∀ s H C cl fp H1 x, Same H0 H1 → x ∈ xs → PTs (Blk X scope s H C cl fp) ifs (tT H1 (Γb x) (p x)))
    (he : ∀ s H C cl fp H1 x, Same H0 H1 → x ∈ xs → p x = true → PE (Blk X scope s H C cl fp) elt (tE false G H1 (Γb x) (f x))) (hl : xs.length ≤ 100000)
    (hs : ∀ x, foldedSetIterable iter X.env x = pure x := by intro _; rfl) : PE X (.ListComp elt [⟨tg, iter, ifs, 0⟩] scope pos) (tE true (vL G) H0 Γ ((xs.filter p).map f)) :=
  (pe_lc hc nd hi ok (fun s H C cl fp => PG.ex (p := fun (z : Hp × α) => z.2 ∈ xs) fun z h => hg s H C cl fp z.1 z.2 h) (fun s H C cl fp => PTs.ex (p := fun (z : Hp × α) => Same H0 z.1 ∧ z.2 ∈ xs) fun z h => ht s H C cl fp z.1 z.2 h.1 h.2)
    (fun s H C cl fp => PE.ex (p := fun (z : Hp × α) => Same H0 z.1 ∧ z.2 ∈ xs ∧ p z.2 = true) fun z h => he s H C cl fp z.1 z.2 h.1 h.2.1 h.2.2) hs).wk fun σ H Q h => lc_rd Γb hl h
/-- name = [..], the name a local -/
theorem ss_lc [Imm G] {n : Str} {elt : Expr} {ifs : List Expr} {scope : Scope} {own : List (Str × Nat)} {xs : List α} {p : α → Bool} {f : α → β} (i : Nat) (Γb : α → List Slot) (hc : X.calm = true) (nd : X.N.Nodup) (hi : PI X tg iter (tWk F H0 Γ xs)) (ok : BlkOk X.N X.env.scope scope own)
    (hg : ∀ s H C cl fp H1 x, x ∈ xs → PG (Blk X scope s H C cl fp) tg (fun v σ H Q => En H1 (wipeG Γ (own.map (·.2))) σ H ∧ F.r x v H ∧ ∀ σ', En H1 (Γb x) σ' H → L2.wipe σ' (own.map (·.2)) = L2.wipe σ (own.map (·.2)) → Q σ' H))
    (ht : ∀ s H C cl fp H1 x, Same H0 H1 → x ∈ xs → PTs (Blk X scope s H C cl fp) ifs (tT H1 (Γb x) (p x)))
    (he : ∀ s H C cl fp H1 x, Same H0 H1 → x ∈ xs → p x = true → PE (Blk X scope s H C cl fp) elt (tE false G H1 (Γb x) (f x))) (hl : xs.length ≤ 100000) {p2 : Pos} (hr : PSs X rest (tS H0 (Γ.set i (ow (cL G) ((xs.filter p).map f))) R N))
    (hy : X.N[i]? = some n) (hyl : X.env.scope.names.lookup n = some .local) (hsw : swapsWith (.ListComp elt [⟨tg, iter, ifs, 0⟩] scope p2) (some (.Name n p')) pos.line X.env = pure true)
    (hs : ∀ x, foldedSetIterable iter X.env x = pure x := by intro _; rfl) : PSs X (.Assign [.Name n p'] (.ListComp elt [⟨tg, iter, ifs, 0⟩] scope p2) pos :: rest) (tS H0 Γ R N) :=
  ss_go (ps_setLc hc nd hy hyl hsw hi ok (fun s H C cl fp => PG.ex (p := fun (z : Hp × α) => z.2 ∈ xs) fun z h => hg s H C cl fp z.1 z.2 h) (fun s H C cl fp => PTs.ex (p := fun (z : Hp × α) => Same H0 z.1 ∧ z.2 ∈ xs) fun z h => ht s H C cl fp z.1 z.2 h.1 h.2)
    (fun s H C cl fp => PE.ex (p := fun (z : Hp × α) => Same H0 z.1 ∧ z.2 ∈ xs ∧ p z.2 = true) fun z h => he s H C cl fp z.1 z.2 h.1 h.2.1 h.2.2) hs) hr fun D σ H g _ q => lc_rd Γb hl ⟨g, fun v H2 s ⟨p, o, h1, h2, h3⟩ fz => by
      obtain ⟨p1, e1, e2⟩ := fz rfl
      rw [h1] at e1
      cases e1
      rw [h1]
      exact q _ _ (g.set_ow s e2 h2 h3)⟩
end
end Gm
set_option Elab.async false
set_option linter.all false
set_option maxRecDepth 100000
set_option maxHeartbeats 4000000
namespace Gm
open PySem PySem.Spec PyProof.Rows L2
/-- the built-in names that the text leaves alone -/
structure Bl (mg : Str → Option Value) : Prop where
  isinstance : mg "isinstance" = none
  int : mg "int" = none
  bool : mg "bool" = none
  tuple : mg "tuple" = none
  str : mg "str" = none
  len : mg "len" = none
  all : mg "all" = none
  any : mg "any" = none
  zip : mg "zip" = none
  max : mg "max" = none
  min : mg "min" = none
  sorted : mg "sorted" = none
  range : mg "range" = none
  enumerate : mg "enumerate" = none
  list : mg "list" = none
  set : mg "set" = none
/-- some tuple, by its length -/
def vTup : Rep Nat := ⟨fun n v H => ∃ p vs, v = .ref p ∧ H p = some (.tup vs) ∧ vs.length = n, fun e ⟨p, vs, h1, h2, h3⟩ => ⟨p, vs, h1, e _ _ h2, h3⟩⟩
instance : Imm vTup := ⟨fun e ⟨p, vs, h1, h2, h3⟩ => ⟨p, vs, h1, e _ _ h2, h3⟩⟩
def vTy : Rep String := ⟨fun n v _ => v = .ty n, fun _ h => h⟩
/-- the type of what is held -/
class Tyd {α : Type} (F : Rep α) where
  T : String
  ty : ∀ {K : PySem.W.Frag} {x : α} {v : V} {H : Hp}, F.r x v H → TyX K H v (.type T)
instance : Tyd vI := ⟨"int", fun h => by rw [show _ = V.int _ from h]; exact .base (.int _)⟩
instance : Tyd vB := ⟨"bool", fun h => by rw [show _ = V.bl _ from h]; exact .base (.bl _)⟩
instance : Tyd vS := ⟨"str", fun h => by rw [show _ = V.str _ from h]; exact .base (.str _)⟩
instance : Tyd vTup := ⟨"tuple", fun ⟨p, vs, h1, h2, h3⟩ => by rw [h1]; exact .base (.tup h2)⟩
section
variable {X : Cx} {e a b tg l iter : Expr} {es : List Expr} {rest body orelse : List Stmt} {pos p' : Pos} {H0 : Hp} {Γ Γ' : List Slot} {fr f1 f2 f3 : Bool} {R : V → Hp → Prop} {N : HSt → Hp → Prop}
variable {α β γ ι ρ : Type} {F : Rep α} {G : Rep β} {J : Rep γ} {x : α} {y : β} {z : γ}
theorem asTup {xs : List α} (h : PE X e (tE fr (vT F) H0 Γ xs)) : PE X e (tE fr vTup H0 Γ xs.length) := h.wk fun σ H Q ⟨g, q⟩ => ⟨g, fun v H2 s ⟨p, vs, h1, h2, h3⟩ fz => q v H2 s ⟨p, vs, h1, h2, h3.length⟩ fz⟩
theorem asTupP {p : α × β} (h : PE X e (tE fr (vP F G) H0 Γ p)) : PE X e (tE fr vTup H0 Γ 2) := h.wk fun σ H Q ⟨g, q⟩ => ⟨g, fun v H2 s ⟨p, v1, v2, h1, h2, _⟩ fz => q v H2 s ⟨p, _, h1, h2, rfl⟩ fz⟩
theorem asTupQ {p : α × β × γ} (h : PE X e (tE fr (vQ F G J) H0 Γ p)) : PE X e (tE fr vTup H0 Γ 3) := h.wk fun σ H Q ⟨g, q⟩ => ⟨g, fun v H2 s ⟨p, v1, v2, v3, h1, h2, _⟩ fz => q v H2 s ⟨p, _, h1, h2, rfl⟩ fz⟩
/-- a pair as a row of two -/
theorem asT2 {p : α × α} (h : PE X e (tE fr (vP F F) H0 Γ p)) : PE X e (tE fr (vT F) H0 Γ [p.1, p.2]) := h.wk fun σ H Q ⟨g, q⟩ => ⟨g, fun v H2 s ⟨p, v1, v2, h1, h2, h3, h4⟩ fz => q v H2 s ⟨p, _, h1, h2, h3, h4, trivial⟩ fz⟩
theorem ex_ty {n : Str} {T : String} (hm : X.mg n = none) (hv : bootBuiltins n = some (.type T)) (hg : Gl X n := by rfl) (hn : n ≠ "__name__" := by decide) (hd : (n == ("__debug__" : Str)) = false := by decide) : PE X (.Name n pos) (tE false vTy H0 Γ T) :=
  (pe_bltn hg hm hv (v := .ty T) rfl hn hd).wk fun σ H Q ⟨g, q⟩ => q _ H (Same.refl H) rfl fre0
theorem ex_isi [t : Tyd F] {p : Pos} {c : String} {r : Bool} (hm : X.mg "isinstance" = none) (ha : PE X a (tE f1 F H0 Γ x)) (hb : PE X b (tE f2 vTy H0 Γ c)) (hk : kitB t.T c = some r := by decide +kernel) (hg : Gl X "isinstance" := by rfl)
    (he : starEach [a, b] X.env = (false, eval a X.env) :: starEach [b] X.env := by rfl) (he2 : starEach [b] X.env = (false, eval b X.env) :: starEach [] X.env := by rfl) (hpl : (backTo pos (starEach [b] X.env)).any (·.1) = false := by rfl) : PE X (.Call (.Name "isinstance" p) [a, b] [] pos) (tE false vB H0 Γ r) :=
  (pe_callB call_isi hg hm PyProof.Rows.boot_isinstance (pa_cons ha (pa_cons hb pa_nil he2) he) (by decide) (by decide) he hpl).wk fun σ H Q ⟨g, q⟩ => ⟨g, fun v H1 e1 r1 _ => ⟨g.mono e1, fun w H2 e2 r2 _ =>
    ⟨v, w, .type t.T, .type c, r, rfl, by rw [show w = V.ty c from r2]; exact .ty c, t.ty (F.mono e2 r1), kit_ty hk, q _ H2 (e1.trans e2) rfl fre0⟩⟩⟩
theorem ex_lenT {p : Pos} {xs : List α} (hm : X.mg "len" = none) (ha : PE X a (tE f1 (vT F) H0 Γ xs)) (hg : Gl X "len" := by rfl) (he : starEach [a] X.env = (false, eval a X.env) :: starEach [] X.env := by rfl) (hpl : (backTo pos (starEach [] X.env)).any (·.1) = false := by rfl) : PE X (.Call (.Name "len" p) [a] [] pos) (tE false vI H0 Γ (xs.length : Int)) :=
  (pe_callB call_len_seq hg hm PySem.boot_len (pa_cons ha pa_nil he) (by decide) (by decide) he hpl).wk fun σ H Q ⟨g, q⟩ => ⟨g, fun v H1 e1 ⟨p, vs, h1, h2, h3⟩ _ => ⟨p, vs, by rw [h1], .inr (SqT.of h2), q _ H1 e1 (by show V.int _ = V.int _; rw [h3.length]) fre0⟩⟩
theorem ex_lenTup {p : Pos} {n : Nat} (hm : X.mg "len" = none) (ha : PE X a (tE f1 vTup H0 Γ n)) (hg : Gl X "len" := by rfl) (he : starEach [a] X.env = (false, eval a X.env) :: starEach [] X.env := by rfl) (hpl : (backTo pos (starEach [] X.env)).any (·.1) = false := by rfl) : PE X (.Call (.Name "len" p) [a] [] pos) (tE false vI H0 Γ (n : Int)) :=
  (pe_callB call_len_seq hg hm PySem.boot_len (pa_cons ha pa_nil he) (by decide) (by decide) he hpl).wk fun σ H Q ⟨g, q⟩ => ⟨g, fun v H1 e1 ⟨p, vs, h1, h2, h3⟩ _ => ⟨p, vs, by rw [h1], .inr (SqT.of h2), q _ H1 e1 (by show V.int _ = V.int _; rw [h3]) fre0⟩⟩
theorem ex_lenL {p : Pos} {xs : List α} (hm : X.mg "len" = none) (ha : PE X a (tE f1 (vL F) H0 Γ xs)) (hg : Gl X "len" := by rfl) (he : starEach [a] X.env = (false, eval a X.env) :: starEach [] X.env := by rfl) (hpl : (backTo pos (starEach [] X.env)).any (·.1) = false := by rfl) : PE X (.Call (.Name "len" p) [a] [] pos) (tE false vI H0 Γ (xs.length : Int)) :=
  (pe_callB call_len_seq hg hm PySem.boot_len (pa_cons ha pa_nil he) (by decide) (by decide) he hpl).wk fun σ H Q ⟨g, q⟩ => ⟨g, fun v H1 e1 ⟨p, o, h1, h2, vs, h3, h4⟩ _ => ⟨p, vs, by rw [h1], .inl (SqL.of (by rw [h2, h3])), q _ H1 e1 (by show V.int _ = V.int _; rw [h4.length]) fre0⟩⟩
theorem ex_max {p : Pos} {i j : Int} (hc : X.calm = true) (hm : X.mg "max" = none) (ha : PE X a (tE f1 vI H0 Γ i)) (hb : PE X b (tE f2 vI H0 Γ j)) (hg : Gl X "max" := by rfl)
    (he : starEach [a, b] X.env = (false, eval a X.env) :: starEach [b] X.env := by rfl) (he2 : starEach [b] X.env = (false, eval b X.env) :: starEach [] X.env := by rfl) (hpl : (backTo pos (starEach [b] X.env)).any (·.1) = false := by rfl) : PE X (.Call (.Name "max" p) [a, b] [] pos) (tE false vI H0 Γ (max i j)) :=
  (pe_callB (call_max2 hc) hg hm PyProof.Rows.boot_max (pa_cons ha (pa_cons hb pa_nil he2) he) (by decide) (by decide) he hpl).wk fun σ H Q ⟨g, q⟩ => ⟨g, fun v H1 e1 r1 _ => ⟨g.mono e1, fun w H2 e2 r2 _ =>
    ⟨i, j, by rw [show v = V.int i from r1, show w = V.int j from r2], q _ H2 (e1.trans e2) (by show V.int _ = V.int _; congr 1; split <;> omega) fre0⟩⟩⟩
theorem ex_min {p : Pos} {i j : Int} (hc : X.calm = true) (hm : X.mg "min" = none) (ha : PE X a (tE f1 vI H0 Γ i)) (hb : PE X b (tE f2 vI H0 Γ j)) (hg : Gl X "min" := by rfl)
    (he : starEach [a, b] X.env = (false, eval a X.env) :: starEach [b] X.env := by rfl) (he2 : starEach [b] X.env = (false, eval b X.env) :: starEach [] X.env := by rfl) (hpl : (backTo pos (starEach [b] X.env)).any (·.1) = false := by rfl) : PE X (.Call (.Name "min" p) [a, b] [] pos) (tE false vI H0 Γ (min i j)) :=
  (pe_callB (call_min2 hc) hg hm PyProof.Rows.boot_min (pa_cons ha (pa_cons hb pa_nil he2) he) (by decide) (by decide) he hpl).wk fun σ H Q ⟨g, q⟩ => ⟨g, fun v H1 e1 r1 _ => ⟨g.mono e1, fun w H2 e2 r2 _ =>
    ⟨i, j, by rw [show v = V.int i from r1, show w = V.int j from r2], q _ H2 (e1.trans e2) (by show V.int _ = V.int _; congr 1; split <;> omega) fre0⟩⟩⟩
theorem bls_of {H : Hp} : ∀ {xs : List Bool} {vs : List V}, Al vB.r xs vs H → vs = xs.map V.bl
  | [], [], _ => rfl
  | [], _ :: _, h => False.elim h
  | _ :: _, [], h => False.elim h
  | y :: ys, u :: us, h => by rw [List.map_cons, bls_of h.2, show u = V.bl y from h.1]
theorem ints_of {H : Hp} : ∀ {xs : List Int} {vs : List V}, Al vI.r xs vs H → vs = xs.map V.int
  | [], [], _ => rfl
  | [], _ :: _, h => False.elim h
  | _ :: _, [], h => False.elim h
  | y :: ys, u :: us, h => by rw [List.map_cons, ints_of h.2, show u = V.int y from h.1]
theorem of_ints {H : Hp} : ∀ xs : List Int, Al vI.r xs (xs.map V.int) H
  | [] => trivial
  | y :: ys => ⟨rfl, of_ints ys⟩
theorem ex_all {p : Pos} {xs : List Bool} (hc : X.calm = true) (hm : X.mg "all" = none) (ha : PE X a (tE f1 (vL vB) H0 Γ xs)) (hg : Gl X "all" := by rfl) (he : starEach [a] X.env = (false, eval a X.env) :: starEach [] X.env := by rfl) (hpl : (backTo pos (starEach [] X.env)).any (·.1) = false := by rfl) : PE X (.Call (.Name "all" p) [a] [] pos) (tE false vB H0 Γ (xs.all id)) :=
  (pe_callB (cr_all hc) hg hm PyProof.Rows.boot_all (pa_cons ha pa_nil he) (by decide) (by decide) he hpl).wk fun σ H Q ⟨g, q⟩ => ⟨g, fun v H1 e1 ⟨p, o, h1, h2, vs, h3, h4⟩ _ => ⟨p, xs, by rw [h1], SqL.of (by rw [h2, h3, bls_of h4]), q _ H1 e1 rfl fre0⟩⟩
theorem ex_any {p : Pos} {xs : List Bool} (hc : X.calm = true) (hm : X.mg "any" = none) (ha : PE X a (tE f1 (vL vB) H0 Γ xs)) (hg : Gl X "any" := by rfl) (he : starEach [a] X.env = (false, eval a X.env) :: starEach [] X.env := by rfl) (hpl : (backTo pos (starEach [] X.env)).any (·.1) = false := by rfl) : PE X (.Call (.Name "any" p) [a] [] pos) (tE false vB H0 Γ (xs.any id)) :=
  (pe_callB (cr_any hc) hg hm PyProof.Rows.boot_any (pa_cons ha pa_nil he) (by decide) (by decide) he hpl).wk fun σ H Q ⟨g, q⟩ => ⟨g, fun v H1 e1 ⟨p, o, h1, h2, vs, h3, h4⟩ _ => ⟨p, xs, by rw [h1], SqL.of (by rw [h2, h3, bls_of h4]), q _ H1 e1 rfl fre0⟩⟩
/-- tuple(a list) -/
theorem ex_tupL [Imm F] {p : Pos} {xs : List α} (hm : X.mg "tuple" = none) (ha : PE X a (tE f1 (vL F) H0 Γ xs)) (hg : Gl X "tuple" := by rfl) (he : starEach [a] X.env = (false, eval a X.env) :: starEach [] X.env := by rfl) (hpl : (backTo pos (starEach [] X.env)).any (·.1) = false := by rfl) : PE X (.Call (.Name "tuple" p) [a] [] pos) (tE false (vT F) H0 Γ xs) :=
  (pe_callTy call_tuple_of hg hm PyProof.Rows.boot_tuple (pa_cons ha pa_nil he) (by decide) (by decide) he hpl).wk fun σ H Q ⟨g, q⟩ => ⟨g, fun v H1 e1 ⟨p, o, h1, h2, vs, h3, h4⟩ _ => ⟨p, vs, by rw [h1], .inl ⟨SqL.of (by rw [h2, h3]), fun r hr => q _ _ (e1.trans (same_new hr)) ⟨r, vs, rfl, upd_same, al_new h4 hr⟩ fre0⟩⟩⟩
/-- int(a truth) -/
theorem ex_intB {p : Pos} {c : Bool} (hm : X.mg "int" = none) (ha : PE X a (tE f1 vB H0 Γ c)) (hg : Gl X "int" := by rfl) (he : starEach [a] X.env = (false, eval a X.env) :: starEach [] X.env := by rfl) (hpl : (backTo pos (starEach [] X.env)).any (·.1) = false := by rfl) : PE X (.Call (.Name "int" p) [a] [] pos) (tE false vI H0 Γ (if c then 1 else 0)) :=
  (pe_callTy call_int1 hg hm PyProof.Rows.boot_int (pa_cons ha pa_nil he) (by decide) (by decide) he hpl).wk fun σ H Q ⟨g, q⟩ => ⟨g, fun v H1 e1 r1 _ => .inr ⟨c, by rw [show v = V.bl c from r1], q _ H1 e1 rfl fre0⟩⟩
/-- the same if it is put otherwise -/
theorem ss_ifd {c : Expr} {d : Bool} (hc : PT X c (tT H0 Γ d)) (ht : d = true → ∃ Γ1, PSs X body (tS H0 Γ R (En H0 Γ1)) ∧ PSs X rest (tS H0 Γ1 R N)) (hf : d = false → ∃ Γ1, PSs X orelse (tS H0 Γ R (En H0 Γ1)) ∧ PSs X rest (tS H0 Γ1 R N)) : PSs X (.If c body orelse pos :: rest) (tS H0 Γ R N) := by
  cases d with
  | true =>
    obtain ⟨Γ1, h1, h2⟩ := ht rfl
    exact ss_go (ps_if hc h1 pss_never) h2 fun D σ H g q1 q => ⟨g, fun H2 s => iteT ⟨g.mono s, q1, fun σ2 H2 g2 => q _ _ g2⟩⟩
  | false =>
    obtain ⟨Γ1, h1, h2⟩ := hf rfl
    exact ss_go (ps_if hc pss_never h1) h2 fun D σ H g q1 q => ⟨g, fun H2 s => iteF ⟨g.mono s, q1, fun σ2 H2 g2 => q _ _ g2⟩⟩
/-- a, b = x, y -/
theorem ss_par [Imm F] [Imm G] {n m : Str} {px py pt : Pos} {kt k2 : Nat} {pt2 : Pos} (i j : Nat) (hc : X.calm = true) (nd : X.N.Nodup) (ha : PE X a (tE f1 F H0 Γ x)) (hb : PE X b (tE f2 G H0 Γ y)) (hr : PSs X rest (tS H0 ((Γ.set i (im F x)).set j (im G y)) R N)) (hi : X.N[i]? = some n := by rfl) (hj : X.N[j]? = some m := by rfl) (hij : i ≠ j := by decide)
    (hx : X.env.scope.names.lookup n = some .local := by rfl) (hy : X.env.scope.names.lookup m = some .local := by rfl) (hw : swappedStores [.Tuple [.Name n px, .Name m py] kt pt] (.Tuple [a, b] k2 pt2) X.env = pure (some [n, m]) := by rfl)
    (hs : swapsWithSole [.Tuple [.Name n px, .Name m py] kt pt] (.Tuple [a, b] k2 pt2) pos.line X.env = pure false := by rfl) (he : starEach [a, b] X.env = (false, eval a X.env) :: starEach [b] X.env := by rfl) (he2 : starEach [b] X.env = (false, eval b X.env) :: starEach [] X.env := by rfl) :
    PSs X (.Assign [.Tuple [.Name n px, .Name m py] kt pt] (.Tuple [a, b] k2 pt2) pos :: rest) (tS H0 Γ R N) :=
  ss_go (ps_par hc nd hi hj hij hx hy (pa_cons ha (pa_cons hb pa_nil he2) he) hw hs) hr fun D σ H g _ q => ⟨g, fun v H1 e1 r1 _ => ⟨g.mono e1, fun w H2 e2 r2 _ => ⟨v, w, rfl, q _ _ (((g.mono (e1.trans e2)).set_im (F.mono e2 r1)).set_im r2)⟩⟩⟩
theorem ss_par3 [Imm F] [Imm G] [Imm J] {n m o : Str} {c : Expr} {px py pz pt : Pos} {kt k2 : Nat} {pt2 : Pos} (i j l : Nat) (hc : X.calm = true) (nd : X.N.Nodup) (ha : PE X a (tE f1 F H0 Γ x)) (hb : PE X b (tE f2 G H0 Γ y)) (hcc : PE X c (tE f3 J H0 Γ z)) (hr : PSs X rest (tS H0 (((Γ.set i (im F x)).set j (im G y)).set l (im J z)) R N))
    (hi : X.N[i]? = some n := by rfl) (hj : X.N[j]? = some m := by rfl) (hl : X.N[l]? = some o := by rfl) (hij : i ≠ j := by decide) (hil : i ≠ l := by decide) (hjl : j ≠ l := by decide)
    (hx : X.env.scope.names.lookup n = some .local := by rfl) (hy : X.env.scope.names.lookup m = some .local := by rfl) (hz : X.env.scope.names.lookup o = some .local := by rfl) (hw : swappedStores [.Tuple [.Name n px, .Name m py, .Name o pz] kt pt] (.Tuple [a, b, c] k2 pt2) X.env = pure (some [n, m, o]) := by rfl)
    (hs : swapsWithSole [.Tuple [.Name n px, .Name m py, .Name o pz] kt pt] (.Tuple [a, b, c] k2 pt2) pos.line X.env = pure false := by rfl) (he : starEach [a, b, c] X.env = (false, eval a X.env) :: starEach [b, c] X.env := by rfl) (he2 : starEach [b, c] X.env = (false, eval b X.env) :: starEach [c] X.env := by rfl) (he3 : starEach [c] X.env = (false, eval c X.env) :: starEach [] X.env := by rfl) :
    PSs X (.Assign [.Tuple [.Name n px, .Name m py, .Name o pz] kt pt] (.Tuple [a, b, c] k2 pt2) pos :: rest) (tS H0 Γ R N) :=
  ss_go (ps_par3 hc nd hi hj hl hij hil hjl hx hy hz (pa_cons ha (pa_cons hb (pa_cons hcc pa_nil he3) he2) he) hw hs) hr fun D σ H g _ q => ⟨g, fun v H1 e1 r1 _ => ⟨g.mono e1, fun w H2 e2 r2 _ => ⟨g.mono (e1.trans e2), fun u H3 e3 r3 _ => ⟨v, w, u, rfl, q _ _ ((((g.mono ((e1.trans e2).trans e3)).set_im (F.mono (e2.trans e3) r1)).set_im (G.mono e3 r2)).set_im r3)⟩⟩⟩⟩
end
end Gm
set_option Elab.async false
set_option linter.all false
set_option maxRecDepth 100000
set_option maxHeartbeats 4000000
namespace Gm
open PySem PySem.Spec PyProof.Rows L2
theorem wipe_in (σ : HSt) (i : Nat) (v : Option V) : ∀ vs : List Nat, i ∈ vs → L2.wipe (σ.set i v) vs = L2.wipe σ vs
  | [], h => by cases h
  | u :: us, h => by
    show (L2.wipe (σ.set i v) us).set u none = (L2.wipe σ us).set u none
    by_cases hu : i ∈ us
    · rw [wipe_in σ i v us hu]
    · have e : i = u := by
        rcases List.mem_cons.mp h with e | e
        · exact e
        · exact absurd e hu
      subst e
      have k : ∀ (us : List Nat), i ∉ us → L2.wipe (σ.set i v) us = (L2.wipe σ us).set i v := by
        intro us
        induction us with
        | nil => intro _; rfl
        | cons w ws ih =>
          intro hw
          show (L2.wipe (σ.set i v) ws).set w none = ((L2.wipe σ ws).set w none).set i v
          rw [ih fun q => hw (List.mem_cons_of_mem _ q)]
          exact List.set_comm _ _ fun q => hw (by rw [q]; exact List.mem_cons_self ..)
      rw [k us hu, List.set_set]
section
variable {X : Cx} {e a b tg l iter elt : Expr} {es : List Expr} {rest body orelse : List Stmt} {pos p' : Pos} {H0 H1 : Hp} {Γ Γ' : List Slot} {fr f1 f2 f3 : Bool} {R : V → Hp → Prop} {N : HSt → Hp → Prop}
variable {α β γ ι ρ : Type} {F : Rep α} {G : Rep β} {J : Rep γ} {x : α} {y : β} {z : γ}
/-- a target within a comprehension -/
def tLg (F : Rep α) (H1 : Hp) (Γ Γ' : List Slot) (vs : List Nat) (x : α) : TG := fun v σ H Q => En H1 Γ σ H ∧ F.r x v H ∧ ∀ σ', En H1 Γ' σ' H → L2.wipe σ' vs = L2.wipe σ vs → Q σ' H
theorem lg_name [Imm F] {n : Str} {vs : List Nat} (i : Nat) (nd : X.N.Nodup) (hm : i ∈ vs := by decide) (hi : X.N[i]? = some n := by rfl) (hx : Loc X.env.scope n := by first | exact Or.inl rfl | exact Or.inr rfl) (hf : X.fn n = true ∨ X.env.scope.names.lookup n = some .local := by first | exact .inl rfl | exact .inr rfl | assumption) : PG X (.Name n pos) (tLg F H1 Γ (Γ.set i (im F x)) vs x) :=
  (pg_name nd hi hx hf).wk fun v σ H Q ⟨g, r, q⟩ => q _ (g.set_im r) (wipe_in _ _ _ _ hm)
theorem lg_no {n : Str} {vs : List Nat} (i : Nat) (nd : X.N.Nodup) (hm : i ∈ vs := by decide) (hi : X.N[i]? = some n := by rfl) (hx : Loc X.env.scope n := by first | exact Or.inl rfl | exact Or.inr rfl) (hf : X.fn n = true ∨ X.env.scope.names.lookup n = some .local := by first | exact .inl rfl | exact .inr rfl | assumption) : PG X (.Name n pos) (tLg F H1 Γ (Γ.set i .no) vs x) :=
  (pg_name nd hi hx hf).wk fun v σ H Q ⟨g, r, q⟩ => q _ g.set_no (wipe_in _ _ _ _ hm)
theorem lg_pair [Imm F] [Imm G] {x : α × β} {n m : Str} {k : Nat} {p1 p2 : Pos} {vs : List Nat} (i j : Nat) (hc : X.calm = true) (nd : X.N.Nodup) (hmi : i ∈ vs := by decide) (hmj : j ∈ vs := by decide) (hi : X.N[i]? = some n := by rfl) (hj : X.N[j]? = some m := by rfl) (hx : Loc X.env.scope n := by first | exact Or.inl rfl | exact Or.inr rfl) (hy : Loc X.env.scope m := by first | exact Or.inl rfl | exact Or.inr rfl)
    (hf : X.fn n = true ∨ X.env.scope.names.lookup n = some .local := by first | exact .inl rfl | exact .inr rfl | assumption) (hf2 : X.fn m = true ∨ X.env.scope.names.lookup m = some .local := by first | exact .inl rfl | exact .inr rfl | assumption) :
    PG X (.Tuple [.Name n p1, .Name m p2] k pos) (tLg (vP F G) H1 Γ ((Γ.set i (im F x.1)).set j (im G x.2)) vs x) :=
  (pg_tup hc (pgs_cons (pg_name nd hi hx hf) (pgs_cons (pg_name nd hj hy hf2) pgs_nil))).wk fun v σ H Q ⟨g, ⟨p, v1, v2, h1, h2, h3, h4⟩, q⟩ =>
    ⟨p, _, h1, SqT.of h2, rfl, v1, _, rfl, v2, _, rfl, rfl, q _ ((g.set_im h3).set_im h4) (by rw [wipe_in _ _ _ _ hmj, wipe_in _ _ _ _ hmi])⟩
theorem lg_trip [Imm F] [Imm G] [Imm J] {x : α × β × γ} {n m o : Str} {k : Nat} {p1 p2 p3 : Pos} {vs : List Nat} (i j l : Nat) (hc : X.calm = true) (nd : X.N.Nodup) (hmi : i ∈ vs := by decide) (hmj : j ∈ vs := by decide) (hml : l ∈ vs := by decide) (hi : X.N[i]? = some n := by rfl) (hj : X.N[j]? = some m := by rfl) (hl : X.N[l]? = some o := by rfl) (hx : Loc X.env.scope n := by first | exact Or.inl rfl | exact Or.inr rfl) (hy : Loc X.env.scope m := by first | exact Or.inl rfl | exact Or.inr rfl) (hz : Loc X.env.scope o := by first | exact Or.inl rfl | exact Or.inr rfl)
    (hf : X.fn n = true ∨ X.env.scope.names.lookup n = some .local := by first | exact .inl rfl | exact .inr rfl | assumption) (hf2 : X.fn m = true ∨ X.env.scope.names.lookup m = some .local := by first | exact .inl rfl | exact .inr rfl | assumption) (hf3 : X.fn o = true ∨ X.env.scope.names.lookup o = some .local := by first | exact .inl rfl | exact .inr rfl | assumption) :
    PG X (.Tuple [.Name n p1, .Name m p2, .Name o p3] k pos) (tLg (vQ F G J) H1 Γ (((Γ.set i (im F x.1)).set j (im G x.2.1)).set l (im J x.2.2)) vs x) :=
  (pg_tup hc (pgs_cons (pg_name nd hi hx hf) (pgs_cons (pg_name nd hj hy hf2) (pgs_cons (pg_name nd hl hz hf3) pgs_nil)))).wk fun v σ H Q ⟨g, ⟨p, v1, v2, v3, h1, h2, h3, h4, h5⟩, q⟩ =>
    ⟨p, _, h1, SqT.of h2, rfl, v1, _, rfl, v2, _, rfl, v3, _, rfl, rfl, q _ (((g.set_im h3).set_im h4).set_im h5) (by rw [wipe_in _ _ _ _ hml, wipe_in _ _ _ _ hmj, wipe_in _ _ _ _ hmi])⟩
theorem lt_nil : PTs X [] (tT H0 Γ true) := pts_nil.wk fun σ H Q ⟨g, q⟩ => q H (Same.refl H)
theorem lt_one {c : Bool} (h : PT X e (tT H0 Γ c)) : PTs X [e] (tT H0 Γ c) := pts_one h
theorem filter_yes {xs : List α} : xs.filter (fun _ => true) = xs := by
  rw [List.filter_eq_self]
  intros
  rfl
/-- [elt for tg in iter] -/
theorem ex_lc0 [Imm G] {scope : Scope} {xs : List α} {f : α → β} (own : List (Str × Nat)) (Γb : α → List Slot) (hc : X.calm = true) (nd : X.N.Nodup) (hi : PI X tg iter (tWk F H0 Γ xs)) (hg : ∀ s H C cl fp H1 x, x ∈ xs → PG (Blk X scope s H C cl fp) tg (tLg F H1 (wipeG Γ (own.map (·.2))) (Γb x) (own.map (·.2)) x))
    (he : ∀ s H C cl fp H1 x, Same H0 H1 → x ∈ xs → PE (Blk X scope s H C cl fp) elt (tE false G H1 (Γb x) (f x))) (hl : xs.length ≤ 100000) (ok : BlkOk X.N X.env.scope scope own := by exact blkOk_by (by decide +kernel))
    (hs : ∀ x, foldedSetIterable iter X.env x = pure x := by intro _; rfl) : PE X (.ListComp elt [⟨tg, iter, [], 0⟩] scope pos) (tE true (vL G) H0 Γ (xs.map f)) := by
  have h := ex_lc (p := fun _ => true) (pos := pos) Γb hc nd hi ok (fun s H C cl fp H1 x hm => hg s H C cl fp H1 x hm) (fun s H C cl fp H1 x _ _ => lt_nil) (fun s H C cl fp H1 x h1 hm _ => he s H C cl fp H1 x h1 hm) hl hs
  rw [filter_yes] at h
  exact h
theorem ex_lc1 [Imm G] {scope : Scope} {xs : List α} {f : α → β} {p : α → Bool} {c : Expr} (own : List (Str × Nat)) (Γb : α → List Slot) (hc : X.calm = true) (nd : X.N.Nodup) (hi : PI X tg iter (tWk F H0 Γ xs)) (hg : ∀ s H C cl fp H1 x, x ∈ xs → PG (Blk X scope s H C cl fp) tg (tLg F H1 (wipeG Γ (own.map (·.2))) (Γb x) (own.map (·.2)) x))
    (ht : ∀ s H C cl fp H1 x, Same H0 H1 → x ∈ xs → PT (Blk X scope s H C cl fp) c (tT H1 (Γb x) (p x)))
    (he : ∀ s H C cl fp H1 x, Same H0 H1 → x ∈ xs → p x = true → PE (Blk X scope s H C cl fp) elt (tE false G H1 (Γb x) (f x))) (hl : xs.length ≤ 100000) (ok : BlkOk X.N X.env.scope scope own := by exact blkOk_by (by decide +kernel))
    (hs : ∀ x, foldedSetIterable iter X.env x = pure x := by intro _; rfl) : PE X (.ListComp elt [⟨tg, iter, [c], 0⟩] scope pos) (tE true (vL G) H0 Γ ((xs.filter p).map f)) :=
  ex_lc Γb hc nd hi ok (fun s H C cl fp H1 x hm => hg s H C cl fp H1 x hm) (fun s H C cl fp H1 x h1 hm => lt_one (ht s H C cl fp H1 x h1 hm)) he hl hs
/-- name = [elt for tg in iter], the name a local -/
theorem ss_lc0 [Imm G] {n : Str} {p2 : Pos} {scope : Scope} {xs : List α} {f : α → β} (i : Nat) (own : List (Str × Nat)) (Γb : α → List Slot) (hc : X.calm = true) (nd : X.N.Nodup) (hi : PI X tg iter (tWk F H0 Γ xs)) (hg : ∀ s H C cl fp H1 x, x ∈ xs → PG (Blk X scope s H C cl fp) tg (tLg F H1 (wipeG Γ (own.map (·.2))) (Γb x) (own.map (·.2)) x))
    (he : ∀ s H C cl fp H1 x, Same H0 H1 → x ∈ xs → PE (Blk X scope s H C cl fp) elt (tE false G H1 (Γb x) (f x))) (hl : xs.length ≤ 100000) (hr : PSs X rest (tS H0 (Γ.set i (ow (cL G) (xs.map f))) R N)) (ok : BlkOk X.N X.env.scope scope own := by exact blkOk_by (by decide +kernel))
    (hy : X.N[i]? = some n := by rfl) (hyl : X.env.scope.names.lookup n = some .local := by rfl) (hsw : swapsWith (.ListComp elt [⟨tg, iter, [], 0⟩] scope p2) (some (.Name n p')) pos.line X.env = pure true := by exact sw_true rfl rfl rfl (by decide +kernel))
    (hs : ∀ x, foldedSetIterable iter X.env x = pure x := by intro _; rfl) : PSs X (.Assign [.Name n p'] (.ListComp elt [⟨tg, iter, [], 0⟩] scope p2) pos :: rest) (tS H0 Γ R N) :=
  ss_lc (p := fun _ => true) i Γb hc nd hi ok (fun s H C cl fp H1 x hm => hg s H C cl fp H1 x hm) (fun s H C cl fp H1 x _ _ => lt_nil) (fun s H C cl fp H1 x h1 hm _ => he s H C cl fp H1 x h1 hm) hl (by rw [filter_yes]; exact hr) hy hyl hsw hs
theorem ss_lc1 [Imm G] {n : Str} {p2 : Pos} {scope : Scope} {xs : List α} {f : α → β} {p : α → Bool} {c : Expr} (i : Nat) (own : List (Str × Nat)) (Γb : α → List Slot) (hc : X.calm = true) (nd : X.N.Nodup) (hi : PI X tg iter (tWk F H0 Γ xs)) (hg : ∀ s H C cl fp H1 x, x ∈ xs → PG (Blk X scope s H C cl fp) tg (tLg F H1 (wipeG Γ (own.map (·.2))) (Γb x) (own.map (·.2)) x))
    (ht : ∀ s H C cl fp H1 x, Same H0 H1 → x ∈ xs → PT (Blk X scope s H C cl fp) c (tT H1 (Γb x) (p x)))
    (he : ∀ s H C cl fp H1 x, Same H0 H1 → x ∈ xs → p x = true → PE (Blk X scope s H C cl fp) elt (tE false G H1 (Γb x) (f x))) (hl : xs.length ≤ 100000) (hr : PSs X rest (tS H0 (Γ.set i (ow (cL G) ((xs.filter p).map f))) R N)) (ok : BlkOk X.N X.env.scope scope own := by exact blkOk_by (by decide +kernel))
    (hy : X.N[i]? = some n := by rfl) (hyl : X.env.scope.names.lookup n = some .local := by rfl) (hsw : swapsWith (.ListComp elt [⟨tg, iter, [c], 0⟩] scope p2) (some (.Name n p')) pos.line X.env = pure true := by exact sw_true rfl rfl rfl (by decide +kernel))
    (hs : ∀ x, foldedSetIterable iter X.env x = pure x := by intro _; rfl) : PSs X (.Assign [.Name n p'] (.ListComp elt [⟨tg, iter, [c], 0⟩] scope p2) pos :: rest) (tS H0 Γ R N) :=
  ss_lc i Γb hc nd hi ok (fun s H C cl fp H1 x hm => hg s H C cl fp H1 x hm) (fun s H C cl fp H1 x h1 hm => lt_one (ht s H C cl fp H1 x h1 hm)) he hl hr hy hyl hsw hs
end
end Gm
set_option Elab.async false
set_option linter.all false
set_option maxRecDepth 100000
set_option maxHeartbeats 4000000
namespace Gm
open PySem PySem.Spec PyProof.Rows L2
section
variable {X : Cx} {e a b c tg l iter elt : Expr} {es : List Expr} {rest body orelse : List Stmt} {pos p' : Pos} {H0 H1 : Hp} {Γ Γ' : List Slot} {fr f1 f2 f3 : Bool} {R : V → Hp → Prop} {N : HSt → Hp → Prop}
variable {α β γ ι ρ : Type} {F : Rep α} {G : Rep β} {J : Rep γ} {x : α} {y : β} {z : γ}
theorem ss_while {ι : Type} {d : ι → Bool} (Γi : ι → List Slot) (Pi : ι → Prop) (μ : ι → Nat) (i0 : ι) (hp : PassesOwn (model X.prog X.w) X.A X.env X.xe) (h0 : Sub Γ (Γi i0)) (p0 : Pi i0) (hc : ∀ i, Pi i → PT X c (tT H0 (Γi i) (d i)))
    (hb : ∀ i, Pi i → d i = true → PSs X body (tS H0 (Γi i) R (fun σ H => ∃ j, Pi j ∧ μ j < μ i ∧ En H0 (Γi j) σ H))) (hr : ∀ i, Pi i → d i = false → PSs X rest (tS H0 (Γi i) R N)) : PSs X (.While c body [] pos :: rest) (tS H0 Γ R N) := by
  refine (pss_cons (ps_while hp (PT.ex (p := Pi) (t := fun i => tT H0 (Γi i) (d i)) hc) (PSs.ex (p := fun i => Pi i ∧ d i = true) (t := fun i => tS H0 (Γi i) R (fun σ H => ∃ j, Pi j ∧ μ j < μ i ∧ En H0 (Γi j) σ H)) fun i h => hb i h.1 h.2)) (PSs.ex (p := fun i => Pi i ∧ d i = false) (t := fun i => tS H0 (Γi i) R N) fun i h => hr i h.1 h.2)).wk fun D σ H ⟨g, q1, q2⟩ => ?_
  refine ⟨fun m σ' H' => ∃ i, Pi i ∧ m = μ i ∧ En H0 (Γi i) σ' H', ⟨_, i0, p0, rfl, g.sub h0⟩, fun m σ' H' hw => ?_⟩
  obtain ⟨i, pi, rfl, g'⟩ := hw
  refine ⟨i, pi, g', fun H2 s => ?_⟩
  cases hd : d i with
  | true =>
    show if true = true then _ else _
    rw [if_pos rfl]
    exact ⟨fun σ2 H3 => ∃ j, Pi j ∧ μ j < μ i ∧ En H0 (Γi j) σ2 H3, fun σ2 H3 ⟨j, h1, h2, h3⟩ => ⟨μ j, h2, j, h1, rfl, h3⟩, i, ⟨pi, hd⟩, g'.mono s, q1, fun σ3 H3 g3 => g3⟩
  | false =>
    show if false = true then _ else _
    rw [if_neg (by decide)]
    exact ⟨i, ⟨pi, hd⟩, g'.mono s, q1, q2⟩
theorem ss_exp (he : PE X e (tE fr F H0 Γ x)) (hr : PSs X rest (tS H0 Γ R N)) (hs : swapsWith e none pos.line X.env = pure false := by rfl) : PSs X (.Expr e pos :: rest) (tS H0 Γ R N) :=
  ss_go (ps_expr he hs) hr fun D σ H g _ q => ⟨g, fun v H2 s _ _ => q _ _ (g.mono s)⟩
theorem ss_aug {i j : Int} {n : Str} (k : Nat) (nd : X.N.Nodup) (he : PE X e (tE fr vI H0 Γ j)) (hr : PSs X rest (tS H0 (Γ.set k (im vI (i + j))) R N)) (h : Γ[k]? = some (im vI i) := by rfl) (hi : X.N[k]? = some n := by rfl) (hx : Loc X.env.scope n := by first | exact Or.inl rfl | exact Or.inr rfl)
    (hf : X.fn n = true ∨ X.env.scope.names.lookup n = some .local := by first | exact .inl rfl | exact .inr rfl | assumption) : PSs X (.AugAssign (.Name n p') .Add e pos :: rest) (tS H0 Γ R N) :=
  ss_go (ps_aug nd hi hx he ip_add hf) hr fun D σ H g _ q => by
    obtain ⟨v, h1, h2⟩ := g.im h
    exact ⟨v, h1, g, fun u H2 s r _ => ⟨i, j, h2, r, q _ _ ((g.mono s).set_im (P := vI.r (i + j)) rfl)⟩⟩
theorem ss_retO' {C : Con α} [ImmC C] {x' : α} {He : Hp} {n : Str} {p2 : Pos} (i : Nat) (h : Γ[i]? = some (ow C x')) (q : x' = x) (s : Same He H0) (hN : X.N[i]? = some n := by rfl) (hv : Vis X.env.scope n := by first | exact Or.inl rfl | exact Or.inr (Or.inl rfl))
    (hd : (n == ("__debug__" : Str)) = false := by decide) (hcd : (n == ("__classdict__" : Str)) = false := by decide) : PSs X (.Return (some (.Name n p2)) pos :: rest) (tS H0 Γ (Rt true (vC C) He x) N) := by
  rw [← q]
  exact ss_retO i h s hN hv hd hcd
/-- a, b = [], y -/
theorem ss_paro0 {C : Con α} [ImmC C] [Imm G] {n m : Str} {px py pt : Pos} {kt k2 : Nat} {pt2 : Pos} (i j : Nat) (hc : X.calm = true) (nd : X.N.Nodup) (ha : PE X a (tE true (vC C) H0 Γ x)) (hb : PE X b (tE f2 G H0 Γ y)) (hr : PSs X rest (tS H0 ((Γ.set i (ow C x)).set j (im G y)) R N)) (hi : X.N[i]? = some n := by rfl) (hj : X.N[j]? = some m := by rfl) (hij : i ≠ j := by decide)
    (hx : X.env.scope.names.lookup n = some .local := by rfl) (hy : X.env.scope.names.lookup m = some .local := by rfl) (hw : swappedStores [.Tuple [.Name n px, .Name m py] kt pt] (.Tuple [a, b] k2 pt2) X.env = pure (some [n, m]) := by rfl)
    (hs : swapsWithSole [.Tuple [.Name n px, .Name m py] kt pt] (.Tuple [a, b] k2 pt2) pos.line X.env = pure false := by rfl) (he : starEach [a, b] X.env = (false, eval a X.env) :: starEach [b] X.env := by rfl) (he2 : starEach [b] X.env = (false, eval b X.env) :: starEach [] X.env := by rfl) :
    PSs X (.Assign [.Tuple [.Name n px, .Name m py] kt pt] (.Tuple [a, b] k2 pt2) pos :: rest) (tS H0 Γ R N) :=
  ss_go (ps_par hc nd hi hj hij hx hy (pa_cons ha (pa_cons hb pa_nil he2) he) hw hs) hr fun D σ H g _ q => ⟨g, fun v H1 e1 r1 fz => ⟨g.mono e1, fun w H2 e2 r2 _ => by
    obtain ⟨p, o, h1, h2, h3⟩ := (vC C).mono e2 r1
    obtain ⟨p1, k1, k2⟩ := fz rfl
    rw [h1] at k1
    cases k1
    exact ⟨v, w, rfl, by rw [h1]; exact q _ _ ((g.set_ow (e1.trans e2) k2 h2 h3).set_im r2)⟩⟩⟩
/-- a, b = x, [] -/
theorem ss_paro1 {C : Con β} [ImmC C] [Imm F] {n m : Str} {px py pt : Pos} {kt k2 : Nat} {pt2 : Pos} (i j : Nat) (hc : X.calm = true) (nd : X.N.Nodup) (ha : PE X a (tE f1 F H0 Γ x)) (hb : PE X b (tE true (vC C) H0 Γ y)) (hr : PSs X rest (tS H0 ((Γ.set i (im F x)).set j (ow C y)) R N)) (hi : X.N[i]? = some n := by rfl) (hj : X.N[j]? = some m := by rfl) (hij : i ≠ j := by decide)
    (hx : X.env.scope.names.lookup n = some .local := by rfl) (hy : X.env.scope.names.lookup m = some .local := by rfl) (hw : swappedStores [.Tuple [.Name n px, .Name m py] kt pt] (.Tuple [a, b] k2 pt2) X.env = pure (some [n, m]) := by rfl)
    (hs : swapsWithSole [.Tuple [.Name n px, .Name m py] kt pt] (.Tuple [a, b] k2 pt2) pos.line X.env = pure false := by rfl) (he : starEach [a, b] X.env = (false, eval a X.env) :: starEach [b] X.env := by rfl) (he2 : starEach [b] X.env = (false, eval b X.env) :: starEach [] X.env := by rfl) :
    PSs X (.Assign [.Tuple [.Name n px, .Name m py] kt pt] (.Tuple [a, b] k2 pt2) pos :: rest) (tS H0 Γ R N) :=
  ss_go (ps_par hc nd hi hj hij hx hy (pa_cons ha (pa_cons hb pa_nil he2) he) hw hs) hr fun D σ H g _ q => ⟨g, fun v H1 e1 r1 _ => ⟨g.mono e1, fun w H2 e2 r2 fz => by
    obtain ⟨p, o, h1, h2, h3⟩ := r2
    obtain ⟨p1, k1, k2⟩ := fz rfl
    rw [h1] at k1
    cases k1
    exact ⟨v, w, rfl, by rw [h1]; exact q _ _ (((g.mono e1).set_im r1).set_ow e2 k2 h2 h3)⟩⟩⟩
/-- a, b, c = [], y, z -/
theorem ss_par3o0 {C : Con α} [ImmC C] [Imm G] [Imm J] {n m o : Str} {c : Expr} {px py pz pt : Pos} {kt k2 : Nat} {pt2 : Pos} (i j l : Nat) (hc : X.calm = true) (nd : X.N.Nodup) (ha : PE X a (tE true (vC C) H0 Γ x)) (hb : PE X b (tE f2 G H0 Γ y)) (hcc : PE X c (tE f3 J H0 Γ z)) (hr : PSs X rest (tS H0 (((Γ.set i (ow C x)).set j (im G y)).set l (im J z)) R N))
    (hi : X.N[i]? = some n := by rfl) (hj : X.N[j]? = some m := by rfl) (hl : X.N[l]? = some o := by rfl) (hij : i ≠ j := by decide) (hil : i ≠ l := by decide) (hjl : j ≠ l := by decide)
    (hx : X.env.scope.names.lookup n = some .local := by rfl) (hy : X.env.scope.names.lookup m = some .local := by rfl) (hz : X.env.scope.names.lookup o = some .local := by rfl) (hw : swappedStores [.Tuple [.Name n px, .Name m py, .Name o pz] kt pt] (.Tuple [a, b, c] k2 pt2) X.env = pure (some [n, m, o]) := by rfl)
    (hs : swapsWithSole [.Tuple [.Name n px, .Name m py, .Name o pz] kt pt] (.Tuple [a, b, c] k2 pt2) pos.line X.env = pure false := by rfl) (he : starEach [a, b, c] X.env = (false, eval a X.env) :: starEach [b, c] X.env := by rfl) (he2 : starEach [b, c] X.env = (false, eval b X.env) :: starEach [c] X.env := by rfl) (he3 : starEach [c] X.env = (false, eval c X.env) :: starEach [] X.env := by rfl) :
    PSs X (.Assign [.Tuple [.Name n px, .Name m py, .Name o pz] kt pt] (.Tuple [a, b, c] k2 pt2) pos :: rest) (tS H0 Γ R N) :=
  ss_go (ps_par3 hc nd hi hj hl hij hil hjl hx hy hz (pa_cons ha (pa_cons hb (pa_cons hcc pa_nil he3) he2) he) hw hs) hr fun D σ H g _ q => ⟨g, fun v H1 e1 r1 fz => ⟨g.mono e1, fun w H2 e2 r2 _ => ⟨g.mono (e1.trans e2), fun u H3 e3 r3 _ => by
    obtain ⟨p, o, h1, h2, h3⟩ := (vC C).mono (e2.trans e3) r1
    obtain ⟨p1, k1, k2⟩ := fz rfl
    rw [h1] at k1
    cases k1
    exact ⟨v, w, u, rfl, by rw [h1]; exact q _ _ (((g.set_ow ((e1.trans e2).trans e3) k2 h2 h3).set_im (G.mono e3 r2)).set_im r3)⟩⟩⟩⟩
/-- a, b, c = x, y, [] -/
theorem ss_par3o2 {C : Con γ} [ImmC C] [Imm F] [Imm G] {n m o : Str} {c : Expr} {px py pz pt : Pos} {kt k2 : Nat} {pt2 : Pos} (i j l : Nat) (hc : X.calm = true) (nd : X.N.Nodup) (ha : PE X a (tE f1 F H0 Γ x)) (hb : PE X b (tE f2 G H0 Γ y)) (hcc : PE X c (tE true (vC C) H0 Γ z)) (hr : PSs X rest (tS H0 (((Γ.set i (im F x)).set j (im G y)).set l (ow C z)) R N))
    (hi : X.N[i]? = some n := by rfl) (hj : X.N[j]? = some m := by rfl) (hl : X.N[l]? = some o := by rfl) (hij : i ≠ j := by decide) (hil : i ≠ l := by decide) (hjl : j ≠ l := by decide)
    (hx : X.env.scope.names.lookup n = some .local := by rfl) (hy : X.env.scope.names.lookup m = some .local := by rfl) (hz : X.env.scope.names.lookup o = some .local := by rfl) (hw : swappedStores [.Tuple [.Name n px, .Name m py, .Name o pz] kt pt] (.Tuple [a, b, c] k2 pt2) X.env = pure (some [n, m, o]) := by rfl)
    (hs : swapsWithSole [.Tuple [.Name n px, .Name m py, .Name o pz] kt pt] (.Tuple [a, b, c] k2 pt2) pos.line X.env = pure false := by rfl) (he : starEach [a, b, c] X.env = (false, eval a X.env) :: starEach [b, c] X.env := by rfl) (he2 : starEach [b, c] X.env = (false, eval b X.env) :: starEach [c] X.env := by rfl) (he3 : starEach [c] X.env = (false, eval c X.env) :: starEach [] X.env := by rfl) :
    PSs X (.Assign [.Tuple [.Name n px, .Name m py, .Name o pz] kt pt] (.Tuple [a, b, c] k2 pt2) pos :: rest) (tS H0 Γ R N) :=
  ss_go (ps_par3 hc nd hi hj hl hij hil hjl hx hy hz (pa_cons ha (pa_cons hb (pa_cons hcc pa_nil he3) he2) he) hw hs) hr fun D σ H g _ q => ⟨g, fun v H1 e1 r1 _ => ⟨g.mono e1, fun w H2 e2 r2 _ => ⟨g.mono (e1.trans e2), fun u H3 e3 r3 fz => by
    obtain ⟨p, o, h1, h2, h3⟩ := r3
    obtain ⟨p1, k1, k2⟩ := fz rfl
    rw [h1] at k1
    cases k1
    exact ⟨v, w, u, rfl, by rw [h1]; exact q _ _ ((((g.mono (e1.trans e2)).set_im (F.mono e2 r1)).set_im r2).set_ow e3 k2 h2 h3)⟩⟩⟩⟩
theorem wk_range3 {lo hi st : Int} {n : Nat} {d : Expr} {p : Pos} (hm : X.mg "range" = none) (ha : PE X a (tE f1 vI H0 Γ lo)) (hb : PE X b (tE f2 vI H0 Γ hi)) (hc : PE X d (tE f3 vI H0 Γ st)) (hn : RgC lo hi st n) (hg : Gl X "range" := by rfl) (hs : starEach [a, b, d] X.env = (false, eval a X.env) :: starEach [b, d] X.env := by rfl) (hs2 : starEach [b, d] X.env = (false, eval b X.env) :: starEach [d] X.env := by rfl) (hs3 : starEach [d] X.env = (false, eval d X.env) :: starEach [] X.env := by rfl) (hpl : (backTo pos (starEach [b, d] X.env)).any (·.1) = false := by rfl) :
    PI X tg (.Call (.Name "range" p) [a, b, d] [] pos) (tWk vI H0 Γ ((List.range n).map fun (i : Nat) => lo + (i : Int) * st)) :=
  (pi_range3 hg hm (pa_cons ha (pa_cons hb (pa_cons hc pa_nil hs3) hs2) hs) hs hpl).wk fun σ H R ⟨g, q⟩ => ⟨g, fun v H1 s r _ => ⟨g.mono s, fun w H2 s2 r2 _ => ⟨g.mono (s.trans s2), fun u H3 s3 r3 _ => ⟨lo, hi, st, n, by rw [show v = V.int lo from r, show w = V.int hi from r2, show u = V.int st from r3], hn,
    q (Itc lo st n) H3 (fun _ => True) (YFn fun i => .int (lo + (i : Nat) * st)) ((s.trans s2).trans s3) (by simp only [List.length_map, List.length_range]; exact walk_rangeC) (fun _ _ => trivial) fun i Ha v Hb hi2 _ y => by
      obtain ⟨e, y⟩ := y
      subst e
      simp only [List.length_map, List.length_range] at hi2
      exact ⟨Same.refl _, lo + (i : Nat) * st, by rw [List.getElem?_map, List.getElem?_range hi2] <;> rfl, y⟩⟩⟩⟩⟩
end
end Gm
set_option Elab.async false
set_option linter.all false
set_option maxRecDepth 100000
set_option maxHeartbeats 4000000
/-! enumerate(a tuple), walked -/
namespace Gm
open PySem PySem.Spec PyProof.Rows L2
open Sem (wp)
theorem meets_enum_tup (l : Addr) (xs : Array Value) :
    Meets (Builtin.«enumerate.__new__» ⟨[.type "enumerate", .ref l], []⟩) (fun _ R s => s.heap.IsTuple l xs ∧
      R (.ok (.ret (.ref (s.heap.push { cls := .type "tuple_iterator", data := .fields #[.ref l, .int 0 0] }).objs.size)))
        { s with heap := (s.heap.push { cls := .type "tuple_iterator", data := .fields #[.ref l, .int 0 0] }).push { cls := .type "enumerate", data := .fields #[.none, .bool false, .ref s.heap.objs.size, rawInt 0, .none, .none] } }) :=
  .of_wp fun prog w A R s h => by
    obtain ⟨hp, g, d, tk, os⟩ := s; obtain ⟨hl, h⟩ := h
    have hsub := sub_enumerate
    have hL : Heap.IsTuple (Shared.heap ⟨hp, g, d, tk, os⟩) l xs := hl
    wp_walk using wpAny_pyIter_tuple hL
    refine wpAny_stack_any fun st => wpAny_pure ?_
    split
    · rename_i c _ _ _ _ _
      cases (c == Value.type "enumerate")
      · wp_walk using wpAny_pyIter_tuple hL
        exact ⟨_, rfl, h⟩
      · wp_walk using wpAny_pyIter_tuple hL
        exact ⟨_, rfl, h⟩
    · wp_walk using wpAny_pyIter_tuple hL
      exact ⟨_, rfl, h⟩
section
variable {prog : Program} {w : World} {A : Around} {E : Value → Shared → Prop} {s : Shared}
theorem call_enum_tup {l : Addr} {items : Array Value} {Q : Value → Shared → Prop} (hL : s.heap.IsTuple l items)
    (h : ∀ h', IsEnum h' (s.heap.objs.size + 1) s.heap.objs.size 0 .none → h'.IsTupleIter s.heap.objs.size l 0 → h'.objs.size = s.heap.objs.size + 2 →
      (∀ b o, s.heap.get? b = some o → h'.get? b = some o) → Q (.ref (s.heap.objs.size + 1)) { s with heap := h' }) :
    wpAny (model prog w) A (call (.type "enumerate") [.ref l]) Q E s := by
  refine callType_new F.called_enumerate (by decide) (F.typeCall_enumerate_1 _) (F.newCall_enumerate_1 _) (fun obj => F.args_object_init_2 obj _) F.entry_enumerate_new
    (meets_enum_tup l items) ⟨hL, ?_⟩
  have hz : (s.heap.push { cls := .type "tuple_iterator", data := .fields #[.ref l, .int 0 0] }).objs.size = s.heap.objs.size + 1 := Heap.size_push ..
  show _ ∧ _
  rw [hz]
  have he : IsEnum ((s.heap.push { cls := .type "tuple_iterator", data := .fields #[.ref l, .int 0 0] }).push
      { cls := .type "enumerate", data := .fields #[.none, .bool false, .ref s.heap.objs.size, rawInt 0, .none, .none] }) (s.heap.objs.size + 1) s.heap.objs.size 0 .none := by
    have := Heap.get?_push_size (s.heap.push { cls := .type "tuple_iterator", data := .fields #[.ref l, .int 0 0] })
      (o := { cls := .type "enumerate", data := .fields #[.none, .bool false, .ref s.heap.objs.size, rawInt 0, .none, .none] }) rfl
    rw [hz] at this; exact this
  exact ⟨⟨_, he, rfl⟩, h _ he ⟨_, Heap.get?_push_of_some _ (Heap.get?_push_size _ rfl), rfl, rfl⟩ (by rw [Heap.size_push, hz]) fun b o x => Heap.get?_push_of_some _ (Heap.get?_push_of_some _ x)⟩
end
def IteT (K : PySem.W.Frag) (a : Addr) : It :=
  ⟨fun i H => ∃ xs x, SqT K H a xs ∧ xs[i]? = some x, fun i H v H' => ∃ T x, v = .ref T ∧ H T = none ∧ H' = upd H T (.tup [.int (i : Nat), x]) ∧ ∀ xs, SqT K H a xs → xs[i]? = some x, fun i H => ∃ xs, SqT K H a xs ∧ xs.length = i⟩
theorem turn_enumT {P : Program} {w : World} {K : PySem.W.Frag} {elts : List Expr} {kk : Nat} {tpos : Pos} (a e it : Addr) (hai : a ≠ it) (hae : a ≠ e) :
    Turn P w K (.Tuple elts kk tpos) (IteT K a) [e, it] e (fun i h => (∃ old, IsEnum h e it ((i : Nat) : Int) old) ∧ h.IsTupleIter it a i ∧ e ≠ it) where
  mem := by simp
  obj := fun i h st b hb => by
    obtain ⟨⟨old, he⟩, ⟨o, ho, hc, hd⟩, _⟩ := st
    have e' : b = e ∨ b = it := by simpa using hb
    rcases e' with z | z
    · rw [z]; exact ⟨_, he, fun v q => nomatch q⟩
    · rw [z]; exact ⟨o, ho, fun v q => by rw [hd] at q; cases q⟩
  keep := fun i h h' st k => let ⟨⟨old, he⟩, hi, hne⟩ := st; ⟨⟨old, k e (by simp) _ he⟩, hi.at fun o q => k it (by simp) o q, hne⟩
  item := by
    intro X hP hw hK hc i pins s σ H E I hf st hg
    subst hP hw hK
    obtain ⟨⟨old, he⟩, hit, hne⟩ := st
    obtain ⟨xs, x, hq, hx⟩ := hg
    obtain ⟨its, rv, p, hz⟩ := I.tuple hq
    have hel : e < s.heap.objs.size := Heap.lt_size he
    have hil : it < s.heap.objs.size := by obtain ⟨_, q, _⟩ := hit; exact Heap.lt_size q
    have hi : i < its.toArray.size := by
      have h1 := (List.getElem?_eq_some_iff.mp hx).1
      have h2 := rv.length
      simp only [List.size_toArray]
      omega
    have ef : e ∉ [it, a] := fun hm => by
      rcases List.mem_cons.mp hm with z | z
      · exact hne z
      · exact hae (List.mem_singleton.mp z).symm
    refine wpAny_pyNext_enum_itemD (Draws.tuple (A := X.A.in1) (I.ok.hd hc) it a hai its.toArray) he ⟨hit, p⟩ hi hne ef fun u h' tk hu ho hst hT hsz hk => ?_
    obtain ⟨hit', _⟩ := hst
    have ru : RelV x u := by
      obtain ⟨u2, h1, h2⟩ := rv.get hx
      have h3 : its.toArray[i]? = some u := hu
      rw [show its.toArray[i]? = its[i]? by simp, h1] at h3
      cases h3
      exact h2
    refine ⟨_, rfl, wpAny_letOwnedTupleGo_enum (s := { s with heap := h', toks := tk + 1 }) ho fun h'' he' sb => ?_⟩
    have hT2 : h''.get? s.heap.objs.size = some { cls := .type "tuple", data := .seq #[.int i tk, u] } := (sb.2 _ (Nat.ne_of_gt hel)).trans hT
    have new : ObjOk X.prog X.w (upd H s.heap.objs.size (.tup [.int (i : Nat), x])) h'' s.heap.objs.size (.tup [.int (i : Nat), x]) :=
      ⟨two_le, [.int i tk, u], .cons ⟨_, rfl⟩ (.cons ru .nil), ⟨_, hT2, rfl, _, rfl⟩⟩
    have I1 : Inv X pins σ (upd H s.heap.objs.size (.tup [.int (i : Nat), x])) { s with heap := h'', toks := tk + 1 } :=
      I.turnedNew (ch := [e, it]) (fun b ob hb q => (sb.2 b (fun z => hb (by simp [z]))).trans (hk b ob (fun z => hb (by simp [z])) (fun z => hb (by simp [z])) q)) hf (Nat.le_refl _) new
    refine ⟨.ref s.heap.objs.size, _, I1, rfl, ⟨_, x, rfl, I.hok.fresh (Nat.le_refl _), rfl, fun ys hy => by rw [I.tuple_inj hy hq]; exact hx⟩, ⟨⟨u, ?_⟩, hit'.at fun o q => (sb.2 it (Ne.symm hne)).trans q, hne⟩, fun b hb => ?_⟩
    · have e1 : ((i + 1 : Nat) : Int) = (i : Int) + 1 := by omega
      rw [e1]; exact he'
    · have hb' : b < s.heap.objs.size := by
        have e' : b = e ∨ b = it := by simpa using hb
        rcases e' with z | z
        · rw [z]; exact hel
        · rw [z]; exact hil
      rw [upd_ne (Nat.ne_of_lt hb')]
      exact (hf b hb).1
  done := by
    intro X hP hw hK hc i pins s σ H E I hf st hg
    subst hP hw hK
    obtain ⟨⟨old, he⟩, hit, hne⟩ := st
    obtain ⟨xs, hq, hx⟩ := hg
    obtain ⟨its, rv, p, hz⟩ := I.tuple hq
    have hl := rv.length
    have hn : i = its.toArray.size := by simp only [List.size_toArray]; omega
    obtain ⟨f0, f1, f2, f3, f4, f5⟩ := hf it (by simp)
    refine wpAny_pyNext_enum_endD (Draws.tuple (A := X.A.in1) (I.ok.hd hc) it a hai its.toArray) he ⟨by rw [← hn]; exact hit, p⟩ fun h' eb => ⟨rfl, I.turned (t' := s.toks) (fun b o hb q => eb b o hb q) f0 f1 f3 f4 f5⟩
  self := fun A i s Q E st h => let ⟨⟨_, he⟩, _⟩ := st; wpAny_pyIter_enum he h
def iEnumT (K : PySem.W.Frag) (ta : TA) : TI := fun σ H R => ta σ H fun vs H1 => ∃ a xs, vs = [.ref a] ∧ SqT K H1 a xs ∧ R (IteT K a) H1
theorem pi_enumT {X : Cx} {e : Expr} {ta : TA} {p pos tpos : Pos} {elts : List Expr} {kk : Nat} (hg : Gl X "enumerate") (hm : X.mg "enumerate" = none) (ha : PA X [e] ta) (hs : starEach [e] X.env = [(false, eval e X.env)] := by rfl) :
    PI X (.Tuple elts kk tpos) (.Call (.Name "enumerate" p) [e] [] pos) (iEnumT X.K ta) := by
  refine ⟨fun pins s σ H R I h => ?_⟩
  refine Call_ (ld_blt I hg hm boot_enumerate (PyProof.Rows.callWith_type1 (thn (ha.run pos pins s σ H _ I h) fun us s1 ⟨vs, H1, I1, r1, q1⟩ => ?_) hs rfl))
  obtain ⟨a, xs, ex, hq, q⟩ := q1
  subst ex
  cases r1 with
  | cons r rr =>
    cases rr
    cases r
    obtain ⟨its, rv, p', hz⟩ := I1.tuple hq
    obtain ⟨oa, hoa, _⟩ := id p'
    have hlt : a < s1.heap.objs.size := Heap.lt_size hoa
    refine call_enum_tup p' fun h' he hit hsz hk => wpAny_pyIter_enum he ?_
    have I2 : Inv X pins σ H1 { s1 with heap := h' } := I1.kept (t' := s1.toks) hk
    refine ⟨s1.heap.objs.size + 1, [s1.heap.objs.size + 1, s1.heap.objs.size], _, _, H1, rfl, I2, turn_enumT a (s1.heap.objs.size + 1) s1.heap.objs.size (Nat.ne_of_lt hlt) (Nat.ne_of_lt (Nat.lt_succ_of_lt hlt)), ⟨⟨.none, he⟩, hit, Nat.succ_ne_self _⟩, fun b hb => ?_, q⟩
    have e' : b = s1.heap.objs.size + 1 ∨ b = s1.heap.objs.size := by simpa using hb
    have hle : s1.heap.objs.size ≤ b := by
      rcases e' with z | z
      · rw [z]; exact Nat.le_add_right _ _
      · rw [z]; exact Nat.le_refl _
    exact I1.fpOk hle (I1.hok.fresh hle)
theorem walk_enumT {K : PySem.W.Frag} {a : Addr} {xs : List V} : Walk (IteT K a) xs.length (fun H => SqT K H a xs) (YPair (fun i => some (.int (i : Nat))) (fun i => xs[i]?)) := by
  refine ⟨fun i _ hi q => ⟨xs, xs[i], q, by simp [hi]⟩, fun _ q => ⟨xs, q, rfl⟩, fun i H v H' _ q y => ?_⟩
  obtain ⟨T, x, h1, h2, h3, h4⟩ := y
  exact ⟨T, .int (i : Nat), x, h1, h2, h3, rfl, h4 xs q⟩
/-- (0, x), (1, y), .. -/
def enumI {α : Type} (xs : List α) : List (Int × α) := xs.zipIdx.map fun p => ((p.2 : Int), p.1)
theorem enumI_len {α : Type} (xs : List α) : (enumI xs).length = xs.length := by simp [enumI]
theorem enumI_get {α : Type} {xs : List α} {i : Nat} {x : α} (h : xs[i]? = some x) : (enumI xs)[i]? = some ((i : Int), x) := by
  unfold enumI
  rw [List.getElem?_map, List.getElem?_zipIdx, h]
  simp
section
variable {X : Cx} {e a b c tg l iter elt : Expr} {pos p' : Pos} {H0 H1 : Hp} {Γ Γ' : List Slot} {fr f1 f2 f3 : Bool}
variable {α β γ ι ρ : Type} {F : Rep α} {G : Rep β} {J : Rep γ} {x : α} {y : β} {z : γ}
theorem wk_enumT [Imm F] {xs : List α} {p tpos : Pos} {elts : List Expr} {kk : Nat} (hm : X.mg "enumerate" = none) (ha : PE X a (tE fr (vT F) H0 Γ xs)) (hg : Gl X "enumerate" := by rfl) (hs : starEach [a] X.env = [(false, eval a X.env)] := by rfl) : PI X (.Tuple elts kk tpos) (.Call (.Name "enumerate" p) [a] [] pos) (tWk (vP vI F) H0 Γ (enumI xs)) :=
  (pi_enumT hg hm (pa_cons ha pa_nil hs) hs).wk fun σ H R ⟨g, q⟩ => ⟨g, fun v H1 s ⟨p, vs, h1, h2, h3⟩ _ => ⟨p, vs, by rw [h1], SqT.of h2, by
    have t := (g.mono s).bare_tu
    have hl : vs.length = (enumI xs).length := by rw [enumI_len, h3.length]
    refine q (IteT X.K p) H1 (fun H => SqT X.K H p vs) _ s (by rw [← hl]; exact walk_enumT) (fun H' s' => SqT.of (s' _ _ (t _ _ h2))) fun i H2 v H3 hi s2 y => ?_
    obtain ⟨T, u1, u2, e1, e2, e3, e4, e5⟩ := y
    subst e1 e3
    cases e4
    obtain ⟨c, k1, k2⟩ := (h3.map fun _ _ q => Imm.tu t q).get' e5
    exact ⟨same_new e2, ((i : Int), c), enumI_get k1, T, _, _, rfl, upd_same, rfl, F.mono (same_new e2) (F.mono s2 k2)⟩⟩⟩
end
end Gm
set_option Elab.async false
set_option linter.all false
set_option maxRecDepth 100000
set_option maxHeartbeats 4000000
/-! t[::-1] of a tuple -/
namespace Gm
open PySem PySem.Spec PyProof.Rows L2 HT
section
variable {prog : Program} {w : World} {A : Around} {E : Value → Shared → Prop} {s : Shared}
theorem places_back (n : Nat) : Builtin.Slice.slicePlaces ((n : Int) - 1) (-1) (-1) = n := by
  unfold Builtin.Slice.slicePlaces
  rw [if_neg (by decide)]
  by_cases h : (n : Int) - 1 > -1
  · rw [if_pos h]
    have e : ((n : Int) - 1 - -1 - 1) / - -1 + 1 = (n : Int) := by
      rw [show (- -1 : Int) = 1 from rfl, Int.ediv_one]
      omega
    rw [e]
    omega
  · rw [if_neg h]
    omega
theorem applied_back {sl : Addr} {u : Tok} {n : Nat} {Q : Int × Int × Nat → Shared → Prop} (hs : s.heap.IsSliceOf sl .none .none (.int (-1) u)) (h : Q ((n : Int) - 1, -1, n) s) : wpAny (model prog w) A (Builtin.Slice.sliceApplied (.ref sl) (pure (n : Int))) Q E s := by
  obtain ⟨os, hos, hcs, hds⟩ := id hs
  unfold Builtin.Slice.sliceApplied Builtin.Slice.sliceFields
  refine wpAny_bind (wpAny_bind (wpAny_field hos hds (x := .none) rfl (wpAny_bind (wpAny_field hos hds (x := .none) rfl (wpAny_bind (wpAny_field hos hds (x := .int (-1) u) rfl (wpAny_pure ?_)))))))
  refine wpAny_bind (slicePart_int ?_)
  show wpAny _ _ (if ((-1 : Int) == 0) = true then _ else _) _ _ s
  rw [if_neg (by decide)]
  refine wpAny_bind (slicePart_none (wpAny_bind (slicePart_none (wpAny_bind (wpAny_pure ?_)))))
  show wpAny _ _ (pure ((n : Int) - 1, (-1 : Int), Builtin.Slice.slicePlaces ((n : Int) - 1) (-1) (-1))) _ _ s
  rw [places_back]
  exact wpAny_pure h
theorem pick_back (xs : Array Value) : ((List.range xs.size).filterMap fun (m : Nat) => xs[(((xs.size : Int) - 1) + (m : Int) * (-1)).toNat]?).toArray = xs.toList.reverse.toArray := by
  congr 1
  have e : (fun (m : Nat) => xs[(((xs.size : Int) - 1) + (m : Int) * (-1)).toNat]?) = fun m => xs[xs.size - 1 - m]? := by
    funext m
    have : (((xs.size : Int) - 1) + (m : Int) * (-1)).toNat = xs.size - 1 - m := by omega
    rw [this]
  rw [e]
  have h := PySem.W.krv_all xs
  have h2 := congrArg List.reverse h
  rw [← List.filterMap_reverse, ← PySem.W.krv_range, List.filterMap_map] at h2
  exact h2
theorem getItem_back {t sl : Addr} {items : Array Value} {u : Tok} {Q : Value → Shared → Prop} (ht : IsTup s.heap t items) (hs : s.heap.IsSliceOf sl .none .none (.int (-1) u))
    (h : Q (.ref s.heap.objs.size) { s with heap := s.heap.push { cls := .type "tuple", data := .seq items.toList.reverse.toArray } })
    (hsz : items.size ≤ sizeLine) : wpAny (model prog w) A (getItem (.ref t) (.ref sl)) Q E s := by
  have hfit : sizeOk (.seq items.toList.reverse.toArray) := by
    show items.toList.reverse.toArray.size ≤ sizeLine
    rw [List.size_toArray, List.length_reverse, Array.length_toList]
    exact hsz
  obtain ⟨os, hos, hcs, hds⟩ := id hs
  have hTs : s.TypeIs (.ref sl) "slice" := ⟨os, hos, hcs⟩
  unfold getItem
  try with_reducible refine wpAny_holding ?_
  first | refine wpAny_bind (wpAny_pure ?_) | skip
  refine wpAny_bind (wpAny_sequenceKey ht.typeIs (by decide) ?_)
  refine wpAny_bind (wpAny_callSpecial?_slot (name := Str.ofString "__getitem__") ht.typeIs PyProof.Rows.slot_tuple_getitem
    (wpAny_call_entry PyProof.Rows.slot_tuple_getitem ht.typeIs entry_tuple_getitem ?_ (args_tuple_getitem _ _)))
  show wpAny _ _ (Builtin.Tuple.tupleItemsOf (.ref t) >>= _) _ _ s
  refine wpAny_bind (tupleItemsOf_ ht ?_)
  refine wpAny_bind (wpAny_typeOf hTs ?_)
  rw [if_pos (by decide)]
  refine wpAny_bind (applied_back hs ?_)
  have hno : ¬ ((((items.size : Int) - 1) == 0 && (-1 : Int) == 1 && items.size == items.size) = true) := by
    intro q
    rw [Bool.and_eq_true, Bool.and_eq_true] at q
    exact absurd q.1.2 (by decide)
  show wpAny _ _ (if (((items.size : Int) - 1) == 0 && (-1 : Int) == 1 && items.size == items.size) = true then _ else _) _ _ s
  rw [if_neg hno, pick_back]
  first
    | exact wpAny_bind (m := Builtin.Tuple.tupleExact _) (wpAny_newObj_type (wpAny_pure ⟨_, rfl, wpAny_pure h⟩) hfit)
    | exact wpAny_bind (m := Builtin.Tuple.tupleExact _) (wpAny_newObj_type (wpAny_bind (wpAny_pure (wpAny_pure ⟨_, rfl, wpAny_pure h⟩))) hfit)
    | exact wpAny_bind (wpAny_bind (m := Builtin.Tuple.tupleExact _) (wpAny_newObj_type (wpAny_pure (wpAny_pure ⟨_, rfl, wpAny_pure h⟩)) hfit))
    | exact wpAny_bind (wpAny_bind (m := Builtin.Tuple.tupleExact _) (wpAny_newObj_type (wpAny_pure ⟨_, rfl, wpAny_pure h⟩) hfit))
end
section
variable {X : Cx} {e a : Expr} {pos : Pos} {H0 : Hp} {Γ : List Slot} {fr : Bool} {α : Type} {F : Rep α}
def tRevT (K : PySem.W.Frag) (te : TE) : TE := fun σ H Q => te σ H fun x H1 => ∃ a xs, x = .ref a ∧ SqT K H1 a xs ∧ ∀ p, H1 p = none → Q (.ref p) (upd H1 p (.tup xs.reverse))
theorem pe_revT {te : TE} {k : Nat} {p1 p2 p3 : Pos} (he : PE X e te) : PE X (.Subscript e (.Slice none none (some (.UnaryOp .USub (.Constant (.int 1) k p1) p2)) p3) pos) (tRevT X.K te) := by
  refine ⟨fun pins s σ H Q I h => ?_⟩
  refine Subscript_ (thn (he.run pins s σ H _ I h) fun v s1 ⟨x, H1, I1, r1, q1⟩ => ?_)
  obtain ⟨a, xs, ex, hx, q⟩ := q1
  subst ex
  cases r1
  have hst : PO X (some (.UnaryOp .USub (.Constant (.int 1) k p1) p2)) (tPart (tUn (L2.rU fun i => .int (-i)) (tC (.int 1)))) := po_some (pe_un un_neg pe_int)
  refine wpAny_Slice (thn (po_none.run pins s1 σ H1 (fun o H2 => o = none ∧ H2 = H1) I1 ⟨rfl, rfl⟩) fun vl s2 ⟨l, H2, I2, pl, el, e2⟩ => ?_)
  subst el e2
  refine thn (po_none.run pins s2 σ H2 (fun o H3 => o = none ∧ H3 = H2) I2 ⟨rfl, rfl⟩) fun vu s3 ⟨u, H3, I3, pu, eu, e3⟩ => ?_
  subst eu e3
  refine thn (hst.run pins s3 σ H3 (fun o H4 => o = some (-1) ∧ H4 = H3) I3 ⟨1, rfl, -1, rfl, rfl, rfl⟩) fun vs s4 ⟨o, H4, I4, ps, eo, e4⟩ => ?_
  subst eo e4
  cases pl
  cases pu
  cases ps with
  | int _ tk =>
    have I5 : Inv X pins σ H4 { s4 with heap := s4.heap.push { cls := .type "slice", data := .fields #[.none, .none, .int (-1) tk] } } := I4.kept (t' := s4.toks) fun b ob q => Heap.get?_push_of_some _ q
    obtain ⟨its, r, ht, hz⟩ := I5.tuple hx
    have hlen := r.length
    show wpAny (model X.prog X.w) X.A (subscriptTail e (.Slice none none (some (.UnaryOp .USub (.Constant (.int 1) k p1) p2)) p3) (.ref a) (.ref s4.heap.objs.size)) (EP X pins σ Q) X.xe { s4 with heap := s4.heap.push { cls := .type "slice", data := .fields #[.none, .none, .int (-1) tk] } }
    refine tail_any (ops := [.ref a, .ref s4.heap.objs.size]) ht.typeIs (PyProof.Rows.slot_tuple_getitem.lookup) ?_ (by with_unfolding_all rfl)
    refine getItem_back ht (Heap.IsSliceOf.new _ .none .none (.int (-1) tk)) ?_ (by rw [List.size_toArray]; omega)
    refine ⟨.ref _, _, I5.laid (t' := s4.toks) (o := .tup xs.reverse) (fun b ob q => Heap.get?_push_of_some _ q) (Nat.le_refl _) ?_, rfl, q _ (I5.hok.fresh (Nat.le_refl _))⟩
    exact ⟨by rw [List.length_reverse]; exact hz, _, r.reverse, _, Heap.get?_push_size _ rfl, rfl, 0, rfl⟩
theorem ex_revT {xs : List α} {k : Nat} {p1 p2 p3 : Pos} (ha : PE X a (tE fr (vT F) H0 Γ xs)) : PE X (.Subscript a (.Slice none none (some (.UnaryOp .USub (.Constant (.int 1) k p1) p2)) p3) pos) (tE false (vT F) H0 Γ xs.reverse) :=
  (pe_revT ha).wk fun σ H Q ⟨g, q⟩ => ⟨g, fun v H1 e1 ⟨p, vs, h1, h2, h3⟩ _ => ⟨p, vs, h1, SqT.of h2, fun r hr => q _ _ (e1.trans (same_new hr)) ⟨r, _, rfl, upd_same, al_new h3.rev hr⟩ fre0⟩⟩
end
end Gm
set_option Elab.async false
set_option linter.all false
set_option maxRecDepth 100000
set_option maxHeartbeats 4000000
namespace Gm
open PySem PySem.Spec PyProof.Rows L2
section
variable {X : Cx} {e a b c tg l iter elt : Expr} {es : List Expr} {rest body orelse : List Stmt} {pos p' : Pos} {H0 : Hp} {Γ Γ' : List Slot} {fr f1 f2 f3 : Bool} {R : V → Hp → Prop} {N : HSt → Hp → Prop}
variable {α β γ ι ρ : Type} {F : Rep α} {G : Rep β} {J : Rep γ} {x : α} {y : β} {z : γ}
/-- a triple whose last two are of one kind, as a row of these -/
theorem ex_slQ {p : α × β × β} {j : Nat} {p1 p2 : Pos} (ha : PE X a (tE fr (vQ F G G) H0 Γ p)) : PE X (.Subscript a (.Slice (some (.Constant (.int 1) j p1)) none none p2) pos) (tE false (vT G) H0 Γ [p.2.1, p.2.2]) :=
  (pe_slice sl_tupA ha (eo_some ex_int) eo_none).wk fun σ H Q ⟨g, q⟩ => ⟨g, fun v H1 e1 r1 _ => ⟨g.mono e1, fun H2 e2 => ⟨g.mono (e1.trans e2), fun H3 e3 => by
    obtain ⟨ad, v1, v2, v3, h1, h2, h3, h4, h5⟩ := (vQ F G G).mono (e2.trans e3) r1
    refine ⟨ad, _, h1, SqT.of h2, fun w => ?_, fun _ r hr => q _ _ (((e1.trans e2).trans e3).trans (same_new hr)) ⟨r, _, rfl, upd_same, ?_⟩ fre0⟩
    · exact absurd w.1 (by show ¬ HT.sIx 3 0 (some ((1 : Nat) : Int)) = 0; rw [HT.sIx_nat]; decide)
    · show Al G.r [p.2.1, p.2.2] (cut [v1, v2, v3] (some ((1 : Nat) : Int)) none) _
      rw [cut_from]
      exact ⟨G.mono (same_new hr) h4, G.mono (same_new hr) h5, trivial⟩⟩⟩⟩
theorem bare_mono {σ : HSt} {H H2 : Hp} (s : Same H H2) : Same (bare Γ σ H) (bare Γ σ H2) := fun a o h => by
  have h2 := h
  unfold bare at h
  split at h
  · cases h
  · rename_i hn
    exact bare_at (s _ _ h) fun i s h1 h2 h3 => hn ⟨i, s, h1, h2, h3⟩
theorem walk_zipT {K : PySem.W.Frag} {a b : Addr} {xs ys : List V} {n : Nat} (hn : n = min xs.length ys.length) : Walk (RZ.ItzT K a b) n (fun H => SqT K H a xs ∧ SqT K H b ys) (YPair (fun i => xs[i]?) (fun i => ys[i]?)) := by
  subst hn
  refine ⟨fun i _ hi q => ?_, fun _ q => ⟨xs, ys, q.1, q.2, by omega⟩, fun i H v H' _ q y => ?_⟩
  · have h1 : i < xs.length := by omega
    have h2 : i < ys.length := by omega
    exact ⟨xs, ys, xs[i], ys[i], q.1, q.2, by simp [h1], by simp [h2]⟩
  · obtain ⟨T, x, z, h1, h2, h3, h4, h5⟩ := y
    exact ⟨T, x, z, h1, h2, h3, h4 _ q.1, h5 _ q.2⟩
theorem zip_get {xs : List α} {ys : List β} {i : Nat} (h1 : xs[i]? = some x) (h2 : ys[i]? = some y) : (xs.zip ys)[i]? = some (x, y) := by
  rw [List.getElem?_zip_eq_some]
  exact ⟨h1, h2⟩
theorem wk_zipT [Imm F] [Imm G] {xs : List α} {ys : List β} {p tpos : Pos} {elts : List Expr} {kk : Nat} (hm : X.mg "zip" = none) (ha : PE X a (tE f1 (vT F) H0 Γ xs)) (hb : PE X b (tE f2 (vT G) H0 Γ ys)) (hg : Gl X "zip" := by rfl)
    (hs : starEach [a, b] X.env = (false, eval a X.env) :: starEach [b] X.env := by rfl) (hs2 : starEach [b] X.env = (false, eval b X.env) :: starEach [] X.env := by rfl) (hpl : (backTo pos (starEach [b] X.env)).any (·.1) = false := by rfl) :
    PI X (.Tuple elts kk tpos) (.Call (.Name "zip" p) [a, b] [] pos) (tWk (vP F G) H0 Γ (xs.zip ys)) :=
  (RZ.pi_zipA hg hm (pa_cons ha (pa_cons hb pa_nil hs2) hs) hs hpl).wk fun σ H R ⟨g, q⟩ => ⟨g, fun v H1 s ⟨p, vs, h1, h2, h3⟩ _ => ⟨g.mono s, fun w H2 s2 ⟨p2, ws, k1, k2, k3⟩ _ => ⟨p, p2, vs, ws, by rw [h1, k1], .inr ⟨SqT.of (s2 _ _ h2), SqT.of k2, by
    have t := (g.mono (s.trans s2)).bare_tu
    have hl : (xs.zip ys).length = min vs.length ws.length := by rw [List.length_zip, h3.length, k3.length]
    have h2' := s2 _ _ h2
    have h3' := h3.map fun _ _ q => F.mono s2 q
    refine q (RZ.ItzT X.K p p2) H2 (fun H => SqT X.K H p vs ∧ SqT X.K H p2 ws) _ (s.trans s2) (walk_zipT hl) (fun H' s' => ⟨SqT.of (s' _ _ (t _ _ h2')), SqT.of (s' _ _ (t _ _ k2))⟩) fun i H2 v H3 hi s3 y => ?_
    obtain ⟨T, u1, u2, e1, e2, e3, e4, e5⟩ := y
    subst e1 e3
    obtain ⟨c, c1, c2⟩ := (h3'.map fun _ _ q => Imm.tu t q).get' e4
    obtain ⟨d, d1, d2⟩ := (k3.map fun _ _ q => Imm.tu t q).get' e5
    exact ⟨same_new e2, (c, d), zip_get c1 d1, T, _, _, rfl, upd_same, F.mono (same_new e2) (F.mono s3 c2), G.mono (same_new e2) (G.mono s3 d2)⟩⟩⟩⟩⟩
/-- a list that was handed in with a new one -/
theorem wk_zipL [Imm G] {Hc : Hp} {xs : List α} {ys : List β} {n : Str} {p tpos p2 : Pos} {elts : List Expr} {kk : Nat} (i : Nat) (hm : X.mg "zip" = none) (hb : PE X b (tE true (vL G) H0 Γ ys)) (h : Γ[i]? = some (ge (vL F) Hc xs) := by rfl) (hN : X.N[i]? = some n := by rfl)
    (hv : Vis X.env.scope n := by first | exact Or.inl rfl | exact Or.inr (Or.inl rfl) | exact Or.inr (Or.inr rfl)) (hd : (n == ("__debug__" : Str)) = false := by decide) (hcd : (n == ("__classdict__" : Str)) = false := by decide) (hg : Gl X "zip" := by rfl)
    (hs : starEach [.Name n p2, b] X.env = (false, eval (.Name n p2) X.env) :: starEach [b] X.env := by rfl) (hs2 : starEach [b] X.env = (false, eval b X.env) :: starEach [] X.env := by rfl) (hpl : (backTo pos (starEach [b] X.env)).any (·.1) = false := by rfl) :
    PI X (.Tuple elts kk tpos) (.Call (.Name "zip" p) [.Name n p2, b] [] pos) (tWk (vP F G) H0 Γ (xs.zip ys)) :=
  (RZ.pi_zipA hg hm (pa_cons (pv i hN hv hd hcd) (pa_cons hb pa_nil hs2) hs) hs hpl).wk fun σ H R ⟨g, q⟩ => by
    obtain ⟨v, h1, ⟨p, o, h2, h3, vs, h4, h5⟩, s⟩ := g.ge h
    obtain ⟨_, _, _, s0⟩ := g.ok i _ h
    subst h4
    have sb : Same Hc (bare Γ σ H) := s0.trans g.bare_same
    refine ⟨v, h1, g, fun w H2 s2 ⟨p2, o2, k1, k2, ws, k3, k4⟩ fz => ?_⟩
    obtain ⟨p3, e1, e2⟩ := fz rfl
    rw [k1] at e1
    cases e1
    subst k3
    refine ⟨p, p2, vs, ws, by rw [h2, k1], .inl ⟨SqL.of (s2 _ _ (s _ _ h3)), SqL.of k2, ?_⟩⟩
    have t := (g.mono s2).bare_tu
    have hl : (xs.zip ys).length = min vs.length ws.length := by rw [List.length_zip, h5.length, k4.length]
    have sb2 : Same (bare Γ σ H) (bare Γ σ H2) := bare_mono s2
    refine q (Itz X.K p p2) H2 (fun H => SqL X.K H p vs ∧ SqL X.K H p2 ws) _ s2 (walk_zip hl) (fun H' s' => ⟨SqL.of (s' _ _ (sb2 _ _ (sb _ _ h3))), SqL.of (s' _ _ (bare_new g s2 e2 k2))⟩) fun i H2 v H3 hi s3 y => ?_
    obtain ⟨T, u1, u2, e1, e2, e3, e4, e5⟩ := y
    subst e1 e3
    obtain ⟨c, c1, c2⟩ := (h5.map fun _ _ q => F.mono (sb.trans sb2) q).get' e4
    obtain ⟨d, d1, d2⟩ := (k4.map fun _ _ q => Imm.tu t q).get' e5
    exact ⟨same_new e2, (c, d), zip_get c1 d1, T, _, _, rfl, upd_same, F.mono (same_new e2) (F.mono s3 c2), G.mono (same_new e2) (G.mono s3 d2)⟩
/-! ### dicts -/
theorem kV_inl (ks : List Int) : (ks.map Sum.inl : List Key).map kV = ks.map V.int := by
  rw [List.map_map]
  rfl
end
/-! ### a def that ends without return -/
section
open C8
variable {P : Program} {w : World} {K : PySem.W.Frag} {mg : Str → Option Value} {base : Heap}
theorem cal_ofN {n : Str} {st : Stmt} {N ps : List Str} {k m : Nat} {ι : Type} {A : RepA ι} {pre : ι → Prop} {sl : Hp → ι → List Slot}
    (D : DefT K mg n st) (S : FnScope N ps (L2.defScope st)) (hf : Fits A sl ps.length) (hm : N.length = ps.length + m)
    (hb : ∀ (kV doc pm : Value) (an : Option Addr) (cdv ct : Value) (us : List Value), us.length = ps.length → bindArgs (PySem.W.fnOf n n (L2.defArgs st) (L2.defBody st) (L2.defScope st) .none kV doc pm an cdv ct) ⟨us, []⟩ = pure (ps.zip us))
    (body : ∀ (a : Addr) (cdv : Value) (A : Around) (outer : List Env) (s : Shared) (H : Hp) (E : XK) (i : ι), Room k (CxD P w K mg base N n st a cdv A outer s H E).A → pre i →
      PSs (CxD P w K mg base N n st a cdv A outer s H E) (L2.defBody st) (tS H (sl H i ++ List.replicate m .no) (fun _ _ => False) (fun _ H2 => Same H H2))) : Cal P w K mg base (k + 1) n (spG A false vU pre (fun _ => ())) [] := by
  obtain ⟨a, fd, F, hmg⟩ := D.ex
  refine ⟨a, fd, ps, [], ?_, hmg, F.kp, F.bindsN hb, .nil⟩
  refine F.ok S (fun vs H Q E ⟨i, h, _⟩ => by rw [(hf.to h).len, hf.n]) fun cdv Ar outer s H vs Q E hr h => ?_
  obtain ⟨i, h1, h2, h3⟩ := h
  refine ⟨_, PSs.nox (body a cdv Ar outer s H E i hr h2), ?_⟩
  have hs := hf.to h1
  refine ⟨?_, fun v H2 s2 r => r.elim, fun _ H2 z => h3 _ H2 z rfl fre0⟩
  have e : L2.start N vs = vs.map some ++ List.replicate m none := by
    unfold L2.start
    rw [hs.len, hf.n, hm, Nat.add_sub_cancel_left]
  rw [e]
  exact hs.en m
end
end Gm
set_option Elab.async false
set_option linter.all false
set_option maxRecDepth 100000
set_option maxHeartbeats 4000000
namespace Gm
open PySem PySem.Spec PyProof.Rows L2
def putM (xs : List Int) (k : Int) : List Int := if k ∈ xs then xs else xs ++ [k]
def putD {α : Type} (d : List (List Int × α)) (k : List Int) (v : α) : List (List Int × α) := if (d.any fun p => decide (p.1 = k)) = true then d.map (fun p => if p.1 = k then (p.1, v) else p) else d ++ [(k, v)]
def getD {α : Type} (d : List (List Int × α)) (k : List Int) : Option α := (d.find? fun p => decide (p.1 = k)).map (·.2)
theorem inl_inj : ∀ {a b : List Int}, (a.map Sum.inl : List Key) = b.map Sum.inl → a = b
  | [], [], _ => rfl
  | [], _ :: _, h => by cases h
  | _ :: _, [], h => by cases h
  | x :: xs, y :: ys, h => by
    rw [List.map_cons, List.map_cons] at h
    injection h with h1 h2
    injection h1 with h3
    rw [h3, inl_inj h2]
section
variable {α : Type} {F : Rep α} {H : Hp}
abbrev DR (F : Rep α) : List Int × α → List Key × V → Hp → Prop := fun x y H => y.1 = x.1.map Sum.inl ∧ F.r x.2 y.2 H
theorem dr_dec {x : List Int × α} {y : List Key × V} (h : DR F x y H) (k : List Int) : decide (y.1 = k.map Sum.inl) = decide (x.1 = k) := by
  rw [h.1]
  exact decide_eq_decide.mpr ⟨fun e => inl_inj e, fun e => by rw [e]⟩
theorem dr_any (k : List Int) : ∀ {d : List (List Int × α)} {ws : List (List Key × V)}, Al (DR F) d ws H → (ws.any fun p => decide (p.1 = k.map Sum.inl)) = d.any fun p => decide (p.1 = k)
  | [], [], _ => rfl
  | [], _ :: _, h => False.elim h
  | _ :: _, [], h => False.elim h
  | x :: xs, y :: ys, h => by rw [List.any_cons, List.any_cons, dr_any k h.2, dr_dec h.1]
theorem dr_map (k : List Int) {v : α} {u : V} (r : F.r v u H) : ∀ {d : List (List Int × α)} {ws : List (List Key × V)}, Al (DR F) d ws H → Al (DR F) (d.map fun p => if p.1 = k then (p.1, v) else p) (ws.map fun p => if p.1 = k.map Sum.inl then (p.1, u) else p) H
  | [], [], _ => trivial
  | [], _ :: _, h => False.elim h
  | _ :: _, [], h => False.elim h
  | x :: xs, y :: ys, h => by
    rw [List.map_cons, List.map_cons]
    refine ⟨?_, dr_map k r h.2⟩
    by_cases e : x.1 = k
    · rw [if_pos e, if_pos (by rw [h.1.1, e])]
      exact ⟨h.1.1, r⟩
    · rw [if_neg e, if_neg (fun q => e (by rw [h.1.1] at q; exact inl_inj q))]
      exact h.1
theorem dr_put {d : List (List Int × α)} {ws : List (List Key × V)} {k : List Int} {v : α} {u : V} (h : Al (DR F) d ws H) (r : F.r v u H) : Al (DR F) (putD d k v) (putK ws (k.map Sum.inl) u) H := by
  unfold putD putK
  rw [dr_any k h]
  by_cases e : (d.any fun p => decide (p.1 = k)) = true
  · rw [if_pos e, if_pos e]
    exact dr_map k r h
  · rw [if_neg e, if_neg e]
    exact h.app ⟨⟨rfl, r⟩, trivial⟩
theorem dr_get (k : List Int) : ∀ {d : List (List Int × α)} {ws : List (List Key × V)}, Al (DR F) d ws H → match getD d k with
    | some a => ∃ u, valV ws (k.map Sum.inl) = some u ∧ F.r a u H
    | none => valV ws (k.map Sum.inl) = none
  | [], [], _ => rfl
  | [], _ :: _, h => False.elim h
  | _ :: _, [], h => False.elim h
  | x :: xs, y :: ys, h => by
    unfold getD valV
    rw [List.find?_cons, List.find?_cons, dr_dec h.1]
    by_cases e : x.1 = k
    · rw [decide_eq_true e]
      exact ⟨_, rfl, h.1.2⟩
    · rw [decide_eq_false e]
      exact dr_get k h.2
theorem putD_len (d : List (List Int × α)) (k : List Int) (v : α) : (putD d k v).length ≤ d.length + 1 := by
  unfold putD
  split
  · rw [List.length_map]; omega
  · rw [List.length_append, List.length_cons, List.length_nil]; omega
end
theorem mk_any (k : Int) : ∀ xs : List Int, ((xs.map fun i => ((Sum.inl i : Key), V.bl true)).any fun p => decide (p.1 = Sum.inl k)) = decide (k ∈ xs)
  | [] => rfl
  | y :: ys => by
    rw [List.map_cons, List.any_cons, mk_any k ys]
    by_cases e : y = k
    · subst e
      simp
    · rw [decide_eq_false (fun q => e (Sum.inl.inj q)), Bool.false_or]
      exact decide_eq_decide.mpr ⟨fun h => List.mem_cons_of_mem _ h, fun h => (List.mem_cons.mp h).elim (fun q => absurd q.symm e) id⟩
theorem mk_put (xs : List Int) (k : Int) : putK (xs.map fun i => ((Sum.inl i : Key), V.bl true)) (Sum.inl k) (V.bl true) = (putM xs k).map fun i => ((Sum.inl i : Key), V.bl true) := by
  unfold putK putM
  rw [mk_any]
  by_cases e : k ∈ xs
  · rw [decide_eq_true e, if_pos rfl, if_pos e, List.map_map]
    refine List.map_congr_left fun i hi => ?_
    by_cases q : i = k
    · subst q
      simp
    · simp [q]
  · rw [decide_eq_false e, if_neg (by decide), if_neg e, List.map_append]
    rfl
theorem putM_len (xs : List Int) (k : Int) : (putM xs k).length ≤ xs.length + 1 := by
  unfold putM
  split
  · omega
  · simp
section
variable {X : Cx} {e a b c tg l iter elt : Expr} {es : List Expr} {rest body orelse : List Stmt} {pos p' : Pos} {H0 : Hp} {Γ Γ' : List Slot} {fr f1 f2 f3 : Bool} {R : V → Hp → Prop} {N : HSt → Hp → Prop}
variable {α β γ ι ρ : Type} {F : Rep α} {G : Rep β} {J : Rep γ} {x : α} {y : β} {z : γ}
theorem at_getD {xs : List α} {i : Int} {d : α} (h : 0 ≤ i ∧ i.toNat < xs.length) : atI xs i = some (xs.getD i.toNat d) := by
  refine at_nat h.1 ?_
  rw [List.getD_eq_getElem?_getD, List.getElem?_eq_getElem h.2]
  rfl
theorem ex_ixTd {xs : List α} {i : Int} (d : α) (ha : PE X a (tE f1 (vT F) H0 Γ xs)) (hb : PE X b (tE f2 vI H0 Γ i)) (h : 0 ≤ i ∧ i.toNat < xs.length) (hs : PlainIx b := by exact fun _ _ => rfl) : PE X (.Subscript a b pos) (tE false F H0 Γ (xs.getD i.toNat d)) := ex_ixT ha hb (at_getD h) hs
theorem ex_ixLd {xs : List α} {i : Int} (d : α) (ha : PE X a (tE f1 (vL F) H0 Γ xs)) (hb : PE X b (tE f2 vI H0 Γ i)) (h : 0 ≤ i ∧ i.toNat < xs.length) (hs : PlainIx b := by exact fun _ _ => rfl) : PE X (.Subscript a b pos) (tE false F H0 Γ (xs.getD i.toNat d)) := ex_ixL ha hb (at_getD h) hs
/-! ### dicts -/
theorem ex_dnewM : PE X (.Dict [] [] pos) (tE true vM H0 Γ []) := pe_dnewK.wk fun σ H Q ⟨g, q⟩ => fun p hp => q _ _ (same_new hp) ⟨p, _, rfl, upd_same, rfl⟩ fun _ => ⟨p, rfl, hp⟩
theorem ex_dnewD : PE X (.Dict [] [] pos) (tE true (vD F) H0 Γ []) := pe_dnewT.wk fun σ H Q ⟨g, q⟩ => fun p hp => q _ _ (same_new hp) ⟨p, _, rfl, upd_same, [], rfl, trivial⟩ fun _ => ⟨p, rfl, hp⟩
/-- {i: True} -/
theorem ex_dispM {i : Int} {j1 j2 : Nat} {p1 p2 : Pos} : PE X (.Dict [some (.Constant (.int i) j1 p1)] [.Constant (.bool true) j2 p2] pos) (tE true vM H0 Γ [i]) :=
  (pe_disp (pps_cons pe_int pe_bl pps_nil) rfl rfl (fun h => nomatch h) (show 1 ≤ 15 by decide)).wk fun σ H Q ⟨g, q⟩ => fun p hp =>
    show tPairs _ _ _ _ from ⟨upd_same, [(Sum.inl i, .bl true)], rfl, (show 1 ≤ 15 by decide), q _ _ (same_mut (same_new hp) hp) ⟨p, _, rfl, upd_same, rfl⟩ fun _ => ⟨p, rfl, hp⟩⟩
/-- d[i] = True -/
theorem ss_mput {xs : List Int} {i : Int} {n : Str} {k : Nat} {p1 p2 : Pos} {jb : Nat} (s : Nat) (hr : Room k X.A) (hi : PE X b (tE f2 vI H0 Γ i)) (hl : xs.length < 100000) (hrest : PSs X rest (tS H0 (Γ.set s (ow cM (putM xs i))) R N)) (h : Γ[s]? = some (ow cM xs) := by rfl) (hN : X.N[s]? = some n := by rfl) (hv : Vis X.env.scope n := by first | exact Or.inl rfl | exact Or.inr (Or.inl rfl))
    (hd : (n == ("__debug__" : Str)) = false := by decide) (hcd : (n == ("__classdict__" : Str)) = false := by decide) (hs : swapsWith (.Constant (.bool true) jb p2) (some (.Subscript (.Name n p1) b p')) pos.line X.env = pure false := by rfl) : PSs X (.Assign [.Subscript (.Name n p1) b p'] (.Constant (.bool true) jb p2) pos :: rest) (tS H0 Γ R N) :=
  ss_go (ps_dput (hu_of hr) (pv s hN hv hd hcd) hi pe_bl hs) hrest fun D σ H g _ q => by
    obtain ⟨p, o, h1, h2, h3, h4⟩ := g.ow h
    cases (show o = _ from h4)
    refine ⟨_, h1, g, fun v H2 s2 r _ => ⟨p, upd H2 p (.dK ((putM xs i).map fun i => (Sum.inl i, V.bl true))), rfl, ?_, q _ _ ((g.mono s2).mut h h1 (s2 _ _ h3) rfl rfl)⟩⟩
    · have z := DPut.k (k := Sum.inl i) (v := V.bl true) (s2 _ _ h3) (by rw [List.length_map]; exact line_lt hl)
      rw [mk_put] at z
      rw [show v = V.int i from r]
      exact z
/-- d[i], d[j] = True, True -/
theorem ss_mput2 {xs : List Int} {i j : Int} {n : Str} {k : Nat} {p1 p2 p3 p4 p5 p6 pt pv2 : Pos} {j1 j2 kt k2 : Nat} (s : Nat) (hc : X.calm = true) (hr : Room k X.A) (ha : ∀ ys, PE X a (tE f1 vI H0 (Γ.set s (ow cM ys)) i)) (hb : ∀ ys, PE X b (tE f2 vI H0 (Γ.set s (ow cM ys)) j)) (hl : xs.length + 1 < 100000) (hrest : PSs X rest (tS H0 (Γ.set s (ow cM (putM (putM xs i) j))) R N)) (h : Γ[s]? = some (ow cM xs) := by rfl) (hN : X.N[s]? = some n := by rfl) (hv : Vis X.env.scope n := by first | exact Or.inl rfl | exact Or.inr (Or.inl rfl))
    (hd : (n == ("__debug__" : Str)) = false := by decide) (hcd : (n == ("__classdict__" : Str)) = false := by decide)
    (hs : swapsWithSole [.Tuple [.Subscript (.Name n p1) a p2, .Subscript (.Name n p3) b p4] kt pt] (.Tuple [.Constant (.bool true) j1 p5, .Constant (.bool true) j2 p6] k2 pv2) pos.line X.env = pure false := by rfl)
    (hw : swappedStores [.Tuple [.Subscript (.Name n p1) a p2, .Subscript (.Name n p3) b p4] kt pt] (.Tuple [.Constant (.bool true) j1 p5, .Constant (.bool true) j2 p6] k2 pv2) X.env = pure none := by rfl)
    (h1 : (assignEach [.Tuple [.Subscript (.Name n p1) a p2, .Subscript (.Name n p3) b p4] kt pt] X.env).map (·.2) = [assign (.Tuple [.Subscript (.Name n p1) a p2, .Subscript (.Name n p3) b p4] kt pt) X.env] := by rfl)
    (hn : (assignEach [.Subscript (.Name n p1) a p2, .Subscript (.Name n p3) b p4] X.env).length = 2 := by rfl) (hst : (assignEach [.Subscript (.Name n p1) a p2, .Subscript (.Name n p3) b p4] X.env).findIdx? (·.1) = none := by rfl)
    (ha1 : ∀ v, assign (.Subscript (.Name n p1) a p2) X.env v = (do
      let ov ← holding [v] (eval (.Name n p1) X.env)
      let iv ← holding [v, ov] (eval a X.env)
      standAt p2
      holding [v, ov, iv] (setItem ov iv v)
      release [v, ov, iv] []) := by intro _; rfl) (ha2 : ∀ v, assign (.Subscript (.Name n p3) b p4) X.env v = (do
      let ov ← holding [v] (eval (.Name n p3) X.env)
      let iv ← holding [v, ov] (eval b X.env)
      standAt p4
      holding [v, ov, iv] (setItem ov iv v)
      release [v, ov, iv] []) := by intro _; rfl) :
    PSs X (.Assign [.Tuple [.Subscript (.Name n p1) a p2, .Subscript (.Name n p3) b p4] kt pt] (.Tuple [.Constant (.bool true) j1 p5, .Constant (.bool true) j2 p6] k2 pv2) pos :: rest) (tS H0 Γ R N) :=
  ss_go (ps_asg (ex_tp ex_bl ex_bl) (pg_tup hc (pgs_cons (pg_sub (pv s hN hv hd hcd) (ha xs) (set_dict (hu_of hr)) ha1) (pgs_cons (pg_sub (pv s hN hv hd hcd) (hb (putM xs i)) (set_dict (hu_of hr)) ha2) pgs_nil)) hn hst) hs hw h1) hrest fun D σ H g _ q => ⟨g, fun v H1 s1 ⟨pt, v1, v2, e1, e2, e3, e4⟩ _ => by
    refine ⟨pt, _, e1, SqT.of e2, rfl, v1, _, rfl, ?_⟩
    have g1 := g.mono s1
    obtain ⟨p, o, h1, h2, h3, h4⟩ := g1.ow h
    cases (show o = _ from h4)
    have gs : Γ.set s (ow cM xs) = Γ := set_same h
    refine ⟨_, h1, by rw [gs]; exact g1, fun u H2 s2 r _ => ⟨p, upd H2 p (.dK ((putM xs i).map fun i => (Sum.inl i, V.bl true))), rfl, ?_, v2, _, rfl, ?_⟩⟩
    · have z := DPut.k (k := Sum.inl i) (v := V.bl true) (s2 _ _ h3) (by rw [List.length_map]; exact line_lt (by omega))
      rw [mk_put] at z
      rw [show u = V.int i from r, show v1 = V.bl true from e3]
      exact z
    · have g2 := (g1.mono s2).mut h h1 (s2 _ _ h3) (D := fun _ => cM.c (putM xs i)) (kd := fun _ _ _ _ e h => h) (nd := fun _ _ _ h => cM.nt h) rfl rfl
      refine ⟨_, h1, g2, fun u2 H3 s3 r3 _ => ⟨p, upd H3 p (.dK ((putM (putM xs i) j).map fun i => (Sum.inl i, V.bl true))), rfl, ?_, rfl, ?_⟩⟩
      · have hp := putM_len xs i
        have z := DPut.k (k := Sum.inl j) (v := V.bl true) (s3 _ _ (show upd H2 p (.dK ((putM xs i).map fun i => (Sum.inl i, V.bl true))) p = _ from upd_same)) (by rw [List.length_map]; exact line_lt (by omega))
        rw [mk_put] at z
        rw [show u2 = V.int j from r3, show v2 = V.bl true from e4]
        exact z
      · have hl2 : s < Γ.length := (List.getElem?_eq_some_iff.mp h).1
        have g3 := (g2.mono s3).mut (List.getElem?_set_self hl2) h1 (s3 _ _ upd_same) (D := fun _ => cM.c (putM (putM xs i) j)) (kd := fun _ _ _ _ e h => h) (nd := fun _ _ _ h => cM.nt h) rfl rfl
        rw [List.set_set] at g3
        exact q _ _ g3⟩
theorem key_of {ks : List Int} {v : V} {H : Hp} (h : (vT vI).r ks v H) : ∃ p, v = .ref p ∧ H p = some (.tup ((ks.map Sum.inl : List Key).map kV)) := by
  obtain ⟨p, vs, h1, h2, h3⟩ := h
  exact ⟨p, h1, by rw [h2, ints_of h3, kV_inl]⟩
/-- d[k] of a dict of rows -/
theorem ex_dget {d : List (List Int × α)} {ks : List Int} {k : Nat} (hr : Room k X.A) (ha : PE X a (tE f1 (vD F) H0 Γ d)) (hb : PE X b (tE f2 (vT vI) H0 Γ ks)) (h : getD d ks = some x) (hs : NoSl b := by exact fun _ _ => rfl) : PE X (.Subscript a b pos) (tE false F H0 Γ x) :=
  (pe_dget (hu_of hr) ha hb hs).wk fun σ H Q ⟨g, q⟩ => ⟨g, fun v H1 s1 r1 _ => ⟨g.mono s1, fun w H2 s2 r2 _ => by
    obtain ⟨p, o, h1, h2, ws, h3, h4⟩ := (vD F).mono s2 r1
    obtain ⟨p2, k1, k2⟩ := key_of r2
    subst h3
    have z := dr_get ks h4
    rw [h] at z
    obtain ⟨u, z1, z2⟩ := z
    have dg := DGet.t (k := ks.map Sum.inl) h2 k2
    rw [z1] at dg
    exact ⟨p, u, h1, by rw [k1]; exact dg, q u H2 (s1.trans s2) z2 fre0⟩⟩⟩
theorem et_inT {d : List (List Int × α)} {ks : List Int} {k : Nat} (hr : Room k X.A) (ha : PE X a (tE f1 (vT vI) H0 Γ ks)) (hb : PE X b (tE f2 (vD F) H0 Γ d)) (hm : behindInMarks .In b = false := by rfl) : PT X (.Compare a [.In] [b] pos) (tT H0 Γ (getD d ks).isSome) :=
  (pt_cmp (pc_din (hu_of hr) ha hb) hm).wk fun σ H Q ⟨g, q⟩ => ⟨g, fun v H1 s1 r1 _ => ⟨g.mono s1, fun w H2 s2 r2 _ => by
    obtain ⟨p, o, h1, h2, ws, h3, h4⟩ := r2
    obtain ⟨p2, k1, k2⟩ := key_of ((vT vI).mono s2 r1)
    subst h3
    refine ⟨p, valV ws (ks.map Sum.inl), h1, by rw [k1]; exact DGet.t h2 k2, _, rfl, ?_⟩
    have z := dr_get ks h4
    have e : (valV ws (ks.map Sum.inl)).isSome = (getD d ks).isSome := by
      cases hg : getD d ks with
      | none => rw [hg] at z; rw [show valV ws (ks.map Sum.inl) = none from z]; rfl
      | some a => rw [hg] at z; obtain ⟨u, z1, _⟩ := z; rw [z1]; rfl
    rw [e]
    exact q H2 (s1.trans s2)⟩⟩
/-- d[k] = e -/
theorem ss_dput [Imm F] {d : List (List Int × α)} {ks : List Int} {n : Str} {k : Nat} {p1 : Pos} (s : Nat) (hr : Room k X.A) (hv2 : PE X e (tE f1 F H0 Γ x)) (hi : PE X b (tE f2 (vT vI) H0 Γ ks)) (hl : d.length < 100000) (hrest : PSs X rest (tS H0 (Γ.set s (ow (cD F) (putD d ks x))) R N)) (h : Γ[s]? = some (ow (cD F) d) := by rfl) (hN : X.N[s]? = some n := by rfl) (hv : Vis X.env.scope n := by first | exact Or.inl rfl | exact Or.inr (Or.inl rfl))
    (hd : (n == ("__debug__" : Str)) = false := by decide) (hcd : (n == ("__classdict__" : Str)) = false := by decide) (hs : swapsWith e (some (.Subscript (.Name n p1) b p')) pos.line X.env = pure false := by rfl) : PSs X (.Assign [.Subscript (.Name n p1) b p'] e pos :: rest) (tS H0 Γ R N) :=
  ss_go (ps_dput (hu_of hr) (pv s hN hv hd hcd) hi hv2 hs) hrest fun D σ H g _ q => ⟨g, fun v H1 s1 r1 _ => by
    have g1 := g.mono s1
    obtain ⟨p, o, h1, h2, h3, ws, h4, h5⟩ := g1.ow h
    subst h4
    refine ⟨_, h1, g1, fun w H2 s2 r2 _ => ⟨p, upd H2 p (.dT (putK ws (ks.map Sum.inl) v)), rfl, ?_, ?_⟩⟩
    · obtain ⟨p2, k1, k2⟩ := key_of r2
      rw [k1]
      exact DPut.t (s2 _ _ h3) k2 (by rw [h5.length]; exact line_lt hl)
    · refine q _ _ ((g1.mono s2).mut h h1 (s2 _ _ h3) ⟨ws, rfl, h5.map fun _ _ z => ⟨z.1, F.mono s2 z.2⟩⟩ ⟨_, rfl, ?_⟩)
      have t : Tu H2 (upd H2 p (.dT (putK ws (ks.map Sum.inl) v))) := tu_mut (s2 _ _ h3) (fun xs z => (nomatch z))
      exact dr_put (h5.map fun _ _ z => ⟨z.1, Imm.tu t (F.mono s2 z.2)⟩) (Imm.tu t (F.mono s2 r1))⟩
end
end Gm
set_option Elab.async false
set_option linter.all false
set_option maxRecDepth 100000
set_option maxHeartbeats 4000000
/-! for k, v in d.items(), d a dict whose keys are rows, locked -/
namespace Gm
open PySem PySem.Spec PyProof.Rows L2
section
variable {X : Cx} {pins : List (Addr × Obj)} {σ : HSt} {H : Hp} {s : Shared} {d : Addr} {o : Obj} {ws : List (List Key × V)}
/-- what the raw dict at d shows -/
def Ents (H : Hp) (es : Array DictEntry) (ws : List (List Key × V)) : Prop := es.size = ws.length ∧ ∀ (i : Nat) (k : List Key) (v : V), ws[i]? = some (k, v) → ∃ (e : DictEntry) (q : Addr), es[i]? = some e ∧ e.key = .ref q ∧ H q = some (.tup (k.map kV)) ∧ RelV v e.val
theorem ents_of {es : Array DictEntry} {xs : List (List Key × Addr × Value)} (pr : KT H ws xs) (he : es.toList = xs.map (entryOfKey (tupleKind (mixKind X.prog X.w)))) : Ents H es ws := by
  refine ⟨(size_of_entries he).trans (Paired.length pr).symm, fun i k v e => ?_⟩
  obtain ⟨b, hb, e1, e2, e3⟩ := L2.paired_get pr e
  have q := entry_at he i
  rw [hb] at q
  exact ⟨_, b.2.1, q, rfl, e2, e3⟩
theorem raw_d (I : Inv X pins σ H s) (h : H d = some (.dT ws)) : (d == sysModules) = false ∧ ws.length ≤ sizeLine ∧ ∃ (o : Obj) (es : Array DictEntry) (ep : Nat), s.heap.get? d = some o ∧ o.ExactDict ∧ o.data = .dict es ep ∧ Ents H es ws := by
  obtain ⟨z, hs, xs, pr, o, es, ep, ho, hx, hdt, he, _⟩ := dt_of I.hok h
  exact ⟨hs, z, o, es, ep, ho, hx, hdt, ents_of pr he⟩
theorem raw_f (I : Inv X pins σ H s) (h : H d = some (.frz o (.dT ws))) : (d == sysModules) = false ∧ s.heap.get? d = some o ∧ o.ExactDict ∧ ∃ (es : Array DictEntry) (ep : Nat), o.data = .dict es ep ∧ Ents H es ws := by
  obtain ⟨hd, z, hs, xs, pr, o', es, ep, ho, hx, hdt, he, _⟩ := I.hok d _ h
  rw [hd] at ho
  cases ho
  exact ⟨hs, hd, hx, es, ep, hdt, ents_of pr he⟩
end
/-- the pairs, each a new tuple -/
def ItiT (d : Addr) (o : Obj) (ws : List (List Key × V)) : It :=
  ⟨fun i H => H d = some (.frz o (.dT ws)) ∧ i < ws.length, fun i H x H' => ∃ T k v q, ws[i]? = some (k, v) ∧ H q = some (.tup (k.map kV)) ∧ x = .ref T ∧ H T = none ∧ H' = upd H T (.tup [.ref q, v]), fun i H => H d = some (.frz o (.dT ws)) ∧ ws.length ≤ i⟩
theorem turn_itemsT {P : Program} {w : World} {K : PySem.W.Frag} {d : Addr} {o : Obj} {es : Array DictEntry} {ep : Nat} {ws : List (List Key × V)} {elts : List Expr} {kk : Nat} {tpos : Pos} (it : Addr) (hod : o.data = .dict es ep) :
    Turn P w K (.Tuple elts kk tpos) (ItiT d o ws) [it] it (fun i h => ∃ ok ov, h.get? it = some (DVw.itmOb d .none i ws.length ep ok ov)) where
  mem := List.mem_singleton.mpr rfl
  obj := fun i h st b hb => by
    obtain ⟨ok, ov, e⟩ := st
    cases List.mem_singleton.mp hb
    refine ⟨_, e, fun v z => ?_⟩
    cases z
  keep := fun i h h' ⟨ok, ov, e⟩ k => ⟨ok, ov, k it (List.mem_singleton.mpr rfl) _ e⟩
  item := by
    intro X hP hw hK hc i pins s σ H E I hf st hg
    subst hP hw hK
    obtain ⟨hd, hi⟩ := hg
    obtain ⟨_, hgd, _, es1, ep1, hod1, hz, en⟩ := raw_f I hd
    rw [hod] at hod1
    cases hod1
    have hkv : ws[i]? = some (ws[i].1, ws[i].2) := List.getElem?_eq_getElem hi
    obtain ⟨e, q, he, hk, hq, rv⟩ := en i _ _ hkv
    obtain ⟨ok, ov, hit⟩ := st
    have hlt : it < s.heap.objs.size := Heap.lt_size hit
    have hin : it ∈ [it] := List.mem_singleton.mpr rfl
    refine DVw.itm_item hit hgd hod hz he fun h1 b1 b2 b3 b4 => ⟨_, rfl, ?_⟩
    refine wpAny_letOwnedTupleGo_items (s := { s with heap := h1 }) (d := d) (i := i + 1) (n := ws.length) (ep := ep) (ok := e.key) (ov := e.val) b1 fun h2 c1 sb => ?_
    have hn := I.hok.fresh (Nat.le_refl s.heap.objs.size)
    have ne1 : it ≠ s.heap.objs.size := Nat.ne_of_lt hlt
    refine ⟨.ref s.heap.objs.size, upd H s.heap.objs.size (.tup [.ref q, ws[i].2]), I.turnedNew (t' := s.toks) (ch := [it]) (fun b u hb z => ?_) hf (Nat.le_refl _) ?_, rfl, ⟨_, _, _, q, hkv, hq, rfl, hn, rfl⟩, ⟨e.key, e.val, c1⟩, fun b hb => ?_⟩
    · have nb : b ≠ it := fun q => hb (by rw [q]; exact hin)
      exact (sb.2 b nb).trans (b4 b u nb z)
    · refine ⟨two_le, [e.key, e.val], .cons ?_ (.cons rv .nil), ⟨_, (sb.2 _ (Ne.symm ne1)).trans b2, rfl, _, rfl⟩⟩
      rw [hk]
      rfl
    · rw [List.mem_singleton.mp hb, upd_ne ne1]
      exact (hf it hin).1
  done := by
    intro X hP hw hK hc i pins s σ H E I hf st hg
    subst hP hw hK
    obtain ⟨hd, hi⟩ := hg
    obtain ⟨_, hgd, _, es1, ep1, hod1, hz, _⟩ := raw_f I hd
    rw [hod] at hod1
    cases hod1
    obtain ⟨ok, ov, hit⟩ := st
    obtain ⟨f0, f1, f2, f3, f4, f5⟩ := hf it (List.mem_singleton.mpr rfl)
    exact DVw.itm_end (I.ok.hd hc) hit hgd hod hz (Array.getElem?_eq_none (by rw [hz]; exact hi)) fun h1 eb => ⟨rfl, I.turned (t' := s.toks) (fun b u hb z => eb b u hb z) f0 f1 f3 f4 f5⟩
  self := fun A i s Q E ⟨_, _, e⟩ h => PySem.W.kcp_self e h
def iItemsT (td : TE) : TI := fun σ H R => td σ H fun x H1 => ∃ d o ws, x = .ref d ∧ H1 d = some (.frz o (.dT ws)) ∧ R (ItiT d o ws) H1
theorem pi_itemsT {X : Cx} {e : Expr} {td : TE} {apos cpos tpos : Pos} {elts : List Expr} {kk : Nat} (he : PE X e td) (hbase : attributeBase e "items" X.env (eval e X.env) = eval e X.env := by rfl) (hline : (apos.endLine == cpos.line) = true := by rfl) :
    PI X (.Tuple elts kk tpos) (.Call (.Attribute e "items" apos) [] [] cpos) (iItemsT td) := by
  refine ⟨fun pins s σ H R I h => wpAny_Call_method0_late hbase hline (thn (he.run pins s σ H _ I h) fun u s1 ⟨x, H1, I1, rx, d, o, ws, ex, hd, q⟩ => ?_)⟩
  subst ex
  cases (show u = Value.ref d from rx)
  obtain ⟨hs, hgd, hx, es, ep, hod, hz, _⟩ := raw_f I1 hd
  refine ⟨"dict", "dict.items", PySem.F.plainAttrs_dict, PySem.F.slot_dict_items, PySem.F.type_dict_items, ⟨o, hgd, hx.1⟩, fun b hb => ?_, ?_⟩
  · cases hb
    exact ⟨o, hgd, hx.2.1⟩
  · refine Calls.callWith_builtin rfl (PySem.evalArgs_none (DT.callItems (es := es) (ep := ep) hs ⟨o, hgd, hx, hod⟩ ?_))
    have I2 : Inv X pins σ H1 { s1 with heap := s1.heap.push { cls := .type "dict_items", data := .fields #[.ref d] } } := I1.kept (t' := s1.toks) fun b ob q => Heap.get?_push_of_some _ q
    refine DSub.iter_itms (a := d) (Heap.get?_push_size _ rfl) (Heap.get?_push_of_some _ hgd) hod ?_
    refine pi_one (tk := s1.toks) I2 _ (turn_itemsT _ hod) ⟨.none, .none, ?_⟩ q
    rw [← hz]
    exact Heap.get?_push_size _ rfl
end Gm
set_option Elab.async false
set_option linter.all false
set_option maxRecDepth 100000
set_option maxHeartbeats 4000000
namespace Gm
open PySem PySem.Spec PyProof.Rows L2
section
variable {X : Cx} {e a b c tg l iter elt k v : Expr} {es : List Expr} {rest body orelse : List Stmt} {pos p' : Pos} {H0 : Hp} {Γ Γ' : List Slot} {fr f1 f2 f3 : Bool} {R : V → Hp → Prop} {N : HSt → Hp → Prop}
variable {α β γ ι ρ : Type} {F : Rep α} {G : Rep β} {J : Rep γ} {x : α} {y : β} {z : γ}
/-- {k: v}, k a row -/
def tDisp1 (tk tv : TE) : TE := fun σ H Q => ∀ p, H p = none → tk σ (upd H p (.dT [])) fun x H1 => tv σ H1 fun y H2 => H2 p = some (.dT []) ∧ ∃ (ks : List Key) (b : Addr), x = .ref b ∧ H2 b = some (.tup (ks.map kV)) ∧ Q (.ref p) (upd H2 p (.dT [(ks, y)]))
theorem pe_disp1 {tk tv : TE} (hu : X.A.units < cLine) (hk : PE X k tk) (hv : PE X v tv) : PE X (.Dict [some k] [v] pos) (tDisp1 tk tv) := by
  refine ⟨fun pins s σ H Q I q => ?_⟩
  have hn := I.hok.fresh (Nat.le_refl s.heap.objs.size)
  have I1 := I.laid (a := s.heap.objs.size) (o := .dT []) (h' := s.heap.push { cls := .type "dict", data := .dict #[] }) (t' := s.toks) (fun _ _ q => Heap.get?_push_of_some _ q) (Nat.le_refl _) (dt_empty s.heap I.big)
  rw [arm_eval_Dict, zip_pairTrees [some k] [v] X.env pos rfl rfl, dictDisplay_pairs (pairTrees [some k] [v] X.env pos) (fun h => nomatch h) (show 1 < 17 by decide)]
  refine wpAny_bind (wpAny_standAt (wpAny_bind (wpAny_subDictH (knd := tupleKind (mixKind X.prog X.w)) (Q := fun d s' => wpAny (model X.prog X.w) X.A (pure (Value.ref d)) (EP X pins σ Q) X.xe s') hu (show 1 ≤ 15 by decide) ?_)))
  refine pairTrees_cons_walk (thn (hk.run pins _ σ _ _ I1 (q _ hn)) fun u1 s1 ⟨x, H1, I2, r1, q1⟩ => thn (hv.run pins s1 σ H1 _ I2 q1) fun u2 s2 ⟨y, H2, I3, r2, e, ks, b, ex, eb, q2⟩ => pairTrees_nil_walk ?_)
  subst ex
  cases r1
  obtain ⟨z, hd, xs, rel, dd⟩ := dt_of I3.hok e
  cases rel
  refine ⟨[(ks, b, u2)], ⟨rfl, rfl, L2.key_of I3.hok eb, trivial⟩, dd, fun h' tk dd' hs => wpAny_pure ?_⟩
  obtain ⟨o, es, ep, ho, hx, hdt, he, hi, hnd⟩ := dd'
  refine ⟨.ref s.heap.objs.size, upd H2 s.heap.objs.size (.dT [(ks, y)]), d_write I3 (by rw [e]; exact True.intro) hs ⟨o, ho⟩ (show ObjOk _ _ _ _ _ (.dT [(ks, y)]) from ⟨(show 1 ≤ sizeLine by decide), hd, [(ks, b, u2)], .cons ⟨rfl, ?_, r2⟩ .nil, o, es, ep, ho, hx, hdt, he, hnd⟩), rfl, q2⟩
  rw [upd_ne (ne_of eb e (fun z => nomatch z))]
  exact eb
theorem ex_disp1 [Imm F] {ks : List Int} {j : Nat} (hr : Room j X.A) (hk : ∀ H1, Same H0 H1 → PE X k (tE f1 (vT vI) H1 (Γ.map fun _ => .no) ks)) (hv : ∀ H1, Same H0 H1 → PE X v (tE f2 F H1 (Γ.map fun _ => .no) x)) : PE X (.Dict [some k] [v] pos) (tE true (vD F) H0 Γ [(ks, x)]) :=
  (pe_disp1 (Nat.lt_of_le_of_lt (Nat.le_add_right _ _) (hu_of hr)) (PE.ex (p := fun H1 => Same H0 H1) hk) (PE.ex (p := fun H1 => Same H0 H1) hv)).wk fun σ H Q ⟨g, q⟩ => fun p hp => by
    have g0 : ∀ H2, En H2 (Γ.map fun _ => .no) σ H2 := fun H2 => ⟨Same.refl _, by rw [List.length_map]; exact g.len, fun i s h => by
      rw [List.getElem?_map] at h
      obtain ⟨_, _, e⟩ := Option.map_eq_some_iff.mp h
      subst e
      trivial, fun i j s t p _ h1 _ o1 => by
      rw [List.getElem?_map] at h1
      obtain ⟨_, _, e⟩ := Option.map_eq_some_iff.mp h1
      subst e
      cases o1⟩
    have s1 : Same H (upd H p (.dT [])) := same_new hp
    refine ⟨upd H p (.dT []), g.same.trans s1, g0 _, fun w H2 s2 r2 _ => ⟨H2, (g.same.trans s1).trans s2, g0 _, fun u H3 s3 r3 _ => ?_⟩⟩
    have e3 : H3 p = some (.dT []) := s3 _ _ (s2 _ _ upd_same)
    obtain ⟨b, e4, e5⟩ := key_of ((vT vI).mono s3 r2)
    refine ⟨e3, ks.map Sum.inl, b, e4, e5, q _ _ ?_ ⟨p, _, rfl, upd_same, _, rfl, ⟨rfl, ?_⟩, trivial⟩ fun _ => ⟨p, rfl, hp⟩⟩
    · exact same_mut ((s1.trans s2).trans s3) hp
    · exact Imm.tu (tu_mut e3 (fun xs z => (nomatch z))) r3
end
end Gm
set_option Elab.async false
set_option linter.all false
set_option maxRecDepth 100000
set_option maxHeartbeats 4000000
namespace Gm
open PySem PySem.Spec PyProof.Rows L2
open PySem.W (EachIs AllAlike dataLe alike alikeAll)
def encR (ks : List Int) : PyData := .tuple (ks.map .int)
def sortT (xs : List (List Int)) : List (List Int) := xs.mergeSort (dataLe false encR)
theorem sortT_perm (xs : List (List Int)) : (sortT xs).Perm xs := List.mergeSort_perm _ _
theorem alike_ints : ∀ xs ys : List Int, alikeAll (xs.map PyData.int) (ys.map PyData.int) = true
  | [], _ => by simp [alikeAll]
  | _ :: _, [] => by simp [alikeAll]
  | x :: xs, y :: ys => by
    rw [List.map_cons, List.map_cons, alikeAll, alike_ints xs ys]
    simp [alike]
theorem alike_rows (xs ys : List Int) : alike (encR xs) (encR ys) = true := by
  unfold encR
  rw [alike]
  exact alike_ints xs ys
theorem depth_ints : ∀ xs : List Int, PyData.depthAll (xs.map PyData.int) = 0
  | [] => by simp [PyData.depthAll]
  | x :: xs => by
    rw [List.map_cons, PyData.depthAll, depth_ints xs]
    simp [PyData.depth]
theorem depth_row (xs : List Int) : (encR xs).depth = 1 := by
  unfold encR
  rw [PyData.depth, depth_ints]
theorem reads_ints {h : Heap} : ∀ {ks : List Int} {us : List Value}, Vals (ks.map V.int) us → ReadsAll h us (ks.map .int) []
  | [], _, r => by
    rw [List.map_nil] at r
    cases r
    exact .nil
  | k :: ks, _, r => by
    rw [List.map_cons] at r
    cases r with
    | cons h t =>
      obtain ⟨tk, rfl⟩ := h
      exact .cons (as := []) (bs := []) (.int k tk) (reads_ints t)
/-- the raw value v is the row b -/
def RowH (H : Hp) (v : Value) (b : List Int) : Prop := ∃ q, v = .ref q ∧ H q = some (.tup (b.map V.int))
section
variable {X : Cx} {pins : List (Addr × Obj)} {σ : HSt} {H : Hp} {s : Shared} {A : Around} {E : Value → Shared → Prop}
theorem RowH.reads (I : Inv X pins σ H s) {v : Value} {b : List Int} (r : RowH H v b) : Reads s.heap v (encR b) [] := by
  obtain ⟨q, rfl, hq⟩ := r
  obtain ⟨its, rv, ⟨o, ho, hc, n, hd⟩, _⟩ := I.tuple (X := X) (.inl (.inl hq))
  exact .tuple ho hc hd (by rw [List.toList_toArray]; exact reads_ints rv)
theorem rows_back {bs : List (List Int)} {vs : List Value} (e : EachIs (RowH H) vs bs) : ∃ ys : List V, Vals ys vs ∧ Al (vT vI).r bs ys H := by
  induction e with
  | nil => exact ⟨[], .nil, trivial⟩
  | cons r t ih =>
    obtain ⟨ys, h1, h2⟩ := ih
    obtain ⟨q, rfl, hq⟩ := r
    exact ⟨.ref q :: ys, .cons rfl h1, ⟨q, _, rfl, hq, of_ints _⟩, h2⟩
theorem rows_of {bs : List (List Int)} : ∀ {vs : List V} {us : List Value}, Al (vT vI).r bs vs H → Vals vs us → EachIs (RowH H) us bs := by
  induction bs with
  | nil =>
    intro vs us h r
    cases vs with
    | nil => cases r; exact .nil
    | cons => exact False.elim h
  | cons b bs ih =>
    intro vs us h r
    cases vs with
    | nil => exact False.elim h
    | cons v vs =>
      cases r with
      | cons r1 r2 =>
        obtain ⟨p, ws, rfl, h2, h3⟩ := h.1
        cases r1
        exact .cons ⟨p, rfl, by rw [h2, ints_of h3]⟩ (ih h.2 r2)
theorem swo_no {α : Type} : SrtO.Swo fun (_ _ : α) => false := ⟨fun _ _ h => (nomatch h), fun _ _ _ _ _ => rfl⟩
theorem perm_short {α : Type} {l m : List α} (p : l.Perm m) (h : m.length ≤ 1) : l = m := by
  match m, h with
  | [], _ => exact List.Perm.eq_nil p
  | [x], _ => exact List.perm_singleton.mp p
  | _ :: _ :: _, h => exact absurd h (by rw [List.length_cons, List.length_cons]; omega)
/-- xs.sort(), xs rows -/
theorem sort_rows {a : Addr} {n : Nat} {vs : List Value} {bs : List (List Int)} {Q : Value → Shared → Prop} (I : Inv X pins σ H s) (ho : s.heap.get? a = some (seqObj "list" vs.toArray n)) (e : EachIs (RowH H) vs bs) (h1 : (∀ b ∈ bs, b ≠ []) ∨ bs.length ≤ 1) (hL : bs.length ≤ sizeLine) (hu : A.units + 3 < cLine)
    (h : ∀ out : List Value, EachIs (RowH H) out (sortT bs) → Q .none { s with heap := sortedHeap s.heap a vs out.toArray }) : wpAny (model X.prog X.w) A (call (.builtin "list.sort") [.ref a]) Q E s := by
  by_cases h2 : bs.length ≤ 1
  · refine wpAny_call_entry slot_list_sort ⟨_, ho, rfl⟩ entry_list_sort (SrtO.list_sort_ord swo_no ho (by rw [e.length]; exact hL) (fun q => absurd q (by rw [e.length]; omega)) fun out _ hb => ⟨.none, rfl, ?_⟩) (args_list_sort _)
    have e1 : out = vs := perm_short hb.perm (by rw [e.length]; exact h2)
    have e2 : sortT bs = bs := perm_short (sortT_perm bs) h2
    rw [e1]
    refine h vs ?_
    rw [e2]
    exact e
  · have h3 : ∀ b ∈ bs, b ≠ [] := h1.resolve_right h2
    refine PySem.W.list_sort_data (enc := encR) ho e (e.mono fun v b r => ⟨[], r.reads I, fun m => nomatch m⟩) (fun d hd d' hd' => ?_) (.inl fun d hd => ?_) hL (fun b _ => by rw [depth_row]; omega) fun out _ eo => h out eo
    · obtain ⟨x, _, rfl⟩ := List.mem_map.mp hd
      obtain ⟨y, _, rfl⟩ := List.mem_map.mp hd'
      exact alike_rows x y
    · obtain ⟨b, hb, rfl⟩ := List.mem_map.mp hd
      cases b with
      | nil => exact absurd rfl (h3 _ hb)
      | cons x r => exact ⟨_, _, rfl⟩
/-- a list that is collected of rows, and sorted -/
theorem sorted_rows {vs : List Value} {bs : List (List Int)} {Q : Value → Shared → Prop} (I : Inv X pins σ H s) (e : EachIs (RowH H) vs bs) (h1 : (∀ b ∈ bs, b ≠ []) ∨ bs.length ≤ 1) (hL : bs.length ≤ sizeLine) (hu : A.units + 3 < cLine)
    (h : ∀ (ys : List V) (h' : Heap), Al (vT vI).r (sortT bs) ys H → Inv X pins σ (upd H s.heap.objs.size (.lst ys)) { s with heap := h' } → Q .none { s with heap := h' }) :
    wpAny (model X.prog X.w) A (call (.builtin "list.sort") [.ref s.heap.objs.size]) Q E { s with heap := s.heap.push (seqObj "list" vs.toArray 0) } := by
  have ho : (s.heap.push (seqObj "list" vs.toArray 0)).get? s.heap.objs.size = some (seqObj "list" vs.toArray 0) := Heap.get?_push_size _ rfl
  have I1 : Inv X pins σ H { s with heap := s.heap.push (seqObj "list" vs.toArray 0) } := I.kept (t' := s.toks) fun b u q => Heap.get?_push_of_some _ q
  refine sort_rows I1 ho e h1 hL hu fun out eo => ?_
  obtain ⟨ys, k1, k2⟩ := rows_back eo
  obtain ⟨ep, k3⟩ := sortedHeap_at (vs := vs) (out := out.toArray) ho
  refine h ys _ k2 (I.laid (t' := s.toks) (fun b u q => ?_) (Nat.le_refl _) (show ObjOk X.prog X.w _ _ _ (.lst ys) from ⟨?_, out, ep, k1, k3⟩))
  · have hb : b < s.heap.objs.size := Heap.lt_size q
    rw [sortedHeap_old (Nat.ne_of_lt hb) (by rw [size_push']; exact Nat.lt_succ_of_lt hb)]
    exact Heap.get?_push_of_some _ q
  · rw [k2.length, (sortT_perm bs).length_eq]
    exact hL
theorem ents_rows {es : Array DictEntry} {α : Type} {F : Rep α} {d : List (List Int × α)} {ws : List (List Key × V)} (h : Ents H es ws) (r : Al (DR F) d ws H) (i : Nat) (hi : i < d.length) : ∃ (e : DictEntry) (q : Addr), es[i]? = some e ∧ e.key = .ref q ∧ H q = some (.tup (d[i].1.map V.int)) := by
  obtain ⟨w, h1, h2⟩ := r.get (List.getElem?_eq_getElem hi)
  obtain ⟨e, q, k1, k2, k3, _⟩ := h.2 i w.1 w.2 h1
  refine ⟨e, q, k1, k2, ?_⟩
  rw [k3, h2.1, kV_inl]
theorem each_of {bs : List (List Int)} : ∀ {vs : List Value}, vs.length = bs.length → (∀ (i : Nat) (v : Value), vs[i]? = some v → RowH H v (bs.getD i [])) → EachIs (RowH H) vs bs := by
  induction bs with
  | nil =>
    intro vs hl _
    cases vs with
    | nil => exact .nil
    | cons => simp at hl
  | cons b bs ih =>
    intro vs hl h
    cases vs with
    | nil => simp at hl
    | cons v vs => exact .cons (h 0 v rfl) (ih (by simpa using hl) fun i u hu => h (i + 1) u (by simpa using hu))
end
section
variable {X : Cx}
/-- sorted(d), d a dict with rows as keys -/
theorem call_sortedDT {α : Type} {F : Rep α} (hc : X.calm = true) (hu : X.A.units + 64 < cLine) : CallR X (.builtin "sorted") (fun xs H Q => ∃ (d : List (List Int × α)), (∃ v, xs = [v] ∧ (vD F).r d v H) ∧ ((∀ b ∈ d.map (·.1), b ≠ []) ∨ d.length ≤ 1) ∧ d.length ≤ 100000 ∧
    ∀ (ys : List V) (p : Addr), Al (vT vI).r (sortT (d.map (·.1))) ys H → H p = none → Q (.ref p) (upd H p (.lst ys))) := by
  intro pins s σ H xs us Q I r h
  obtain ⟨d, ⟨v, rfl, a, o, rfl, ha, ws, rfl, hr⟩, h1, hL, q⟩ := h
  rw [Vals.ref1 r]
  obtain ⟨lo, hz, o, es, ep, ho, hx, hdt, en⟩ := raw_d I ha
  have hw := hr.length
  refine Calls.call_function_entry kind_sorted plain_sorted entry_sorted (args_sorted1 _) ?_
  unfold Builtin.«sorted»
  refine wpAny_bind (m := checkCount "sorted" 1 1 _) (wpAny_pure ?_)
  refine wpAny_bind (PySem.W.kdu_collect (A := X.A.in1) (kdl_raw lo hx hdt) (I.ok.hd hc) ho (by rw [en.1]; exact hz) fun h' tk acc hk hacc => ?_)
  have I1 : Inv X pins σ H { s with heap := h', toks := tk } := I.kept hk
  have ee : EachIs (RowH H) acc.toList (d.map (·.1)) := each_of (by rw [Array.length_toList, hacc.1, en.1, List.length_map, hw]) fun i v hv => by
    rw [Array.getElem?_toList] at hv
    have hi : i < d.length := by
      have z := (Array.getElem?_eq_some_iff.mp hv).1
      rw [hacc.1, en.1, hw] at z
      exact z
    obtain ⟨e1, q1, k1, k2, k3⟩ := ents_rows en hr i hi
    obtain ⟨e2, k4, k5⟩ := hacc.2 i v hv
    rw [k1] at k4
    cases k4
    rw [List.getD_eq_getElem?_getD, List.getElem?_map, List.getElem?_eq_getElem hi]
    exact ⟨q1, by rw [k5, k2], k3⟩
  have hl2 : acc.toList.length ≤ sizeLine := by rw [ee.length, List.length_map]; exact line_of hL
  refine wpAny_bind (wpAny_newList ?_ hl2)
  refine wpAny_bind (wpAny_holding (sorted_rows (s := { s with heap := h', toks := tk }) I1 ee (by rw [List.length_map]; exact h1) (by rw [List.length_map]; exact line_of hL) (show X.A.units + 1 + 3 < cLine by omega) fun ys h2 k1 k2 => wpAny_pure ⟨_, rfl, .ref h'.objs.size, _, k2, rfl, q ys _ k1 (I1.hok.fresh (Nat.le_refl _))⟩))
end
end Gm
set_option Elab.async false
set_option linter.all false
set_option maxRecDepth 100000
set_option maxHeartbeats 4000000
namespace Gm
open PySem PySem.Spec PyProof.Rows L2
open PySem.W (EachIs AllAlike dataLe alike alikeAll)
def sortI (xs : List Int) : List Int := xs.mergeSort fun a b => decide (a ≤ b)
theorem sortI_perm (xs : List Int) : (sortI xs).Perm xs := List.mergeSort_perm _ _
theorem sortI_le (xs : List Int) : (sortI xs).Pairwise (· ≤ ·) := by
  have h := List.pairwise_mergeSort (le := fun a b : Int => decide (a ≤ b)) (fun a b c h1 h2 => by simp only [decide_eq_true_eq] at *; omega) (fun a b => by simp only [Bool.or_eq_true, decide_eq_true_eq]; omega) xs
  exact h.imp fun {a b} q => by simpa using q
theorem sortI_uniq {xs ys : List Int} (p : ys.Perm xs) (h : ys.Pairwise (· ≤ ·)) : ys = sortI xs :=
  List.Perm.eq_of_pairwise (le := (· ≤ ·)) (fun a b _ _ h1 h2 => Int.le_antisymm h1 h2) h (sortI_le xs) (p.trans (sortI_perm xs).symm)
def lexP (p q : Int × Int) : Bool := decide (p.1 < q.1) || (decide (p.1 = q.1) && decide (p.2 ≤ q.2))
def sortP (xs : List (Int × Int)) : List (Int × Int) := xs.mergeSort lexP
theorem sortP_perm (xs : List (Int × Int)) : (sortP xs).Perm xs := List.mergeSort_perm _ _
theorem lexP_iff {p q : Int × Int} : lexP p q = true ↔ p.1 < q.1 ∨ (p.1 = q.1 ∧ p.2 ≤ q.2) := by
  unfold lexP
  simp
theorem sortP_le (xs : List (Int × Int)) : (sortP xs).Pairwise fun p q => lexP p q = true :=
  List.pairwise_mergeSort (le := lexP) (fun a b c h1 h2 => by rw [lexP_iff] at *; omega) (fun a b => by rw [Bool.or_eq_true, lexP_iff, lexP_iff]; omega) xs
theorem sortP_uniq {xs ys : List (Int × Int)} (p : ys.Perm xs) (h : ys.Pairwise fun p q => lexP p q = true) : ys = sortP xs :=
  List.Perm.eq_of_pairwise (le := fun p q => lexP p q = true) (fun a b _ _ h1 h2 => by rw [lexP_iff] at h1 h2; exact Prod.ext (by omega) (by omega)) h (sortP_le xs) (p.trans (sortP_perm xs).symm)
section
variable {X : Cx}
/-- sorted(xs), xs a list of rows -/
theorem call_sortedLT (hu : X.A.units + 64 < cLine) : CallR X (.builtin "sorted") (fun xs H Q => ∃ (d : List (List Int)), (∃ v, xs = [v] ∧ (vL (vT vI)).r d v H) ∧ ((∀ b ∈ d, b ≠ []) ∨ d.length ≤ 1) ∧ d.length ≤ 100000 ∧
    ∀ (ys : List V) (p : Addr), Al (vT vI).r (sortT d) ys H → H p = none → Q (.ref p) (upd H p (.lst ys))) := by
  intro pins s σ H xs us Q I r h
  obtain ⟨d, ⟨v, rfl, a, o, rfl, ha, ws, rfl, hr⟩, h1, hL, q⟩ := h
  rw [Vals.ref1 r]
  obtain ⟨its, rv, hl, hz⟩ := I.list (X := X) (.inl (.inl ha))
  have ee := rows_of hr rv
  have hl2 : its.length ≤ sizeLine := by rw [ee.length]; exact line_of hL
  refine Calls.call_function_entry kind_sorted plain_sorted entry_sorted (args_sorted1 _) ?_
  unfold Builtin.«sorted»
  refine wpAny_bind (m := checkCount "sorted" 1 1 _) (wpAny_pure ?_)
  refine wpAny_bind (collect_list hl.isList ?_ hl2)
  have I1 : Inv X pins σ H { s with heap := (s.heap.push (seqObj "list" #[] 0)).update s.heap.objs.size (Obj.mapSeq (· ++ its.toArray)) } := I.kept (t' := s.toks) fun b u q => by
    rw [Heap.get?_update_ne _ _ _ _ (Nat.ne_of_lt (Heap.lt_size q))]
    exact Heap.get?_push_of_some _ q
  refine wpAny_bind (wpAny_newList ?_ hl2)
  exact wpAny_bind (wpAny_holding (sorted_rows (s := { s with heap := (s.heap.push (seqObj "list" #[] 0)).update s.heap.objs.size (Obj.mapSeq (· ++ its.toArray)) }) I1 ee h1 (line_of hL) (show X.A.units + 1 + 3 < cLine by omega) fun ys h2 k1 k2 => wpAny_pure ⟨_, rfl, .ref _, _, k2, rfl, q ys _ k1 (I1.hok.fresh (Nat.le_refl _))⟩))
/-- sorted(d), d a dict with whole numbers as keys -/
theorem call_sortedDM (hc : X.calm = true) : CallR X (.builtin "sorted") (fun xs H Q => ∃ (d : List Int), (∃ v, xs = [v] ∧ vM.r d v H) ∧ d.length ≤ 100000 ∧
    ∀ p, H p = none → Q (.ref p) (upd H p (.lst ((sortI d).map V.int)))) := by
  intro pins s σ H xs us Q I r h
  obtain ⟨d, ⟨v, rfl, a, o, rfl, ha, ho⟩, hL, q⟩ := h
  cases (show o = _ from ho)
  rw [Vals.ref1 r]
  obtain ⟨hz, lo, vs, rel, dd⟩ := dk_of I.hok ha
  obtain ⟨ep, dat⟩ := dd.dictAt
  have hk : vs.map (·.1) = d.map Sum.inl := by
    rw [← rel.keys, List.map_map]
    rfl
  have hlen : vs.length = d.length := by simpa using congrArg List.length hk
  refine Calls.call_function_entry kind_sorted plain_sorted entry_sorted (args_sorted1 _) ?_
  unfold Builtin.«sorted»
  refine wpAny_bind (m := checkCount "sorted" 1 1 _) (wpAny_pure ?_)
  refine wpAny_bind (PySem.W.kdu_collect (A := X.A.in1) (PySem.W.kdl_dict (knd := mixKind X.prog X.w) (kvs := vs) (ep := ep) lo) (I.ok.hd hc) dat (by rw [hlen]; exact line_of hL) fun h' tk acc hk2 hacc => ?_)
  have I1 : Inv X pins σ H { s with heap := h', toks := tk } := I.kept hk2
  have hl1 : acc.toList.length = d.length := by rw [Array.length_toList, hacc.1, hlen]
  have ia : IntsAre acc.toList d := ints_each hl1 fun j u hu => by
    rw [Array.getElem?_toList] at hu
    obtain ⟨k, x, e1, e2⟩ := hacc.2 j u hu
    have e3 : (vs.map (·.1))[j]? = some k := by rw [List.getElem?_map, e1]; rfl
    rw [hk, List.getElem?_map] at e3
    obtain ⟨y, e4, e5⟩ := Option.map_eq_some_iff.mp e3
    subst e5
    obtain ⟨t, e6⟩ := Value.isInt_shape (k := y) (v := u) e2
    exact ⟨y, t, e4, e6⟩
  have hl2 : acc.toList.length ≤ sizeLine := by rw [hl1]; exact line_of hL
  refine wpAny_bind (wpAny_newList ?_ hl2)
  have hoL : (h'.push (seqObj "list" acc.toList.toArray 0)).get? h'.objs.size = some (seqObj "list" acc.toList.toArray 0) := Heap.get?_push_size _ rfl
  refine wpAny_bind (wpAny_holding (wpAny_call_entry (s := { s with heap := h'.push (seqObj "list" acc.toList.toArray 0), toks := tk }) slot_list_sort ⟨_, hoL, rfl⟩ entry_list_sort (list_sort_treeAny hoL ia hl2 fun out ys g1 g2 g3 => ⟨.none, rfl, wpAny_pure ⟨_, rfl, ?_⟩⟩) (args_list_sort _)))
  obtain ⟨e', he'⟩ := sortedHeap_at (vs := acc.toList) (out := out) hoL
  have ey : ys = sortI d := sortI_uniq g2 g3
  rw [← ey] at q
  refine ⟨.ref h'.objs.size, upd H h'.objs.size (.lst (ys.map V.int)), I1.laid (t' := tk) (fun b u e => ?_) (Nat.le_refl _) (show ObjOk X.prog X.w _ _ _ (.lst (ys.map V.int)) from ⟨by rw [List.length_map, g2.length_eq]; exact line_of hL, out.toList, e', vals_of_ints g1, by rw [Array.toArray_toList]; exact he'⟩), rfl, q _ (I1.hok.fresh (Nat.le_refl _))⟩
  have hb : b < h'.objs.size := Heap.lt_size e
  rw [sortedHeap_old (Nat.ne_of_lt hb) (by rw [size_push']; exact Nat.lt_succ_of_lt hb)]
  exact Heap.get?_push_of_some _ e
end
section
variable {X : Cx} {e a b c tg l iter elt : Expr} {es : List Expr} {rest body orelse : List Stmt} {pos p' : Pos} {H0 : Hp} {Γ Γ' : List Slot} {fr f1 f2 f3 : Bool}
variable {α β γ ι ρ : Type} {F : Rep α} {G : Rep β} {J : Rep γ} {x : α} {y : β} {z : γ}
theorem ex_sortD {p : Pos} {d : List (List Int × α)} {k : Nat} (hc : X.calm = true) (hr : Room k X.A) (hm : X.mg "sorted" = none) (ha : PE X a (tE f1 (vD F) H0 Γ d)) (h1 : ((∀ b ∈ d.map (·.1), b ≠ []) ∨ d.length ≤ 1) ∧ d.length ≤ 100000) (hg : Gl X "sorted" := by rfl)
    (he : starEach [a] X.env = (false, eval a X.env) :: starEach [] X.env := by rfl) (hpl : (backTo pos (starEach [] X.env)).any (·.1) = false := by rfl) : PE X (.Call (.Name "sorted" p) [a] [] pos) (tE true (vL (vT vI)) H0 Γ (sortT (d.map (·.1)))) :=
  (pe_callB (call_sortedDT (F := F) hc hr.units) hg hm boot_sorted (pa_cons ha pa_nil he) (by decide) (by decide) he hpl).wk fun σ H Q ⟨g, q⟩ => ⟨g, fun v H1 e1 r1 _ => ⟨d, ⟨v, rfl, r1⟩, h1.1, h1.2, fun ys p k1 hp => q _ _ (e1.trans (same_new hp)) ⟨p, _, rfl, upd_same, ys, rfl, al_new k1 hp⟩ fun _ => ⟨p, rfl, e1.free hp⟩⟩⟩
theorem ex_sortT {p : Pos} {d : List (List Int)} {k : Nat} (hr : Room k X.A) (hm : X.mg "sorted" = none) (ha : PE X a (tE f1 (vL (vT vI)) H0 Γ d)) (h1 : ((∀ b ∈ d, b ≠ []) ∨ d.length ≤ 1) ∧ d.length ≤ 100000) (hg : Gl X "sorted" := by rfl)
    (he : starEach [a] X.env = (false, eval a X.env) :: starEach [] X.env := by rfl) (hpl : (backTo pos (starEach [] X.env)).any (·.1) = false := by rfl) : PE X (.Call (.Name "sorted" p) [a] [] pos) (tE true (vL (vT vI)) H0 Γ (sortT d)) :=
  (pe_callB (call_sortedLT hr.units) hg hm boot_sorted (pa_cons ha pa_nil he) (by decide) (by decide) he hpl).wk fun σ H Q ⟨g, q⟩ => ⟨g, fun v H1 e1 r1 _ => ⟨d, ⟨v, rfl, r1⟩, h1.1, h1.2, fun ys p k1 hp => q _ _ (e1.trans (same_new hp)) ⟨p, _, rfl, upd_same, ys, rfl, al_new k1 hp⟩ fun _ => ⟨p, rfl, e1.free hp⟩⟩⟩
theorem ex_sortM {p : Pos} {d : List Int} (hc : X.calm = true) (hm : X.mg "sorted" = none) (ha : PE X a (tE f1 vM H0 Γ d)) (h1 : d.length ≤ 100000) (hg : Gl X "sorted" := by rfl)
    (he : starEach [a] X.env = (false, eval a X.env) :: starEach [] X.env := by rfl) (hpl : (backTo pos (starEach [] X.env)).any (·.1) = false := by rfl) : PE X (.Call (.Name "sorted" p) [a] [] pos) (tE true (vL vI) H0 Γ (sortI d)) :=
  (pe_callB (call_sortedDM hc) hg hm boot_sorted (pa_cons ha pa_nil he) (by decide) (by decide) he hpl).wk fun σ H Q ⟨g, q⟩ => ⟨g, fun v H1 e1 r1 _ => ⟨d, ⟨v, rfl, r1⟩, h1, fun p hp => q _ _ (e1.trans (same_new hp)) ⟨p, _, rfl, upd_same, _, rfl, of_ints _⟩ fun _ => ⟨p, rfl, e1.free hp⟩⟩⟩
/-! pairs -/
noncomputable def pairV (H : Hp) (v : V) : Int × Int := open Classical in if h : ∃ p : Int × Int, (vP vI vI).r p v H then h.choose else (0, 0)
theorem pairV_of {H : Hp} {v : V} {p : Int × Int} (h : (vP vI vI).r p v H) : pairV H v = p := by
  unfold pairV
  have ex : ∃ p : Int × Int, (vP vI vI).r p v H := ⟨p, h⟩
  rw [dif_pos ex]
  obtain ⟨q, v1, v2, h1, h2, h3, h4⟩ := ex.choose_spec
  obtain ⟨q', w1, w2, k1, k2, k3, k4⟩ := h
  rw [h1] at k1
  cases k1
  rw [h2] at k2
  cases k2
  have e1 : V.int _ = V.int _ := (show v1 = _ from h3).symm.trans (show v1 = _ from k3)
  have e2 : V.int _ = V.int _ := (show v2 = _ from h4).symm.trans (show v2 = _ from k4)
  exact Prod.ext (V.int.inj e1) (V.int.inj e2)
theorem pairs_map {H : Hp} : ∀ {xs : List (Int × Int)} {vs : List V}, Al (vP vI vI).r xs vs H → vs.map (pairV H) = xs
  | [], [], _ => rfl
  | [], _ :: _, h => False.elim h
  | _ :: _, [], h => False.elim h
  | x :: xs, v :: vs, h => by rw [List.map_cons, pairV_of h.1, pairs_map h.2]
theorem al_of {P : α → V → Hp → Prop} {H : Hp} {f : V → α} : ∀ {vs : List V}, (∀ v ∈ vs, P (f v) v H) → Al P (vs.map f) vs H
  | [], _ => trivial
  | v :: vs, h => ⟨h v List.mem_cons_self, al_of fun u hu => h u (List.mem_cons_of_mem _ hu)⟩
theorem ex_sortP {p : Pos} {xs : List (Int × Int)} (hm : X.mg "sorted" = none) (ha : PE X a (tE f1 (vL (vP vI vI)) H0 Γ xs)) (hg : Gl X "sorted" := by rfl)
    (he : starEach [a] X.env = (false, eval a X.env) :: starEach [] X.env := by rfl) (hpl : (backTo pos (starEach [] X.env)).any (·.1) = false := by rfl) : PE X (.Call (.Name "sorted" p) [a] [] pos) (tE true (vL (vP vI vI)) H0 Γ (sortP xs)) :=
  (pe_callB cr_sortedPO hg hm boot_sorted (pa_cons ha pa_nil he) (by decide) (by decide) he hpl).wk fun σ H Q ⟨g, q⟩ => ⟨g, fun v H1 e1 ⟨ad, o, h1, h2, vs, h3, h4⟩ _ => by
    have all : ∀ v ∈ vs, (vP vI vI).r (pairV H1 v) v H1 := fun v hv => by
      obtain ⟨i, hi⟩ := List.mem_iff_getElem?.mp hv
      obtain ⟨c, k1, k2⟩ := h4.get' hi
      rw [pairV_of k2]
      exact k2
    refine ⟨ad, vs, pairV H1, by rw [h1], SqL.of (by rw [h2, h3]), fun v hv => ?_, fun ys p hs hb hp => q _ _ (e1.trans (same_new hp)) ⟨p, _, rfl, upd_same, ys, rfl, ?_⟩ fun _ => ⟨p, rfl, e1.free hp⟩⟩
    · obtain ⟨t, v1, v2, k1, k2, k3, k4⟩ := all v hv
      exact ⟨t, k1, by rw [k2, show v1 = V.int _ from k3, show v2 = V.int _ from k4]⟩
    · refine al_new ?_ hp
      have z := al_of (P := (vP vI vI).r) (f := pairV H1) (H := H1) (vs := ys) fun v hv => all v (hb.perm.mem_iff.mp hv)
      have e2 : ys.map (pairV H1) = sortP xs := sortP_uniq (by rw [← pairs_map h4]; exact hb.perm.map _) (by
        rw [List.pairwise_map]
        refine List.Pairwise.imp (fun {u v} h => ?_) hs
        have z : SrtO.lexB (pairV H1 v) (pairV H1 u) = false := h
        rw [SrtO.lexB_no] at z
        rw [lexP_iff]
        omega)
      rw [e2] at z
      exact z⟩
/-- list(d), d a dict with rows as keys -/
theorem keys_rows {H : Hp} {d : List (List Int × α)} : ∀ {ws : List (List Key × V)} {bs : List Addr}, Al (DR F) d ws H → IsKeys H ws bs → Al (vT vI).r (d.map (·.1)) (bs.map V.ref) H := by
  induction d with
  | nil =>
    intro ws bs h r
    cases ws with
    | nil => cases r; exact trivial
    | cons => exact False.elim h
  | cons x d ih =>
    intro ws bs h r
    cases ws with
    | nil => exact False.elim h
    | cons y ws =>
      cases r with
      | @cons _ q _ qs r1 r2 => exact ⟨⟨q, _, rfl, by rw [r1, h.1.1, kV_inl], of_ints _⟩, ih h.2 r2⟩
theorem ex_listD {p : Pos} {d : List (List Int × α)} (hc : X.calm = true) (hm : X.mg "list" = none) (ha : PE X a (tE f1 (vD F) H0 Γ d)) (hg : Gl X "list" := by rfl)
    (he : starEach [a] X.env = (false, eval a X.env) :: starEach [] X.env := by rfl) (hpl : (backTo pos (starEach [] X.env)).any (·.1) = false := by rfl) : PE X (.Call (.Name "list" p) [a] [] pos) (tE true (vL (vT vI)) H0 Γ (d.map (·.1))) :=
  (pe_callTy (call_list_dT hc) hg hm boot_list (pa_cons ha pa_nil he) (by decide) (by decide) he hpl).wk fun σ H Q ⟨g, q⟩ => ⟨g, fun v H1 e1 ⟨ad, o, h1, h2, ws, h3, h4⟩ _ => ⟨ad, ws, by rw [h1], .inl (by rw [h2, h3]), fun p bs hp hk => q _ _ (e1.trans (same_new hp)) ⟨p, _, rfl, upd_same, _, rfl, al_new (keys_rows h4 hk) hp⟩ fun _ => ⟨p, rfl, e1.free hp⟩⟩⟩
end
end Gm
set_option Elab.async false
set_option linter.all false
set_option maxRecDepth 100000
set_option maxHeartbeats 4000000
namespace Gm
open PySem PySem.Spec PyProof.Rows L2
open PySem.W (EachIs AllAlike dataLe alike alikeAll)
section
variable {prog : Program} {w : World} {A : Around} {E : Value → Shared → Prop} {s : Shared}
theorem same_short {nm : String} {a b : Addr} {oa ob : Obj} {es es' : Array DictEntry} {ep ep' : Nat} {Q : Bool → Shared → Prop} (ha : (a == sysModules) = false) (hb : (b == sysModules) = false) (hoa : s.heap.get? a = some oa) (hda : oa.data = .dict es ep) (hob : s.heap.get? b = some ob) (hdb : ob.data = .dict es' ep') (hne : es.size ≠ es'.size) (h : Q false s) :
    wpAny (model prog w) A (Builtin.Dict.samePairs nm a b) Q E s := by
  unfold Builtin.Dict.samePairs Builtin.Dict.showsAll
  rw [if_neg (by rw [ha]; exact Bool.false_ne_true), if_neg (by rw [hb]; exact Bool.false_ne_true)]
  refine wpAny_bind (wpAny_pure (wpAny_bind (wpAny_pure (wpAny_bind (wpAny_dictEntries hoa hda ?_)))))
  dsimp only
  refine wpAny_bind (wpAny_dictEntries hob hdb ?_)
  rw [if_pos (by simpa using hne)]
  exact wpAny_bind (wpAny_rule (wpAny_pure h))
theorem ne_short {a b : Addr} {oa ob : Obj} {es es' : Array DictEntry} {ep ep' : Nat} {Q : Value → Shared → Prop} (ha : (a == sysModules) = false) (hb : (b == sysModules) = false) (hoa : s.heap.get? a = some oa) (xa : oa.ExactDict) (hda : oa.data = .dict es ep) (hob : s.heap.get? b = some ob) (xb : ob.ExactDict) (hdb : ob.data = .dict es' ep') (hne : es.size ≠ es'.size) (hu : A.units < cLine) (h : Q (.bool true) s) :
    wpAny (model prog w) A (compareOp .NotEq (.ref a) (.ref b)) Q E s := by
  have ta : s.TypeIs (.ref a) "dict" := ⟨oa, hoa, xa.1⟩
  have tb : s.TypeIs (.ref b) "dict" := ⟨ob, hob, xb.1⟩
  refine wpAny_richCompare_same_room (op := .NotEq) ta tb PySem.F.slot_dict_ne (wpAny_call_entry PySem.F.slot_dict_ne ta PySem.F.entry_dict_ne ?_ (PySem.F.args_dict_ne_2 _ _)) hu
  show wpAny _ _ (Builtin.Dict.dictSlotArgs "__ne__" ⟨[.ref a, .ref b], []⟩ >>= _) _ _ s
  unfold Builtin.Dict.dictSlotArgs
  refine wpAny_bind (wpAny_bind (wpAny_notOrdered_dict ta ?_))
  show wpAny _ _ (pure (Value.ref a, Value.ref b)) _ _ s
  refine wpAny_pure (wpAny_bind (wpAny_isInstance (T := "dict") tb PySem.F.sub_dict_dict ?_))
  simp only [Bool.not_true, Bool.false_eq_true, if_false]
  refine wpAny_bind (wpAny_pure (wpAny_bind (wpAny_pure (wpAny_bind (same_short ha hb hoa hda hob hdb hne (wpAny_pure ⟨_, rfl, fun x => (nomatch x), by simpa using h⟩))))))
theorem eq_short {a b : Addr} {oa ob : Obj} {es es' : Array DictEntry} {ep ep' : Nat} {Q : Value → Shared → Prop} (ha : (a == sysModules) = false) (hb : (b == sysModules) = false) (hoa : s.heap.get? a = some oa) (xa : oa.ExactDict) (hda : oa.data = .dict es ep) (hob : s.heap.get? b = some ob) (xb : ob.ExactDict) (hdb : ob.data = .dict es' ep') (hne : es.size ≠ es'.size) (hu : A.units < cLine) (h : Q (.bool false) s) :
    wpAny (model prog w) A (compareOp .Eq (.ref a) (.ref b)) Q E s := by
  have ta : s.TypeIs (.ref a) "dict" := ⟨oa, hoa, xa.1⟩
  have tb : s.TypeIs (.ref b) "dict" := ⟨ob, hob, xb.1⟩
  refine wpAny_richCompare_same_room (op := .Eq) ta tb PySem.F.slot_dict_eq (wpAny_call_entry PySem.F.slot_dict_eq ta PySem.F.entry_dict_eq ?_ (PySem.F.args_dict_eq_2 _ _)) hu
  show wpAny _ _ (Builtin.Dict.dictSlotArgs "__eq__" ⟨[.ref a, .ref b], []⟩ >>= _) _ _ s
  unfold Builtin.Dict.dictSlotArgs
  refine wpAny_bind (wpAny_bind (wpAny_notOrdered_dict ta ?_))
  show wpAny _ _ (pure (Value.ref a, Value.ref b)) _ _ s
  refine wpAny_pure (wpAny_bind (wpAny_isInstance (T := "dict") tb PySem.F.sub_dict_dict ?_))
  simp only [Bool.not_true, Bool.false_eq_true, if_false]
  refine wpAny_bind (wpAny_pure (wpAny_bind (wpAny_pure (wpAny_bind (same_short ha hb hoa hda hob hdb hne (wpAny_pure ⟨_, rfl, fun x => (nomatch x), by simpa using h⟩))))))
end
section
variable {X : Cx}
theorem empty_d {pins : List (Addr × Obj)} {σ : HSt} {H : Hp} {s : Shared} {a : Addr} (I : Inv X pins σ H s) (h : H a = some (.dT [])) : s.heap.DictOf (mixKind X.prog X.w) a [] := by
  obtain ⟨lo, hz, o, es, ep, ho, hx, hdt, en⟩ := raw_d I h
  have e : es = #[] := Array.eq_empty_of_size_eq_zero en.1
  subst e
  exact ⟨o, _, ep, ho, hx, hdt, fun e he => absurd he (by simp), .nil, List.nodup_nil⟩
def rNeE : R2 := fun x y H Q => ∃ a b ws, x = .ref a ∧ y = .ref b ∧ H a = some (.dT ws) ∧ H b = some (.dK []) ∧ Q (.bl (!ws.isEmpty)) H
def rEqE : R2 := fun x y H Q => ∃ a b ws, x = .ref a ∧ y = .ref b ∧ H a = some (.dT ws) ∧ H b = some (.dK []) ∧ Q (.bl ws.isEmpty) H
theorem op_neE (hu : X.A.units < cLine) : OpR X (compareOp .NotEq) rNeE := by
  intro pins s σ H x y v u Q I rx ry h
  obtain ⟨a, b, ws, rfl, rfl, ea, eb, q⟩ := h
  cases (show v = Value.ref a from rx)
  cases (show u = Value.ref b from ry)
  obtain ⟨_, hb, vb, rb, db⟩ := dk_of I.hok eb
  cases rb
  cases ws with
  | nil =>
    obtain ⟨ha, _⟩ := raw_d I ea
    exact PySem.W.keq_ne (knd := mixKind X.prog X.w) (r := true) ha hb (empty_d I ea) db hu (fun _ => .nil) (fin_bl I q (by simp))
  | cons p ws =>
    obtain ⟨ha, _, o, es, ep, ho, hx, hdt, en⟩ := raw_d I ea
    obtain ⟨ob, es', ep', hob, xb, hdb, _, pb, _⟩ := db
    have l := pb.length
    refine ne_short ha hb ho hx hdt hob xb hdb (fun e => ?_) hu (fin_bl I q (by simp))
    rw [Array.length_toList] at l
    rw [en.1, l] at e
    cases e
theorem op_eqE (hu : X.A.units < cLine) : OpR X (compareOp .Eq) rEqE := by
  intro pins s σ H x y v u Q I rx ry h
  obtain ⟨a, b, ws, rfl, rfl, ea, eb, q⟩ := h
  cases (show v = Value.ref a from rx)
  cases (show u = Value.ref b from ry)
  obtain ⟨_, hb, vb, rb, db⟩ := dk_of I.hok eb
  cases rb
  cases ws with
  | nil =>
    obtain ⟨ha, _⟩ := raw_d I ea
    exact PySem.W.keq_eq (knd := mixKind X.prog X.w) (r := true) ha hb (empty_d I ea) db hu (fun _ => .nil) (fin_bl I q (by simp))
  | cons p ws =>
    obtain ⟨ha, _, o, es, ep, ho, hx, hdt, en⟩ := raw_d I ea
    obtain ⟨ob, es', ep', hob, xb, hdb, _, pb, _⟩ := db
    have l := pb.length
    refine eq_short ha hb ho hx hdt hob xb hdb (fun e => ?_) hu (fin_bl I q (by simp))
    rw [Array.length_toList] at l
    rw [en.1, l] at e
    cases e
end
section
variable {X : Cx} {e a b c tg l iter elt : Expr} {pos p' : Pos} {H0 : Hp} {Γ Γ' : List Slot} {fr f1 f2 f3 : Bool}
variable {α β γ ι ρ : Type} {F : Rep α} {G : Rep β} {J : Rep γ} {x : α} {y : β} {z : γ}
theorem et_neE {d : List (List Int × α)} {k : Nat} {p2 : Pos} (hr : Room k X.A) (ha : PE X a (tE f1 (vD F) H0 Γ d)) : PT X (.Compare a [.NotEq] [.Dict [] [] p2] pos) (tT H0 Γ (!d.isEmpty)) :=
  et_cmp' (op_neE (Nat.lt_of_le_of_lt (Nat.le_add_right _ _) hr.units)) ha ex_dnewM (nomark _) fun v w H Q ⟨p, o, h1, h2, ws, h3, h4⟩ ⟨p2, o2, k1, k2, k3⟩ q => ⟨p, p2, ws, h1, k1, by rw [h2, h3], by rw [k2, show o2 = _ from k3]; rfl, q _ H (Same.refl H) (by
    show V.bl _ = V.bl _
    have e := h4.length
    cases ws <;> cases d <;> simp_all)⟩
theorem et_eqE {d : List (List Int × α)} {k : Nat} {p2 : Pos} (hr : Room k X.A) (ha : PE X a (tE f1 (vD F) H0 Γ d)) : PT X (.Compare a [.Eq] [.Dict [] [] p2] pos) (tT H0 Γ d.isEmpty) :=
  et_cmp' (op_eqE (Nat.lt_of_le_of_lt (Nat.le_add_right _ _) hr.units)) ha ex_dnewM (nomark _) fun v w H Q ⟨p, o, h1, h2, ws, h3, h4⟩ ⟨p2, o2, k1, k2, k3⟩ q => ⟨p, p2, ws, h1, k1, by rw [h2, h3], by rw [k2, show o2 = _ from k3]; rfl, q _ H (Same.refl H) (by
    show V.bl _ = V.bl _
    have e := h4.length
    cases ws <;> cases d <;> simp_all)⟩
/-! ### min(d) -/
def minT (ks : List (List Int)) : List Int := ks.getD (argBest (fun i j => PySem.W.dataLt ((ks.map encR).getD i .none) ((ks.map encR).getD j .none)) (ks.length - 1)) []
theorem reads_rows {X : Cx} {pins : List (Addr × Obj)} {σ : HSt} {H : Hp} {s : Shared} (I : Inv X pins σ H s) {vs : List Value} {bs : List (List Int)} (e : EachIs (RowH H) vs bs) : ReadsAll s.heap vs (bs.map encR) [] := by
  induction e with
  | nil => exact .nil
  | cons r t ih => exact .cons (as := []) (bs := []) (r.reads I) ih
theorem call_minD {X : Cx} {α : Type} {F : Rep α} (hc : X.calm = true) (hu : X.A.units + 64 < cLine) : CallR X (.builtin "min") (fun xs H Q => ∃ (d : List (List Int × α)), (∃ v, xs = [v] ∧ (vD F).r d v H) ∧ 0 < d.length ∧ ∀ v, (vT vI).r (minT (d.map (·.1))) v H → Q v H) := by
  intro pins s σ H xs us Q I r h
  obtain ⟨d, ⟨v, rfl, a, o, rfl, ha, ws, rfl, hr⟩, hL, q⟩ := h
  rw [Vals.ref1 r]
  obtain ⟨lo, hz, o, es, ep, ho, hx, hdt, en⟩ := raw_d I ha
  have hw := hr.length
  have hsz : es.size = d.length := by rw [en.1, hw]
  have ee : EachIs (RowH H) (es.map (·.key)).toList (d.map (·.1)) := each_of (by simp [hsz]) fun i v hv => by
    rw [Array.getElem?_toList, Array.getElem?_map] at hv
    obtain ⟨e0, he0, rfl⟩ := Option.map_eq_some_iff.mp hv
    have hi : i < d.length := by rw [← hsz]; exact (Array.getElem?_eq_some_iff.mp he0).1
    obtain ⟨e1, q1, k1, k2, k3⟩ := ents_rows en hr i hi
    rw [he0] at k1
    cases k1
    rw [List.getD_eq_getElem?_getD, List.getElem?_map, List.getElem?_eq_getElem hi]
    exact ⟨q1, k2, k3⟩
  have hread := reads_rows I ee
  have K := kdl_raw (prog := X.prog) (w := X.w) lo hx hdt
  obtain ⟨oI, St, hit, W, st⟩ := K.iter X.A.in1 s (I.ok.hd hc) ho
  have hlt : a < s.heap.objs.size := Heap.lt_size ho
  refine PySem.call_min_walkH (hit _ _ ⟨s.heap.objs.size, _, _, _, _, _, _, s.heap, fun i j => PySem.W.dataLt (((d.map (·.1)).map encR).getD i .none) (((d.map (·.1)).map encR).getD j .none), rfl, W.toS, st, fun b hb => ?_, by rw [hsz]; exact hL, fun b u e m => ?_, fun b u e => Heap.get?_push_of_some _ e, ?_, fun v s' hP m => ?_⟩)
  · show b < (s.heap.push _).objs.size
    rw [size_push']
    rcases List.mem_cons.mp hb with z | z
    · rw [z]; exact Nat.lt_succ_self _
    · rw [List.mem_singleton.mp z]; exact Nat.lt_succ_of_lt hlt
  · rw [List.mem_singleton.mp m] at e
    exact absurd (Heap.lt_size e) (Nat.lt_irrefl _)
  · have c := PySem.W.cmpIn_lt (prog := X.prog) (w := X.w) (A := X.A.in1) (s := s) hread ⟨fun x hx y hy => ?_, fun x hx => ?_⟩ (by
      show X.A.units + 1 + _ < cLine
      have : PyData.depthAll ((d.map (·.1)).map encR) ≤ 1 := by
        clear q hL hw ee hread hit W st K hr hsz
        generalize d.map (·.1) = l
        induction l with
        | nil => simp [PyData.depthAll]
        | cons x l ih =>
          rw [List.map_cons, PyData.depthAll, depth_row]
          omega
      omega)
    · intro i j vi vj s1 Q1 E1 hk hi hj hq
      refine c i j vi vj s1 Q1 E1 hk ?_ ?_ hq
      · obtain ⟨e1, k1, k2⟩ := hi
        rw [Array.getElem?_map, k1, k2]
        rfl
      · obtain ⟨e1, k1, k2⟩ := hj
        rw [Array.getElem?_map, k1, k2]
        rfl
    · obtain ⟨x', _, rfl⟩ := List.mem_map.mp hx
      obtain ⟨y', _, rfl⟩ := List.mem_map.mp hy
      exact alike_rows _ _
    · obtain ⟨x', _, rfl⟩ := List.mem_map.mp hx
      exact fun z => nomatch z
  · obtain ⟨h', tk, rfl, hk'⟩ := PySem.W.moved_old rfl rfl m
    obtain ⟨e1, k1, k2⟩ := hP
    have hi : argBest (fun i j => PySem.W.dataLt (((d.map (·.1)).map encR).getD i .none) (((d.map (·.1)).map encR).getD j .none)) (es.size - 1) < d.length := by
      rw [← hsz]
      exact (Array.getElem?_eq_some_iff.mp k1).1
    obtain ⟨e2, q1, k3, k4, k5⟩ := ents_rows en hr _ hi
    rw [k1] at k3
    cases k3
    refine ⟨.ref q1, H, I.kept (t' := tk) hk', by rw [k2, k4]; rfl, q _ ⟨q1, _, rfl, ?_, of_ints _⟩⟩
    rw [k5]
    unfold minT
    rw [List.length_map, ← hsz, List.getD_eq_getElem?_getD, List.getElem?_map, List.getElem?_eq_getElem hi]
    rfl
theorem ex_minD {p : Pos} {d : List (List Int × α)} {k : Nat} (hc : X.calm = true) (hr : Room k X.A) (hm : X.mg "min" = none) (ha : PE X a (tE f1 (vD F) H0 Γ d)) (h1 : 0 < d.length) (hg : Gl X "min" := by rfl)
    (he : starEach [a] X.env = (false, eval a X.env) :: starEach [] X.env := by rfl) (hpl : (backTo pos (starEach [] X.env)).any (·.1) = false := by rfl) : PE X (.Call (.Name "min" p) [a] [] pos) (tE false (vT vI) H0 Γ (minT (d.map (·.1)))) :=
  (pe_callB (call_minD (F := F) hc hr.units) hg hm boot_min (pa_cons ha pa_nil he) (by decide) (by decide) he hpl).wk fun σ H Q ⟨g, q⟩ => ⟨g, fun v H1 e1 r1 _ => ⟨d, ⟨v, rfl, r1⟩, h1, fun u hu => q u H1 e1 hu fre0⟩⟩
end
end Gm
set_option Elab.async false
set_option linter.all false
set_option maxRecDepth 100000
set_option maxHeartbeats 4000000
/-! a comprehension that makes a set of whole numbers -/
namespace Gm
open PySem PySem.Spec PyProof.Rows L2
section
variable {X : Cx} {elt tg iter : Expr} {ifs : List Expr} {scope : Scope} {own : List (PySem.Str × Nat)} {pos : Pos} {wi : TI} {g : TG} {tt : TT} {te : TE}
/-- D holds the numbers S, n of them -/
abbrev AtS (w : World) (D : Addr) (S : Int → Bool) (n : Nat) : HO := SetO w D S n
theorem put_set {pins : List (Addr × Obj)} {σ : HSt} {H : Hp} {s : Shared} {E : Value → Shared → Prop} {D : Addr} {S : Int → Bool} {n : Nat} {y : Int} {tk : Tok} {Q : Value → Shared → Prop} (J : Inv X pins σ H s) (e : H D = some (AtS X.w D S n)) (room : n + 1 < scanBound)
    (h : ∀ s1, Inv X pins σ (upd H D (AtS X.w D (fun j => S j || decide (j = y)) (if S y = true then n else n + 1))) s1 → Q .none s1) : wpAny (model X.prog X.w) X.A (call (.builtin "set.add") [.ref D, .int y tk]) Q E s :=
  setR_add (setO_get J e) room fun h1 sb new => h _ (J.write (e := D) (t' := s.toks + 1) (by rw [e]; trivial) (.inl rfl) (fun b u hb hu => (sb.2 b hb).trans hu) (let ⟨o, _, _, _, ho, _⟩ := new; ⟨o, ho⟩) (setO_new new))
/-- {elt for tg in iter if ..}: D the new set, W what holds ahead of each turn -/
def tSI (w : World) (wi : TI) (g : TG) (tt : TT) (te : TE) (vs : List Nat) : TE := fun σ H Q => wi σ H fun J H1 => ∀ D, H1 D = none → ∃ W : Nat → Nat → Hp → Prop, (∃ m, W 0 m (upd H1 D (AtS w D (fun _ => false) 0))) ∧ ∀ i m H, W i m H →
  (J.stop i H ∧ Q (.ref D) H) ∨ (J.go i H ∧ ∃ Nx : Hp → Prop, (∀ H', Nx H' → ∃ m', m' < m ∧ W (i + 1) m' H') ∧ ∀ x H', J.yld i H x H' → g x (wipe σ vs) H' fun σ2 H2 => wipe σ2 vs = wipe σ vs ∧ tt σ2 H2 fun b H3 =>
    if b = true then te σ2 H3 fun y H4 => ∃ (c : Int) (S : Int → Bool) (n : Nat), y = .int c ∧ H4 D = some (AtS w D S n) ∧ n + 1 < scanBound ∧ Nx (upd H4 D (AtS w D (fun j => S j || decide (j = c)) (if S c = true then n else n + 1))) else Nx H3)
theorem pe_si (hc : X.calm = true) (nd : X.N.Nodup) (hi : PI X tg iter wi) (ok : BlkOk X.N X.env.scope scope own) (hg : ∀ s H C cl fp, PG (Blk X scope s H C cl fp) tg g) (ht : ∀ s H C cl fp, PTs (Blk X scope s H C cl fp) ifs tt) (he : ∀ s H C cl fp, PE (Blk X scope s H C cl fp) elt te)
    (hs : ∀ x, foldedSetIterable iter X.env x = pure x := by intro _; rfl) : PE X (.SetComp elt [⟨tg, iter, ifs, 0⟩] scope pos) (tSI X.w wi g tt te (own.map (·.2))) := by
  refine ⟨fun pins s σ H Q I h => ?_⟩
  rw [PpSet.eval_SetComp]
  have cells : ∀ y ∈ scope.names, y.2 = .free → ∃ c, X.env.cells.lookup y.1 = some c := fun y hy e => (ok.free y hy e).elim (fun k => I.ok.has _ (.inl k)) fun k => I.ok.has _ (.inr k)
  refine wpAny_comprehension_free rfl hs (closure_ok cells) ok.kind (fun y hy e => by rw [ok.uniq y hy, e]) (thn (hi.run pins s σ H _ I h) fun _ _ a1 => thn a1 fun _ sA ⟨it, fp, tn, J, HA, eit, IA, T, stA, fA, qA⟩ => PpSet.newSet_ok (newEnv_comp ?_))
  subst eit
  -- the new set stands at D
  generalize eD : sA.heap.objs.size = D
  obtain ⟨W, ⟨m0, w0⟩, turn⟩ := qA D (IA.hok.fresh (Nat.le_of_eq eD))
  generalize eB : ({ sA with heap := sA.heap.push { cls := .type "set", dict := none, data := .set #[] 0 (.fresh 0 0 (!X.w.params.followText "set-order")) } } : Shared) = sB
  have pushB : sB.heap = sA.heap.push { cls := .type "set", dict := none, data := .set #[] 0 (.fresh 0 0 (!X.w.params.followText "set-order")) } := by rw [← eB]
  generalize eH : upd HA D (AtS X.w D (fun _ => false) 0) = HB at w0
  have IB : Inv X pins σ HB sB := by
    rw [← eB, ← eH]
    refine IA.laid (t' := sA.toks) (fun b o e => Heap.get?_push_of_some _ e) (Nat.le_of_eq eD) ?_
    rw [← eD]
    exact setO_new (setR_fresh X.w)
  have ltA : ∀ b ∈ fp, b < sA.heap.objs.size := fun b hb => let ⟨_, e, _⟩ := T.obj _ _ stA b hb; Heap.lt_size e
  have fB : ∀ b ∈ fp, FpOk X pins HB b ∧ b < sB.heap.objs.size := fun b hb => by
    refine ⟨⟨?_, (fA b hb).2⟩, by rw [pushB, Heap.size_push]; exact Nat.lt_succ_of_lt (ltA b hb)⟩
    rw [← eH, upd_ne (by rw [← eD]; exact Nat.ne_of_lt (ltA b hb))]
    exact (fA b hb).1
  have stB : tn 0 sB.heap := T.keep _ _ _ stA fun b _ o e => by rw [pushB]; exact Heap.get?_push_of_some _ e
  -- the block
  have IC := block_start IB ok nd fB
  have pg : PG (X.blk sB HB scope (compEnvC scope (cellsFrom (sB.heap.objs.size + 1) scope.names (cloFrom X.env.cells scope.names [])) sB.heap.objs.size X.env) fp) tg g := hg sB HB sB.heap.objs.size (cellsFrom (sB.heap.objs.size + 1) scope.names (cloFrom X.env.cells scope.names [])) fp
  have pt : PTs (X.blk sB HB scope (compEnvC scope (cellsFrom (sB.heap.objs.size + 1) scope.names (cloFrom X.env.cells scope.names [])) sB.heap.objs.size X.env) fp) ifs tt := ht sB HB sB.heap.objs.size (cellsFrom (sB.heap.objs.size + 1) scope.names (cloFrom X.env.cells scope.names [])) fp
  have pe : PE (X.blk sB HB scope (compEnvC scope (cellsFrom (sB.heap.objs.size + 1) scope.names (cloFrom X.env.cells scope.names [])) sB.heap.objs.size X.env) fp) elt te := he sB HB sB.heap.objs.size (cellsFrom (sB.heap.objs.size + 1) scope.names (cloFrom X.env.cells scope.names [])) fp
  show codeAny _ _ (.compStart (.SetComp elt [⟨tg, iter, ifs, 0⟩] scope pos) 0 (.ref it) (.ref D) (compEnvC scope (cellsFrom (sB.heap.objs.size + 1) scope.names (cloFrom X.env.cells scope.names [])) sB.heap.objs.size X.env)) _ { sB with heap := pushCells (sB.heap.push { cls := .type "dict", data := .dict #[] }) scope.names }
  generalize ece : compEnvC scope (cellsFrom (sB.heap.objs.size + 1) scope.names (cloFrom X.env.cells scope.names [])) sB.heap.objs.size X.env = ce at IC pg pt pe ⊢
  have loc : ce.locals = sB.heap.objs.size := by rw [← ece]; rfl
  generalize eC : ({ sB with heap := pushCells (sB.heap.push { cls := .type "dict", data := .dict #[] }) scope.names } : Shared) = sC at IC ⊢
  have stC : tn 0 sC.heap := T.keep _ _ _ stB fun b _ o e => by rw [← eC]; exact pushCells_keeps _ _ _ _ (Heap.get?_push_of_some _ e)
  have foot : ∀ {τ : L2.St} {Hx : Hp} {sx : Shared}, Inv (X.blk sB HB scope ce fp) [] τ Hx sx → (∀ b ∈ fp, Hx b = none) → ∀ b ∈ fp, FpOk (X.blk sB HB scope ce fp) [] Hx b := fun Ix hn b hb =>
    ⟨hn b hb, (Ix.ok.exf b hb).1, Ix.ok.exfs b hb, .inl hb, fun x c e => (Ix.ok.exf b hb).2 x c e, fun p hp => absurd (show p ∈ ([] : List (Addr × Obj)) ++ [] from hp) (by simp)⟩
  have go : codeAny (model X.prog X.w) X.A (.compLoop (.SetComp elt [⟨tg, iter, ifs, 0⟩] scope pos) 0 (.ref it) (.ref D) ce) (compPost (model X.prog X.w) X.A X.xe none (EP X pins σ Q) (.ref D) sB.heap.objs.size) sC := by
    refine PpSet.compLoopS_any (fun n sx => ∃ i Hx, Inv (X.blk sB HB scope ce fp) [] (wipe σ (own.map (·.2))) Hx sx ∧ tn i sx.heap ∧ (∀ b ∈ fp, Hx b = none) ∧ W i n Hx) ?_ m0 ⟨0, HB, IC, stC, fun b hb => (fB b hb).1.1, w0⟩
    rintro n sx ⟨i, Hx, Ix, stx, nx, wx⟩
    rcases turn i n Hx wx with ⟨stop, q⟩ | ⟨goes, Nx, less, step⟩
    · refine thnF (T.done (X.blk sB HB scope ce fp) rfl rfl rfl hc i [] sx _ Hx (fun _ _ => False) Ix (foot Ix nx) stx stop) fun r sy ⟨er, Iy⟩ => ?_
      subst er
      have Iz : Inv X pins σ Hx sy := IB.call' (ch := fp) Iy.os Iy.base Iy.hok Iy.bare fun b hb => let z := (fB b hb).1.2; ⟨z.2.2.1, z.1, z.2.2.2.1, z.2.2.2.2⟩
      have nC : Hx sB.heap.objs.size = none := loc ▸ (show Hx ce.locals = none from Iy.free)
      obtain ⟨m, hm, _⟩ := Iy.loc
      have hm2 : sy.heap.Ns sB.heap.objs.size m := loc ▸ (show sy.heap.Ns ce.locals m from hm)
      refine ⟨m, hm2, fun h2 sb => ?_⟩
      obtain ⟨f0, f1, f2, f3, f4, f5⟩ := IB.fpOk (Nat.le_refl _) nC
      exact ⟨.ref D, Hx, Iz.turned (t' := sy.toks) (fun b o hb e => (sb.2 b hb).trans e) f0 f1 f3 f4 f5, rfl, q⟩
    · refine thnF (T.item (X.blk sB HB scope ce fp) rfl rfl rfl hc i [] sx _ Hx (fun _ _ => False) Ix (foot Ix nx) stx goes) fun r sy ⟨u, er, hy⟩ => ?_
      subst er
      refine thnF hy fun _ sz ⟨x, Hz, Iz, rz, yz, stz, nz⟩ => ?_
      have Iz2 := Iz.pinned (foot Iz nz) (T.obj _ _ stz)
      refine thnF (pg.run _ sz _ Hz x u _ Iz2 rz (step x Hz yz)) fun _ s8 ⟨σ8, H8, I8, hw, q8⟩ => ?_
      refine thnF (pt.run _ s8 σ8 H8 _ I8 q8) fun b s9 ⟨H9, I9, q9⟩ => ?_
      have fin : ∀ {s' : Shared} {H' : Hp}, Inv (X.blk sB HB scope ce fp) ([] ++ pinsAt fp sz.heap) σ8 H' s' → Nx H' → ∃ m, m < n ∧ ∃ i Hx, Inv (X.blk sB HB scope ce fp) [] (wipe σ (own.map (·.2))) Hx s' ∧ tn i s'.heap ∧ (∀ b ∈ fp, Hx b = none) ∧ W i m Hx := fun {s' H'} I' h1 => by
        obtain ⟨m', hm, w'⟩ := less H' h1
        have still : ∀ b ∈ fp, ∀ o, sz.heap.get? b = some o → s'.heap.get? b = some o ∧ H' b = none := fun b hb o e =>
          let z := I'.pin (b, o) (List.mem_append_right _ (List.mem_append_right _ (mem_pinsAt hb e)))
          ⟨z.1, z.2.1⟩
        refine ⟨m', hm, i + 1, H', (I'.unpinned (pins := [])).weak (by rw [← hw, wipe_length]) (fun j v e => ?_), T.keep _ _ _ stz fun b hb o e => (still b hb o e).1, fun b hb => ?_, w'⟩
        · rw [← hw] at e
          exact (wipe_some e).1
        · obtain ⟨o, e, _⟩ := T.obj _ _ stz b hb
          exact (still b hb o e).2
      cases b with
      | false => exact fin I9 q9
      | true =>
        refine thnF (pe.run _ s9 σ8 H9 _ I9 q9) fun z s10 ⟨yv, H10, I10, r10, c, S0, n0, ey, eD2, hz10, h1⟩ => ?_
        subst ey
        obtain ⟨tk, ez⟩ := (show ∃ t, z = Value.int c t from r10)
        subst ez
        exact put_set (X := X.blk sB HB scope ce fp) I10 eD2 hz10 fun s11 I11 => fin I11 h1
  exact PpSet.codeAny_compStart_set go (T.self X.A 0 _ _ _ stC go)
end
end Gm
set_option Elab.async false
set_option linter.all false
set_option maxRecDepth 100000
set_option maxHeartbeats 4000000
namespace Gm
open PySem PySem.Spec PyProof.Rows L2
/-- a set of whole numbers -/
def vSet (w : World) : Rep (List Int) := ⟨fun xs v H => ∃ p S n, v = .ref p ∧ H p = some (SetO w p S n) ∧ (∀ k, S k = true ↔ k ∈ xs) ∧ n ≤ xs.length, fun e ⟨p, S, n, h1, h2, h3⟩ => ⟨p, S, n, h1, e _ _ h2, h3⟩⟩
def sortU (xs : List Int) : List Int := sortI (xs.foldl putM [])
theorem putM_mem (xs : List Int) (k j : Int) : j ∈ putM xs k ↔ j ∈ xs ∨ j = k := by
  unfold putM
  split
  · rename_i h
    exact ⟨.inl, fun z => z.elim id fun e => by rw [e]; exact h⟩
  · rw [List.mem_append, List.mem_singleton]
theorem putM_nodup {xs : List Int} {k : Int} (h : xs.Nodup) : (putM xs k).Nodup := by
  unfold putM
  split
  · exact h
  · rename_i hn
    rw [List.nodup_append]
    exact ⟨h, by simp, fun a ha b hb => by rw [List.mem_singleton.mp hb]; exact fun e => hn (e ▸ ha)⟩
theorem foldM_mem (ys : List Int) : ∀ (xs : List Int) (j : Int), j ∈ ys.foldl putM xs ↔ j ∈ xs ∨ j ∈ ys := by
  induction ys with
  | nil => intro xs j; simp
  | cons y ys ih =>
    intro xs j
    rw [List.foldl_cons, ih, putM_mem, List.mem_cons, or_assoc]
theorem foldM_nodup (ys : List Int) : ∀ (xs : List Int), xs.Nodup → (ys.foldl putM xs).Nodup := by
  induction ys with
  | nil => intro xs h; exact h
  | cons y ys ih => intro xs h; exact ih _ (putM_nodup h)
theorem foldM_len (ys : List Int) : ∀ (xs : List Int), (ys.foldl putM xs).length ≤ xs.length + ys.length := by
  induction ys with
  | nil => intro xs; simp
  | cons y ys ih =>
    intro xs
    have := ih (putM xs y)
    have := putM_len xs y
    simp only [List.foldl_cons, List.length_cons]
    omega
theorem sortU_mem (xs : List Int) (j : Int) : j ∈ sortU xs ↔ j ∈ xs := by
  unfold sortU
  rw [(sortI_perm _).mem_iff, foldM_mem]
  simp
theorem sortU_nodup (xs : List Int) : (sortU xs).Nodup := (sortI_perm _).nodup_iff.mpr (foldM_nodup xs [] List.nodup_nil)
theorem sortU_lt (xs : List Int) : (sortU xs).Pairwise (· < ·) := by
  have h1 := sortI_le (xs.foldl putM [])
  have h2 := sortU_nodup xs
  unfold sortU at h2 ⊢
  exact (h1.and h2).imp fun {a b} h => by omega
theorem lt_uniq : ∀ {xs ys : List Int}, xs.Pairwise (· < ·) → ys.Pairwise (· < ·) → (∀ k, k ∈ xs ↔ k ∈ ys) → xs = ys
  | [], [], _, _, _ => rfl
  | [], y :: ys, _, _, h => absurd ((h y).mpr List.mem_cons_self) (by simp)
  | x :: xs, [], _, _, h => absurd ((h x).mp List.mem_cons_self) (by simp)
  | x :: xs, y :: ys, h1, h2, h => by
    obtain ⟨a1, a2⟩ := List.pairwise_cons.mp h1
    obtain ⟨b1, b2⟩ := List.pairwise_cons.mp h2
    have e : x = y := by
      have p := (h x).mp List.mem_cons_self
      have q := (h y).mpr List.mem_cons_self
      rcases List.mem_cons.mp p with z | z
      · exact z
      · rcases List.mem_cons.mp q with z2 | z2
        · exact z2.symm
        · have := b1 _ z
          have := a1 _ z2
          omega
    subst e
    rw [lt_uniq a2 b2 fun k => ⟨fun hk => ?_, fun hk => ?_⟩]
    · rcases List.mem_cons.mp ((h k).mp (List.mem_cons_of_mem _ hk)) with z | z
      · have := a1 _ hk
        omega
      · exact z
    · rcases List.mem_cons.mp ((h k).mpr (List.mem_cons_of_mem _ hk)) with z | z
      · have := b1 _ hk
        omega
      · exact z
section
variable {J : It} {n : Nat} {G : Hp → Prop} {Y : Nat → Hp → V → Hp → Prop}
theorem si_it (w : Walk J n G Y) {u : World} {g : TG} {tt : TT} {te : TE} {vs : List Nat} {σ : HSt} {H1 : Hp} {D : Addr} {Qd : Hp → Prop} (Pv : Nat → Hp → Prop) (h0 : Pv 0 (upd H1 D (AtS u D (fun _ => false) 0))) (hG : ∀ i H, i ≤ n → Pv i H → G H)
    (hs : ∀ i x H H', i < n → Pv i H → Y i H x H' → g x (wipe σ vs) H' fun σ2 H2 => wipe σ2 vs = wipe σ vs ∧ tt σ2 H2 fun b H3 =>
      if b = true then te σ2 H3 fun y H4 => ∃ (c : Int) (S : Int → Bool) (m : Nat), y = .int c ∧ H4 D = some (AtS u D S m) ∧ m + 1 < scanBound ∧ Pv (i + 1) (upd H4 D (AtS u D (fun j => S j || decide (j = c)) (if S c = true then m else m + 1))) else Pv (i + 1) H3) (hd : ∀ H, Pv n H → Qd H) :
    ∃ W : Nat → Nat → Hp → Prop, (∃ m, W 0 m (upd H1 D (AtS u D (fun _ => false) 0))) ∧ ∀ i m H, W i m H →
      (J.stop i H ∧ Qd H) ∨ (J.go i H ∧ ∃ Nx : Hp → Prop, (∀ H', Nx H' → ∃ m', m' < m ∧ W (i + 1) m' H') ∧ ∀ x H', J.yld i H x H' → g x (wipe σ vs) H' fun σ2 H2 => wipe σ2 vs = wipe σ vs ∧ tt σ2 H2 fun b H3 =>
        if b = true then te σ2 H3 fun y H4 => ∃ (c : Int) (S : Int → Bool) (m : Nat), y = .int c ∧ H4 D = some (AtS u D S m) ∧ m + 1 < scanBound ∧ Nx (upd H4 D (AtS u D (fun j => S j || decide (j = c)) (if S c = true then m else m + 1))) else Nx H3) := by
  refine ⟨fun i m H => m = n - i ∧ i ≤ n ∧ Pv i H, ⟨n, (Nat.sub_zero n).symm, Nat.zero_le _, h0⟩, fun i m H ⟨em, hi, p⟩ => ?_⟩
  rcases Nat.lt_or_ge i n with h | h
  · exact .inr ⟨w.goes i H h (hG i H hi p), Pv (i + 1), fun H' p' => ⟨n - (i + 1), by omega, rfl, h, p'⟩, fun x H' y => hs i x H H' h p (w.yields i H x H' h (hG i H hi p) y)⟩
  · have e : i = n := Nat.le_antisymm hi h
    subst e
    exact .inl ⟨w.stops H (hG i H hi p), hd H p⟩
end
section
variable {X : Cx} {e a b c tg l iter elt : Expr} {pos p' : Pos} {H0 : Hp} {Γ Γ' : List Slot} {fr f1 f2 f3 : Bool}
variable {α β γ ι ρ : Type} {F : Rep α} {G : Rep β} {J : Rep γ} {x : α} {y : β} {z : γ}
/-- {elt for .. in ..} -/
theorem ex_si {scope : Scope} {own : List (Str × Nat)} {xs : List α} {f : α → Int} (Γb : α → List Slot) (hc : X.calm = true) (nd : X.N.Nodup) (hi : PI X tg iter (tWk F H0 Γ xs)) (ok : BlkOk X.N X.env.scope scope own)
    (hg : ∀ s H C cl fp H1 x, x ∈ xs → PG (Blk X scope s H C cl fp) tg (fun v σ H Q => En H1 (wipeG Γ (own.map (·.2))) σ H ∧ F.r x v H ∧ ∀ σ', En H1 (Γb x) σ' H → L2.wipe σ' (own.map (·.2)) = L2.wipe σ (own.map (·.2)) → Q σ' H))
    (he : ∀ s H C cl fp H1 x, Same H0 H1 → x ∈ xs → PE (Blk X scope s H C cl fp) elt (tE false vI H1 (Γb x) (f x))) (hl : xs.length ≤ 1000)
    (hs : ∀ x, foldedSetIterable iter X.env x = pure x := by intro _; rfl) : PE X (.SetComp elt [⟨tg, iter, [], 0⟩] scope pos) (tE true (vSet X.w) H0 Γ (xs.map f)) :=
  (pe_si (tt := rdT H0 xs Γb fun _ => true) hc nd hi ok (fun s H C cl fp => PG.ex (p := fun (z : Hp × α) => z.2 ∈ xs) fun z h => hg s H C cl fp z.1 z.2 h) (fun s H C cl fp => PTs.ex (p := fun (z : Hp × α) => Same H0 z.1 ∧ z.2 ∈ xs) fun z h => lt_nil)
    (fun s H C cl fp => PE.ex (p := fun (z : Hp × α) => Same H0 z.1 ∧ z.2 ∈ xs) fun z h => he s H C cl fp z.1 z.2 h.1 h.2) hs).wk fun σ H Q ⟨g, q⟩ => by
    refine ⟨g, fun J H1 Gp Y s w hG hY => fun D hD => ?_⟩
    have g1 := (g.mono s).rebase
    have s0 : Same H0 (bare Γ σ H1) := (g.mono s).bare_same
    have sw : ∀ H', Same H1 H' → Same (bare Γ σ H1) H' := fun H' h => bare_sub.trans h
    refine si_it w (fun i H' => Same H1 H' ∧ ∃ S n, H' D = some (AtS X.w D S n) ∧ (∀ k, S k = true ↔ k ∈ (xs.take i).map f) ∧ n ≤ i) ?_ ?_ ?_ ?_
    · exact ⟨same_new hD, _, 0, upd_same, fun k => by simp, Nat.le_refl _⟩
    · exact fun i H' _ h => hG H' (sw H' h.1)
    · intro i v H' H'' hi' h123 y
      obtain ⟨h1, S, n, h2, h3, h4⟩ := h123
      obtain ⟨s3, c, e1, e2⟩ := hY i H' v H'' hi' (sw H' h1) y
      have hm : c ∈ xs := List.mem_of_getElem? e1
      have gw : En (bare Γ σ H1) (wipeG Γ (own.map (·.2))) (L2.wipe σ (own.map (·.2))) H'' := (g1.mono (h1.trans s3)).wipe _
      refine ⟨(bare Γ σ H1, c), hm, gw, e2, fun σ2 g2 ew => ⟨by rw [ew, wipe_wipe], (bare Γ σ H1, c), ⟨s0, hm⟩, g2, fun H3 s4 => ?_⟩⟩
      show if true = true then _ else _
      rw [if_pos rfl]
      refine ⟨(bare Γ σ H1, c), ⟨s0, hm⟩, g2.mono s4, fun u H4 s5 r5 _ => ⟨f c, S, n, r5, (s3.trans (s4.trans s5)) _ _ h2, ?_, same_mut (((h1.trans s3).trans s4).trans s5) hD, _, _, upd_same, fun k => ?_, ?_⟩⟩
      · unfold scanBound
        omega
      · rw [Bool.or_eq_true, h3, decide_eq_true_eq, List.take_add_one, e1, List.map_append, List.mem_append]
        simp
      · split <;> omega
    · intro H' h123
      obtain ⟨h1, S, n, h2, h3, h4⟩ := h123
      rw [List.take_length] at h3
      exact q _ H' (s.trans h1) ⟨D, S, n, rfl, h2, h3, by rw [List.length_map]; exact h4⟩ fun _ => ⟨D, rfl, s.free hD⟩
theorem ex_sortS {p : Pos} {xs : List Int} (hc : X.calm = true) (hm : X.mg "sorted" = none) (ha : PE X a (tE f1 (vSet X.w) H0 Γ xs)) (h1 : xs.length < 64) (hg : Gl X "sorted" := by rfl)
    (he : starEach [a] X.env = (false, eval a X.env) :: starEach [] X.env := by rfl) (hpl : (backTo pos (starEach [] X.env)).any (·.1) = false := by rfl) : PE X (.Call (.Name "sorted" p) [a] [] pos) (tE true (vL vI) H0 Γ (sortU xs)) :=
  (pe_callB (cr_sortedSet hc) hg hm boot_sorted (pa_cons ha pa_nil he) (by decide) (by decide) he hpl).wk fun σ H Q ⟨g, q⟩ => ⟨g, fun v H1 e1 ⟨ad, S, n, k1, k2, k3, k4⟩ _ => ⟨ad, S, n, by rw [k1], k2, by omega, fun ns p m1 m2 m3 hp => by
    have e : ns = sortU xs := lt_uniq m1 (sortU_lt xs) fun k => by rw [m2, k3, sortU_mem]
    rw [e]
    exact q _ _ (e1.trans (same_new hp)) ⟨p, _, rfl, upd_same, _, rfl, of_ints _⟩ fun _ => ⟨p, rfl, e1.free hp⟩⟩⟩
/-- set(a row) -/
theorem cr_setT (hc : X.calm = true) : CallR X (.type "set") (fun xs H Q => ∃ (p : Addr) (ns : List Int), xs = [V.ref p] ∧ SqT X.K H p (ns.map V.int) ∧ ns.length ≤ 1000 ∧ ∀ d n, H d = none → n ≤ ns.length → Q (.ref d) (upd H d (SetO X.w d (fun j => decide (j ∈ ns)) n))) := by
  intro pins s σ H xs us Q I r h
  obtain ⟨p, ns, rfl, hq, hn, q⟩ := h
  rw [Vals.ref1 r]
  obtain ⟨its, rv, ht, hz⟩ := I.tuple hq
  refine call_set_tupI ns (I.ok.hd hc) ht (by simpa using rv.ints) (by unfold scanBound; omega) fun h' tk c R hcn k => ?_
  exact ⟨.ref _, upd H s.heap.objs.size (SetO X.w s.heap.objs.size (fun j => decide (j ∈ ns)) c), I.laid (t' := tk) k (Nat.le_refl _) (setO_new R), rfl, q _ c (I.hok.fresh (Nat.le_refl _)) hcn⟩
theorem ex_setT {p : Pos} {xs : List Int} (hc : X.calm = true) (hm : X.mg "set" = none) (ha : PE X a (tE f1 (vT vI) H0 Γ xs)) (h1 : xs.length ≤ 1000) (hg : Gl X "set" := by rfl)
    (he : starEach [a] X.env = (false, eval a X.env) :: starEach [] X.env := by rfl) (hpl : (backTo pos (starEach [] X.env)).any (·.1) = false := by rfl) : PE X (.Call (.Name "set" p) [a] [] pos) (tE true (vSet X.w) H0 Γ xs) :=
  (pe_callTy (cr_setT hc) hg hm boot_set (pa_cons ha pa_nil he) (by decide) (by decide) he hpl).wk fun σ H Q ⟨g, q⟩ => ⟨g, fun v H1 e1 ⟨ad, vs, k1, k2, k3⟩ _ => ⟨ad, xs, by rw [k1], SqT.of (by rw [k2, ints_of k3]), h1, fun d n hd hn => q _ _ (e1.trans (same_new hd)) ⟨d, _, n, rfl, upd_same, fun k => by simp, hn⟩ fun _ => ⟨d, rfl, e1.free hd⟩⟩⟩
end
end Gm
set_option Elab.async false
set_option linter.all false
set_option maxRecDepth 100000
set_option maxHeartbeats 4000000
namespace Gm
open PySem PySem.Spec PyProof.Rows L2
/-- just this value -/
def vRv (u : V) : Rep Unit := ⟨fun _ v _ => v = u, fun _ h => h⟩
instance {u : V} : Imm (vRv u) := ⟨fun _ h => h⟩
/-- a list that leans on what stands in Hc -/
def cLG {α : Type} (Hc : Hp) (F : Rep α) : Con (List α) := ⟨fun xs o _ => ∃ vs, o = .lst vs ∧ Al F.r xs vs Hc, fun _ h => h, fun ⟨vs, h1, _⟩ xs e => by
  rw [h1] at e
  cases e⟩
instance {α : Type} {Hc : Hp} {F : Rep α} : ImmC (cLG Hc F) := ⟨fun _ h => h⟩
section
variable {X : Cx} {e a b c tg l iter elt tg1 iter1 : Expr} {es : List Expr} {rest body orelse : List Stmt} {pos p' : Pos} {H0 : Hp} {Γ Γ' Γ1 Γ2 : List Slot} {fr f1 f2 f3 : Bool} {R : V → Hp → Prop} {N : HSt → Hp → Prop}
variable {α β γ ι ρ : Type} {F : Rep α} {G : Rep β} {J : Rep γ} {x : α} {y : β} {z : γ}
theorem ex_si0 {scope : Scope} {xs : List α} {f : α → Int} (own : List (Str × Nat)) (Γb : α → List Slot) (hc : X.calm = true) (nd : X.N.Nodup) (hi : PI X tg iter (tWk F H0 Γ xs)) (hg : ∀ s H C cl fp H1 x, x ∈ xs → PG (Blk X scope s H C cl fp) tg (tLg F H1 (wipeG Γ (own.map (·.2))) (Γb x) (own.map (·.2)) x))
    (he : ∀ s H C cl fp H1 x, Same H0 H1 → x ∈ xs → PE (Blk X scope s H C cl fp) elt (tE false vI H1 (Γb x) (f x))) (hl : xs.length ≤ 1000) (ok : BlkOk X.N X.env.scope scope own := by exact blkOk_by (by decide +kernel))
    (hs : ∀ x, foldedSetIterable iter X.env x = pure x := by intro _; rfl) : PE X (.SetComp elt [⟨tg, iter, [], 0⟩] scope pos) (tE true (vSet X.w) H0 Γ (xs.map f)) := ex_si Γb hc nd hi ok hg he hl hs
/-! ### two clauses -/
/-- what is not in the slots changes -/
theorem En.other {σ : HSt} {H : Hp} (g : En H0 Γ σ H) (hno : ∀ s ∈ Γ, s.own = false) {p : Addr} {o u : HO} (h0 : H0 p = none) (hp : H p = some o) (nt : ∀ xs, o ≠ .tup xs) : En H0 Γ σ (upd H p u) := by
  refine ⟨same_mut g.same h0, g.len, fun i s h => ?_, g.apart⟩
  have z := g.ok i s h
  have n := hno s (List.mem_of_getElem? h)
  cases s with
  | no => trivial
  | im P k =>
    obtain ⟨x, z1, z2⟩ := z
    exact ⟨x, z1, k _ _ _ (tu_mut hp nt) z2⟩
  | ge Hc P k => exact z
  | ow C k n2 => cases n
/-- what is walked, whatever becomes of the heap -/
def tWk0 (F : Rep α) (H0 : Hp) (Γ : List Slot) (xs : List α) : TI := fun σ H R => En H0 Γ σ H ∧ ∀ (J : It) (H1 : Hp) (Y : Nat → Hp → V → Hp → Prop), Same H H1 → Walk J xs.length (fun _ => True) Y → (∀ i H2 v H3, i < xs.length → Y i H2 v H3 → H3 = H2 ∧ ∃ x, xs[i]? = some x ∧ F.r x v H3) → R J H1
theorem wk0_range2 {lo n : Int} {p : Pos} (hm : X.mg "range" = none) (ha : PE X a (tE f1 vI H0 Γ lo)) (hb : PE X b (tE f2 vI H0 Γ n)) (hn : -100000 ≤ lo ∧ lo ≤ 100000 ∧ -100000 ≤ n ∧ n ≤ 100000) (hg : Gl X "range" := by rfl) (hs : starEach [a, b] X.env = [(false, eval a X.env), (false, eval b X.env)] := by rfl) (hs2 : starEach [b] X.env = [(false, eval b X.env)] := by rfl) :
    PI X tg (.Call (.Name "range" p) [a, b] [] pos) (tWk0 vI H0 Γ (rng lo (n - lo).toNat)) :=
  (pi_range2 hg hm (pa_cons ha (pa_cons hb pa_nil hs2) (by rw [hs, hs2])) hs hs2).wk fun σ H R ⟨g, q⟩ => ⟨g, fun v H1 s r _ => ⟨g.mono s, fun w H2 s2 r2 _ => ⟨lo, n, by rw [show v = V.int lo from r, show w = V.int n from r2], ⟨by omega, by omega, by omega, by omega⟩,
    q (Itr lo (n - lo).toNat) H2 (YFn fun i => .int (lo + i)) (s.trans s2) (by rw [rng_len]; exact walk_range) fun i H2 v H3 hi y => by
      obtain ⟨e, y⟩ := y
      rw [rng_len] at hi
      exact ⟨e, _, rng_get hi, y⟩⟩⟩⟩
theorem ss_lc2 [Imm J] {n : Str} {p2 : Pos} {scope : Scope} {xs : List α} {ys : α → List β} {f : α → β → γ} (i : Nat) (own : List (Str × Nat)) (vs1 : List Nat) (Γb : α → List Slot) (Γc : α → β → List Slot) (hc : X.calm = true) (nd : X.N.Nodup) (hi : PI X tg iter (tWk F H0 Γ xs))
    (hg : ∀ s H C cl fp H1 x, x ∈ xs → PG (Blk X scope s H C cl fp) tg (tLg F H1 (wipeG Γ (own.map (·.2))) (Γb x) (own.map (·.2)) x))
    (hi1 : ∀ s H C cl fp H1 x, x ∈ xs → PI (Blk X scope s H C cl fp) tg1 iter1 (tWk0 G H1 (Γb x) (ys x)))
    (hg1 : ∀ s H C cl fp H1 x y, x ∈ xs → y ∈ ys x → PG (Blk X scope s H C cl fp) tg1 (tLg G H1 (wipeG (Γb x) vs1) (Γc x y) vs1 y))
    (he : ∀ s H C cl fp H1 x y, x ∈ xs → y ∈ ys x → PE (Blk X scope s H C cl fp) elt (tE false J H1 (Γc x y) (f x y))) (hl : (xs.flatMap fun x => (ys x).map (f x)).length ≤ 100000)
    (hr : PSs X rest (tS H0 (Γ.set i (ow (cL J) (xs.flatMap fun x => (ys x).map (f x)))) R N)) (hv : ∀ i ∈ vs1, i ∈ own.map (·.2)) (hno : ∀ x, ∀ s ∈ Γb x, s.own = false) (ok : BlkOk X.N X.env.scope scope own)
    (hy : X.N[i]? = some n := by rfl) (hyl : X.env.scope.names.lookup n = some .local := by rfl) (hsw : swapsWith (.ListComp elt [⟨tg, iter, [], 0⟩, ⟨tg1, iter1, [], 0⟩] scope p2) (some (.Name n p')) pos.line X.env = pure true := by exact sw_true rfl rfl rfl (by decide +kernel))
    (hs : ∀ x, foldedSetIterable iter X.env x = pure x := by intro _; rfl) (hs1 : ∀ env x, foldedSetIterable iter1 env x = pure x := by intro _ _; rfl) : PSs X (.Assign [.Name n p'] (.ListComp elt [⟨tg, iter, [], 0⟩, ⟨tg1, iter1, [], 0⟩] scope p2) pos :: rest) (tS H0 Γ R N) := by
  refine ss_go (ps_setLc2 hc nd hy hyl hsw hi ok hv (fun s H C cl fp => PG.ex (p := fun (z : Hp × α) => z.2 ∈ xs) fun z h => hg s H C cl fp z.1 z.2 h) (fun s H C cl fp => PTs.ex (p := fun (z : Hp × α) => z.2 ∈ xs) (t := fun z => tT z.1 (Γb z.2) true) fun z h => lt_nil)
    (fun s H C cl fp => (show PI _ tg1 iter1 (fun σ H R => ∃ z : Hp × α, z.2 ∈ xs ∧ tWk0 G z.1 (Γb z.2) (ys z.2) σ H R) from ⟨fun pins s2 σ H2 R I ⟨z, hz, q⟩ => (hi1 s H C cl fp z.1 z.2 hz).run pins s2 σ H2 R I q⟩))
    (fun s H C cl fp => PG.ex (p := fun (z : Hp × α × β) => z.2.1 ∈ xs ∧ z.2.2 ∈ ys z.2.1) fun z h => hg1 s H C cl fp z.1 z.2.1 z.2.2 h.1 h.2) (fun s H C cl fp => PTs.ex (p := fun (z : Hp × α × β) => z.2.1 ∈ xs) (t := fun z => tT z.1 (Γc z.2.1 z.2.2) true) fun z h => lt_nil)
    (fun s H C cl fp => PE.ex (p := fun (z : Hp × α × β) => z.2.1 ∈ xs ∧ z.2.2 ∈ ys z.2.1) fun z h => he s H C cl fp z.1 z.2.1 z.2.2 h.1 h.2) hs hs1) hr fun D σ H g _ q => ?_
  have gg := g
  refine ⟨g, fun K H1 Gp Y s w hG hY => fun Dl hD => ?_⟩
  have g1 := (g.mono s).rebase
  have sw : ∀ H', Same H1 H' → Same (bare Γ σ H1) H' := fun H' h => bare_sub.trans h
  have hlen : ∀ (k : Nat) (c : α), xs[k]? = some c → ∀ j, j ≤ (ys c).length → ((xs.take k).flatMap fun x => (ys x).map (f x)).length + j ≤ 100000 := fun k c hk j hj => by
    have e1 : xs = xs.take k ++ c :: xs.drop (k + 1) := by
      have hlt := (List.getElem?_eq_some_iff.mp hk).1
      have e2 : xs[k] = c := (List.getElem?_eq_some_iff.mp hk).2
      rw [← e2, ← List.drop_eq_getElem_cons hlt, List.take_append_drop]
    rw [e1, List.flatMap_append, List.flatMap_cons, List.length_append, List.length_append, List.length_map] at hl
    omega
  refine ⟨fun k m H' => m = xs.length - k ∧ k ≤ xs.length ∧ Same H1 H' ∧ ∃ ws, H' Dl = some (.lst ws) ∧ Al J.r ((xs.take k).flatMap fun x => (ys x).map (f x)) ws H', ⟨xs.length, (Nat.sub_zero _).symm, Nat.zero_le _, same_new hD, [], upd_same, trivial⟩, fun k m H' ⟨em, hk, h1, ws, h2, h3⟩ => ?_⟩
  rcases Nat.lt_or_ge k xs.length with hlt | hge
  · refine .inr ⟨w.goes k H' hlt (hG H' (sw H' h1)), fun H'' => Same H1 H'' ∧ ∃ ws, H'' Dl = some (.lst ws) ∧ Al J.r ((xs.take (k + 1)).flatMap fun x => (ys x).map (f x)) ws H'', fun H'' h => ⟨xs.length - (k + 1), by omega, rfl, hlt, h⟩, fun v H'' y => ?_⟩
    obtain ⟨s3, c, e1, e2⟩ := hY k H' v H'' hlt (sw H' h1) (w.yields k H' v H'' hlt (hG H' (sw H' h1)) y)
    have hm : c ∈ xs := List.mem_of_getElem? e1
    have gw : En (bare Γ σ H1) (wipeG Γ (own.map (·.2))) (L2.wipe σ (own.map (·.2))) H'' := (g1.mono (h1.trans s3)).wipe _
    refine ⟨(bare Γ σ H1, c), hm, gw, e2, fun σ2 g2 ew => ⟨by rw [ew, wipe_wipe], (bare Γ σ H1, c), hm, g2, fun H3 s4 => ?_⟩⟩
    show if true = true then _ else _
    rw [if_pos rfl]
    refine ⟨(bare Γ σ H1, c), hm, g2.mono s4, fun J1 H4 Y1 s5 w1 hY1 => ?_⟩
    have h24 := (s3.trans (s4.trans s5)) _ _ h2
    have a24 := h3.map fun _ _ z => J.mono (s3.trans (s4.trans s5)) z
    have ht : (xs.take (k + 1)).flatMap (fun x => (ys x).map (f x)) = (xs.take k).flatMap (fun x => (ys x).map (f x)) ++ (ys c).map (f c) := by
      rw [List.take_add_one, e1, List.flatMap_append]
      simp
    -- the block's slots need only tuples and lists of one's own; the new list is none of these
    refine ⟨fun j m H5 => m = (ys c).length - j ∧ j ≤ (ys c).length ∧ Same H1 H5 ∧ En (bare Γ σ H1) (Γb c) σ2 H5 ∧ ∃ ws, H5 Dl = some (.lst ws) ∧ Al J.r ((xs.take k).flatMap (fun x => (ys x).map (f x)) ++ ((ys c).take j).map (f c)) ws H5, ⟨(ys c).length, (Nat.sub_zero _).symm, Nat.zero_le _, ((h1.trans s3).trans s4).trans s5, g2.mono (s4.trans s5), ws, h24, by simpa using a24⟩, fun j m H5 ⟨em1, hj, k1, gk, ws1, k2, k3⟩ => ?_⟩
    rcases Nat.lt_or_ge j (ys c).length with jlt | jge
    · refine .inr ⟨w1.goes j H5 jlt trivial, fun H6 => Same H1 H6 ∧ En (bare Γ σ H1) (Γb c) σ2 H6 ∧ ∃ ws, H6 Dl = some (.lst ws) ∧ Al J.r ((xs.take k).flatMap (fun x => (ys x).map (f x)) ++ ((ys c).take (j + 1)).map (f c)) ws H6, fun H6 h => ⟨(ys c).length - (j + 1), by omega, rfl, jlt, h⟩, fun v1 H6 y1 => ?_⟩
      obtain ⟨e6, d, d1, d2⟩ := hY1 j H5 v1 H6 jlt (w1.yields j H5 v1 H6 jlt trivial y1)
      subst e6
      have hmd : d ∈ ys c := List.mem_of_getElem? d1
      refine ⟨(bare Γ σ H1, c, d), ⟨hm, hmd⟩, gk.wipe vs1, d2, fun σ3 g3 ew3 => ⟨by rw [ew3, wipe_wipe], (bare Γ σ H1, c, d), hm, g3, fun H7 s7 => ?_⟩⟩
      show if true = true then _ else _
      rw [if_pos rfl]
      refine ⟨(bare Γ σ H1, c, d), ⟨hm, hmd⟩, g3.mono s7, fun u H8 s8 r8 _ => ⟨ws1, s8 _ _ (s7 _ _ k2), ?_, ?_, ?_, ws1 ++ [u], upd_same, ?_⟩⟩
      · rw [k3.length, List.length_append, List.length_map, List.length_take, Nat.min_eq_left (Nat.le_of_lt jlt)]
        have z := hlen k c e1 (j + 1) jlt
        exact line_lt (by omega)
      · exact same_mut ((k1.trans s7).trans s8) hD
      · exact (gk.mono (s7.trans s8)).other (hno c) (by
          cases z : bare Γ σ H1 Dl with
          | none => rfl
          | some o =>
            have z2 := bare_sub _ _ z
            rw [hD] at z2
            cases z2) (s8 _ _ (s7 _ _ k2)) (fun xs z => (nomatch z))
      · have ht2 : ((ys c).take (j + 1)).map (f c) = ((ys c).take j).map (f c) ++ [f c d] := by
          rw [List.take_add_one, d1, List.map_append]
          rfl
        rw [ht2, ← List.append_assoc]
        have t : Tu H8 (upd H8 Dl (.lst (ws1 ++ [u]))) := tu_mut (s8 _ _ (s7 _ _ k2)) (fun xs z => (nomatch z))
        exact (k3.map fun _ _ z => Imm.tu t (J.mono (s7.trans s8) z)).app ⟨Imm.tu t r8, trivial⟩
    · have ej : j = (ys c).length := Nat.le_antisymm hj jge
      subst ej
      rw [List.take_length] at k3
      exact .inl ⟨w1.stops H5 trivial, k1, ws1, k2, by rw [ht]; exact k3⟩
  · have ek : k = xs.length := Nat.le_antisymm hk hge
    subst ek
    rw [List.take_length] at h3
    refine .inl ⟨w.stops H' (hG H' (sw H' h1)), ?_⟩
    exact q _ _ (gg.set_ow (s.trans h1) (s.free hD) h2 ⟨ws, rfl, h3⟩)
end
end Gm
set_option Elab.async false
set_option linter.all false
set_option maxRecDepth 100000
set_option maxHeartbeats 4000000
namespace Gm
open PySem PySem.Spec PyProof.Rows L2
section
variable {X : Cx} {e a b c tg l iter elt tg1 iter1 : Expr} {es : List Expr} {rest body orelse : List Stmt} {pos p' : Pos} {H0 : Hp} {Γ Γ' Γ1 Γ2 : List Slot} {fr f1 f2 f3 : Bool} {R : V → Hp → Prop} {N : HSt → Hp → Prop}
variable {α β γ ι ρ : Type} {F : Rep α} {G : Rep β} {J : Rep γ} {x : α} {y : β} {z : γ}
/-! ### expressions that change what is one's own -/
def tX (F : Rep α) (H0 : Hp) (Γ Γ' : List Slot) (x : α) : TE := fun σ H Q => En H0 Γ σ H ∧ ∀ v H2, En H0 Γ' σ H2 → F.r x v H2 → Q v H2
theorem ex_asX (h : PE X e (tE fr F H0 Γ x)) : PE X e (tX F H0 Γ Γ x) := h.wk fun σ H Q ⟨g, q⟩ => ⟨g, fun v H2 s r _ => q v H2 (g.mono s) r⟩
theorem ss_imX [Imm F] {n : Str} (i : Nat) (nd : X.N.Nodup) (he : PE X e (tX F H0 Γ Γ' x)) (hr : PSs X rest (tS H0 (Γ'.set i (im F x)) R N)) (hi : X.N[i]? = some n := by rfl) (hx : Loc X.env.scope n := by first | exact Or.inl rfl | exact Or.inr rfl)
    (hs : swapsWith e (some (.Name n p')) pos.line X.env = pure false := by rfl) (hf : X.fn n = true ∨ X.env.scope.names.lookup n = some .local := by first | exact .inl rfl | exact .inr rfl | assumption) : PSs X (.Assign [.Name n p'] e pos :: rest) (tS H0 Γ R N) :=
  ss_go (ps_set nd hi hx he hs hf) hr fun D σ H g _ q => ⟨g, fun v H2 g2 r => q _ _ (g2.set_im r)⟩
theorem ss_tgtX (he : PE X e (tX F H0 Γ Γ1 x)) (hg : PG X tg (tGt F H0 Γ1 Γ' x)) (hr : PSs X rest (tS H0 Γ' R N)) (hs : swapsWithSole [tg] e pos.line X.env = pure false := by rfl) (hw : swappedStores [tg] e X.env = pure none := by rfl) (h1 : (assignEach [tg] X.env).map (·.2) = [assign tg X.env] := by rfl) : PSs X (.Assign [tg] e pos :: rest) (tS H0 Γ R N) :=
  ss_go (ps_asg he hg hs hw h1) hr fun D σ H g _ q => ⟨g, fun v H2 g2 r => ⟨g2, r, fun σ' g' => q _ _ g'⟩⟩
theorem ex_ifX {d : Bool} {t : Expr} (ht : PT X t (tT H0 Γ d)) (ha : d = true → PE X a (tX F H0 Γ Γ' x)) (hb : d = false → PE X b (tX F H0 Γ Γ' x)) : PE X (.IfExp t a b pos) (tX F H0 Γ Γ' x) := by
  cases d with
  | true => exact (pe_ifExp ht (ha rfl) pe_never).wk fun σ H Q ⟨g, q⟩ => ⟨g, fun H1 e1 => iteT ⟨g.mono e1, fun v H2 g2 r2 => q v H2 g2 r2⟩⟩
  | false => exact (pe_ifExp ht pe_never (hb rfl)).wk fun σ H Q ⟨g, q⟩ => ⟨g, fun H1 e1 => iteF ⟨g.mono e1, fun v H2 g2 r2 => q v H2 g2 r2⟩⟩
/-- xs.pop() -/
theorem ex_pop [Imm F] {xs : List α} {n : Str} {p2 p3 p4 : Pos} (i : Nat) (h : Γ[i]? = some (ow (cL F) xs)) (hl : xs[xs.length - 1]? = some x) (hN : X.N[i]? = some n := by rfl) (hv : Vis X.env.scope n := by first | exact Or.inl rfl | exact Or.inr (Or.inl rfl))
    (hd : (n == ("__debug__" : Str)) = false := by decide) (hcd : (n == ("__classdict__" : Str)) = false := by decide) (hbase : attributeBase (.Name n p2) "pop" X.env (eval (.Name n p2) X.env) = eval (.Name n p2) X.env := by rfl) (hline : (p3.endLine == p4.line) = true := by rfl) :
    PE X (.Call (.Attribute (.Name n p2) "pop" p3) [] [] p4) (tX F H0 Γ (Γ.set i (ow (cL F) xs.dropLast)) x) :=
  (pe_bm0 PySem.F.plainAttrs_list PySem.F.slot_list_pop PySem.F.type_list_pop mt_pop (pv i hN hv hd hcd) hbase hline).wk fun σ H Q ⟨g, q⟩ => by
    obtain ⟨p, o, h1, h2, h3, vs, h4, h5⟩ := g.ow h
    subst h4
    obtain ⟨v, k1, k2⟩ := h5.get hl
    have t : Tu H (upd H p (.lst vs.dropLast)) := tu_mut h3 (fun xs z => (nomatch z))
    refine ⟨_, h1, Or.inl ⟨rfl, _, SqL.of h3⟩, p, vs, v, rfl, rfl, h3, by rw [h5.length]; exact k1, q v _ (g.mut h h1 h3 ⟨vs, rfl, h5⟩ ⟨_, rfl, ?_⟩) (Imm.tu t k2)⟩
    have z := h5.take (xs.length - 1)
    rw [← List.dropLast_eq_take, show xs.length - 1 = vs.length - 1 by rw [h5.length], ← List.dropLast_eq_take] at z
    exact z.map fun _ _ w => Imm.tu t w
/-- xs.pop(0) -/
theorem ex_pop0 [Imm F] {xs : List α} {n : Str} {p2 p3 p4 p5 : Pos} {j : Nat} (i : Nat) (h : Γ[i]? = some (ow (cL F) (x :: xs))) (hN : X.N[i]? = some n := by rfl) (hv : Vis X.env.scope n := by first | exact Or.inl rfl | exact Or.inr (Or.inl rfl))
    (hd : (n == ("__debug__" : Str)) = false := by decide) (hcd : (n == ("__classdict__" : Str)) = false := by decide) (hbase : attributeBase (.Name n p2) "pop" X.env (eval (.Name n p2) X.env) = eval (.Name n p2) X.env := by rfl) (hline : (p3.endLine == p4.line) = true := by rfl)
    (hs : starEach [.Constant (.int 0) j p5] X.env = (false, eval (.Constant (.int 0) j p5) X.env) :: starEach [] X.env := by rfl)
    (hfew : ((backTo p4 (starEach [.Constant (.int 0) j p5] X.env)).all (fun x => !x.1) && (backToKw p4 (keywordEach [] X.env)).all (fun x => x.1.isSome) && decide (([.Constant (.int 0) j p5] : List Expr).length + ([] : List Keyword).length + (if ([] : List Keyword).isEmpty then 0 else 1) < 30)) = true := by rfl) :
    PE X (.Call (.Attribute (.Name n p2) "pop" p3) [.Constant (.int 0) j p5] [] p4) (tX F H0 Γ (Γ.set i (ow (cL F) xs)) x) :=
  (pe_bm PySem.F.plainAttrs_list PySem.F.slot_list_pop PySem.F.type_list_pop mt_popAt (pv i hN hv hd hcd) (pa_cons pe_int pa_nil hs) hbase hfew hline hs).wk fun σ H Q ⟨g, q⟩ => by
    obtain ⟨p, o, h1, h2, h3, vs, h4, h5⟩ := g.ow h
    subst h4
    cases vs with
    | nil => exact False.elim h5
    | cons v vs =>
      have t : Tu H (upd H p (.lst vs)) := tu_mut h3 (fun xs z => (nomatch z))
      exact ⟨_, h1, Or.inl ⟨rfl, _, SqL.of h3⟩, p, v :: vs, 0, 0, v, rfl, rfl, h3, by decide, by decide, by simp [seqIndex?], rfl, q v _ (g.mut h h1 h3 ⟨_, rfl, h5⟩ ⟨vs, rfl, h5.2.map fun _ _ w => Imm.tu t w⟩) (Imm.tu t h5.1)⟩
/-! ### values that lean on lists -/
theorem En.grow {σ : HSt} {H H2 : Hp} (g : En H0 Γ σ H) (hno : ∀ s ∈ Γ, s.own = false) (s : Same H H2) : En H2 Γ σ H2 := ⟨Same.refl _, g.len, fun j t h => by
    have w := g.ok j t h
    cases t with
    | no => trivial
    | im P k =>
      obtain ⟨u, w1, w2⟩ := w
      exact ⟨u, w1, k _ _ _ (tu_of s) w2⟩
    | ge Hc P k =>
      obtain ⟨u, w1, w2, w3⟩ := w
      exact ⟨u, w1, w2, w3.trans (g.same.trans s)⟩
    | ow C k n =>
      have z := hno _ (List.mem_of_getElem? h)
      exact (nomatch z), g.apart⟩
/-- what one's own holds may be said otherwise -/
theorem En.reC {σ : HSt} {H : Hp} {C C' : Addr → HO → Hp → Prop} {k n k' n'} {i : Nat} (g : En H0 Γ σ H) (hi : Γ[i]? = some (.ow C k n)) (h : ∀ p o, C p o H → C' p o H) : En H0 (Γ.set i (.ow C' k' n')) σ H := by
  have hl : i < Γ.length := (List.getElem?_eq_some_iff.mp hi).1
  have back : ∀ (j : Nat) (s : Slot), (Γ.set i (.ow C' k' n'))[j]? = some s → s.own = true → ∃ s', Γ[j]? = some s' ∧ s'.own = true := fun j s hs o => by
    by_cases e : i = j
    · subst e
      exact ⟨_, hi, rfl⟩
    · rw [List.getElem?_set_ne e] at hs
      exact ⟨s, hs, o⟩
  refine ⟨g.same, by rw [List.length_set]; exact g.len, fun j s hs => ?_, fun a b s t p hab h1 h2 o1 o2 e1 e2 => ?_⟩
  · by_cases e : i = j
    · subst e
      rw [List.getElem?_set_self hl] at hs
      cases hs
      obtain ⟨p, o, z1, z2, z3, z4⟩ := g.ok i _ hi
      exact ⟨p, o, z1, z2, z3, h _ _ z4⟩
    · rw [List.getElem?_set_ne e] at hs
      exact g.ok j s hs
  · obtain ⟨s', a1, a2⟩ := back a s h1 o1
    obtain ⟨t', b1, b2⟩ := back b t h2 o2
    exact g.apart a b s' t' p hab a1 b1 a2 b2 e1 e2
/-- a, b = x, y where x leans on lists and nothing is one's own -/
theorem ss_parG [Imm G] {n m : Str} {px py pt : Pos} {kt k2 : Nat} {pt2 : Pos} (i j : Nat) (hno : ∀ s ∈ Γ, s.own = false) (hc : X.calm = true) (nd : X.N.Nodup) (ha : PE X a (tE f1 F H0 Γ x)) (hb : PE X b (tE f2 G H0 Γ y)) (hr : ∀ H1, Same H0 H1 → PSs X rest (tS H1 ((Γ.set i (ge F H1 x)).set j (im G y)) R N)) (hi : X.N[i]? = some n := by rfl) (hj : X.N[j]? = some m := by rfl) (hij : i ≠ j := by decide)
    (hx : X.env.scope.names.lookup n = some .local := by rfl) (hy : X.env.scope.names.lookup m = some .local := by rfl) (hw : swappedStores [.Tuple [.Name n px, .Name m py] kt pt] (.Tuple [a, b] k2 pt2) X.env = pure (some [n, m]) := by rfl)
    (hs : swapsWithSole [.Tuple [.Name n px, .Name m py] kt pt] (.Tuple [a, b] k2 pt2) pos.line X.env = pure false := by rfl) (he : starEach [a, b] X.env = (false, eval a X.env) :: starEach [b] X.env := by rfl) (he2 : starEach [b] X.env = (false, eval b X.env) :: starEach [] X.env := by rfl) :
    PSs X (.Assign [.Tuple [.Name n px, .Name m py] kt pt] (.Tuple [a, b] k2 pt2) pos :: rest) (tS H0 Γ R N) :=
  ss_go' (Γ' := fun H1 => (Γ.set i (ge F H1 x)).set j (im G y)) (ps_par hc nd hi hj hij hx hy (pa_cons ha (pa_cons hb pa_nil he2) he) hw hs) hr fun D σ H g _ q => ⟨g, fun v H1 e1 r1 _ => ⟨g.mono e1, fun w H2 e2 r2 _ => ⟨v, w, rfl, by
    refine q H2 _ _ (g.same.trans (e1.trans e2)) (En.set_im (En.set_ge (H0 := H2) (Hc := H2) (g.grow hno (e1.trans e2)) (F.mono e2 r1) (Same.refl _)) r2)⟩⟩⟩
theorem ss_tgtG [Imm G] {n m : Str} {k : Nat} {p1 p2 p3 : Pos} {p : α × β} (i j : Nat) (hno : ∀ s ∈ Γ, s.own = false) (hc : X.calm = true) (nd : X.N.Nodup) (he : PE X e (tE fr (vP F G) H0 Γ p)) (hr : ∀ H1, Same H0 H1 → PSs X rest (tS H1 ((Γ.set i (ge F H1 p.1)).set j (im G p.2)) R N)) (hi : X.N[i]? = some n := by rfl) (hj : X.N[j]? = some m := by rfl) (hx : Loc X.env.scope n := by first | exact Or.inl rfl | exact Or.inr rfl) (hy : Loc X.env.scope m := by first | exact Or.inl rfl | exact Or.inr rfl)
    (hf : X.fn n = true ∨ X.env.scope.names.lookup n = some .local := by first | exact .inl rfl | exact .inr rfl | assumption) (hf2 : X.fn m = true ∨ X.env.scope.names.lookup m = some .local := by first | exact .inl rfl | exact .inr rfl | assumption)
    (hs : swapsWithSole [.Tuple [.Name n p1, .Name m p2] k p3] e pos.line X.env = pure false := by rfl) (hw : swappedStores [.Tuple [.Name n p1, .Name m p2] k p3] e X.env = pure none := by rfl) (h1 : (assignEach [.Tuple [.Name n p1, .Name m p2] k p3] X.env).map (·.2) = [assign (.Tuple [.Name n p1, .Name m p2] k p3) X.env] := by rfl) :
    PSs X (.Assign [.Tuple [.Name n p1, .Name m p2] k p3] e pos :: rest) (tS H0 Γ R N) :=
  ss_go' (Γ' := fun H1 => (Γ.set i (ge F H1 p.1)).set j (im G p.2)) (ps_asg he (pg_tup hc (pgs_cons (pg_name nd hi hx hf) (pgs_cons (pg_name nd hj hy hf2) pgs_nil))) hs hw h1) hr fun D σ H g _ q => ⟨g, fun v H2 s ⟨ad, v1, v2, k1, k2, k3, k4⟩ _ =>
    ⟨ad, _, k1, SqT.of k2, rfl, v1, _, rfl, v2, _, rfl, rfl, q H2 _ _ (g.same.trans s) (En.set_im (En.set_ge (H0 := H2) (Hc := H2) (g.grow hno s) k3 (Same.refl _)) k4)⟩⟩
theorem ss_raw {sts : List Stmt} {Hc : Hp} (i : Nat) (h : Γ[i]? = some (ge F Hc x)) (hr : ∀ v, F.r x v Hc → Same Hc H0 → PSs X sts (tS H0 (Γ.set i (im (vRv v) ())) R N)) : PSs X sts (tS H0 Γ R N) :=
  (PSs.ex (p := fun v => F.r x v Hc ∧ Same Hc H0) (t := fun v => tS H0 (Γ.set i (im (vRv v) ())) R N) fun v q => hr v q.1 q.2).wk fun D σ H ⟨g, q1, q2⟩ => by
    obtain ⟨v, h1, h2, h3⟩ := g.ok i _ h
    refine ⟨v, ⟨h2, h3⟩, ?_, q1, q2⟩
    have z := g.set_im (i := i) (P := (vRv v).r ()) (k := fun _ _ _ _ h => h) (x := v) rfl
    rw [set_same (getD_some h1)] at z
    exact z
theorem ex_ixRaw {p : Addr} {vs : List V} {u : V} {i : Int} (ha : PE X a (tE f1 (vRv (.ref p)) H0 Γ ())) (hb : PE X b (tE f2 vI H0 Γ i)) (hp : H0 p = some (.lst vs)) (h : atI vs i = some u) (hs : PlainIx b := by exact fun _ _ => rfl) : PE X (.Subscript a b pos) (tE false (vRv u) H0 Γ ()) :=
  (pe_ix ix_list ha hb hs).wk fun σ H Q ⟨g, q⟩ => ⟨g, fun v H1 e1 r1 _ => ⟨g.mono e1, fun w H2 e2 r2 _ => ⟨p, vs, i, u, r1, r2, SqL.of ((g.same.trans (e1.trans e2)) _ _ hp), h, q u H2 (e1.trans e2) rfl fre0⟩⟩⟩
theorem ex_nilG {Hc : Hp} : PE X (.List [] pos) (tE true (vC (cLG Hc F)) H0 Γ []) :=
  (pe_lst pa_nil).wk fun σ H Q ⟨g, q⟩ => ⟨Nat.zero_le _, fun p hp => q _ _ (same_new hp) ⟨p, _, rfl, upd_same, [], rfl, trivial⟩ fun _ => ⟨p, rfl, hp⟩⟩
/-- append of what leans on lists, all of which is given by now -/
theorem ss_appG {Hc : Hp} {xs : List α} {n : Str} {p2 p3 p4 : Pos} (i : Nat) (h : Γ[i]? = some (ow (cLG Hc F) xs)) (hH : Same Hc H0) (he : PE X e (fun σ H Q => En H0 Γ σ H ∧ ∀ v, F.r x v H0 → Q v H)) (hl : xs.length < 100000) (hr : PSs X rest (tS H0 (Γ.set i (ow (cLG H0 F) (xs ++ [x]))) R N)) (hN : X.N[i]? = some n := by rfl) (hv : Vis X.env.scope n := by first | exact Or.inl rfl | exact Or.inr (Or.inl rfl))
    (hd : (n == ("__debug__" : Str)) = false := by decide) (hcd : (n == ("__classdict__" : Str)) = false := by decide)
    (hbase : attributeBase (.Name n p2) "append" X.env (eval (.Name n p2) X.env) = eval (.Name n p2) X.env := by rfl) (hline : (p3.endLine == p4.line) = true := by rfl) (hs : starEach [e] X.env = (false, eval e X.env) :: starEach [] X.env := by rfl)
    (hfew : ((backTo p4 (starEach [e] X.env)).all (fun x => !x.1) && (backToKw p4 (keywordEach [] X.env)).all (fun x => x.1.isSome) && decide ([e].length + ([] : List Keyword).length + (if ([] : List Keyword).isEmpty then 0 else 1) < 30)) = true := by rfl)
    (hsw : swapsWith (.Call (.Attribute (.Name n p2) "append" p3) [e] [] p4) none pos.line X.env = pure false := by rfl) : PSs X (.Expr (.Call (.Attribute (.Name n p2) "append" p3) [e] [] p4) pos :: rest) (tS H0 Γ R N) :=
  ss_go (ps_expr (pe_bm PySem.F.plainAttrs_list PySem.F.slot_list_append PySem.F.type_list_append mt_append (pv i hN hv hd hcd) (pa_cons he pa_nil hs) hbase hfew hline hs) hsw) hr fun D σ H g _ q => by
    obtain ⟨p, o, h1, h2, h3, vs, h4, h5⟩ := g.ow h
    subst h4
    refine ⟨_, h1, Or.inl ⟨rfl, _, SqL.of h3⟩, g, fun v r => ⟨p, vs, v, rfl, rfl, h3, by rw [h5.length]; exact line_lt hl, q _ _ (g.mut h h1 h3 ⟨vs, rfl, h5⟩ ⟨_, rfl, ?_⟩)⟩⟩
    exact (h5.map fun _ _ q => F.mono hH q).app ⟨r, trivial⟩
theorem ex_geH {z : Str} (i : Nat) (h : Γ[i]? = some (ge F H0 x) := by rfl) (hN : X.N[i]? = some z := by rfl) (hv : Vis X.env.scope z := by first | exact Or.inl rfl | exact Or.inr (Or.inl rfl) | exact Or.inr (Or.inr rfl))
    (hd : (z == ("__debug__" : Str)) = false := by decide) (hcd : (z == ("__classdict__" : Str)) = false := by decide) : PE X (.Name z pos) (fun σ H Q => En H0 Γ σ H ∧ ∀ v, F.r x v H0 → Q v H) :=
  (pv i hN hv hd hcd).wk fun σ H Q ⟨G, q⟩ => by
    obtain ⟨v, h1, h2, h3⟩ := G.ge h
    exact ⟨v, h1, q v h2⟩
theorem ss_retOG {Hc He : Hp} {xs xs' : List α} {n : Str} {p2 : Pos} (i : Nat) (h : Γ[i]? = some (ow (cLG Hc F) xs')) (hH : Same Hc H0) (q : xs' = xs) (s : Same He H0) (hN : X.N[i]? = some n := by rfl) (hv : Vis X.env.scope n := by first | exact Or.inl rfl | exact Or.inr (Or.inl rfl))
    (hd : (n == ("__debug__" : Str)) = false := by decide) (hcd : (n == ("__classdict__" : Str)) = false := by decide) : PSs X (.Return (some (.Name n p2)) pos :: rest) (tS H0 Γ (Rt true (vL F) He xs) N) := by
  subst q
  exact (pss_cons (ps_ret (pv i hN hv hd hcd)) pss_never).wk fun D σ H ⟨g, q1, _⟩ => by
    obtain ⟨p, o, h1, h2, h3, vs, h4, h5⟩ := g.ow h
    exact ⟨_, h1, q1 _ H g.same ⟨⟨p, o, rfl, h3, vs, h4, h5.map fun _ _ w => F.mono (hH.trans g.same) w⟩, fun _ => ⟨p, rfl, s.free h2⟩⟩⟩
/-- a loop whose slots lean on a heap that grows -/
theorem ss_forH {xs : List α} (Γi : Hp → Nat → List Slot) (Γb : Hp → Nat → α → List Slot) (hp : PassesOwn (model X.prog X.w) X.A X.env X.xe) (hc : X.calm = true) (hi : PI X tg iter (tWk F H0 Γ xs)) (hg : ∀ H1 i x, xs[i]? = some x → PG X tg (tGt F H1 (Γi H1 i) (Γb H1 i x) x)) (h0 : ∀ H1 σ H, Same H0 H1 → En H1 Γ σ H → En H1 (Γi H1 0) σ H)
    (hb : ∀ H1 i x, Same H0 H1 → xs[i]? = some x → PSs X body (tS H1 (Γb H1 i x) R (fun σ H => ∃ H2, Same H1 H2 ∧ En H2 (Γi H2 (i + 1)) σ H))) (hr : ∀ H1, Same H0 H1 → PSs X rest (tS H1 (Γi H1 xs.length) R N)) (hs : ∀ x, foldedSetIterable iter X.env x = pure x := by intro _; rfl) : PSs X (.For tg iter body [] pos :: rest) (tS H0 Γ R N) := by
  refine (pss_cons (ps_for hp hc hi (PG.ex (p := fun (z : Hp × Nat × α) => xs[z.2.1]? = some z.2.2) (t := fun z => tGt F z.1 (Γi z.1 z.2.1) (Γb z.1 z.2.1 z.2.2) z.2.2) fun z h => hg z.1 z.2.1 z.2.2 h)
    (PSs.ex (p := fun (z : Hp × Nat × α) => Same H0 z.1 ∧ xs[z.2.1]? = some z.2.2) (t := fun z => tS z.1 (Γb z.1 z.2.1 z.2.2) R (fun σ H => ∃ H2, Same z.1 H2 ∧ En H2 (Γi H2 (z.2.1 + 1)) σ H)) fun z h => hb z.1 z.2.1 z.2.2 h.1 h.2) hs) (PSs.ex hr)).wk fun D σ H ⟨g, q1, q2⟩ => ⟨g, fun J H1 Gp Y s w hG hY => ?_⟩
  have g1 := (g.mono s).rebase
  have s0 : Same H0 (bare Γ σ H1) := (g.mono s).bare_same
  refine for_it w (fun i σ' H' => ∃ Hb, Same (bare Γ σ H1) Hb ∧ En Hb (Γi Hb i) σ' H') ?_ ?_ ?_ ?_
  · exact ⟨_, Same.refl _, h0 _ _ _ s0 g1⟩
  · exact fun i σ' H' _ ⟨Hb, sb, g'⟩ => hG H' (sb.trans g'.same)
  · intro i v σ' H' H'' hi' ⟨Hb, sb, g'⟩ y
    obtain ⟨s3, c, e1, e2⟩ := hY i H' v H'' hi' (sb.trans g'.same) y
    exact ⟨(Hb, i, c), e1, g'.mono s3, e2, fun σ2 g2 => ⟨(Hb, i, c), ⟨s0.trans sb, e1⟩, g2, fun v H2 s2 r => q1 v H2 ((s0.trans sb).trans s2) r, fun σ3 H3 ⟨H4, s4, g3⟩ => ⟨H4, sb.trans s4, g3⟩⟩⟩
  · exact fun σ' H' ⟨Hb, sb, g'⟩ => ⟨Hb, s0.trans sb, g', fun v H2 s2 r => q1 v H2 ((s0.trans sb).trans s2) r, q2⟩
/-! ### for .. in d.items() -/
/-- no slot leans on lists -/
def NoGe : List Slot → Prop
  | [] => True
  | .ge _ _ _ :: _ => False
  | _ :: r => NoGe r
theorem NoGe.get : ∀ {l : List Slot} {i : Nat} {s : Slot}, NoGe l → l[i]? = some s → ∀ Hc P k, s ≠ .ge Hc P k
  | [], _, _, _, e => by simp at e
  | .no :: r, 0, _, _, e => by cases (Option.some.inj e); intro _ _ _ z; cases z
  | .im _ _ :: r, 0, _, _, e => by cases (Option.some.inj e); intro _ _ _ z; cases z
  | .ow _ _ _ :: r, 0, _, _, e => by cases (Option.some.inj e); intro _ _ _ z; cases z
  | .ge _ _ _ :: r, _, _, h, _ => False.elim h
  | .no :: r, i + 1, _, h, e => NoGe.get (l := r) (i := i) h e
  | .im _ _ :: r, i + 1, _, h, e => NoGe.get (l := r) (i := i) h e
  | .ow _ _ _ :: r, i + 1, _, h, e => NoGe.get (l := r) (i := i) h e
theorem same_upd {H H' : Hp} {d : Addr} {o : HO} (s : Same H H') : Same (upd H d o) (upd H' d o) := fun b u h => by
  by_cases e : b = d
  · subst e
    rw [upd_same] at h ⊢
    exact h
  · rw [upd_ne e] at h ⊢
    exact s _ _ h
theorem En.lock {σ : HSt} {H : Hp} {d : Addr} {u o : HO} (g : En H0 Γ σ H) (n : NoGe Γ) (h : H0 d = some u) (nt : ∀ xs, u ≠ .tup xs) : En (upd H0 d o) Γ σ (upd H d o) := by
  refine ⟨same_upd g.same, g.len, fun i s hs => ?_, g.apart⟩
  have z := g.ok i s hs
  cases s with
  | no => trivial
  | im P k =>
    obtain ⟨x, z1, z2⟩ := z
    exact ⟨x, z1, k _ _ _ (tu_mut (g.same _ _ h) nt) z2⟩
  | ge Hc P k => exact absurd rfl (n.get hs Hc P k)
  | ow C k n2 =>
    obtain ⟨p, v, z1, z2, z3, z4⟩ := z
    have np : p ≠ d := fun e => by
      rw [e, h] at z2
      cases z2
    exact ⟨p, v, z1, by rw [upd_ne np]; exact z2, by rw [upd_ne np]; exact z3, k _ _ _ _ (tu_mut (g.same _ _ h) nt) z4⟩
theorem En.unlock {σ : HSt} {H' : Hp} {d : Addr} {u o : HO} (g : En (upd H0 d o) Γ σ H') (n : NoGe Γ) (h : H0 d = some u) (nt : ∀ xs, o ≠ .tup xs) : En H0 Γ σ (upd H' d u) := by
  have hd : H' d = some o := g.same _ _ upd_same
  have e0 : upd (upd H0 d o) d u = H0 := funext fun b => by
    by_cases e : b = d
    · subst e
      rw [upd_same, h]
    · rw [upd_ne e, upd_ne e]
  have z := g.lock n (o := u) upd_same nt
  rw [e0] at z
  exact z
theorem walk_itemsT {d : Addr} {o : Obj} {ws : List (List Key × V)} : Walk (ItiT d o ws) ws.length (fun H => H d = some (.frz o (.dT ws))) (fun i H x H' => ∃ T k v q, ws[i]? = some (k, v) ∧ H q = some (.tup (k.map kV)) ∧ x = .ref T ∧ H T = none ∧ H' = upd H T (.tup [.ref q, v])) :=
  ⟨fun _ _ hi q => ⟨q, hi⟩, fun _ q => ⟨q, Nat.le_refl _⟩, fun _ _ _ _ _ _ y => y⟩
theorem ss_forI [Imm F] {ds : List (List Int × α)} {ws : List (List Key × V)} {d : Addr} {apos cpos tpos : Pos} {elts : List Expr} {kk : Nat} (Γi : Nat → List Slot) (Γb : Nat → (List Int × α) → List Slot) (hp : PassesOwn (model X.prog X.w) X.A X.env X.xe) (hc : X.calm = true)
    (hd : H0 d = some (.dT ws)) (hw : Al (DR F) ds ws H0) (he : ∀ od, PE X e (tE false (vRv (.ref d)) (upd H0 d (.frz od (.dT ws))) Γ ())) (hg : ∀ H1 i x, ds[i]? = some x → PG X (.Tuple elts kk tpos) (tGt (vP (vT vI) F) H1 (Γi i) (Γb i x) x)) (nG : NoGe Γ) (nI : ∀ i, NoGe (Γi i)) (h0 : Sub Γ (Γi 0))
    (hb : ∀ od i x, ds[i]? = some x → PSs X body (tS (upd H0 d (.frz od (.dT ws))) (Γb i x) (fun _ _ => False) (En (upd H0 d (.frz od (.dT ws))) (Γi (i + 1))))) (hr : PSs X rest (tS H0 (Γi ds.length) R N))
    (hbase : attributeBase e "items" X.env (eval e X.env) = eval e X.env := by rfl) (hline : (apos.endLine == cpos.line) = true := by rfl) (hs : ∀ x, foldedSetIterable (.Call (.Attribute e "items" apos) [] [] cpos) X.env x = pure x := by intro _; rfl) :
    PSs X (.For (.Tuple elts kk tpos) (.Call (.Attribute e "items" apos) [] [] cpos) body [] pos :: rest) (tS H0 Γ R N) := by
  have he2 : PE X e (fun σ H Q => ∃ od, tE false (vRv (.ref d)) (upd H0 d (.frz od (.dT ws))) Γ () σ H Q) := ⟨fun pins s σ H Q I ⟨od, q⟩ => (he od).run pins s σ H Q I q⟩
  refine (pss_cons (ps_lock (ps_for hp hc (pi_itemsT he2 hbase hline) (PG.ex (p := fun (z : Hp × Nat × (List Int × α)) => ds[z.2.1]? = some z.2.2) (t := fun z => tGt (vP (vT vI) F) z.1 (Γi z.2.1) (Γb z.2.1 z.2.2) z.2.2) fun z h => hg z.1 z.2.1 z.2.2 h)
    (PSs.ex (p := fun (z : Obj × Nat × (List Int × α)) => ds[z.2.1]? = some z.2.2) (t := fun z => tS (upd H0 d (.frz z.1 (.dT ws))) (Γb z.2.1 z.2.2) (fun _ _ => False) (En (upd H0 d (.frz z.1 (.dT ws))) (Γi (z.2.1 + 1)))) fun z h => hb z.1 z.2.1 z.2.2 h) hs)) hr).wk fun D σ H ⟨g, q1, q2⟩ => ?_
  have nt : ∀ xs, (HO.dT ws) ≠ .tup xs := fun _ z => nomatch z
  refine ⟨d, .dT ws, g.same _ _ hd, True.intro, fun od => ?_⟩
  have gl : En (upd H0 d (.frz od (.dT ws))) Γ σ (upd H d (.frz od (.dT ws))) := g.lock nG hd nt
  refine ⟨od, gl, fun v H1 s1 rv _ => ⟨d, od, ws, rv, s1 _ _ upd_same, ?_⟩⟩
  have gl1 := gl.mono s1
  have hl : ds.length = ws.length := hw.length.symm
  have w := walk_itemsT (d := d) (o := od) (ws := ws)
  rw [← hl] at w
  refine for_it w (fun i σ' H' => En (upd H0 d (.frz od (.dT ws))) (Γi i) σ' H') ?_ ?_ ?_ ?_
  · exact gl1.sub h0
  · exact fun i σ' H' _ g' => g'.same _ _ upd_same
  · intro i v σ' H' H'' hi' g' y
    obtain ⟨T, k, u, q, y1, y2, y3, y4, y5⟩ := y
    subst y3 y5
    obtain ⟨x, x1, x2⟩ := hw.get' y1
    have tH : Tu H0 H' := fun b xs hb => by
      refine g'.same _ _ ?_
      rw [upd_ne (fun e => by rw [e, hd] at hb; cases hb)]
      exact hb
    have hx2 : F.r x.2 u H' := Imm.tu tH x2.2
    refine ⟨(upd H0 d (.frz od (.dT ws)), i, x), x1, g'.mono (same_new y4), ⟨T, .ref q, u, rfl, upd_same, ⟨q, _, rfl, ?_, of_ints _⟩, F.mono (same_new y4) hx2⟩, fun σ2 g2 => ⟨(od, i, x), x1, g2, fun v H2 s2 r => r.elim, fun σ3 H3 g3 => g3⟩⟩
    rw [← kV_inl, ← x2.1]
    exact same_new y4 _ _ y2
  · intro σ' H' g'
    exact ⟨g'.same _ _ upd_same, g'.unlock (nI _) hd (fun _ z => nomatch z), q1, q2⟩
end
theorem no_own {Γ : List Slot} (h : Γ.all (fun s => !s.own) = true) : ∀ s ∈ Γ, s.own = false := fun s hs => by simpa using List.all_eq_true.mp h s hs
end Gm
set_option Elab.async false
set_option linter.all false
set_option maxRecDepth 100000
set_option maxHeartbeats 4000000
namespace Gm
open PySem PySem.Spec PyProof.Rows L2
section
variable {X : Cx} {e a b c tg l iter elt : Expr} {es : List Expr} {rest body orelse : List Stmt} {pos p' : Pos} {H0 : Hp} {Γ Γ' : List Slot} {fr f1 f2 f3 : Bool} {R : V → Hp → Prop} {N : HSt → Hp → Prop}
variable {α β γ ι ρ : Type} {F : Rep α} {G : Rep β} {J : Rep γ} {x : α} {y : β} {z : γ}
/-- a loop of which something is known ahead of each turn -/
theorem ss_forP {xs : List α} (Γi : Nat → List Slot) (Γb : Nat → α → List Slot) (Pi : Nat → Prop) (hp : PassesOwn (model X.prog X.w) X.A X.env X.xe) (hc : X.calm = true) (hi : PI X tg iter (tWk F H0 Γ xs)) (hg : ∀ H1 i x, xs[i]? = some x → PG X tg (tGt F H1 (Γi i) (Γb i x) x)) (h0 : Sub Γ (Γi 0)) (p0 : Pi 0)
    (hb : ∀ H1 i x, Same H0 H1 → xs[i]? = some x → Pi i → PSs X body (tS H1 (Γb i x) R (fun σ H => En H1 (Γi (i + 1)) σ H ∧ Pi (i + 1)))) (hr : ∀ H1, Same H0 H1 → Pi xs.length → PSs X rest (tS H1 (Γi xs.length) R N)) (hs : ∀ x, foldedSetIterable iter X.env x = pure x := by intro _; rfl) : PSs X (.For tg iter body [] pos :: rest) (tS H0 Γ R N) := by
  refine (pss_cons (ps_for hp hc hi (PG.ex (p := fun (z : Hp × Nat × α) => xs[z.2.1]? = some z.2.2) (t := fun z => tGt F z.1 (Γi z.2.1) (Γb z.2.1 z.2.2) z.2.2) fun z h => hg z.1 z.2.1 z.2.2 h)
    (PSs.ex (p := fun (z : Hp × Nat × α) => Same H0 z.1 ∧ xs[z.2.1]? = some z.2.2 ∧ Pi z.2.1) (t := fun z => tS z.1 (Γb z.2.1 z.2.2) R (fun σ H => En z.1 (Γi (z.2.1 + 1)) σ H ∧ Pi (z.2.1 + 1))) fun z h => hb z.1 z.2.1 z.2.2 h.1 h.2.1 h.2.2) hs) (PSs.ex (p := fun H1 => Same H0 H1 ∧ Pi xs.length) fun H1 h => hr H1 h.1 h.2)).wk fun D σ H ⟨g, q1, q2⟩ => ⟨g, fun J H1 Gp Y s w hG hY => ?_⟩
  have g1 := (g.mono s).rebase
  have s0 : Same H0 (bare Γ σ H1) := (g.mono s).bare_same
  refine for_it w (fun i σ' H' => En (bare Γ σ H1) (Γi i) σ' H' ∧ Pi i) ?_ ?_ ?_ ?_
  · exact ⟨g1.sub h0, p0⟩
  · exact fun i σ' H' _ g' => hG H' g'.1.same
  · intro i v σ' H' H'' hi' ⟨g', pi⟩ y
    obtain ⟨s3, c, e1, e2⟩ := hY i H' v H'' hi' g'.same y
    exact ⟨(bare Γ σ H1, i, c), e1, g'.mono s3, e2, fun σ2 g2 => ⟨(bare Γ σ H1, i, c), ⟨s0, e1, pi⟩, g2, fun v H2 s2 r => q1 v H2 (s0.trans s2) r, fun σ3 H3 g3 => g3⟩⟩
  · exact fun σ' H' ⟨g', pi⟩ => ⟨_, ⟨s0, pi⟩, g', fun v H2 s2 r => q1 v H2 (s0.trans s2) r, q2⟩
/-- what is one's own counts as given from now on; where it stands -/
theorem ss_frzR {C : Con α} [ImmC C] {sts : List Stmt} (i : Nat) (h : Γ[i]? = some (ow C x)) (hr : ∀ B p o, Same H0 B → H0 p = none → B p = some o → C.c x o B → PSs X sts (tS B (Γ.set i (im (vRv (.ref p)) ())) R N)) : PSs X sts (tS H0 Γ R N) :=
  (PSs.ex (p := fun (z : Hp × Addr × HO) => Same H0 z.1 ∧ H0 z.2.1 = none ∧ z.1 z.2.1 = some z.2.2 ∧ C.c x z.2.2 z.1) (t := fun z => tS z.1 (Γ.set i (im (vRv (.ref z.2.1)) ())) R N) fun z q => hr z.1 z.2.1 z.2.2 q.1 q.2.1 q.2.2.1 q.2.2.2).wk fun D σ H ⟨g, q1, q2⟩ => by
    have hl : i < Γ.length := (List.getElem?_eq_some_iff.mp h).1
    obtain ⟨p, o, h1, h2, h3, h4⟩ := g.ow h
    have gn : En H0 (Γ.set i .no) σ H := by
      have z := g.set_no (i := i) (x := some (.ref p))
      rw [set_same h1] at z
      exact z
    have e1 : bare (Γ.set i .no) σ H p = some o := bare_at h3 fun j s k1 k2 k3 => by
      by_cases e : i = j
      · subst e
        rw [List.getElem?_set_self hl] at k1
        cases k1
        cases k2
      · rw [List.getElem?_set_ne e] at k1
        refine g.apart i j _ s p e h k1 rfl k2 ?_ k3
        rw [h1] <;> rfl
    have g3 := gn.rebase.set_im (i := i) (P := (vRv (.ref p)).r ()) (k := fun _ _ _ _ h => h) (x := .ref p) rfl
    rw [List.set_set, set_same h1] at g3
    exact ⟨(_, p, o), ⟨gn.bare_same, h2, e1, ImmC.tu gn.bare_tu h4⟩, g3, fun v H2 s2 r => q1 v H2 (gn.bare_same.trans s2) r, q2⟩
end
end Gm
set_option Elab.async false
set_option linter.all false
set_option maxRecDepth 100000
set_option maxHeartbeats 4000000
namespace Gm
open PySem PySem.Spec PyProof.Rows L2
theorem al_conv {α β : Type} {P P' : α → β → Hp → Prop} {H : Hp} (k : ∀ a v, P a v H → P' a v H) : ∀ {as : List α} {vs : List β}, Al P as vs H → Al P' as vs H
  | [], [], _ => trivial
  | [], _ :: _, h => False.elim h
  | _ :: _, [], h => False.elim h
  | _ :: _, _ :: _, h => ⟨k _ _ h.1, al_conv k h.2⟩
section
variable {X : Cx} {e a b c tg l iter elt : Expr} {pos p' : Pos} {H0 : Hp} {Γ Γ' : List Slot} {fr f1 f2 f3 : Bool}
variable {α β γ ι ρ : Type} {F : Rep α} {G : Rep β} {J : Rep γ} {x : α} {y : β} {z : γ}
/-- [elt for .. in ..], the items new changing objects -/
theorem ex_lcC {C : Con β} [ImmC C] {scope : Scope} {xs : List α} {f : α → β} (own : List (Str × Nat)) (Γb : α → List Slot) (hc : X.calm = true) (nd : X.N.Nodup) (hi : PI X tg iter (tWk F H0 Γ xs)) (hg : ∀ s H C cl fp H1 x, x ∈ xs → PG (Blk X scope s H C cl fp) tg (tLg F H1 (wipeG Γ (own.map (·.2))) (Γb x) (own.map (·.2)) x))
    (he : ∀ s H Ca cl fp H1 x, Same H0 H1 → x ∈ xs → PE (Blk X scope s H Ca cl fp) elt (tE true (vC C) H1 (Γb x) (f x))) (hl : xs.length ≤ 100000) (ok : BlkOk X.N X.env.scope scope own := by exact blkOk_by (by decide +kernel))
    (hs : ∀ x, foldedSetIterable iter X.env x = pure x := by intro _; rfl) : PE X (.ListComp elt [⟨tg, iter, [], 0⟩] scope pos) (tE true (vL (vC C)) H0 Γ (xs.map f)) :=
  (pe_lc hc nd hi ok (fun s H C cl fp => PG.ex (p := fun (z : Hp × α) => z.2 ∈ xs) (t := fun z v σ H Q => En z.1 (wipeG Γ (own.map (·.2))) σ H ∧ F.r z.2 v H ∧ ∀ σ', En z.1 (Γb z.2) σ' H → L2.wipe σ' (own.map (·.2)) = L2.wipe σ (own.map (·.2)) → Q σ' H) fun z h => hg s H C cl fp z.1 z.2 h) (fun s H C cl fp => PTs.ex (p := fun (z : Hp × α) => z.2 ∈ xs) (t := fun z => tT z.1 (Γb z.2) true) fun z h => lt_nil)
    (fun s H Ca cl fp => PE.ex (p := fun (z : Hp × α) => Same H0 z.1 ∧ z.2 ∈ xs) (t := fun z => tE true (vC C) z.1 (Γb z.2) (f z.2)) fun z h => he s H Ca cl fp z.1 z.2 h.1 h.2) hs).wk fun σ H Q ⟨g, q⟩ => by
    refine ⟨g, fun J H1 Gp Y s w hG hY => fun Dl hD => ?_⟩
    have g1 := (g.mono s).rebase
    have s0 : Same H0 (bare Γ σ H1) := (g.mono s).bare_same
    have sw : ∀ H', Same H1 H' → Same (bare Γ σ H1) H' := fun H' h => bare_sub.trans h
    refine lc_it w (fun i H' => Same H1 H' ∧ ∃ ws, H' Dl = some (.lst ws) ∧ Al (fun x v H => (vC C).r x v H ∧ v ≠ .ref Dl) ((xs.take i).map f) ws H') ?_ ?_ ?_ ?_
    · exact ⟨same_new hD, [], upd_same, trivial⟩
    · exact fun i H' _ h => hG H' (sw H' h.1)
    · intro i v H' H'' hi' h123 y
      obtain ⟨h1, ws, h2, h3⟩ := h123
      obtain ⟨s3, c, e1, e2⟩ := hY i H' v H'' hi' (sw H' h1) y
      have hm : c ∈ xs := List.mem_of_getElem? e1
      have gw : En (bare Γ σ H1) (wipeG Γ (own.map (·.2))) (L2.wipe σ (own.map (·.2))) H'' := (g1.mono (h1.trans s3)).wipe _
      refine ⟨(bare Γ σ H1, c), hm, gw, e2, fun σ2 g2 ew => ⟨by rw [ew, wipe_wipe], (bare Γ σ H1, c), hm, g2, fun H3 s4 => ?_⟩⟩
      show if true = true then _ else _
      rw [if_pos rfl]
      have h23 := (s3.trans s4) _ _ h2
      refine ⟨(bare Γ σ H1, c), ⟨s0, hm⟩, g2.mono s4, fun u H4 s5 r5 fz => ⟨ws, s5 _ _ h23, ?_, ?_, ws ++ [u], upd_same, ?_⟩⟩
      · rw [h3.length, List.length_map]
        have z2 : (xs.take i).length ≤ i := by simp; omega
        exact line_lt (by omega)
      · exact same_mut (((h1.trans s3).trans s4).trans s5) hD
      · have t : Tu H4 (upd H4 Dl (.lst (ws ++ [u]))) := tu_mut (s5 _ _ h23) (fun xs z => (nomatch z))
        have ht : (xs.take (i + 1)).map f = (xs.take i).map f ++ [f c] := by
          rw [List.take_add_one, e1, List.map_append]
          rfl
        have keep : ∀ (a : β) (v : V) (Hx : Hp), Same Hx H4 → (vC C).r a v Hx → v ≠ .ref Dl → (vC C).r a v (upd H4 Dl (.lst (ws ++ [u]))) := fun a v Hx sx r ne => by
          obtain ⟨p, o, r1, r2, r3⟩ := (vC C).mono sx r
          have np : p ≠ Dl := fun e => ne (by rw [r1, e])
          exact ⟨p, o, r1, by rw [upd_ne np]; exact r2, ImmC.tu t r3⟩
        obtain ⟨pu, eu, nu⟩ := fz rfl
        have neu : u ≠ .ref Dl := fun e => by
          rw [eu] at e
          cases e
          rw [h23] at nu
          cases nu
        rw [ht]
        exact (h3.map fun a v z => ⟨keep a v _ (s3.trans (s4.trans s5)) z.1 z.2, z.2⟩).app ⟨⟨keep _ _ _ (Same.refl _) r5 neu, neu⟩, trivial⟩
    · intro H' h123
      obtain ⟨h1, ws, h2, h3⟩ := h123
      rw [List.take_length] at h3
      exact q _ H' (s.trans h1) ⟨Dl, _, rfl, h2, ws, rfl, al_conv (fun _ _ z => z.1) h3⟩ fun _ => ⟨Dl, rfl, s.free hD⟩
end
end Gm
set_option Elab.async false
set_option linter.all false
set_option maxRecDepth 100000
set_option maxHeartbeats 4000000
namespace W92
open PySem PySem.Spec PyProof.Rows L2 Gm C8
/-- the numbers and words that stand at the top -/
structure Co (mg : Str → Option Value) : Prop where
  MOST_ROLLERS : ∃ t, mg "MOST_ROLLERS" = some (.int 4 t)
  MOST_TURN : ∃ t, mg "MOST_TURN" = some (.int 60 t)
  MOST_TOP : ∃ t, mg "MOST_TOP" = some (.int 8 t)
  MOST_LENGTH : ∃ t, mg "MOST_LENGTH" = some (.int 400 t)
  MOST_LOOKS : ∃ t, mg "MOST_LOOKS" = some (.int 8 t)
  MOST_AHEAD : ∃ t, mg "MOST_AHEAD" = some (.int 7 t)
  MOST_PIECE : ∃ t, mg "MOST_PIECE" = some (.int 20 t)
  MOST_END : ∃ t, mg "MOST_END" = some (.int 40 t)
  SOUND : ∃ t, mg "SOUND" = some (.str "sound" t)
  MARKED : ∃ t, mg "MARKED" = some (.str "marked" t)
  MAYBE : ∃ t, mg "MAYBE" = some (.str "maybe" t)
end W92
set_option Elab.async false
set_option linter.all false
set_option maxHeartbeats 4000000
/-! What each def computes, in plain Lean. -/
namespace W92
open PySem Gm
abbrev Fr := Int × Int
abbrev Lk := Str × Int × Int
abbrev Rl := Int × Int × Int
def gcdI (a b : Int) : Int := ((Nat.gcd a.toNat b.toNat : Nat) : Int)
def frac (t b : Int) : Fr := (t / gcdI t b, b / gcdI t b)
/-- a fraction within bounds -/
def FrB (p : Fr) : Prop := 0 ≤ p.1 ∧ p.1 ≤ 1000000 ∧ 0 < p.2 ∧ p.2 ≤ 100000
def RolOk (x : Rl) : Prop := 1 ≤ x.1 ∧ x.1 ≤ 60 ∧ 1 ≤ x.2.1 ∧ x.2.1 ≤ 8 ∧ 1 ≤ x.2.2 ∧ x.2.2 ≤ x.2.1
def TrOk (x : List Rl) : Prop := 1 ≤ x.length ∧ x.length ≤ 4 ∧ ∀ r ∈ x, RolOk r
def LkOk (x : Lk) : Prop := 0 ≤ x.2.1 ∧ x.2.1 ≤ 400 ∧ 0 ≤ x.2.2 ∧ x.2.2 ≤ 400 ∧ ((x.1 = "mark" ∧ x.2.1 ≤ x.2.2) ∨ (x.1 = "sound" ∧ x.2.1 < x.2.2))
def LksOk (x : List Lk) : Prop := x.length ≤ 8 ∧ ∀ l ∈ x, LkOk l
/-- a period: parts of a round, within bounds -/
def PerOk (p : Fr) : Prop := p.2 ≤ p.1 ∧ p.1 ≤ 245760 ∧ 0 < p.2 ∧ p.2 ≤ 4096
/-- a phase -/
def PhOk (p : Fr) : Prop := 0 ≤ p.1 ∧ p.1 ≤ 245760 ∧ 0 < p.2 ∧ p.2 ≤ 4096
theorem gcdI_pos {a b : Int} (h : 0 < b) : 0 < gcdI a b := by
  unfold gcdI
  have : 0 < Nat.gcd a.toNat b.toNat := Nat.gcd_pos_of_pos_right _ (by omega)
  omega
theorem gcdI_le {a b : Int} (h : 0 < b) : gcdI a b ≤ b := by
  unfold gcdI
  have := Nat.gcd_le_right a.toNat (show 0 < b.toNat by omega)
  omega
theorem gcdI_zero {a : Int} (h : 0 ≤ a) : gcdI a 0 = a := by
  unfold gcdI
  have e : Nat.gcd a.toNat (0 : Int).toNat = a.toNat := Nat.gcd_zero_right _
  rw [e]
  omega
theorem gcdI_step {a b : Int} (ha : 0 ≤ a) (hb : 0 < b) : gcdI b (a % b) = gcdI a b := by
  unfold gcdI
  have e : (a % b).toNat = a.toNat % b.toNat := by
    rw [Int.toNat_emod ha (by omega)]
  rw [e, Nat.gcd_comm b.toNat, ← Nat.gcd_rec, Nat.gcd_comm]
theorem gcdI_dvd_right {a b : Int} (hb : 0 < b) : gcdI a b ∣ b := by
  unfold gcdI
  have h := Nat.gcd_dvd_right a.toNat b.toNat
  have z : ((Nat.gcd a.toNat b.toNat : Nat) : Int) ∣ ((b.toNat : Nat) : Int) := Int.natCast_dvd_natCast.mpr h
  rwa [show ((b.toNat : Nat) : Int) = b by omega] at z
theorem gcdI_dvd_left {a b : Int} (ha : 0 ≤ a) : gcdI a b ∣ a := by
  unfold gcdI
  have h := Nat.gcd_dvd_left a.toNat b.toNat
  have z : ((Nat.gcd a.toNat b.toNat : Nat) : Int) ∣ ((a.toNat : Nat) : Int) := Int.natCast_dvd_natCast.mpr h
  rwa [show ((a.toNat : Nat) : Int) = a by omega] at z
/-- a fraction's parts -/
theorem frac_b {t b : Int} (ht : 0 ≤ t) (hb : 0 < b) : 0 ≤ (frac t b).1 ∧ (frac t b).1 ≤ t ∧ 0 < (frac t b).2 ∧ (frac t b).2 ≤ b := by
  have g := gcdI_pos (a := t) hb
  unfold frac
  obtain ⟨k, hk⟩ := gcdI_dvd_right (a := t) hb
  refine ⟨Int.ediv_nonneg ht (by omega), Int.ediv_le_self _ ht, ?_, Int.ediv_le_self _ (by omega)⟩
  show 0 < b / gcdI t b
  rw [show b / gcdI t b = k from Int.ediv_eq_of_eq_mul_right (by omega) hk]
  have : 0 < gcdI t b * k := by rw [← hk]; exact hb
  exact Int.pos_of_mul_pos_right this (by omega)
theorem frac_ge {t b : Int} (hb : 0 < b) (h : b ≤ t) : (frac t b).2 ≤ (frac t b).1 := by
  have g := gcdI_pos (a := t) hb
  exact Int.ediv_le_ediv (by omega) h
def rises (xs : List Int) : Bool := (xs.zip (xs.drop 1)).all fun p => decide (p.1 < p.2)
/-! ### periods -/
def perStep (s : List Fr × Int × Int) (r : Rl) : List Fr × Int × Int := (s.1 ++ [frac (r.1 * (s.2.1 * r.2.1)) (s.2.2 * r.2.2)], s.2.1 * r.2.1, s.2.2 * r.2.2)
def perSt (tr : List Rl) (j : Nat) : List Fr × Int × Int := (tr.reverse.take j).foldl perStep ([], 1, 1)
def periods (tr : List Rl) : List Fr := (perSt tr tr.reverse.length).1.reverse
theorem foldl_take {α β : Type} (f : β → α → β) (b : β) (xs : List α) (j : Nat) {x : α} (h : xs[j]? = some x) : (xs.take (j + 1)).foldl f b = f ((xs.take j).foldl f b) x := by
  rw [List.take_add_one, h, List.foldl_append]
  rfl
theorem perSt_succ {tr : List Rl} {j : Nat} {r : Rl} (h : tr.reverse[j]? = some r) : perSt tr (j + 1) = perStep (perSt tr j) r := foldl_take _ _ _ _ h
theorem perSt_b {tr : List Rl} (h : TrOk tr) : ∀ j : Nat, j ≤ 4 → 1 ≤ (perSt tr j).2.2 ∧ (perSt tr j).2.2 ≤ (perSt tr j).2.1 ∧ (perSt tr j).2.1 ≤ 8 ^ j ∧ (perSt tr j).1.length ≤ j ∧ ∀ p ∈ (perSt tr j).1, PerOk p
  | 0, _ => by simp [perSt]
  | j + 1, hj => by
    obtain ⟨h1, h2, h3, h4, h5⟩ := perSt_b h j (by omega)
    have e8 : (8 : Int) ^ (j + 1) = 8 ^ j * 8 := Int.pow_succ ..
    cases e : tr.reverse[j]? with
    | none =>
      have e2 : perSt tr (j + 1) = perSt tr j := by
        unfold perSt
        rw [List.take_add_one, e]
        simp
      rw [e2]
      have p8 : (0 : Int) < 8 ^ j := Int.pow_pos (by decide)
      exact ⟨h1, h2, by omega, by omega, h5⟩
    | some r =>
      rw [perSt_succ e]
      obtain ⟨r1, r2, r3, r4, r5, r6⟩ := h.2.2 r (List.mem_reverse.mp (List.mem_of_getElem? e))
      have b1 : 1 ≤ (perSt tr j).2.2 * r.2.2 := Int.le_trans (by omega) (Int.mul_le_mul h1 r5 (by omega) (by omega))
      have b2 : (perSt tr j).2.2 * r.2.2 ≤ (perSt tr j).2.1 * r.2.1 := Int.mul_le_mul h2 r6 (by omega) (by omega)
      have b3 : (perSt tr j).2.1 * r.2.1 ≤ 8 ^ j * 8 := Int.mul_le_mul h3 r4 (by omega) (Int.le_of_lt (Int.pow_pos (by decide)))
      have b4 : (8 : Int) ^ (j + 1) ≤ 4096 := by
        have : j = 0 ∨ j = 1 ∨ j = 2 ∨ j = 3 := by omega
        rcases this with z | z | z | z <;> subst z <;> decide
      have b5 : (perSt tr j).2.1 * r.2.1 ≤ r.1 * ((perSt tr j).2.1 * r.2.1) := by
        have := Int.mul_le_mul r1 (Int.le_refl ((perSt tr j).2.1 * r.2.1)) (by omega) (by omega)
        omega
      have b6 : r.1 * ((perSt tr j).2.1 * r.2.1) ≤ 60 * 4096 := Int.mul_le_mul r2 (by omega) (by omega) (by omega)
      refine ⟨b1, b2, by rw [e8]; exact b3, by simp [perStep]; exact h4, fun p hp => ?_⟩
      rcases List.mem_append.mp hp with z | z
      · exact h5 p z
      · rw [List.mem_singleton.mp z]
        obtain ⟨f1, f2, f3, f4⟩ := frac_b (t := r.1 * ((perSt tr j).2.1 * r.2.1)) (b := (perSt tr j).2.2 * r.2.2) (by omega) (by omega)
        exact ⟨frac_ge (by omega) (by omega), by omega, f3, by omega⟩
theorem perSt_len {tr : List Rl} : ∀ j : Nat, j ≤ tr.length → (perSt tr j).1.length = j
  | 0, _ => rfl
  | j + 1, h => by
    have hl : j < tr.reverse.length := by rw [List.length_reverse]; omega
    rw [perSt_succ (List.getElem?_eq_getElem hl)]
    have e := perSt_len (tr := tr) j (by omega)
    simp [perStep, e]
theorem periods_len (tr : List Rl) : (periods tr).length = tr.length := by
  unfold periods
  rw [List.length_reverse, perSt_len _ (by simp), List.length_reverse]
theorem periods_ok {tr : List Rl} (h : TrOk tr) : ∀ p ∈ periods tr, PerOk p := fun p hp => by
  have hl := h.2.1
  exact (perSt_b h tr.reverse.length (by simp; omega)).2.2.2.2 p (List.mem_reverse.mp hp)
/-! ### marks -/
def hasMark (per ph : Fr) (lk : Lk) : Bool :=
  let by_ := ph.2 * per.2
  let begin_ := ph.1 * per.2
  let every := per.1 * ph.2
  let first := lk.2.1 * by_
  let last := lk.2.2 * by_
  if lk.1 = "sound" then decide (begin_ + max 0 ((first + 1 - begin_ + every - 1) / every) * every ≤ last - 1)
  else decide (begin_ + max 0 ((first - begin_ + every - 1) / every) * every ≤ last)
end W92
set_option Elab.async false
set_option linter.all false
set_option maxHeartbeats 4000000
namespace W92
open PySem Gm
abbrev Dt := Int × Fr
def z2 : Fr := (0, 1)
/-- a roller and a phase of it -/
def DentOk (tr : List Rl) (d : Dt) : Prop := 0 ≤ d.1 ∧ d.1 < tr.length ∧ PhOk d.2 ∧ gcdI d.2.1 d.2.2 = 1 ∧ d.2.1 * ((periods tr).getD d.1.toNat z2).2 < ((periods tr).getD d.1.toNat z2).1 * d.2.2
def StoryOk (tr : List Rl) (st : List Dt) : Prop := (∀ d ∈ st, DentOk tr d) ∧ rises (st.map (·.1)) = true ∧ st.length ≤ 4
theorem per_getD {tr : List Rl} (h : TrOk tr) {i : Int} (h0 : 0 ≤ i) (h1 : i < tr.length) : PerOk ((periods tr).getD i.toNat z2) := by
  have hl : i.toNat < (periods tr).length := by rw [periods_len]; omega
  rw [List.getD_eq_getElem?_getD, List.getElem?_eq_getElem hl]
  exact periods_ok h _ (List.getElem_mem hl)
/-! ### marks -/
def lcmStep (b own : Int) : Int := b * own / gcdI b own
def botStep (tr : List Rl) (b : Int) (d : Dt) : Int := lcmStep (lcmStep b d.2.2) ((periods tr).getD d.1.toNat z2).2
def botOf (tr : List Rl) (st : List Dt) : Int := st.foldl (botStep tr) 1
/-- how many from lo on, each so many behind the last, lie under hi -/
def rgN (lo hi st : Int) : Nat := ((hi - lo + st - 1) / st).toNat
def rgS (lo hi st : Int) : List Int := (List.range (rgN lo hi st)).map fun (i : Nat) => lo + (i : Int) * st
def begOf (bot : Int) (d : Dt) : Int := d.2.1 * bot / d.2.2
def evOf (tr : List Rl) (bot : Int) (d : Dt) : Int := ((periods tr).getD d.1.toNat z2).1 * bot / ((periods tr).getD d.1.toNat z2).2
def marksIn (tr : List Rl) (bot e : Int) (d : Dt) : List Int := rgS (begOf bot d) (e * bot + 1) (evOf tr bot d)
def marksM (tr : List Rl) (st : List Dt) (bot e : Int) : List Int := st.foldl (fun f d => (marksIn tr bot e d).foldl putM f) []
def marksOf (tr : List Rl) (st : List Dt) (e : Int) : List Fr := (sortI (marksM tr st (botOf tr st) e)).map fun m => frac m (botOf tr st)
/-- one bottom for all -/
def BotOk (tr : List Rl) (st : List Dt) : Prop := ∃ L : Int, 0 < L ∧ L ≤ 4096 ∧ ∀ d ∈ st, d.2.2 ∣ L ∧ ((periods tr).getD d.1.toNat z2).2 ∣ L
theorem gcdI_bezout {a b L : Int} (ha : 0 < a) (hb : 0 < b) (h1 : a ∣ L) (h2 : b ∣ L) : lcmStep a b ∣ L ∧ a ∣ lcmStep a b ∧ b ∣ lcmStep a b ∧ 0 < lcmStep a b := by
  have e : lcmStep a b = ((Nat.lcm a.toNat b.toNat : Nat) : Int) := by
    unfold lcmStep gcdI Nat.lcm
    have e1 : a * b = ((a.toNat * b.toNat : Nat) : Int) := by
      rw [Int.natCast_mul, Int.toNat_of_nonneg (Int.le_of_lt ha), Int.toNat_of_nonneg (Int.le_of_lt hb)]
    rw [e1, ← Int.natCast_ediv]
  have ea : ((a.toNat : Nat) : Int) = a := by omega
  have eb : ((b.toNat : Nat) : Int) = b := by omega
  rw [e]
  refine ⟨?_, ?_, ?_, ?_⟩
  · have h1' : a.toNat ∣ L.natAbs := by
      have := Int.natAbs_dvd_natAbs.mpr h1
      rwa [show a.natAbs = a.toNat by omega] at this
    have h2' : b.toNat ∣ L.natAbs := by
      have := Int.natAbs_dvd_natAbs.mpr h2
      rwa [show b.natAbs = b.toNat by omega] at this
    have h := Nat.lcm_dvd h1' h2'
    exact Int.dvd_natAbs.mp (Int.natCast_dvd_natCast.mpr h)
  · have := Int.natCast_dvd_natCast.mpr (Nat.dvd_lcm_left a.toNat b.toNat)
    rwa [ea] at this
  · have := Int.natCast_dvd_natCast.mpr (Nat.dvd_lcm_right a.toNat b.toNat)
    rwa [eb] at this
  · have := Nat.lcm_pos (show 0 < a.toNat by omega) (show 0 < b.toNat by omega)
    omega
theorem dvd_le {a L : Int} (h : a ∣ L) (hL : 0 < L) : a ≤ L := Int.le_of_dvd hL h
/-! ### stretches -/
def stretches (r f l : Int) : List Fr :=
  if r ≤ l then [(0, r)] else if r ≤ f % r + l then [(0, f % r + l - r), (f % r, r)] else if f % r = 0 then [(0, f % r + l), (r, r)] else [(f % r, f % r + l)]
def letBy (per : Fr) (lk : Lk) : List Fr :=
  if lk.1 = "mark" then stretches per.1 (lk.2.1 * per.2) ((lk.2.2 - lk.2.1) * per.2)
  else if per.1 < (lk.2.2 - lk.2.1) * per.2 then [] else stretches per.1 (lk.2.1 * per.2 + (lk.2.2 - lk.2.1) * per.2) (per.1 - (lk.2.2 - lk.2.1) * per.2)
def csOne (s : Fr) (f : List Fr) (o : Fr) : List Fr := if max s.1 o.1 ≤ min s.2 o.2 then f ++ [(max s.1 o.1, min s.2 o.2)] else f
def csRow (os : List Fr) (f : List Fr) (s : Fr) : List Fr := os.foldl (csOne s) f
def commonSt (ss os : List Fr) : List Fr := sortP (ss.foldl (csRow os) [])
def letAll (per : Fr) (lks : List Lk) : List Fr := lks.foldl (fun f l => commonSt f (letBy per l)) [(0, per.1)]
def arcTail (r : Int) (f : List Fr) : List Fr :=
  let l := f.getLastD z2
  let f2 := f.dropLast
  let h := f2.headD (0, 0)
  f2.tail ++ [if l.1 = r then (0, h.2) else (l.1, r + h.2)]
def arcsBy (per : Fr) (lks : List Lk) : List Fr :=
  let f := letAll per lks
  if f = [(0, per.1)] ∨ f = [] then f else sortP (if (f.getD 0 z2).1 = 0 then arcTail per.1 f else f)
/-! ### stories -/
def isSound (per ph : Fr) (lks : List Lk) : Bool := !((lks.filter fun l => decide (l.1 = ("sound" : Str))).map fun l => hasMark per ph l).any id
def endsOf (per : Fr) (lks : List Lk) : List Int := lks.foldl (fun e l => putM (putM e (l.2.1 * per.2 % per.1)) (l.2.2 * per.2 % per.1)) [0]
def phasesOf (per : Fr) (lks : List Lk) : List Fr := ((sortI (endsOf per lks)).map fun e => frac e per.2).filter fun ph => isSound per ph lks
def numMarks (lks : List Lk) : List Int := ((enumI lks).filter fun p => decide (p.2.1 = ("mark" : Str))).map fun p => p.1
def zLk : Lk := ("", 0, 0)
def shownBy (per ph : Fr) (lks : List Lk) : List Int := (numMarks lks).filter fun n => hasMark per ph (lks.getD n.toNat zLk)
def waysOne (lks : List Lk) (per : Fr) : List (List Int × Fr) := (phasesOf per lks).foldl (fun d ph => putD d (shownBy per ph lks) ph) []
def waysOf (tr : List Rl) (lks : List Lk) : List (List (List Int × Fr)) := (periods tr).map (waysOne lks)
def joined (a b : List Int) : List Int := sortU (a ++ b)
def tellIn (roller : Int) (shown : List Int) (story : List Dt) (d : List (List Int × List Dt)) (w : List Int × Fr) : List (List Int × List Dt) := putD d (joined shown w.1) (story ++ [(roller, w.2)])
def tellRow (ways : List (List Int × Fr)) (roller : Int) (d : List (List Int × List Dt)) (p : List Int × List Dt) : List (List Int × List Dt) := ways.foldl (tellIn roller p.1 p.2) d
def tellOne (ways : List (List (List Int × Fr))) (found : List (List Int × List Dt)) (roller : Int) : List (List Int × List Dt) := found.foldl (tellRow (ways.getD roller.toNat []) roller) []
def toldBy (ways : List (List (List Int × Fr))) (lot : List Int) : List (List Int × List Dt) := lot.foldl (tellOne ways) [([], [])]
def lotRow (many : Int) (lot : List Int) : List (List Int) := (rng (if lot = [] then 0 else lot.getLastD 0 + 1) (many - (if lot = [] then 0 else lot.getLastD 0 + 1)).toNat).map fun one => lot ++ [one]
def lotsOf (many : Int) : Nat → List (List Int)
  | 0 => [[]]
  | n + 1 => (lotsOf many n).flatMap (lotRow many)
def lotStep (ways : List (List (List Int × Fr))) (wanted : List Int) (d : List (List Int × List Dt)) (lot : List Int) : List (List Int × List Dt) :=
  match getD (toldBy ways lot) wanted with
  | some st => putD d lot st
  | none => d
def sizeSt (tr : List Rl) (lks : List Lk) (size : Nat) : List (List Int × List Dt) := (lotsOf tr.length size).foldl (lotStep (waysOf tr lks) (numMarks lks)) []
/-- the first size with a story, from i on -/
def searchSt (tr : List Rl) (lks : List Lk) (i : Nat) : Nat → List (List Int × List Dt)
  | 0 => []
  | n + 1 => if (sizeSt tr lks i).isEmpty then searchSt tr lks (i + 1) n else sizeSt tr lks i
def storiesBy (tr : List Rl) (lks : List Lk) : List (List Int × List Dt) := searchSt tr lks 0 (tr.length + 1)
def fewestBy (tr : List Rl) (lks : List Lk) : Option (Int × List (List Int)) :=
  let lots := sortT ((storiesBy tr lks).map (·.1))
  if lots = [] then none else some (((lots.getD 0 []).length : Int), lots)
def someStory (tr : List Rl) (lks : List Lk) : Option (List Dt) :=
  let f := storiesBy tr lks
  if f.isEmpty then none else getD f (minT (f.map (·.1)))
/-! ### pieces -/
def mayBe (tr : List Rl) (lks : List Lk) (many : Int) (lk : Lk) : Bool := match fewestBy tr (lks ++ [lk]) with
  | none => false
  | some p => decide (p.1 = many)
def fewN (tr : List Rl) (lks : List Lk) : Int := ((fewestBy tr lks).getD (0, [])).1
def wordBy (tr : List Rl) (lks : List Lk) (pc : Fr) : Str :=
  if mayBe tr lks (fewN tr lks) ("mark", pc.1, pc.2) then if mayBe tr lks (fewN tr lks) ("sound", pc.1, pc.2) then "maybe" else "marked" else "sound"
/-! ### bounds -/
theorem rg_ok {lo hi st : Int} (h0 : 0 ≤ lo) (h1 : lo ≤ 1000000000000) (h2 : 0 ≤ hi) (h3 : hi ≤ 1000000000000) (h4 : 0 < st) (h5 : st < 1073741824) : L2.RgC lo hi st (rgN lo hi st) := by
  have hq : 0 ≤ (hi - lo - 1) / st ∨ hi ≤ lo := by
    rcases (show lo < hi ∨ hi ≤ lo by omega) with h | h
    · exact .inl (Int.ediv_nonneg (by omega) (by omega))
    · exact .inr h
  have hb : (hi - lo - 1) / st ≤ 1000000000000 := by
    rcases (show lo < hi ∨ hi ≤ lo by omega) with h | h
    · exact Int.le_trans (Int.ediv_le_self _ (by omega)) (by omega)
    · have h6 : (hi - lo - 1) / st ≤ 0 := Int.le_trans (Int.ediv_le_ediv h4 (show hi - lo - 1 ≤ 0 by omega)) (by simp)
      omega
  have e : (hi - lo + st - 1) / st = (hi - lo - 1) / st + 1 := by
    rw [show hi - lo + st - 1 = (hi - lo - 1) + 1 * st by omega, Int.add_mul_ediv_right _ _ (by omega)]
  have hs : Builtin.Range.rangeSize lo hi st = (rgN lo hi st : Int) := by
    unfold Builtin.Range.rangeSize rgN
    rw [if_pos h4, e]
    by_cases h : lo < hi
    · rw [if_pos h]
      rcases hq with q | q <;> omega
    · rw [if_neg h]
      have h6 : (hi - lo - 1) / st ≤ -1 := by
        have := Int.ediv_le_ediv h4 (show hi - lo - 1 ≤ -1 by omega)
        have h7 : (-1 : Int) / st = -1 := by
          rw [Int.neg_one_ediv, Int.sign_eq_one_of_pos h4]
        omega
      omega
  have hs2 : (rgN lo hi st : Int) ≤ 1000000000001 := by
    unfold rgN
    rw [e]
    omega
  refine ⟨by omega, by omega, ?_, hs⟩
  unfold Builtin.Range.small
  rw [hs]
  unfold Builtin.Range.rangeFitsLong
  simp only [Bool.and_eq_true, Bool.or_eq_true, decide_eq_true_eq, beq_iff_eq, if_pos h4]
  omega
theorem bot_ok {tr : List Rl} {L : Int} (hL : 0 < L) : ∀ (st : List Dt) (b : Int), 0 < b → b ∣ L → (∀ d ∈ st, 0 < d.2.2 ∧ d.2.2 ∣ L ∧ 0 < ((periods tr).getD d.1.toNat z2).2 ∧ ((periods tr).getD d.1.toNat z2).2 ∣ L) → 0 < st.foldl (botStep tr) b ∧ st.foldl (botStep tr) b ∣ L ∧ b ∣ st.foldl (botStep tr) b ∧ ∀ d ∈ st, d.2.2 ∣ st.foldl (botStep tr) b ∧ ((periods tr).getD d.1.toNat z2).2 ∣ st.foldl (botStep tr) b
  | [], b, h0, h1, _ => ⟨h0, h1, Int.dvd_refl _, fun d hd => nomatch hd⟩
  | d :: st, b, h0, h1, h2 => by
    obtain ⟨a1, a2, a3, a4⟩ := h2 d List.mem_cons_self
    obtain ⟨b1, b2, b3, b4⟩ := gcdI_bezout h0 a1 h1 a2
    obtain ⟨c1, c2, c3, c4⟩ := gcdI_bezout b4 a3 b1 a4
    obtain ⟨d1, d2, d3, d4⟩ := bot_ok hL st (botStep tr b d) c4 c1 fun x hx => h2 x (List.mem_cons_of_mem _ hx)
    rw [List.foldl_cons]
    refine ⟨d1, d2, Int.dvd_trans (Int.dvd_trans b2 c2) d3, fun x hx => ?_⟩
    rcases List.mem_cons.mp hx with e | e
    · subst e
      exact ⟨Int.dvd_trans (Int.dvd_trans b3 c2) d3, Int.dvd_trans c3 d3⟩
    · exact d4 x e
theorem ev_ok {p : Fr} {bot : Int} (h : PerOk p) (h0 : 0 < bot) (h1 : bot ≤ 4096) : bot ≤ p.1 * bot / p.2 ∧ p.1 * bot / p.2 < 1073741824 := by
  obtain ⟨q1, q2, q3, q4⟩ := h
  have e1 : p.2 * bot ≤ p.1 * bot := Int.mul_le_mul q1 (Int.le_refl _) (by omega) (by omega)
  have e2 : p.1 * bot ≤ 245760 * 4096 := Int.mul_le_mul q2 h1 (by omega) (by omega)
  have e3 : 0 ≤ p.1 * bot := Int.mul_nonneg (by omega) (by omega)
  refine ⟨Int.le_ediv_of_mul_le q3 (by rw [Int.mul_comm]; exact e1), ?_⟩
  have := Int.ediv_le_self p.2 e3
  omega
theorem rg_few {lo e bot ev : Int} (h0 : 0 ≤ lo) (h1 : 0 ≤ e) (h2 : e ≤ 400) (h3 : 0 < bot) (h4 : bot ≤ ev) : rgN lo (e * bot + 1) ev ≤ 401 := by
  unfold rgN
  have e1 : e * bot ≤ 400 * ev := Int.mul_le_mul h2 h4 (by omega) (by omega)
  have e2 : (e * bot + 1 - lo + ev - 1) / ev ≤ 401 := by
    have : (e * bot + 1 - lo + ev - 1) / ev ≤ (401 * ev) / ev := Int.ediv_le_ediv (by omega) (by omega)
    rwa [Int.mul_ediv_cancel _ (by omega)] at this
  omega
end W92
namespace W92
open PySem Gm
theorem marks_len {tr : List Rl} {st : List Dt} {bot en : Int} (ht : TrOk tr) (hs : StoryOk tr st) (b1 : 0 < bot) (b2 : bot ≤ 4096) (e0 : 0 ≤ en) (e1 : en ≤ 400) : ∀ j, ((st.take j).foldl (fun f d => (marksIn tr bot en d).foldl putM f) []).length ≤ 401 * j
  | 0 => by simp
  | j + 1 => by
    have ih := marks_len ht hs b1 b2 e0 e1 j
    cases h : st[j]? with
    | none =>
      rw [List.take_add_one, h]
      simp only [Option.toList, List.append_nil]
      omega
    | some d =>
      rw [foldl_take _ _ _ _ h]
      have hd := hs.1 d (List.mem_of_getElem? h)
      have z := foldM_len (marksIn tr bot en d) ((st.take j).foldl (fun f d => (marksIn tr bot en d).foldl putM f) [])
      have ml : (marksIn tr bot en d).length ≤ 401 := by
        unfold marksIn rgS
        rw [List.length_map, List.length_range]
        exact rg_few (Int.ediv_nonneg (Int.mul_nonneg hd.2.2.1.1 (by omega)) (by have := hd.2.2.1.2.2.1; omega)) e0 e1 b1 (ev_ok (per_getD ht hd.1 hd.2.1) b1 b2).1
      omega
end W92
namespace W92
open PySem Gm
theorem botOf_ok {tr : List Rl} {st : List Dt} (ht : TrOk tr) (hs : StoryOk tr st) (hb : BotOk tr st) : 0 < botOf tr st ∧ botOf tr st ≤ 4096 := by
  obtain ⟨L, l1, l2, l3⟩ := hb
  obtain ⟨a1, a2, _⟩ := bot_ok (tr := tr) l1 st 1 (by decide) (Int.one_dvd _) fun d hd => ⟨(hs.1 d hd).2.2.1.2.2.1, (l3 d hd).1, (per_getD ht (hs.1 d hd).1 (hs.1 d hd).2.1).2.2.1, (l3 d hd).2⟩
  exact ⟨a1, Int.le_trans (dvd_le a2 l1) l2⟩
theorem marks_nn {tr : List Rl} {st : List Dt} {bot en : Int} (ht : TrOk tr) (hs : StoryOk tr st) (b1 : 0 < bot) (b2 : bot ≤ 4096) (ys : List Dt) (hy : ∀ d ∈ ys, d ∈ st) (m : Int) (hm : m ∈ ys.foldl (fun f d => (marksIn tr bot en d).foldl putM f) []) : 0 ≤ m := by
  have gen : ∀ (ys : List Dt) (f : List Int), (∀ d ∈ ys, d ∈ st) → (∀ m ∈ f, 0 ≤ m) → ∀ m ∈ ys.foldl (fun f d => (marksIn tr bot en d).foldl putM f) f, 0 ≤ m := by
    intro ys
    induction ys with
    | nil => intro f _ hf m hm; exact hf m hm
    | cons d ys ih =>
      intro f hy hf m hm
      rw [List.foldl_cons] at hm
      refine ih _ (fun x hx => hy x (List.mem_cons_of_mem _ hx)) (fun k hk => ?_) m hm
      rw [foldM_mem] at hk
      rcases hk with z | z
      · exact hf k z
      · unfold marksIn rgS at z
        obtain ⟨i, _, e⟩ := List.mem_map.mp z
        have hd := hs.1 d (hy d List.mem_cons_self)
        have h1 : 0 ≤ begOf bot d := Int.ediv_nonneg (Int.mul_nonneg hd.2.2.1.1 (by omega)) (by have := hd.2.2.1.2.2.1; omega)
        have h2 := (ev_ok (per_getD ht hd.1 hd.2.1) b1 b2).1
        have h3 : 0 ≤ (i : Int) * evOf tr bot d := Int.mul_nonneg (by omega) (by unfold evOf; omega)
        omega
  exact gen ys [] hy (fun _ h => nomatch h) m hm
end W92
namespace W92
open PySem Gm
theorem csOne_len (s : Fr) (f : List Fr) (o : Fr) : (csOne s f o).length ≤ f.length + 1 := by
  unfold csOne
  split
  · simp
  · omega
theorem csRow_len (s : Fr) (os f : List Fr) : ∀ k, ((os.take k).foldl (csOne s) f).length ≤ f.length + k := by
  have gen : ∀ (os f : List Fr), (os.foldl (csOne s) f).length ≤ f.length + os.length := by
    intro os
    induction os with
    | nil => intro f; simp
    | cons o os ih =>
      intro f
      have := ih (csOne s f o)
      have := csOne_len s f o
      simp only [List.foldl_cons, List.length_cons]
      omega
  intro k
  have := gen (os.take k) f
  have := List.length_take_le k os
  omega
theorem csAll_len (os ss : List Fr) : ∀ j, ((ss.take j).foldl (csRow os) []).length ≤ j * os.length := by
  have gen : ∀ (ss f : List Fr), (ss.foldl (csRow os) f).length ≤ f.length + ss.length * os.length := by
    intro ss
    induction ss with
    | nil => intro f; simp
    | cons s ss ih =>
      intro f
      have h1 := ih (csRow os f s)
      have h2 := csRow_len s os f os.length
      rw [List.take_length] at h2
      have h3 : (ss.length + 1) * os.length = ss.length * os.length + os.length := Nat.succ_mul _ _
      simp only [List.foldl_cons, List.length_cons]
      unfold csRow at h1 ⊢
      omega
  intro j
  have h1 := gen (ss.take j) []
  have h2 : (ss.take j).length * os.length ≤ j * os.length := Nat.mul_le_mul_right _ (List.length_take_le j ss)
  simp only [List.length_nil] at h1
  omega
end W92
namespace W92
open PySem Gm
theorem stretches_len (r f l : Int) : (stretches r f l).length ≤ 2 := by
  unfold stretches
  repeat' split
  all_goals simp
theorem letBy_len (per : Fr) (l : Lk) : (letBy per l).length ≤ 2 := by
  unfold letBy
  repeat' split
  all_goals first | exact stretches_len _ _ _ | simp
theorem commonSt_len (ss os : List Fr) : (commonSt ss os).length ≤ ss.length * os.length := by
  unfold commonSt
  rw [(sortP_perm _).length_eq]
  have h := csAll_len os ss ss.length
  rwa [List.take_length] at h
theorem letAll_len (per : Fr) (lk : List Lk) : ∀ j, j ≤ 8 → ((lk.take j).foldl (fun f l => commonSt f (letBy per l)) [(0, per.1)]).length ≤ 256 := by
  have gen : ∀ (lk : List Lk) (f : List Fr), (lk.foldl (fun f l => commonSt f (letBy per l)) f).length ≤ f.length * 2 ^ lk.length := by
    intro lk
    induction lk with
    | nil => intro f; simp
    | cons l lk ih =>
      intro f
      have h1 := ih (commonSt f (letBy per l))
      have h2 := commonSt_len f (letBy per l)
      have h3 : f.length * (letBy per l).length ≤ f.length * 2 := Nat.mul_le_mul_left _ (letBy_len per l)
      have h4 : (commonSt f (letBy per l)).length * 2 ^ lk.length ≤ (f.length * 2) * 2 ^ lk.length := Nat.mul_le_mul_right _ (by omega)
      have h5 : f.length * 2 ^ (lk.length + 1) = (f.length * 2) * 2 ^ lk.length := by rw [Nat.pow_succ, Nat.mul_comm (2 ^ lk.length) 2, Nat.mul_assoc]
      simp only [List.foldl_cons, List.length_cons]
      omega
  intro j hj
  have h1 := gen (lk.take j) [(0, per.1)]
  have h2 : 2 ^ (lk.take j).length ≤ 2 ^ 8 := Nat.pow_le_pow_right (by decide) (Nat.le_trans (List.length_take_le j lk) hj)
  simp only [List.length_cons, List.length_nil] at h1
  omega
end W92
namespace W92
open PySem Gm
theorem num_mem {lk : List Lk} {n : Int} : n ∈ numMarks lk ↔ ∃ (i : Nat) (l : Lk), n = i ∧ lk[i]? = some l ∧ l.1 = ("mark" : Str) := by
  unfold numMarks enumI
  constructor
  · intro h
    obtain ⟨p, h1, rfl⟩ := List.mem_map.mp h
    obtain ⟨h2, h3⟩ := List.mem_filter.mp h1
    obtain ⟨q, h4, rfl⟩ := List.mem_map.mp h2
    obtain ⟨x, i⟩ := q
    rw [List.mem_zipIdx_iff_getElem?] at h4
    exact ⟨i, x, rfl, h4, of_decide_eq_true h3⟩
  · rintro ⟨i, l, rfl, h1, h2⟩
    refine List.mem_map.mpr ⟨((i : Int), l), List.mem_filter.mpr ⟨List.mem_map.mpr ⟨(l, i), ?_, rfl⟩, decide_eq_true h2⟩, rfl⟩
    rw [List.mem_zipIdx_iff_getElem?]
    exact h1
theorem num_ix {lk : List Lk} {n : Int} (h : n ∈ numMarks lk) : 0 ≤ n ∧ n.toNat < lk.length := by
  obtain ⟨i, l, rfl, h1, _⟩ := num_mem.mp h
  have := (List.getElem?_eq_some_iff.mp h1).1
  exact ⟨by omega, by omega⟩
theorem num_lk {lk : List Lk} {n : Int} (hk : LksOk lk) (h : n ∈ numMarks lk) : LkOk (lk.getD n.toNat zLk) := by
  obtain ⟨i, l, rfl, h1, _⟩ := num_mem.mp h
  rw [show ((i : Int)).toNat = i by omega, List.getD_eq_getElem?_getD, h1]
  exact hk.2 l (List.mem_of_getElem? h1)
theorem num_len (lk : List Lk) : (numMarks lk).length ≤ lk.length := by
  unfold numMarks
  rw [List.length_map]
  exact Nat.le_trans (List.length_filter_le _ _) (by rw [enumI_len]; exact Nat.le_refl _)
theorem ends_len (per : Fr) (lk : List Lk) : ∀ j, ((lk.take j).foldl (fun e l => putM (putM e (l.2.1 * per.2 % per.1)) (l.2.2 * per.2 % per.1)) [0]).length ≤ 2 * lk.length + 1 := by
  have gen : ∀ (lk : List Lk) (f : List Int), (lk.foldl (fun e l => putM (putM e (l.2.1 * per.2 % per.1)) (l.2.2 * per.2 % per.1)) f).length ≤ f.length + 2 * lk.length := by
    intro lk
    induction lk with
    | nil => intro f; simp
    | cons l lk ih =>
      intro f
      have h1 := ih (putM (putM f (l.2.1 * per.2 % per.1)) (l.2.2 * per.2 % per.1))
      have h2 := putM_len f (l.2.1 * per.2 % per.1)
      have h3 := putM_len (putM f (l.2.1 * per.2 % per.1)) (l.2.2 * per.2 % per.1)
      simp only [List.foldl_cons, List.length_cons]
      omega
  intro j
  have h1 := gen (lk.take j) [0]
  have h2 := List.length_take_le' j lk
  simp only [List.length_cons, List.length_nil] at h1
  omega
theorem ends_b {per : Fr} (hq : PerOk per) (lk : List Lk) : ∀ e ∈ endsOf per lk, 0 ≤ e ∧ e < per.1 := by
  have gen : ∀ (lk : List Lk) (f : List Int), (∀ e ∈ f, 0 ≤ e ∧ e < per.1) → ∀ e ∈ lk.foldl (fun e l => putM (putM e (l.2.1 * per.2 % per.1)) (l.2.2 * per.2 % per.1)) f, 0 ≤ e ∧ e < per.1 := by
    intro lk
    induction lk with
    | nil => intro f h; exact h
    | cons l lk ih =>
      intro f h
      refine ih _ fun e he => ?_
      have p0 : 0 < per.1 := Int.lt_of_lt_of_le hq.2.2.1 hq.1
      rw [putM_mem, putM_mem] at he
      rcases he with (z | z) | z
      · exact h e z
      · rw [z]; exact ⟨Int.emod_nonneg _ (by omega), Int.emod_lt_of_pos _ p0⟩
      · rw [z]; exact ⟨Int.emod_nonneg _ (by omega), Int.emod_lt_of_pos _ p0⟩
  exact gen lk [0] fun e he => by
    rw [List.mem_singleton.mp he]
    exact ⟨by decide, Int.lt_of_lt_of_le hq.2.2.1 hq.1⟩
theorem ph_ok {per : Fr} (hq : PerOk per) {lk : List Lk} {ph : Fr} (h : ph ∈ (sortI (endsOf per lk)).map fun e => frac e per.2) : PhOk ph := by
  obtain ⟨e, h1, rfl⟩ := List.mem_map.mp h
  obtain ⟨h2, h3⟩ := ends_b hq lk e ((sortI_perm _).mem_iff.mp h1)
  obtain ⟨q1, q2, q3, q4⟩ := hq
  obtain ⟨f1, f2, f3, f4⟩ := frac_b (t := e) h2 q3
  exact ⟨f1, by omega, f3, by omega⟩
theorem stretches_b {r f l : Int} (hr : 0 < r) (hl : 0 ≤ l) : ∀ p ∈ stretches r f l, 0 ≤ p.1 ∧ p.1 ≤ p.2 ∧ p.2 ≤ r := by
  have h1 := Int.emod_nonneg f (show r ≠ 0 by omega)
  have h2 := Int.emod_lt_of_pos f hr
  intro p hp
  unfold stretches at hp
  split at hp
  · rw [List.mem_singleton.mp hp]; exact ⟨Int.le_refl 0, by dsimp only; omega, by dsimp only; omega⟩
  · split at hp
    · rcases List.mem_cons.mp hp with e | e
      · rw [e]; exact ⟨Int.le_refl 0, by dsimp only; omega, by dsimp only; omega⟩
      · rw [List.mem_singleton.mp e]; exact ⟨by dsimp only; omega, by dsimp only; omega, by dsimp only; omega⟩
    · split at hp
      · rcases List.mem_cons.mp hp with e | e
        · rw [e]; exact ⟨Int.le_refl 0, by dsimp only; omega, by dsimp only; omega⟩
        · rw [List.mem_singleton.mp e]; exact ⟨by dsimp only; omega, by dsimp only; omega, by dsimp only; omega⟩
      · rw [List.mem_singleton.mp hp]; exact ⟨by dsimp only; omega, by dsimp only; omega, by dsimp only; omega⟩
theorem letBy_b {per : Fr} (hq : PerOk per) {l : Lk} (hk : LkOk l) : ∀ p ∈ letBy per l, 0 ≤ p.1 ∧ p.1 ≤ p.2 ∧ p.2 ≤ per.1 := by
  obtain ⟨q1, q2, q3, q4⟩ := hq
  obtain ⟨k1, k2, k3, k4, k5⟩ := hk
  have hl : 0 ≤ (l.2.2 - l.2.1) * per.2 := Int.mul_nonneg (by rcases k5 with ⟨_, z⟩ | ⟨_, z⟩ <;> omega) (by omega)
  intro p hp
  unfold letBy at hp
  split at hp
  · exact stretches_b (by omega) hl p hp
  · split at hp
    · exact nomatch hp
    · exact stretches_b (by omega) (by omega) p hp
theorem csRow_b {s : Fr} {r : Int} (hs : 0 ≤ s.1 ∧ s.2 ≤ r) : ∀ (os f : List Fr), (∀ p ∈ os, 0 ≤ p.1 ∧ p.2 ≤ r) → (∀ p ∈ f, 0 ≤ p.1 ∧ p.1 ≤ p.2 ∧ p.2 ≤ r) → ∀ p ∈ os.foldl (csOne s) f, 0 ≤ p.1 ∧ p.1 ≤ p.2 ∧ p.2 ≤ r
  | [], f, _, hf => hf
  | o :: os, f, ho, hf => by
    rw [List.foldl_cons]
    refine csRow_b hs os _ (fun p hp => ho p (List.mem_cons_of_mem _ hp)) fun p hp => ?_
    have h1 := ho o List.mem_cons_self
    unfold csOne at hp
    split at hp
    · rcases List.mem_append.mp hp with e | e
      · exact hf p e
      · rw [List.mem_singleton.mp e]
        exact ⟨by dsimp only; omega, by dsimp only; omega, by dsimp only; omega⟩
    · exact hf p hp
theorem common_b {ss os : List Fr} {r : Int} (hs : ∀ p ∈ ss, 0 ≤ p.1 ∧ p.2 ≤ r) (ho : ∀ p ∈ os, 0 ≤ p.1 ∧ p.2 ≤ r) : ∀ p ∈ commonSt ss os, 0 ≤ p.1 ∧ p.1 ≤ p.2 ∧ p.2 ≤ r := by
  have gen : ∀ (ss f : List Fr), (∀ p ∈ ss, 0 ≤ p.1 ∧ p.2 ≤ r) → (∀ p ∈ f, 0 ≤ p.1 ∧ p.1 ≤ p.2 ∧ p.2 ≤ r) → ∀ p ∈ ss.foldl (csRow os) f, 0 ≤ p.1 ∧ p.1 ≤ p.2 ∧ p.2 ≤ r := by
    intro ss
    induction ss with
    | nil => intro f _ hf; exact hf
    | cons s ss ih =>
      intro f h1 hf
      exact ih _ (fun p hp => h1 p (List.mem_cons_of_mem _ hp)) (csRow_b (h1 s List.mem_cons_self) os f ho hf)
  intro p hp
  exact gen ss [] hs (fun _ h => nomatch h) p ((sortP_perm _).mem_iff.mp hp)
theorem letAll_b {per : Fr} (hq : PerOk per) {lk : List Lk} (hk : LksOk lk) : ∀ p ∈ letAll per lk, 0 ≤ p.1 ∧ p.1 ≤ p.2 ∧ p.2 ≤ per.1 := by
  have gen : ∀ (lk : List Lk) (f : List Fr), (∀ l ∈ lk, LkOk l) → (∀ p ∈ f, 0 ≤ p.1 ∧ p.1 ≤ p.2 ∧ p.2 ≤ per.1) → ∀ p ∈ lk.foldl (fun f l => commonSt f (letBy per l)) f, 0 ≤ p.1 ∧ p.1 ≤ p.2 ∧ p.2 ≤ per.1 := by
    intro lk
    induction lk with
    | nil => intro f _ hf; exact hf
    | cons l lk ih =>
      intro f h1 hf
      exact ih _ (fun p hp => h1 p (List.mem_cons_of_mem _ hp)) (common_b (fun p hp => ⟨(hf p hp).1, (hf p hp).2.2⟩) fun p hp => ⟨(letBy_b hq (h1 l List.mem_cons_self) p hp).1, (letBy_b hq (h1 l List.mem_cons_self) p hp).2.2⟩)
  refine gen lk _ hk.2 fun p hp => ?_
  rw [List.mem_singleton.mp hp]
  have : 0 < per.1 := Int.lt_of_lt_of_le hq.2.2.1 hq.1
  exact ⟨Int.le_refl 0, by dsimp only; omega, by dsimp only; omega⟩
theorem arcs_nn {per : Fr} (hq : PerOk per) {lk : List Lk} (hk : LksOk lk) : ∀ p ∈ arcsBy per lk, 0 ≤ p.1 ∧ 0 ≤ p.2 := by
  have hb := letAll_b hq hk
  have hb2 : ∀ p ∈ letAll per lk, 0 ≤ p.1 ∧ 0 ≤ p.2 := fun p hp => by have := hb p hp; exact ⟨this.1, by omega⟩
  have p0 : 0 < per.1 := Int.lt_of_lt_of_le hq.2.2.1 hq.1
  intro p hp
  unfold arcsBy at hp
  simp only at hp
  split at hp
  · exact hb2 p hp
  · rename_i h0
    have ne : letAll per lk ≠ [] := fun z => h0 (.inr z)
    have hp2 := (sortP_perm _).mem_iff.mp hp
    split at hp2
    · unfold arcTail at hp2
      simp only at hp2
      have h3 : 0 ≤ ((letAll per lk).dropLast.headD (0, 0)).2 := by
        cases e : (letAll per lk).dropLast with
        | nil => decide
        | cons a t =>
          have hm : a ∈ letAll per lk := List.dropLast_subset _ (by rw [e]; exact List.mem_cons_self)
          exact (hb2 a hm).2
      have h4 : 0 ≤ ((letAll per lk).getLastD z2).1 := by
        rw [List.getLastD_eq_getLast?, List.getLast?_eq_some_getLast ne]
        exact (hb2 _ (List.getLast_mem ne)).1
      rcases List.mem_append.mp hp2 with e | e
      · exact hb2 p (List.dropLast_subset _ (List.mem_of_mem_tail e))
      · rw [List.mem_singleton.mp e]
        split
        · exact ⟨Int.le_refl 0, h3⟩
        · exact ⟨h4, by dsimp only; omega⟩
    · exact hb2 p hp2
theorem arcsBy_len {per : Fr} (hq : PerOk per) {lk : List Lk} (hk : LksOk lk) : (arcsBy per lk).length ≤ 300 := by
  have ll : (letAll per lk).length ≤ 256 := by
    have h := letAll_len per lk lk.length hk.1
    rwa [List.take_length] at h
  unfold arcsBy
  simp only
  split
  · omega
  · rw [(sortP_perm _).length_eq]
    split
    · unfold arcTail
      simp only [List.length_append, List.length_tail, List.length_dropLast, List.length_cons, List.length_nil]
      omega
    · omega
end W92
set_option Elab.async false
set_option linter.all false
set_option maxHeartbeats 4000000
namespace W92
open PySem Gm
theorem phases_len (per : Fr) {lk : List Lk} (hk : LksOk lk) : (phasesOf per lk).length ≤ 17 := by
  unfold phasesOf
  refine Nat.le_trans (List.length_filter_le _ _) ?_
  rw [List.length_map, (sortI_perm _).length_eq]
  have h := ends_len per lk lk.length
  rw [List.take_length] at h
  have := hk.1
  unfold endsOf
  omega
theorem shown_len (per ph : Fr) {lk : List Lk} (hk : LksOk lk) : (shownBy per ph lk).length ≤ 8 := by
  unfold shownBy
  exact Nat.le_trans (List.length_filter_le _ _) (Nat.le_trans (num_len lk) hk.1)
theorem way_part {per : Fr} {lk : List Lk} (hk : LksOk lk) (j : Nat) : (((phasesOf per lk).take j).foldl (fun d ph => putD d (shownBy per ph lk) ph) []).length ≤ j := by
  have gen : ∀ (ps : List Fr) (d : List (List Int × Fr)), (ps.foldl (fun d ph => putD d (shownBy per ph lk) ph) d).length ≤ d.length + ps.length := by
    intro ps
    induction ps with
    | nil => intro d; simp
    | cons p ps ih =>
      intro d
      have h1 := ih (putD d (shownBy per p lk) p)
      have h2 := putD_len d (shownBy per p lk) p
      simp only [List.foldl_cons, List.length_cons]
      omega
  have h1 := gen ((phasesOf per lk).take j) []
  have h2 := List.length_take_le j (phasesOf per lk)
  simp only [List.length_nil] at h1
  omega
/-- the keys of a dict after a put -/
theorem putD_keys {α : Type} {P : List Int × α → Prop} {d : List (List Int × α)} {k : List Int} {v : α} (h : ∀ p ∈ d, P p) (hk : P (k, v)) : ∀ p ∈ putD d k v, P p := by
  intro p hp
  unfold putD at hp
  split at hp
  · obtain ⟨q, hq, e⟩ := List.mem_map.mp hp
    split at e
    · rename_i e2
      rw [← e, e2]
      exact hk
    · rw [← e]
      exact h q hq
  · rcases List.mem_append.mp hp with z | z
    · exact h p z
    · rw [List.mem_singleton.mp z]
      exact hk
/-- what ways must keep to -/
def WaysOk (n : Nat) (ways : List (List (List Int × Fr))) : Prop := ways.length = n ∧ n ≤ 4 ∧ ∀ w ∈ ways, w.length ≤ 17 ∧ ∀ p ∈ w, p.1.length ≤ 8
theorem ways_ok {tr : List Rl} {lk : List Lk} (ht : TrOk tr) (hk : LksOk lk) : WaysOk tr.length (waysOf tr lk) := by
  refine ⟨by unfold waysOf; rw [List.length_map, periods_len], ht.2.1, fun w hw => ?_⟩
  obtain ⟨per, _, rfl⟩ := List.mem_map.mp hw
  unfold waysOne
  constructor
  · have h := way_part (per := per) hk (phasesOf per lk).length
    rw [List.take_length] at h
    exact Nat.le_trans h (phases_len per hk)
  · have gen : ∀ (ps : List Fr) (d : List (List Int × Fr)), (∀ p ∈ d, p.1.length ≤ 8) → ∀ p ∈ ps.foldl (fun d ph => putD d (shownBy per ph lk) ph) d, p.1.length ≤ 8 := by
      intro ps
      induction ps with
      | nil => intro d h; exact h
      | cons q ps ih => intro d h; exact ih _ (putD_keys h (shown_len per q hk))
    exact gen _ [] fun _ h => nomatch h
abbrev DS := List (List Int × List Dt)
def TellOk (j : Nat) (d : DS) : Prop := d.length ≤ 17 ^ j ∧ ∀ p ∈ d, p.1.length ≤ 8 * j ∧ p.2.length ≤ j
theorem sortU_len (xs : List Int) : (sortU xs).length ≤ xs.length := by
  unfold sortU
  rw [(sortI_perm _).length_eq]
  have := foldM_len xs []
  simpa using this
theorem joined_len (a b : List Int) : (joined a b).length ≤ a.length + b.length := by
  have := sortU_len (a ++ b)
  rwa [List.length_append] at this
theorem tellRow_len (ws : List (List Int × Fr)) (r : Int) (d : DS) (p : List Int × List Dt) : ∀ k, ((ws.take k).foldl (tellIn r p.1 p.2) d).length ≤ d.length + k := by
  have gen : ∀ (ws : List (List Int × Fr)) (d : DS), (ws.foldl (tellIn r p.1 p.2) d).length ≤ d.length + ws.length := by
    intro ws
    induction ws with
    | nil => intro d; simp
    | cons w ws ih =>
      intro d
      have h1 := ih (tellIn r p.1 p.2 d w)
      have h2 := putD_len d (joined p.1 w.1) (p.2 ++ [(r, w.2)])
      simp only [List.foldl_cons, List.length_cons]
      unfold tellIn at *
      omega
  intro k
  have h1 := gen (ws.take k) d
  have h2 := List.length_take_le k ws
  omega
theorem tellOne_len (ws : List (List Int × Fr)) (r : Int) (f : DS) (hw : ws.length ≤ 17) : ∀ j, ((f.take j).foldl (tellRow ws r) []).length ≤ j * 17 := by
  have gen : ∀ (f d : DS), (f.foldl (tellRow ws r) d).length ≤ d.length + f.length * 17 := by
    intro f
    induction f with
    | nil => intro d; simp
    | cons p f ih =>
      intro d
      have h1 := ih (tellRow ws r d p)
      have h2 := tellRow_len ws r d p ws.length
      rw [List.take_length] at h2
      simp only [List.foldl_cons, List.length_cons]
      unfold tellRow at *
      omega
  intro j
  have h1 := gen (f.take j) []
  have h2 := List.length_take_le j f
  simp only [List.length_nil] at h1
  omega
theorem tellIn_ok {j : Nat} {r : Int} {p : List Int × List Dt} (hp : p.1.length ≤ 8 * j ∧ p.2.length ≤ j) : ∀ (ws : List (List Int × Fr)) (d : DS), (∀ w ∈ ws, w.1.length ≤ 8) → (∀ q ∈ d, q.1.length ≤ 8 * (j + 1) ∧ q.2.length ≤ j + 1) → ∀ q ∈ ws.foldl (tellIn r p.1 p.2) d, q.1.length ≤ 8 * (j + 1) ∧ q.2.length ≤ j + 1
  | [], d, _, hd => hd
  | w :: ws, d, hw, hd => by
    rw [List.foldl_cons]
    refine tellIn_ok hp ws _ (fun x hx => hw x (List.mem_cons_of_mem _ hx)) ?_
    have h1 := hw w List.mem_cons_self
    have h2 := joined_len p.1 w.1
    have h3 : (joined p.1 w.1).length ≤ 8 * (j + 1) := by omega
    have h4 : (p.2 ++ [(r, w.2)]).length ≤ j + 1 := by
      rw [List.length_append]
      simp
      omega
    exact putD_keys (α := List Dt) (P := fun (q : List Int × List Dt) => q.1.length ≤ 8 * (j + 1) ∧ q.2.length ≤ j + 1) hd ⟨h3, h4⟩
theorem tell_ok {n : Nat} {ways : List (List (List Int × Fr))} (hw : WaysOk n ways) (lot : List Int) : ∀ j, (∀ r ∈ lot, 0 ≤ r ∧ r < n) → TellOk j ((lot.take j).foldl (tellOne ways) [([], [])])
  | 0, _ => by
    refine ⟨by simp, fun p hp => ?_⟩
    simp at hp
    subst hp
    simp
  | j + 1, hl => by
    have ih := tell_ok hw lot j hl
    cases e : lot[j]? with
    | none =>
      rw [List.take_add_one, e]
      simp only [Option.toList, List.append_nil]
      refine ⟨Nat.le_trans ih.1 (Nat.pow_le_pow_right (by decide) (by omega)), fun p hp => ?_⟩
      have := ih.2 p hp
      omega
    | some r =>
      rw [foldl_take _ _ _ _ e]
      obtain ⟨r0, r1⟩ := hl r (List.mem_of_getElem? e)
      have hr : r.toNat < ways.length := by rw [hw.1]; omega
      have hm : ways.getD r.toNat [] ∈ ways := by
        rw [List.getD_eq_getElem?_getD, List.getElem?_eq_getElem hr]
        exact List.getElem_mem hr
      obtain ⟨w1, w2⟩ := hw.2.2 _ hm
      unfold tellOne
      constructor
      · have h := tellOne_len (ways.getD r.toNat []) r ((lot.take j).foldl (tellOne ways) [([], [])]) w1 ((lot.take j).foldl (tellOne ways) [([], [])]).length
        rw [List.take_length] at h
        have h2 : ((lot.take j).foldl (tellOne ways) [([], [])]).length * 17 ≤ 17 ^ j * 17 := Nat.mul_le_mul_right _ ih.1
        rw [Nat.pow_succ]
        exact Nat.le_trans h h2
      · have gen : ∀ (f d : DS), (∀ p ∈ f, p.1.length ≤ 8 * j ∧ p.2.length ≤ j) → (∀ q ∈ d, q.1.length ≤ 8 * (j + 1) ∧ q.2.length ≤ j + 1) → ∀ q ∈ f.foldl (tellRow (ways.getD r.toNat []) r) d, q.1.length ≤ 8 * (j + 1) ∧ q.2.length ≤ j + 1 := by
          intro f
          induction f with
          | nil => intro d _ h; exact h
          | cons p f ih2 =>
            intro d hf hd
            exact ih2 _ (fun x hx => hf x (List.mem_cons_of_mem _ hx)) (tellIn_ok (hf p List.mem_cons_self) _ d w2 hd)
        exact gen _ [] ih.2 fun _ h => nomatch h
theorem pow17 {j : Nat} (h : j ≤ 3) : 17 ^ j * 17 ≤ 83521 := by
  have : j = 0 ∨ j = 1 ∨ j = 2 ∨ j = 3 := by omega
  rcases this with z | z | z | z <;> subst z <;> decide
/-! ### lots -/
theorem lots_ok {many : Int} (h4 : many ≤ 4) : ∀ (n : Nat), (lotsOf many n).length ≤ 4 ^ n ∧ ∀ l ∈ lotsOf many n, l.length = n ∧ ∀ r ∈ l, 0 ≤ r ∧ r < many
  | 0 => by
    refine ⟨by simp [lotsOf], fun l hl => ?_⟩
    simp [lotsOf] at hl
    subst hl
    simp
  | n + 1 => by
    obtain ⟨h1, h2⟩ := lots_ok h4 n
    have h3 : ∀ l ∈ lotsOf many n, (lotRow many l).length ≤ 4 := fun l hl => by
      unfold lotRow
      rw [List.length_map, rng_len]
      split
      · omega
      · rename_i hne
        have : 0 ≤ l.getLastD 0 := by
          rw [List.getLastD_eq_getLast?, List.getLast?_eq_some_getLast hne]
          exact ((h2 l hl).2 _ (List.getLast_mem hne)).1
        omega
    constructor
    · have gen : ∀ (ls : List (List Int)), (∀ l ∈ ls, (lotRow many l).length ≤ 4) → (ls.flatMap (lotRow many)).length ≤ ls.length * 4 := by
        intro ls
        induction ls with
        | nil => intro _; simp
        | cons l ls ih =>
          intro h
          have a1 := ih fun x hx => h x (List.mem_cons_of_mem _ hx)
          have a2 := h l List.mem_cons_self
          simp only [List.flatMap_cons, List.length_append, List.length_cons]
          omega
      have a := gen _ h3
      show ((lotsOf many n).flatMap (lotRow many)).length ≤ 4 ^ (n + 1)
      rw [Nat.pow_succ]
      exact Nat.le_trans a (Nat.mul_le_mul_right _ h1)
    · intro l hl
      obtain ⟨l0, m0, hl2⟩ := List.mem_flatMap.mp hl
      unfold lotRow at hl2
      obtain ⟨o, ho, rfl⟩ := List.mem_map.mp hl2
      obtain ⟨e1, e2⟩ := h2 l0 m0
      refine ⟨by rw [List.length_append, e1]; rfl, fun r hr => ?_⟩
      rcases List.mem_append.mp hr with z | z
      · exact e2 r z
      · rw [List.mem_singleton.mp z]
        unfold rng at ho
        obtain ⟨i, hi, rfl⟩ := List.mem_map.mp ho
        rw [List.mem_range] at hi
        have h0 : 0 ≤ (if l0 = [] then (0 : Int) else l0.getLastD 0 + 1) := by
          split
          · decide
          · rename_i hne
            have : 0 ≤ l0.getLastD 0 := by
              rw [List.getLastD_eq_getLast?, List.getLast?_eq_some_getLast hne]
              exact (e2 _ (List.getLast_mem hne)).1
            omega
        omega
theorem lot_last {many : Int} (h4 : many ≤ 4) {n : Nat} {l : List Int} (hl : l ∈ lotsOf many n) (hne : l ≠ []) : 0 ≤ l.getLastD 0 ∧ l.getLastD 0 < many := by
  rw [List.getLastD_eq_getLast?, List.getLast?_eq_some_getLast hne]
  exact ((lots_ok h4 n).2 l hl).2 _ (List.getLast_mem hne)
end W92
namespace W92
open PySem Gm
theorem search_at {tr : List Rl} {lk : List Lk} : ∀ (n i j : Nat), i ≤ j → j < i + n → (∀ s, i ≤ s → s < j → (sizeSt tr lk s).isEmpty = true) → (sizeSt tr lk j).isEmpty = false → searchSt tr lk i n = sizeSt tr lk j
  | 0, i, j, h1, h2, _, _ => by omega
  | n + 1, i, j, h1, h2, h3, h4 => by
    unfold searchSt
    by_cases e : i = j
    · subst e
      rw [if_neg (by rw [h4]; decide)]
    · rw [if_pos (h3 i (Nat.le_refl _) (by omega))]
      exact search_at n (i + 1) j (by omega) (by omega) (fun s a b => h3 s (by omega) b) h4
theorem search_none {tr : List Rl} {lk : List Lk} : ∀ (n i : Nat), (∀ s, i ≤ s → s < i + n → (sizeSt tr lk s).isEmpty = true) → searchSt tr lk i n = []
  | 0, i, _ => rfl
  | n + 1, i, h => by
    unfold searchSt
    rw [if_pos (h i (Nat.le_refl _) (by omega))]
    exact search_none n (i + 1) fun s a b => h s (by omega) (by omega)
theorem stories_at {tr : List Rl} {lk : List Lk} {j : Nat} (h2 : j ≤ tr.length) (h3 : ∀ s, s < j → (sizeSt tr lk s).isEmpty = true) (h4 : (sizeSt tr lk j).isEmpty = false) : storiesBy tr lk = sizeSt tr lk j :=
  search_at _ 0 j (Nat.zero_le _) (by omega) (fun s _ b => h3 s b) h4
theorem stories_none {tr : List Rl} {lk : List Lk} (h3 : ∀ s, s < tr.length + 1 → (sizeSt tr lk s).isEmpty = true) : storiesBy tr lk = [] :=
  search_none _ 0 fun s _ b => h3 s (by omega)
/-- the first size with a story, or none -/
theorem stories_cases (tr : List Rl) (lk : List Lk) : (storiesBy tr lk = [] ∧ ∀ s, s < tr.length + 1 → (sizeSt tr lk s).isEmpty = true) ∨ ∃ j, j ≤ tr.length ∧ (∀ s, s < j → (sizeSt tr lk s).isEmpty = true) ∧ (sizeSt tr lk j).isEmpty = false ∧ storiesBy tr lk = sizeSt tr lk j := by
  by_cases h : ∀ s, s < tr.length + 1 → (sizeSt tr lk s).isEmpty = true
  · exact .inl ⟨stories_none h, h⟩
  · right
    have ex : ∃ s, s < tr.length + 1 ∧ (sizeSt tr lk s).isEmpty = false := Classical.byContradiction fun q => h fun s hs => by
      cases e : (sizeSt tr lk s).isEmpty with
      | true => rfl
      | false => exact absurd ⟨s, hs, e⟩ q
    have least : ∀ n, (∃ s, s < n ∧ s < tr.length + 1 ∧ (sizeSt tr lk s).isEmpty = false) → ∃ j, j ≤ tr.length ∧ (∀ s, s < j → (sizeSt tr lk s).isEmpty = true) ∧ (sizeSt tr lk j).isEmpty = false := by
      intro n
      induction n with
      | zero => rintro ⟨s, h1, _⟩; omega
      | succ n ih =>
        rintro ⟨s, h1, h2, h3⟩
        by_cases hq : ∃ s', s' < s ∧ (sizeSt tr lk s').isEmpty = false
        · obtain ⟨s', a, b⟩ := hq
          exact ih ⟨s', by omega, by omega, b⟩
        · refine ⟨s, by omega, fun s' a => ?_, h3⟩
          cases e : (sizeSt tr lk s').isEmpty with
          | true => rfl
          | false => exact absurd ⟨s', a, e⟩ hq
    obtain ⟨s, h1, h2⟩ := ex
    obtain ⟨j, a, b, c⟩ := least (s + 1) ⟨s, by omega, h1, h2⟩
    exact ⟨j, a, b, c, stories_at a b c⟩
theorem lotStep_keys {ways} {wanted : List Int} {n : Nat} {d : DS} {lot : List Int} (h : ∀ p ∈ d, p.1.length = n) (hl : lot.length = n) : ∀ p ∈ lotStep ways wanted d lot, p.1.length = n := by
  unfold lotStep
  split
  · exact putD_keys (P := fun p => p.1.length = n) h hl
  · exact h
theorem sizeSt_b (tr : List Rl) (lk : List Lk) (h4 : tr.length ≤ 4) (n k : Nat) : (((lotsOf tr.length n).take k).foldl (lotStep (waysOf tr lk) (numMarks lk)) []).length ≤ k ∧ ∀ p ∈ ((lotsOf tr.length n).take k).foldl (lotStep (waysOf tr lk) (numMarks lk)) [], p.1.length = n := by
  have gen : ∀ (ls : List (List Int)) (d : DS), (∀ l ∈ ls, l.length = n) → (∀ p ∈ d, p.1.length = n) → (ls.foldl (lotStep (waysOf tr lk) (numMarks lk)) d).length ≤ d.length + ls.length ∧ ∀ p ∈ ls.foldl (lotStep (waysOf tr lk) (numMarks lk)) d, p.1.length = n := by
    intro ls
    induction ls with
    | nil => intro d _ h; exact ⟨by simp, h⟩
    | cons l ls ih =>
      intro d h1 h2
      obtain ⟨a, b⟩ := ih (lotStep (waysOf tr lk) (numMarks lk) d l) (fun x hx => h1 x (List.mem_cons_of_mem _ hx)) (lotStep_keys h2 (h1 l List.mem_cons_self))
      have c : (lotStep (waysOf tr lk) (numMarks lk) d l).length ≤ d.length + 1 := by
        unfold lotStep
        split
        · exact putD_len _ _ _
        · omega
      refine ⟨?_, b⟩
      simp only [List.foldl_cons, List.length_cons]
      omega
  obtain ⟨a, b⟩ := gen ((lotsOf tr.length n).take k) [] (fun l hl => ((lots_ok (by omega) n).2 l (List.mem_of_mem_take hl)).1) fun _ h => nomatch h
  have c := List.length_take_le k (lotsOf tr.length n)
  exact ⟨by simp only [List.length_nil] at a; omega, b⟩
theorem stories_b {tr : List Rl} {lk : List Lk} (ht : TrOk tr) : ((∀ b ∈ (storiesBy tr lk).map (·.1), b ≠ []) ∨ (storiesBy tr lk).length ≤ 1) ∧ (storiesBy tr lk).length ≤ 256 := by
  rcases stories_cases tr lk with ⟨e, _⟩ | ⟨j, h1, _, _, e⟩
  · rw [e]
    exact ⟨.inr (by decide), by decide⟩
  · have h4 := ht.2.1
    have b := sizeSt_b tr lk h4 j (lotsOf tr.length j).length
    rw [List.take_length] at b
    have c := (lots_ok (many := (tr.length : Int)) (by omega) j).1
    rw [e]
    have b1 : (sizeSt tr lk j).length ≤ (lotsOf tr.length j).length := b.1
    have b2 : ∀ p ∈ sizeSt tr lk j, p.1.length = j := b.2
    constructor
    · by_cases hj : j = 0
      · subst hj
        refine .inr (Nat.le_trans b1 ?_)
        simp [lotsOf]
      · refine .inl fun x hx => ?_
        obtain ⟨p, hp, rfl⟩ := List.mem_map.mp hx
        intro z
        have := b2 p hp
        rw [z] at this
        simp at this
        omega
    · have p4 : 4 ^ j ≤ 4 ^ 4 := Nat.pow_le_pow_right (by decide) (by omega)
      have p5 : (4 : Nat) ^ 4 = 256 := rfl
      omega
end W92
namespace W92
open PySem Gm
theorem minT_mem {ks : List (List Int)} (h : ks ≠ []) : minT ks ∈ ks := by
  unfold minT
  have hb : ∀ (bt : Nat → Nat → Bool) (n : Nat), argBest bt n ≤ n := by
    intro bt n
    induction n with
    | zero => exact Nat.le_refl _
    | succ n ih =>
      unfold argBest
      split <;> omega
  have hl := List.length_pos_iff.mpr h
  have h1 := hb (fun i j => PySem.W.dataLt ((ks.map encR).getD i .none) ((ks.map encR).getD j .none)) (ks.length - 1)
  have h2 : argBest (fun i j => PySem.W.dataLt ((ks.map encR).getD i .none) ((ks.map encR).getD j .none)) (ks.length - 1) < ks.length := by omega
  rw [List.getD_eq_getElem?_getD, List.getElem?_eq_getElem h2]
  exact List.getElem_mem h2
theorem getD_some_iff {α : Type} {d : List (List Int × α)} {k : List Int} : (Gm.getD d k).isSome = true ↔ k ∈ d.map (·.1) := by
  unfold Gm.getD
  rw [Option.isSome_map, List.find?_isSome]
  constructor
  · rintro ⟨p, h1, h2⟩
    exact List.mem_map.mpr ⟨p, h1, of_decide_eq_true h2⟩
  · intro h
    obtain ⟨p, h1, h2⟩ := List.mem_map.mp h
    exact ⟨p, h1, decide_eq_true h2⟩
/-- a piece -/
def PcOk (p : Fr) : Prop := 0 ≤ p.1 ∧ p.1 < p.2 ∧ p.2 ≤ 400
/-- where words are told -/
def WordOk (tr : List Rl) (lk : List Lk) : Prop := TrOk tr ∧ LksOk lk ∧ lk.length ≤ 7 ∧ (fewestBy tr lk).isSome = true
theorem lks_app {lk : List Lk} {l : Lk} (h : LksOk lk) (h7 : lk.length ≤ 7) (hl : LkOk l) : LksOk (lk ++ [l]) := by
  refine ⟨by rw [List.length_append]; simp; omega, fun x hx => ?_⟩
  rcases List.mem_append.mp hx with z | z
  · exact h.2 x z
  · rw [List.mem_singleton.mp z]
    exact hl
theorem mark_ok {p : Fr} (h : PcOk p) : LkOk ("mark", p.1, p.2) := ⟨h.1, by have := h.2; dsimp only; omega, by have := h.2.1; have := h.1; dsimp only; omega, h.2.2, .inl ⟨rfl, Int.le_of_lt h.2.1⟩⟩
theorem sound_ok {p : Fr} (h : PcOk p) : LkOk ("sound", p.1, p.2) := ⟨h.1, by have := h.2; dsimp only; omega, by have := h.2.1; have := h.1; dsimp only; omega, h.2.2, .inr ⟨rfl, h.2.1⟩⟩
end W92
set_option Elab.async false
set_option linter.all false
set_option maxHeartbeats 4000000
/-! what the law's own defs compute -/
namespace W92
open PySem Gm
def penOf (c : Int) : List Int := [max 0 (c - 10 ^ 18), c % 2147483629 + 1, 0]
def lawTB (ts : List Rl) (a : Int × Int) : Int × Int := ts.foldl (fun p r => (p.1 * r.2.1, p.2 * r.2.2)) a
def lawPer (tr : List Rl) (i : Nat) : Fr := frac (lawTB (tr.drop i) ((tr.getD i (0, 0, 0)).1, 1)).1 (lawTB (tr.drop i) ((tr.getD i (0, 0, 0)).1, 1)).2
def lawPeriods (tr : List Rl) : List Fr := (List.range tr.length).map (lawPer tr)
def lawTest (each : List Fr) (at_ : Int) (d : Dt) : Bool :=
  let p := each.getD d.1.toNat z2
  let by_ := d.2.2 * p.2
  let beg := d.2.1 * p.2
  let ev := p.1 * d.2.2
  let ov := if (at_ * by_ - beg) / ev + 1 < 0 then 0 else (at_ * by_ - beg) / ev + 1
  decide (at_ * by_ < beg + ov * ev) && decide (beg + ov * ev < (at_ + 1) * by_)
def lawNear (each : List Fr) (st : List Dt) (at_ : Int) : Bool := st.any (lawTest each at_)
def lawComes (per ph : Fr) (f l inn : Int) : Bool :=
  let by_ := ph.2 * per.2
  let beg := ph.1 * per.2
  let ev := per.1 * ph.2
  let lo := f * by_ + inn
  let hi := l * by_ - inn
  decide ((if lo ≤ beg then beg else lo + (beg - lo) % ev) ≤ hi)
def lawEnds (lks : List Lk) : List Int := lks.map (fun l => l.2.1) ++ lks.map (fun l => l.2.2) ++ [0]
def lawRow (per ph : Fr) (lks : List Lk) : List Int := (enumI lks).foldl (fun f p => if (decide (p.2.1 = ("mark" : Str)) && lawComes per ph p.2.2.1 p.2.2.2 0) = true then f ++ [p.1] else f) []
def lawBroken (per ph : Fr) (lks : List Lk) : List Int := (((lks.filter fun l => decide (l.1 = ("sound" : Str))).map fun l => l).filter fun l => lawComes per ph l.2.1 l.2.2 1).map fun _ => 1
def lawPh (per : Fr) (e : Int) : Fr := frac (e * per.2 % per.1) per.2
def lawWayStep (per : Fr) (lks : List Lk) (f : List (List Int)) (e : Int) : List (List Int) :=
  if lawBroken per (lawPh per e) lks = [] ∧ ¬ lawRow per (lawPh per e) lks ∈ f then f ++ [lawRow per (lawPh per e) lks] else f
def lawWays (per : Fr) (lks : List Lk) : List (List Int) := (lawEnds lks).foldl (lawWayStep per lks) []
def lawTellIn (row : List Int) (d : List (List Int × Bool)) (m : List Int) : List (List Int × Bool) := putD d (sortU (row ++ m)) true
def lawTellRow (ms : List (List Int)) (d : List (List Int × Bool)) (row : List Int) : List (List Int × Bool) := ms.foldl (lawTellIn row) d
def lawTellOne (ways : List (List (List Int))) (rows : List (List Int)) (r : Int) : List (List Int) := (rows.foldl (lawTellRow (ways.getD r.toNat [])) []).map (·.1)
def lawTells (ways : List (List (List Int))) (lot wanted : List Int) : Bool := decide (wanted ∈ lot.foldl (lawTellOne ways) [[]])
def lawLotStep (most : Int) (rows : List (List Int)) (a : Int) : List (List Int) := rows ++ (rows.filter fun r => decide ((r.length : Int) < most)).map fun r => r ++ [a]
def lawLots (count : Nat) (most : Int) : List (List Int) := (rng 0 count).foldl (lawLotStep most) [[]]
def lawSize (tr : List Rl) (lks : List Lk) (size : Nat) : List (List Int) :=
  (lawLots tr.length size).filter fun lot => decide ((lot.length : Int) = size) && lawTells ((lawPeriods tr).map fun p => lawWays p lks) lot (numMarks lks)
def lawSearch (tr : List Rl) (lks : List Lk) (i : Nat) : Nat → Option (Int × List (List Int))
  | 0 => none
  | n + 1 => if lawSize tr lks i = [] then lawSearch tr lks (i + 1) n else some ((i : Int), sortT (lawSize tr lks i))
def lawFewest (tr : List Rl) (lks : List Lk) : Option (Int × List (List Int)) := lawSearch tr lks 0 (tr.length + 1)
theorem lawTB_b {ts : List Rl} (h : ∀ r ∈ ts, RolOk r) : ∀ {a : Int × Int} {j : Nat}, ts.length ≤ j → j ≤ 4 → 1 ≤ a.2 → a.2 ≤ a.1 → a.1 ≤ 60 * 8 ^ (4 - j) → a.2 ≤ 8 ^ (4 - j) → 1 ≤ (lawTB ts a).2 ∧ (lawTB ts a).2 ≤ (lawTB ts a).1 ∧ (lawTB ts a).1 ≤ 245760 ∧ (lawTB ts a).2 ≤ 4096 := by
  induction ts with
  | nil =>
    intro a j h1 h2 h3 h4 h5 h6
    have p : (8 : Int) ^ (4 - j) ≤ 8 ^ 4 := by
      have : j = 0 ∨ j = 1 ∨ j = 2 ∨ j = 3 ∨ j = 4 := by omega
      rcases this with z | z | z | z | z <;> subst z <;> decide
    have e : (8 : Int) ^ 4 = 4096 := by decide
    unfold lawTB
    simp only [List.foldl_nil]
    omega
  | cons r ts ih =>
    intro a j h1 h2 h3 h4 h5 h6
    obtain ⟨r1, r2, r3, r4, r5, r6⟩ := h r List.mem_cons_self
    simp only [List.length_cons] at h1
    have hj : j = (j - 1) + 1 := by omega
    have e8 : (8 : Int) ^ (4 - (j - 1)) = 8 ^ (4 - j) * 8 := by
      rw [show 4 - (j - 1) = (4 - j) + 1 by omega, Int.pow_succ]
    have p0 : (0 : Int) ≤ 8 ^ (4 - j) := Int.le_of_lt (Int.pow_pos (by decide))
    have b1 : 1 ≤ a.2 * r.2.2 := Int.le_trans (by omega) (Int.mul_le_mul h3 r5 (by omega) (by omega))
    have b2 : a.2 * r.2.2 ≤ a.1 * r.2.1 := Int.mul_le_mul h4 r6 (by omega) (by omega)
    have b3 : a.1 * r.2.1 ≤ (60 * 8 ^ (4 - j)) * 8 := Int.mul_le_mul h5 r4 (by omega) (by omega)
    have b4 : a.2 * r.2.2 ≤ 8 ^ (4 - j) * 8 := Int.mul_le_mul h6 (by omega) (by omega) p0
    exact ih (fun x hx => h x (List.mem_cons_of_mem _ hx)) (a := (a.1 * r.2.1, a.2 * r.2.2)) (j := j - 1) (by omega) (by omega) b1 b2 (by rw [e8]; dsimp only; omega) (by rw [e8]; dsimp only; omega)
end W92
namespace W92
open PySem Gm
theorem lawTB_mul : ∀ (ts : List Rl) (a b : Int), lawTB ts (a, b) = (a * (lawTB ts (1, 1)).1, b * (lawTB ts (1, 1)).2)
  | [], a, b => by simp [lawTB]
  | r :: ts, a, b => by
    have h1 := lawTB_mul ts (a * r.2.1) (b * r.2.2)
    have h2 := lawTB_mul ts (1 * r.2.1) (1 * r.2.2)
    show lawTB ts (a * r.2.1, b * r.2.2) = (a * (lawTB ts (1 * r.2.1, 1 * r.2.2)).1, b * (lawTB ts (1 * r.2.1, 1 * r.2.2)).2)
    rw [h1, h2]
    simp only [Int.one_mul, Int.mul_assoc]
theorem perSt_full (r : Rl) (tr : List Rl) : perSt (r :: tr) (r :: tr).reverse.length = perStep (perSt tr tr.reverse.length) r := by
  unfold perSt
  rw [List.take_length, List.take_length, List.reverse_cons, List.foldl_append]
  rfl
theorem perSt_tb : ∀ tr : List Rl, (perSt tr tr.reverse.length).2 = lawTB tr (1, 1)
  | [] => rfl
  | r :: tr => by
    rw [perSt_full]
    have h := perSt_tb tr
    show ((perSt tr tr.reverse.length).2.1 * r.2.1, (perSt tr tr.reverse.length).2.2 * r.2.2) = lawTB tr (1 * r.2.1, 1 * r.2.2)
    rw [h, lawTB_mul tr (1 * r.2.1) (1 * r.2.2), Int.one_mul, Int.one_mul, Int.mul_comm r.2.1, Int.mul_comm r.2.2]
theorem lawPeriods_eq : ∀ tr : List Rl, lawPeriods tr = periods tr
  | [] => rfl
  | r :: tr => by
    have ih := lawPeriods_eq tr
    unfold periods
    rw [perSt_full]
    show _ = ((perSt tr tr.reverse.length).1 ++ [_]).reverse
    rw [List.reverse_append]
    show _ = _ :: (perSt tr tr.reverse.length).1.reverse
    have ih2 : lawPeriods tr = (perSt tr tr.reverse.length).1.reverse := ih
    rw [← ih2]
    unfold lawPeriods
    rw [List.length_cons, List.range_succ_eq_map, List.map_cons, List.map_map]
    congr 1
    unfold lawPer
    show frac (lawTB (r :: tr) (r.1, 1)).1 (lawTB (r :: tr) (r.1, 1)).2 = _
    rw [perSt_tb]
    show frac (lawTB tr (r.1 * r.2.1, 1 * r.2.2)).1 (lawTB tr (r.1 * r.2.1, 1 * r.2.2)).2 = _
    rw [lawTB_mul]
    simp only [Int.one_mul, Int.mul_assoc, Int.mul_comm, Int.mul_left_comm]
end W92
namespace W92
open PySem Gm
theorem lawLots_b (most : Int) (xs : List Int) : ∀ j, ((xs.take j).foldl (lawLotStep most) [[]]).length ≤ 2 ^ j ∧ ∀ r ∈ (xs.take j).foldl (lawLotStep most) [[]], r.length ≤ j
  | 0 => by simp
  | j + 1 => by
    obtain ⟨h1, h2⟩ := lawLots_b most xs j
    cases e : xs[j]? with
    | none =>
      rw [List.take_add_one, e]
      simp only [Option.toList, List.append_nil]
      refine ⟨Nat.le_trans h1 (Nat.pow_le_pow_right (by decide) (by omega)), fun r hr => Nat.le_succ_of_le (h2 r hr)⟩
    | some x =>
      rw [foldl_take _ _ _ _ e]
      generalize (xs.take j).foldl (lawLotStep most) [[]] = rows at h1 h2 ⊢
      unfold lawLotStep
      constructor
      · rw [List.length_append, List.length_map]
        have := List.length_filter_le (fun r : List Int => decide ((r.length : Int) < most)) rows
        have e2 : 2 ^ (j + 1) = 2 ^ j * 2 := Nat.pow_succ ..
        omega
      · intro r hr
        rcases List.mem_append.mp hr with z | z
        · exact Nat.le_succ_of_le (h2 r z)
        · obtain ⟨r0, h3, rfl⟩ := List.mem_map.mp z
          have := h2 r0 (List.mem_filter.mp h3).1
          rw [List.length_append]
          simp
          omega
theorem lawEnds_b {lk : List Lk} (hk : LksOk lk) : ∀ e ∈ lawEnds lk, 0 ≤ e ∧ e ≤ 400 := by
  intro e he
  unfold lawEnds at he
  rcases List.mem_append.mp he with z | z
  · rcases List.mem_append.mp z with z | z
    · obtain ⟨l, hl, rfl⟩ := List.mem_map.mp z
      have := hk.2 l hl
      exact ⟨this.1, this.2.1⟩
    · obtain ⟨l, hl, rfl⟩ := List.mem_map.mp z
      have := hk.2 l hl
      exact ⟨this.2.2.1, this.2.2.2.1⟩
  · rw [List.mem_singleton.mp z]
    decide
theorem lawPh_ok {per : Fr} (hq : PerOk per) (e : Int) : PhOk (lawPh per e) := by
  obtain ⟨q1, q2, q3, q4⟩ := hq
  have h1 := Int.emod_nonneg (e * per.2) (show per.1 ≠ 0 by omega)
  have h2 := Int.emod_lt_of_pos (e * per.2) (show 0 < per.1 by omega)
  obtain ⟨f1, f2, f3, f4⟩ := frac_b (t := e * per.2 % per.1) (b := per.2) h1 q3
  exact ⟨f1, by unfold lawPh; omega, f3, by unfold lawPh; omega⟩
theorem lawWays_len (per : Fr) (lk : List Lk) (es : List Int) : ∀ j, ((es.take j).foldl (lawWayStep per lk) []).length ≤ j := by
  have gen : ∀ (es : List Int) (f : List (List Int)), (es.foldl (lawWayStep per lk) f).length ≤ f.length + es.length := by
    intro es
    induction es with
    | nil => intro f; simp
    | cons e es ih =>
      intro f
      have h1 := ih (lawWayStep per lk f e)
      have h2 : (lawWayStep per lk f e).length ≤ f.length + 1 := by
        unfold lawWayStep
        split
        · simp
        · omega
      simp only [List.foldl_cons, List.length_cons]
      omega
  intro j
  have h1 := gen (es.take j) []
  have h2 := List.length_take_le j es
  simp only [List.length_nil] at h1
  omega
theorem lawRow_len (per ph : Fr) (lk : List Lk) : ∀ k, (((enumI lk).take k).foldl (fun f p => if (decide (p.2.1 = ("mark" : Str)) && lawComes per ph p.2.2.1 p.2.2.2 0) = true then f ++ [p.1] else f) []).length ≤ k := by
  have gen : ∀ (ps : List (Int × Lk)) (f : List Int), (ps.foldl (fun f p => if (decide (p.2.1 = ("mark" : Str)) && lawComes per ph p.2.2.1 p.2.2.2 0) = true then f ++ [p.1] else f) f).length ≤ f.length + ps.length := by
    intro ps
    induction ps with
    | nil => intro f; simp
    | cons p ps ih =>
      intro f
      have h1 := ih (if (decide (p.2.1 = ("mark" : Str)) && lawComes per ph p.2.2.1 p.2.2.2 0) = true then f ++ [p.1] else f)
      have h2 : (if (decide (p.2.1 = ("mark" : Str)) && lawComes per ph p.2.2.1 p.2.2.2 0) = true then f ++ [p.1] else f).length ≤ f.length + 1 := by
        split
        · simp
        · omega
      simp only [List.foldl_cons, List.length_cons]
      omega
  intro k
  have h1 := gen ((enumI lk).take k) []
  have h2 := List.length_take_le k (enumI lk)
  simp only [List.length_nil] at h1
  omega
theorem enum_lk {lk : List Lk} (hk : LksOk lk) {k : Nat} {y : Int × Lk} (h : (enumI lk)[k]? = some y) : LkOk y.2 := by
  have hm := List.mem_of_getElem? h
  unfold enumI at hm
  obtain ⟨q, h4, rfl⟩ := List.mem_map.mp hm
  obtain ⟨x, i⟩ := q
  rw [List.mem_zipIdx_iff_getElem?] at h4
  exact hk.2 x (List.mem_of_getElem? h4)
end W92
namespace W92
theorem mem_fm {α : Type} {p : α → Bool} {l : List α} {x : α} (h : x ∈ (l.filter p).map (fun x => x)) : x ∈ l := by
  obtain ⟨y, h1, h2⟩ := List.mem_map.mp h
  rw [← h2]
  exact (List.mem_filter.mp h1).1
end W92
namespace W92
theorem and_t {A B : Prop} {i : Decidable A} {j : Decidable B} (h : (decide A && !decide B) = true) : A ∧ ¬ B := by
  simpa using h
theorem and_f {A B : Prop} {i : Decidable A} {j : Decidable B} (h : (decide A && !decide B) = false) : ¬ (A ∧ ¬ B) := by
  intro ⟨a, b⟩
  simp [a, b] at h
end W92
set_option Elab.async false
set_option linter.all false
set_option maxHeartbeats 4000000
namespace W92
open PySem Gm
def LWaysOk (n : Nat) (ways : List (List (List Int))) : Prop := ways.length = n ∧ n ≤ 4 ∧ ∀ w ∈ ways, w.length ≤ 17 ∧ ∀ p ∈ w, p.length ≤ 8
theorem lawTellRow_len (ms : List (List Int)) (row : List Int) (d : List (List Int × Bool)) : ∀ k, ((ms.take k).foldl (lawTellIn row) d).length ≤ d.length + k := by
  have gen : ∀ (ms : List (List Int)) (d : List (List Int × Bool)), (ms.foldl (lawTellIn row) d).length ≤ d.length + ms.length := by
    intro ms
    induction ms with
    | nil => intro d; simp
    | cons w ws ih =>
      intro d
      have h1 := ih (lawTellIn row d w)
      have h2 := putD_len d (sortU (row ++ w)) true
      simp only [List.foldl_cons, List.length_cons]
      unfold lawTellIn at *
      omega
  intro k
  have h1 := gen (ms.take k) d
  have h2 := List.length_take_le k ms
  omega
theorem lawTellAll_len (ms : List (List Int)) (hw : ms.length ≤ 17) (rows : List (List Int)) : ∀ j, ((rows.take j).foldl (lawTellRow ms) []).length ≤ j * 17 := by
  have gen : ∀ (f : List (List Int)) (d : List (List Int × Bool)), (f.foldl (lawTellRow ms) d).length ≤ d.length + f.length * 17 := by
    intro f
    induction f with
    | nil => intro d; simp
    | cons p f ih =>
      intro d
      have h1 := ih (lawTellRow ms d p)
      have h2 := lawTellRow_len ms p d ms.length
      rw [List.take_length] at h2
      simp only [List.foldl_cons, List.length_cons]
      unfold lawTellRow at *
      omega
  intro j
  have h1 := gen (rows.take j) []
  have h2 := List.length_take_le j rows
  simp only [List.length_nil] at h1
  omega
theorem lawTellIn_ok {j : Nat} {row : List Int} (hp : row.length ≤ 8 * j) : ∀ (ms : List (List Int)) (d : List (List Int × Bool)), (∀ w ∈ ms, w.length ≤ 8) → (∀ q ∈ d, q.1.length ≤ 8 * (j + 1)) → ∀ q ∈ ms.foldl (lawTellIn row) d, q.1.length ≤ 8 * (j + 1)
  | [], d, _, hd => hd
  | w :: ws, d, hw, hd => by
    rw [List.foldl_cons]
    refine lawTellIn_ok hp ws _ (fun x hx => hw x (List.mem_cons_of_mem _ hx)) ?_
    have h1 := hw w List.mem_cons_self
    have h2 := sortU_len (row ++ w)
    rw [List.length_append] at h2
    exact putD_keys (α := Bool) (P := fun (q : List Int × Bool) => q.1.length ≤ 8 * (j + 1)) hd (by show (sortU (row ++ w)).length ≤ 8 * (j + 1); omega)
theorem lawTell_ok {n : Nat} {ways : List (List (List Int))} (hw : LWaysOk n ways) (lot : List Int) : ∀ j, (∀ r ∈ lot, 0 ≤ r ∧ r < n) → ((lot.take j).foldl (lawTellOne ways) [[]]).length ≤ 17 ^ j ∧ ∀ p ∈ (lot.take j).foldl (lawTellOne ways) [[]], p.length ≤ 8 * j
  | 0, _ => by simp
  | j + 1, hl => by
    have ih := lawTell_ok hw lot j hl
    cases e : lot[j]? with
    | none =>
      rw [List.take_add_one, e]
      simp only [Option.toList, List.append_nil]
      refine ⟨Nat.le_trans ih.1 (Nat.pow_le_pow_right (by decide) (by omega)), fun p hp => ?_⟩
      have := ih.2 p hp
      omega
    | some r =>
      rw [foldl_take _ _ _ _ e]
      obtain ⟨r0, r1⟩ := hl r (List.mem_of_getElem? e)
      have hr : r.toNat < ways.length := by rw [hw.1]; omega
      have hm : ways.getD r.toNat [] ∈ ways := by
        rw [List.getD_eq_getElem?_getD, List.getElem?_eq_getElem hr]
        exact List.getElem_mem hr
      obtain ⟨w1, w2⟩ := hw.2.2 _ hm
      unfold lawTellOne
      constructor
      · have h := lawTellAll_len (ways.getD r.toNat []) w1 ((lot.take j).foldl (lawTellOne ways) [[]]) ((lot.take j).foldl (lawTellOne ways) [[]]).length
        rw [List.take_length] at h
        have h2 : ((lot.take j).foldl (lawTellOne ways) [[]]).length * 17 ≤ 17 ^ j * 17 := Nat.mul_le_mul_right _ ih.1
        rw [List.length_map, Nat.pow_succ]
        exact Nat.le_trans h h2
      · have gen : ∀ (f : List (List Int)) (d : List (List Int × Bool)), (∀ p ∈ f, p.length ≤ 8 * j) → (∀ q ∈ d, q.1.length ≤ 8 * (j + 1)) → ∀ q ∈ f.foldl (lawTellRow (ways.getD r.toNat [])) d, q.1.length ≤ 8 * (j + 1) := by
          intro f
          induction f with
          | nil => intro d _ h; exact h
          | cons p f ih2 =>
            intro d hf hd
            exact ih2 _ (fun x hx => hf x (List.mem_cons_of_mem _ hx)) (lawTellIn_ok (hf p List.mem_cons_self) _ d w2 hd)
        intro p hp
        obtain ⟨q, hq, rfl⟩ := List.mem_map.mp hp
        exact gen _ [] ih.2 (fun _ h => nomatch h) q hq
end W92
namespace W92
open PySem Gm
theorem lawRow_le (per ph : Fr) {lk : List Lk} (hk : LksOk lk) : (lawRow per ph lk).length ≤ 8 := by
  have h := lawRow_len per ph lk (enumI lk).length
  rw [List.take_length, enumI_len] at h
  exact Nat.le_trans h hk.1
theorem lawWays_b (per : Fr) {lk : List Lk} (hk : LksOk lk) : (lawWays per lk).length ≤ 17 ∧ ∀ p ∈ lawWays per lk, p.length ≤ 8 := by
  have el : (lawEnds lk).length ≤ 17 := by
    have := hk.1
    unfold lawEnds
    simp only [List.length_append, List.length_map, List.length_cons, List.length_nil]
    omega
  constructor
  · have h := lawWays_len per lk (lawEnds lk) (lawEnds lk).length
    rw [List.take_length] at h
    exact Nat.le_trans h el
  · have gen : ∀ (es : List Int) (f : List (List Int)), (∀ p ∈ f, p.length ≤ 8) → ∀ p ∈ es.foldl (lawWayStep per lk) f, p.length ≤ 8 := by
      intro es
      induction es with
      | nil => intro f h; exact h
      | cons e es ih =>
        intro f h
        refine ih _ fun p hp => ?_
        unfold lawWayStep at hp
        split at hp
        · rcases List.mem_append.mp hp with z | z
          · exact h p z
          · rw [List.mem_singleton.mp z]
            exact lawRow_le per _ hk
        · exact h p hp
    exact gen _ [] fun _ h => nomatch h
theorem lways_ok {tr : List Rl} {lk : List Lk} (ht : TrOk tr) (hk : LksOk lk) : LWaysOk tr.length ((lawPeriods tr).map fun p => lawWays p lk) := by
  refine ⟨by rw [List.length_map, lawPeriods_eq, periods_len], ht.2.1, fun w hw => ?_⟩
  obtain ⟨p, _, rfl⟩ := List.mem_map.mp hw
  exact lawWays_b p hk
/-- lots of at most so many of the first numbers -/
theorem lawLots_in (count : Nat) (most : Int) : ∀ l ∈ lawLots count most, ∀ r ∈ l, 0 ≤ r ∧ r < (count : Int) := by
  have gen : ∀ (xs : List Int) (rows : List (List Int)), (∀ x ∈ xs, 0 ≤ x ∧ x < (count : Int)) → (∀ l ∈ rows, ∀ r ∈ l, 0 ≤ r ∧ r < (count : Int)) → ∀ l ∈ xs.foldl (lawLotStep most) rows, ∀ r ∈ l, 0 ≤ r ∧ r < (count : Int) := by
    intro xs
    induction xs with
    | nil => intro rows _ h; exact h
    | cons x xs ih =>
      intro rows h1 h2
      refine ih _ (fun y hy => h1 y (List.mem_cons_of_mem _ hy)) fun l hl r hr => ?_
      unfold lawLotStep at hl
      rcases List.mem_append.mp hl with z | z
      · exact h2 l z r hr
      · obtain ⟨l0, h3, rfl⟩ := List.mem_map.mp z
        rcases List.mem_append.mp hr with z2 | z2
        · exact h2 l0 (List.mem_filter.mp h3).1 r z2
        · rw [List.mem_singleton.mp z2]
          exact h1 x List.mem_cons_self
  refine gen _ _ (fun x hx => ?_) fun l hl r hr => ?_
  · unfold rng at hx
    obtain ⟨i, hi, rfl⟩ := List.mem_map.mp hx
    rw [List.mem_range] at hi
    omega
  · rw [List.mem_singleton.mp hl] at hr
    cases hr
theorem lawSearch_at {tr : List Rl} {lk : List Lk} : ∀ (n i j : Nat), i ≤ j → j < i + n → (∀ s, i ≤ s → s < j → lawSize tr lk s = []) → lawSize tr lk j ≠ [] → lawSearch tr lk i n = some ((j : Int), sortT (lawSize tr lk j))
  | 0, i, j, h1, h2, _, _ => by omega
  | n + 1, i, j, h1, h2, h3, h4 => by
    unfold lawSearch
    by_cases e : i = j
    · subst e
      rw [if_neg h4]
    · rw [if_pos (h3 i (Nat.le_refl _) (by omega))]
      exact lawSearch_at n (i + 1) j (by omega) (by omega) (fun s a b => h3 s (by omega) b) h4
theorem lawSearch_none {tr : List Rl} {lk : List Lk} : ∀ (n i : Nat), (∀ s, i ≤ s → s < i + n → lawSize tr lk s = []) → lawSearch tr lk i n = none
  | 0, i, _ => rfl
  | n + 1, i, h => by
    unfold lawSearch
    rw [if_pos (h i (Nat.le_refl _) (by omega))]
    exact lawSearch_none n (i + 1) fun s a b => h s (by omega) (by omega)
end W92
set_option Elab.async false
set_option linter.all false
set_option maxHeartbeats 4000000
namespace W92
open PySem Gm
theorem lawLots_zero (count : Nat) : lawLots count 0 = [[]] := by
  have gen : ∀ (xs : List Int) (rows : List (List Int)), xs.foldl (lawLotStep 0) rows = rows := by
    intro xs
    induction xs with
    | nil => intro rows; rfl
    | cons x xs ih =>
      intro rows
      rw [List.foldl_cons, ih]
      unfold lawLotStep
      have e : rows.filter (fun r => decide ((r.length : Int) < 0)) = [] := List.filter_eq_nil_iff.mpr fun r _ => by simp
      rw [e]
      simp
  exact gen _ _
theorem lawSize_sort (tr : List Rl) (lk : List Lk) (j : Nat) : (∀ b ∈ lawSize tr lk j, b ≠ []) ∨ (lawSize tr lk j).length ≤ 1 := by
  by_cases hj : j = 0
  · subst hj
    right
    unfold lawSize
    refine Nat.le_trans (List.length_filter_le _ _) ?_
    show (lawLots tr.length 0).length ≤ 1
    rw [lawLots_zero]
    decide
  · left
    intro b hb hz
    subst hz
    have h := (List.mem_filter.mp hb).2
    rw [Bool.and_eq_true, decide_eq_true_eq] at h
    have := h.1
    simp at this
    omega
end W92
set_option Elab.async false
set_option linter.all false
set_option maxRecDepth 100000
set_option maxHeartbeats 4000000
namespace W92
open PySem PySem.Spec PyProof.Rows L2 Gm C8
variable {P : Program} {w : World} {K : PySem.W.Frag} {mg : Str → Option Value} {base : Heap}
abbrev sp_is_whole : Sp := spG (aC vI aN) false vB (fun _ => True) (fun _ => true)
abbrev N_is_whole : List Str := ["thing"]
theorem sc_is_whole : FnScope ["thing"] ["thing"] (L2.defScope (topS 10)) := ⟨rfl, rfl, rfl, by decide +kernel, rfl, by decide +kernel, by decide +kernel⟩
theorem c_is_whole (D : DefT K mg "is_whole" (topS 10)) (B : Bl mg) (C : Co mg)  : Cal P w K mg base 1 "is_whole" sp_is_whole [] := by
  refine cal_of (m := 0) D sc_is_whole (fits_im fits_nil) rfl (fun _ _ _ _ _ _ us hl => match us, hl with | [_], _ => rfl) (fun a cdv A outer s H E i hr hp => ?_)
  obtain ⟨a0, ⟨⟩⟩ := i
  have nd := sc_is_whole.nd
  refine ss_ret' (ex_and (ex_isi (F := vI) (r := true) B.isinstance (ex_im (F := vI) 0) (ex_ty B.int boot_int)) (fun h1 => (ex_one (ex_not (ex_isi (F := vI) (r := false) B.isinstance (ex_im (F := vI) 0) (ex_ty B.bool boot_bool)))))) ?_ (Same.refl _)
  exact rfl
abbrev sp_is_within : Sp := spG (aC vI (aC vI (aC vI aN))) false vB (fun _ => True) (fun i => decide (i.2.1 ≤ i.1) && decide (i.1 ≤ i.2.2.1))
abbrev N_is_within : List Str := ["thing", "least", "most"]
theorem sc_is_within : FnScope ["thing", "least", "most"] ["thing", "least", "most"] (L2.defScope (topS 11)) := ⟨rfl, rfl, rfl, by decide +kernel, rfl, by decide +kernel, by decide +kernel⟩
theorem c_is_within (D : DefT K mg "is_within" (topS 11)) (B : Bl mg) (C : Co mg) (c_is_whole : Cal P w K mg base 1 "is_whole" sp_is_whole []) : Cal P w K mg base 2 "is_within" sp_is_within [] := by
  refine cal_of (m := 0) D sc_is_within (fits_im (fits_im (fits_im fits_nil))) rfl (fun _ _ _ _ _ _ us hl => match us, hl with | [_, _, _], _ => rfl) (fun a cdv A outer s H E i hr hp => ?_)
  obtain ⟨a0, a1, a2, ⟨⟩⟩ := i
  have nd := sc_is_within.nd
  refine ss_ret' (ex_and (ex_call c_is_whole hr trivial (xa_cons (ex_im (F := vI) 0) xa_nil)) (fun h1 => (ex_one (ex_lele (ex_im (F := vI) 1) (ex_im (F := vI) 0) (ex_im (F := vI) 2))))) ?_ (Same.refl _)
  exact rfl
abbrev sp_is_from : Sp := spG (aC vI (aC vI aN)) false vB (fun _ => True) (fun i => decide (i.2.1 ≤ i.1))
abbrev N_is_from : List Str := ["thing", "least"]
theorem sc_is_from : FnScope ["thing", "least"] ["thing", "least"] (L2.defScope (topS 12)) := ⟨rfl, rfl, rfl, by decide +kernel, rfl, by decide +kernel, by decide +kernel⟩
theorem c_is_from (D : DefT K mg "is_from" (topS 12)) (B : Bl mg) (C : Co mg) (c_is_whole : Cal P w K mg base 1 "is_whole" sp_is_whole []) : Cal P w K mg base 2 "is_from" sp_is_from [] := by
  refine cal_of (m := 0) D sc_is_from (fits_im (fits_im fits_nil)) rfl (fun _ _ _ _ _ _ us hl => match us, hl with | [_, _], _ => rfl) (fun a cdv A outer s H E i hr hp => ?_)
  obtain ⟨a0, a1, ⟨⟩⟩ := i
  have nd := sc_is_from.nd
  refine ss_ret' (ex_and (ex_call c_is_whole hr trivial (xa_cons (ex_im (F := vI) 0) xa_nil)) (fun h1 => (ex_one (ex_le (ex_im (F := vI) 1) (ex_im (F := vI) 0))))) ?_ (Same.refl _)
  exact rfl
abbrev sp_is_long : Sp := spG (aC vTup (aC vI (aC vI aN))) false vB (fun _ => True) (fun i => decide (i.2.1 ≤ (i.1 : Int)) && decide ((i.1 : Int) ≤ i.2.2.1))
abbrev N_is_long : List Str := ["thing", "least", "most"]
theorem sc_is_long : FnScope ["thing", "least", "most"] ["thing", "least", "most"] (L2.defScope (topS 13)) := ⟨rfl, rfl, rfl, by decide +kernel, rfl, by decide +kernel, by decide +kernel⟩
theorem c_is_long (D : DefT K mg "is_long" (topS 13)) (B : Bl mg) (C : Co mg)  : Cal P w K mg base 1 "is_long" sp_is_long [] := by
  refine cal_of (m := 0) D sc_is_long (fits_im (fits_im (fits_im fits_nil))) rfl (fun _ _ _ _ _ _ us hl => match us, hl with | [_, _, _], _ => rfl) (fun a cdv A outer s H E i hr hp => ?_)
  obtain ⟨a0, a1, a2, ⟨⟩⟩ := i
  have nd := sc_is_long.nd
  refine ss_ret' (ex_and (ex_isi (F := vTup) (r := true) B.isinstance (ex_im (F := vTup) 0) (ex_ty B.tuple boot_tuple)) (fun h1 => (ex_one (ex_lele (ex_im (F := vI) 1) (ex_lenTup B.len (ex_im (F := vTup) 0)) (ex_im (F := vI) 2))))) ?_ (Same.refl _)
  exact rfl
abbrev sp_rises : Sp := spG (aC (vL vI) aN) false vB (fun i => i.1.length ≤ 100000) (fun i => rises i.1)
abbrev N_rises : List Str := ["row", "one", "later"]
theorem sc_rises : FnScope ["row", "one", "later"] ["row"] (L2.defScope (topS 14)) := ⟨rfl, rfl, rfl, by decide +kernel, rfl, by decide +kernel, by decide +kernel⟩
theorem c_rises (D : DefT K mg "rises" (topS 14)) (B : Bl mg) (C : Co mg)  : Cal P w K mg base 1 "rises" sp_rises [] := by
  refine cal_of (m := 2) D sc_rises (fits_ge fits_nil) rfl (fun _ _ _ _ _ _ us hl => match us, hl with | [_], _ => rfl) (fun a cdv A outer s H E i hr hp => ?_)
  obtain ⟨xs, ⟨⟩⟩ := i
  have nd := sc_rises.nd
  refine ss_ret' (ex_all rfl B.all (ex_lc0 [("one", 1), ("later", 2)] _ rfl nd (wk_zipL 0 B.zip (ex_slL (ex_ge (F := (vL vI)) 0) (eo_some ex_int) eo_none)) (fun _ _ _ _ _ _ _ _ => lg_pair 1 2 rfl nd) (fun _ _ _ _ _ _ x5 h1 h2 => (ex_lt (ex_im (F := vI) 1) (ex_im (F := vI) 2))) ?_ (blkOk_by (N := N_rises) (sc := L2.defScope (topS 14)) (by decide +kernel)))) ?_ (Same.refl _)
  · exact Nat.le_trans (List.length_zip ▸ Nat.min_le_left _ _) hp
  unfold rises
  have e : cut xs (some 1) none = xs.drop 1 := cut_from xs 1
  rw [e, List.all_map]
  rfl
abbrev sp_is_less : Sp := spG (aC (vP vI vI) (aC (vP vI vI) aN)) false vB (fun i => FrB i.1 ∧ FrB i.2.1) (fun i => decide (i.1.1 * i.2.1.2 < i.2.1.1 * i.1.2))
abbrev N_is_less : List Str := ["one", "other"]
theorem sc_is_less : FnScope ["one", "other"] ["one", "other"] (L2.defScope (topS 18)) := ⟨rfl, rfl, rfl, by decide +kernel, rfl, by decide +kernel, by decide +kernel⟩
theorem c_is_less (D : DefT K mg "is_less" (topS 18)) (B : Bl mg) (C : Co mg)  : Cal P w K mg base 1 "is_less" sp_is_less [] := by
  refine cal_of (m := 0) D sc_is_less (fits_im (fits_im fits_nil)) rfl (fun _ _ _ _ _ _ us hl => match us, hl with | [_, _], _ => rfl) (fun a cdv A outer s H E i hr hp => ?_)
  obtain ⟨⟨a, b⟩, ⟨c, d⟩, ⟨⟩⟩ := i
  have nd := sc_is_less.nd
  obtain ⟨⟨h1, h2, h3, h4⟩, h5, h6, h7, h8⟩ := hp
  refine ss_ret' (ex_lt (ex_mul (ex_p0 (ex_im (F := (vP vI vI)) 0)) (ex_p1 (ex_im (F := (vP vI vI)) 1)) ?_) (ex_mul (ex_p0 (ex_im (F := (vP vI vI)) 1)) (ex_p1 (ex_im (F := (vP vI vI)) 0)) ?_)) ?_ (Same.refl _)
  · exact .inl ⟨by simp only at *; omega, by simp only at *; omega⟩
  · exact .inl ⟨by simp only at *; omega, by simp only at *; omega⟩
  exact rfl
abbrev sp_is_roller : Sp := spG (aC (vQ vI vI vI) aN) false vB (fun i => RolOk i.1) (fun _ => true)
abbrev N_is_roller : List Str := ["thing"]
theorem sc_is_roller : FnScope ["thing"] ["thing"] (L2.defScope (topS 25)) := ⟨rfl, rfl, rfl, by decide +kernel, rfl, by decide +kernel, by decide +kernel⟩
theorem c_is_roller (D : DefT K mg "is_roller" (topS 25)) (B : Bl mg) (C : Co mg) (c_is_long : Cal P w K mg base 1 "is_long" sp_is_long []) (c_is_within : Cal P w K mg base 2 "is_within" sp_is_within []) : Cal P w K mg base 3 "is_roller" sp_is_roller [] := by
  refine cal_of (m := 0) D sc_is_roller (fits_im fits_nil) rfl (fun _ _ _ _ _ _ us hl => match us, hl with | [_], _ => rfl) (fun a cdv A outer s H E i hr hp => ?_)
  obtain ⟨⟨t, u, v⟩, ⟨⟩⟩ := i
  have nd := sc_is_roller.nd
  obtain ⟨h1, h2, h3, h4, h5, h6⟩ := hp
  simp only at h1 h2 h3 h4 h5 h6
  refine ss_ifr (ew_pt (ew_or (et_not (et_val (ex_call c_is_long hr trivial (xa_cons (asTupQ (ex_im (F := (vQ vI vI vI)) 0)) (xa_cons ex_int (xa_cons ex_int xa_nil)))))) (fun h1 => (ew_or (et_not (et_val (ex_call c_is_within hr trivial (xa_cons (ex_q0 (ex_im (F := (vQ vI vI vI)) 0)) (xa_cons ex_int (xa_cons (ex_gint C.MOST_TURN) xa_nil)))))) (fun h2 => (ew_or1 (et_not (et_val (ex_call c_is_within hr trivial (xa_cons (ex_q1 (ex_im (F := (vQ vI vI vI)) 0)) (xa_cons ex_int (xa_cons (ex_gint C.MOST_TOP) xa_nil)))))))))))) (fun h => ?_) (fun h4 => ?_)
  · skip
    refine ss_ret' ex_bl ?_ (Same.refl _)
    simp at h; omega
  refine ss_ret' (ex_call c_is_within hr trivial (xa_cons (ex_q2 (ex_im (F := (vQ vI vI vI)) 0)) (xa_cons ex_int (xa_cons (ex_q1 (ex_im (F := (vQ vI vI vI)) 0)) xa_nil)))) ?_ (Same.refl _)
  simp; omega
abbrev sp_is_train : Sp := spG (aC (vT (vQ vI vI vI)) aN) false vB (fun i => TrOk i.1) (fun _ => true)
abbrev N_is_train : List Str := ["thing", "one"]
theorem sc_is_train : FnScope ["thing", "one"] ["thing"] (L2.defScope (topS 26)) := ⟨rfl, rfl, rfl, by decide +kernel, rfl, by decide +kernel, by decide +kernel⟩
theorem c_is_train (D : DefT K mg "is_train" (topS 26)) (B : Bl mg) (C : Co mg) (c_is_long : Cal P w K mg base 1 "is_long" sp_is_long []) (c_is_roller : Cal P w K mg base 3 "is_roller" sp_is_roller []) : Cal P w K mg base 4 "is_train" sp_is_train [] := by
  refine cal_of (m := 1) D sc_is_train (fits_im fits_nil) rfl (fun _ _ _ _ _ _ us hl => match us, hl with | [_], _ => rfl) (fun a cdv A outer s H E i hr hp => ?_)
  obtain ⟨tr, ⟨⟩⟩ := i
  have nd := sc_is_train.nd
  refine ss_ret' (ex_and (ex_call c_is_long hr trivial (xa_cons (asTup (ex_im (F := (vT (vQ vI vI vI))) 0)) (xa_cons ex_int (xa_cons (ex_gint C.MOST_ROLLERS) xa_nil)))) (fun h1 => (ex_one (ex_all rfl B.all (ex_lc0 [("one", 1)] _ rfl nd (wk_tup (ex_im (F := (vT (vQ vI vI vI))) 0)) (fun _ _ _ _ _ _ _ _ => lg_name 1 nd) (fun _ _ _ _ _ _ x6 h2 h3 => (ex_call c_is_roller hr ?_ (xa_cons (ex_im (F := (vQ vI vI vI)) 1) xa_nil))) ?_ (blkOk_by (N := N_is_train) (sc := L2.defScope (topS 26)) (by decide +kernel))))))) ?_ (Same.refl _)
  · exact hp.2.2 _ (by assumption)
  · exact Nat.le_trans hp.2.1 (by decide)
  have z1 : 1 ≤ tr.length := hp.1
  have z2 : tr.length ≤ 4 := hp.2.1
  have z3 : (tr.map fun _ => true).all id = true := by simp
  rw [z3]
  simp
  omega
abbrev sp_need_train : Sp := spG (aC (vT (vQ vI vI vI)) aN) false vU (fun i => TrOk i.1) (fun _ => ())
abbrev N_need_train : List Str := ["thing"]
theorem sc_need_train : FnScope ["thing"] ["thing"] (L2.defScope (topS 27)) := ⟨rfl, rfl, rfl, by decide +kernel, rfl, by decide +kernel, by decide +kernel⟩
theorem c_need_train (D : DefT K mg "need_train" (topS 27)) (B : Bl mg) (C : Co mg) (c_is_train : Cal P w K mg base 4 "is_train" sp_is_train []) : Cal P w K mg base 5 "need_train" sp_need_train [] := by
  refine cal_ofN (m := 0) D sc_need_train (fits_im fits_nil) rfl (fun _ _ _ _ _ _ us hl => match us, hl with | [_], _ => rfl) (fun a cdv A outer s H E i hr hp => ?_)
  obtain ⟨tr, ⟨⟩⟩ := i
  have nd := sc_need_train.nd
  refine ss_ifr (et_not (et_val (ex_call c_is_train hr ?_ (xa_cons (ex_im (F := (vT (vQ vI vI vI))) 0) xa_nil)))) (fun h => ?_) (fun h2 => ?_)
  · exact hp
  · skip
    exfalso
    exact Bool.noConfusion h
  exact ss_nil (fun _ _ g => (Same.refl _).trans g.same)
abbrev sp_is_look : Sp := spG (aC (vQ vS vI vI) aN) false vB (fun i => LkOk i.1) (fun _ => true)
abbrev N_is_look : List Str := ["thing", "one"]
theorem sc_is_look : FnScope ["thing", "one"] ["thing"] (L2.defScope (topS 28)) := ⟨rfl, rfl, rfl, by decide +kernel, rfl, by decide +kernel, by decide +kernel⟩
theorem c_is_look (D : DefT K mg "is_look" (topS 28)) (B : Bl mg) (C : Co mg) (c_is_long : Cal P w K mg base 1 "is_long" sp_is_long []) (c_is_within : Cal P w K mg base 2 "is_within" sp_is_within []) : Cal P w K mg base 3 "is_look" sp_is_look [] := by
  refine cal_of (m := 1) D sc_is_look (fits_im fits_nil) rfl (fun _ _ _ _ _ _ us hl => match us, hl with | [_], _ => rfl) (fun a cdv A outer s H E i hr hp => ?_)
  obtain ⟨⟨wd, f, l⟩, ⟨⟩⟩ := i
  have nd := sc_is_look.nd
  obtain ⟨h1, h2, h3, h4, h5⟩ := hp
  simp only at h1 h2 h3 h4 h5
  refine ss_ifr (ew_pt (ew_or (et_not (et_val (ex_call c_is_long hr trivial (xa_cons (asTupQ (ex_im (F := (vQ vS vI vI)) 0)) (xa_cons ex_int (xa_cons ex_int xa_nil)))))) (fun h1 => (ew_or (et_not (et_val (ex_isi (F := vS) (r := true) B.isinstance (ex_q0 (ex_im (F := (vQ vS vI vI)) 0)) (ex_ty B.str boot_str)))) (fun h2 => (ew_or1 (et_notInS (ex_q0 (ex_im (F := (vQ vS vI vI)) 0)) (ex_tup (xi_cons ex_str (xi_cons ex_str xi_nil)))))))))) (fun h => ?_) (fun h4 => ?_)
  · skip
    refine ss_ret' ex_bl ?_ (Same.refl _)
    rcases h5 with ⟨e, _⟩ | ⟨e, _⟩ <;> subst e <;> simp at h
  refine ss_ifr (et_not (et_val (ex_all rfl B.all (ex_lc0 [("one", 1)] _ rfl nd (wk_tup (ex_slQ (ex_im (F := (vQ vS vI vI)) 0))) (fun _ _ _ _ _ _ _ _ => lg_name 1 nd) (fun _ _ _ _ _ _ x9 h5 h6 => (ex_call c_is_within hr trivial (xa_cons (ex_im (F := vI) 1) (xa_cons ex_int (xa_cons (ex_gint C.MOST_LENGTH) xa_nil))))) ?_ (blkOk_by (N := N_is_look) (sc := L2.defScope (topS 28)) (by decide +kernel)))))) (fun h => ?_) (fun h11 => ?_)
  · first | assumption | omega | decide | exact (show 2 ≤ 100000 by decide)
  · skip
    refine ss_ret' ex_bl ?_ (Same.refl _)
    simp at h; omega
  refine ss_ret' (ex_or (ex_lt (ex_q1 (ex_im (F := (vQ vS vI vI)) 0)) (ex_q2 (ex_im (F := (vQ vS vI vI)) 0))) (fun h12 => (ex_one (ex_and (ex_eq (ex_q0 (ex_im (F := (vQ vS vI vI)) 0)) ex_str) (fun h13 => (ex_one (ex_eq (ex_q1 (ex_im (F := (vQ vS vI vI)) 0)) (ex_q2 (ex_im (F := (vQ vS vI vI)) 0))))))))) ?_ (Same.refl _)
  rcases h5 with ⟨e, _⟩ | ⟨e, _⟩ <;> subst e <;> simp <;> omega
abbrev sp_need_looks : Sp := spG (aC (vT (vQ vS vI vI)) aN) false vU (fun i => LksOk i.1) (fun _ => ())
abbrev N_need_looks : List Str := ["thing", "one"]
theorem sc_need_looks : FnScope ["thing", "one"] ["thing"] (L2.defScope (topS 29)) := ⟨rfl, rfl, rfl, by decide +kernel, rfl, by decide +kernel, by decide +kernel⟩
theorem c_need_looks (D : DefT K mg "need_looks" (topS 29)) (B : Bl mg) (C : Co mg) (c_is_long : Cal P w K mg base 1 "is_long" sp_is_long []) (c_is_look : Cal P w K mg base 3 "is_look" sp_is_look []) : Cal P w K mg base 4 "need_looks" sp_need_looks [] := by
  refine cal_ofN (m := 1) D sc_need_looks (fits_im fits_nil) rfl (fun _ _ _ _ _ _ us hl => match us, hl with | [_], _ => rfl) (fun a cdv A outer s H E i hr hp => ?_)
  obtain ⟨lk, ⟨⟩⟩ := i
  have nd := sc_need_looks.nd
  refine ss_ifr (ew_pt (ew_or (et_not (et_val (ex_call c_is_long hr trivial (xa_cons (asTup (ex_im (F := (vT (vQ vS vI vI))) 0)) (xa_cons ex_int (xa_cons (ex_gint C.MOST_LOOKS) xa_nil)))))) (fun h1 => (ew_or1 (et_not (et_val (ex_all rfl B.all (ex_lc0 [("one", 1)] _ rfl nd (wk_tup (ex_im (F := (vT (vQ vS vI vI))) 0)) (fun _ _ _ _ _ _ _ _ => lg_name 1 nd) (fun _ _ _ _ _ _ x6 h2 h3 => (ex_call c_is_look hr ?_ (xa_cons (ex_im (F := (vQ vS vI vI)) 1) xa_nil))) ?_ (blkOk_by (N := N_need_looks) (sc := L2.defScope (topS 29)) (by decide +kernel)))))))))) (fun h => ?_) (fun h8 => ?_)
  · exact hp.2 _ (by assumption)
  · exact Nat.le_trans hp.1 (by decide)
  · skip
    exfalso
    have z1 : lk.length ≤ 8 := hp.1
    simp at h
    omega
  exact ss_nil (fun _ _ g => (Same.refl _).trans g.same)
abbrev sp_need_looked : Sp := spG (aC (vT (vQ vI vI vI)) (aC (vT (vQ vS vI vI)) aN)) false vU (fun i => TrOk i.1 ∧ LksOk i.2.1) (fun _ => ())
abbrev N_need_looked : List Str := ["train", "looks"]
theorem sc_need_looked : FnScope ["train", "looks"] ["train", "looks"] (L2.defScope (topS 30)) := ⟨rfl, rfl, rfl, by decide +kernel, rfl, by decide +kernel, by decide +kernel⟩
theorem c_need_looked (D : DefT K mg "need_looked" (topS 30)) (B : Bl mg) (C : Co mg) (c_need_looks : Cal P w K mg base 4 "need_looks" sp_need_looks []) (c_need_train : Cal P w K mg base 5 "need_train" sp_need_train []) : Cal P w K mg base 6 "need_looked" sp_need_looked [] := by
  refine cal_ofN (m := 0) D sc_need_looked (fits_im (fits_im fits_nil)) rfl (fun _ _ _ _ _ _ us hl => match us, hl with | [_, _], _ => rfl) (fun a cdv A outer s H E i hr hp => ?_)
  obtain ⟨tr, lk, ⟨⟩⟩ := i
  have nd := sc_need_looked.nd
  refine ss_exp (ex_call c_need_train hr ?_ (xa_cons (ex_im (F := (vT (vQ vI vI vI))) 0) xa_nil)) ?_
  · exact hp.1
  refine ss_exp (ex_call c_need_looks hr ?_ (xa_cons (ex_im (F := (vT (vQ vS vI vI))) 1) xa_nil)) ?_
  · exact hp.2
  exact ss_nil (fun _ _ g => (Same.refl _).trans g.same)
end W92
set_option Elab.async false
set_option linter.all false
set_option maxRecDepth 100000
set_option maxHeartbeats 4000000
namespace W92
open PySem PySem.Spec PyProof.Rows L2 Gm C8
variable {P : Program} {w : World} {K : PySem.W.Frag} {mg : Str → Option Value} {base : Heap}
abbrev sp_common_of : Sp := spG (aC vI (aC vI aN)) false vI (fun i => 0 ≤ i.1 ∧ 0 ≤ i.2.1) (fun i => gcdI i.1 i.2.1)
abbrev N_common_of : List Str := ["one", "other"]
theorem sc_common_of : FnScope ["one", "other"] ["one", "other"] (L2.defScope (topS 15)) := ⟨rfl, rfl, rfl, by decide +kernel, rfl, by decide +kernel, by decide +kernel⟩
theorem c_common_of (D : DefT K mg "common_of" (topS 15)) (B : Bl mg) (C : Co mg)  : Cal P w K mg base 1 "common_of" sp_common_of [] := by
  refine cal_of (m := 0) D sc_common_of (fits_im (fits_im fits_nil)) rfl (fun _ _ _ _ _ _ us hl => match us, hl with | [_, _], _ => rfl) (fun a cdv A outer s H E i hr hp => ?_)
  obtain ⟨a, b, ⟨⟩⟩ := i
  have nd := sc_common_of.nd
  refine ss_while (d := fun p : Int × Int => !decide (p.2 = 0)) (fun p => [im vI p.1, im vI p.2]) (fun p => 0 ≤ p.1 ∧ 0 ≤ p.2 ∧ gcdI p.1 p.2 = gcdI a b) (fun p => p.2.toNat) (a, b) PassesOwn.never (Sub.refl _) ⟨hp.1, hp.2, rfl⟩ ?_ ?_ ?_
  · exact fun p _ => et_ne (ex_im (F := vI) 1) ex_int
  · intro p ⟨q1, q2, q3⟩ hd
    have q4 : p.2 ≠ 0 := by simpa using hd
    refine ss_par 0 1 rfl nd (ex_im (F := vI) 1) (ex_mod (ex_im (F := vI) 0) (ex_im (F := vI) 1) ?_) ?_
    · omega
    · exact ss_nil fun _ _ g => ⟨(p.2, p.1 % p.2), ⟨q2, Int.emod_nonneg _ q4, by rw [← q3]; exact gcdI_step q1 (by omega)⟩, by
        have := Int.emod_lt_of_pos p.1 (show 0 < p.2 by omega)
        have := Int.emod_nonneg p.1 q4
        show (p.1 % p.2).toNat < p.2.toNat
        omega, g⟩
  · intro p ⟨q1, q2, q3⟩ hd
    have q4 : p.2 = 0 := by simpa using hd
    refine ss_ret' (ex_im (F := vI) 0) ?_ (Same.refl _)
    rw [q4, gcdI_zero q1] at q3
    exact q3
abbrev sp_fraction : Sp := spG (aC vI (aC vI aN)) false (vP vI vI) (fun i => 0 ≤ i.1 ∧ 0 < i.2.1 ∧ i.2.1 < 1073741824) (fun i => frac i.1 i.2.1)
abbrev N_fraction : List Str := ["top", "bottom", "by"]
theorem sc_fraction : FnScope ["top", "bottom", "by"] ["top", "bottom"] (L2.defScope (topS 16)) := ⟨rfl, rfl, rfl, by decide +kernel, rfl, by decide +kernel, by decide +kernel⟩
theorem c_fraction (D : DefT K mg "fraction" (topS 16)) (B : Bl mg) (C : Co mg) (c_common_of : Cal P w K mg base 1 "common_of" sp_common_of []) : Cal P w K mg base 2 "fraction" sp_fraction [] := by
  refine cal_of (m := 1) D sc_fraction (fits_im (fits_im fits_nil)) rfl (fun _ _ _ _ _ _ us hl => match us, hl with | [_, _], _ => rfl) (fun a cdv A outer s H E i hr hp => ?_)
  obtain ⟨a, b, ⟨⟩⟩ := i
  have nd := sc_fraction.nd
  obtain ⟨p1, p2, p3⟩ := hp
  simp only at p1 p2 p3
  have g1 := gcdI_pos (a := a) p2
  have g2 := gcdI_le (a := a) p2
  refine ss_im 2 nd (ex_call c_common_of hr ?_ (xa_cons (ex_im (F := vI) 0) (xa_cons (ex_im (F := vI) 1) xa_nil))) ?_
  · exact ⟨p1, Int.le_of_lt p2⟩
  refine ss_ret' (ex_tp (ex_fdiv (ex_im (F := vI) 0) (ex_im (F := vI) 2) ?_) (ex_fdiv (ex_im (F := vI) 1) (ex_im (F := vI) 2) ?_)) ?_ (Same.refl _)
  · exact ⟨g1, Int.lt_of_le_of_lt g2 p3⟩
  · exact ⟨g1, Int.lt_of_le_of_lt g2 p3⟩
  exact rfl
abbrev sp_is_fraction : Sp := spG (aC (vP vI vI) aN) false vB (fun i => FrB i.1) (fun i => decide (gcdI i.1.1 i.1.2 = 1))
abbrev N_is_fraction : List Str := ["thing"]
theorem sc_is_fraction : FnScope ["thing"] ["thing"] (L2.defScope (topS 17)) := ⟨rfl, rfl, rfl, by decide +kernel, rfl, by decide +kernel, by decide +kernel⟩
theorem c_is_fraction (D : DefT K mg "is_fraction" (topS 17)) (B : Bl mg) (C : Co mg) (c_common_of : Cal P w K mg base 1 "common_of" sp_common_of []) (c_is_from : Cal P w K mg base 2 "is_from" sp_is_from []) (c_is_long : Cal P w K mg base 1 "is_long" sp_is_long []) : Cal P w K mg base 3 "is_fraction" sp_is_fraction [] := by
  refine cal_of (m := 0) D sc_is_fraction (fits_im fits_nil) rfl (fun _ _ _ _ _ _ us hl => match us, hl with | [_], _ => rfl) (fun a cdv A outer s H E i hr hp => ?_)
  obtain ⟨⟨a, b⟩, ⟨⟩⟩ := i
  have nd := sc_is_fraction.nd
  obtain ⟨p1, p2, p3, p4⟩ := hp
  simp only at p1 p2 p3 p4
  refine ss_ifr (ew_pt (ew_or (et_not (et_val (ex_call c_is_long hr trivial (xa_cons (asTupP (ex_im (F := (vP vI vI)) 0)) (xa_cons ex_int (xa_cons ex_int xa_nil)))))) (fun h1 => (ew_or (et_not (et_val (ex_call c_is_from hr trivial (xa_cons (ex_p0 (ex_im (F := (vP vI vI)) 0)) (xa_cons ex_int xa_nil))))) (fun h2 => (ew_or1 (et_not (et_val (ex_call c_is_from hr trivial (xa_cons (ex_p1 (ex_im (F := (vP vI vI)) 0)) (xa_cons ex_int xa_nil))))))))))) (fun h => ?_) (fun h4 => ?_)
  · skip
    refine ss_ret' ex_bl ?_ (Same.refl _)
    simp at h; omega
  refine ss_ret' (ex_eq (ex_call c_common_of hr ?_ (xa_cons (ex_p0 (ex_im (F := (vP vI vI)) 0)) (xa_cons (ex_p1 (ex_im (F := (vP vI vI)) 0)) xa_nil))) ex_int) ?_ (Same.refl _)
  · exact ⟨p1, Int.le_of_lt p3⟩
  exact rfl
abbrev sp_periods_by : Sp := spG (aC (vT (vQ vI vI vI)) aN) false (vT (vP vI vI)) (fun i => TrOk i.1) (fun i => periods i.1)
abbrev N_periods_by : List Str := ["train", "found", "top", "bottom", "turn", "high", "low"]
theorem sc_periods_by : FnScope ["train", "found", "top", "bottom", "turn", "high", "low"] ["train"] (L2.defScope (topS 31)) := ⟨rfl, rfl, rfl, by decide +kernel, rfl, by decide +kernel, by decide +kernel⟩
theorem c_periods_by (D : DefT K mg "periods_by" (topS 31)) (B : Bl mg) (C : Co mg) (c_fraction : Cal P w K mg base 2 "fraction" sp_fraction []) : Cal P w K mg base 3 "periods_by" sp_periods_by [] := by
  refine cal_of (m := 6) D sc_periods_by (fits_im fits_nil) rfl (fun _ _ _ _ _ _ us hl => match us, hl with | [_], _ => rfl) (fun a cdv A outer s H E i hr hp => ?_)
  obtain ⟨tr, ⟨⟩⟩ := i
  have nd := sc_periods_by.nd
  refine ss_par3o0 1 2 3 rfl nd (ex_lst (F := (vP vI vI)) xi_nil) ex_int ex_int ?_
  refine ss_for (fun j => [im (vT (vQ vI vI vI)) tr, ow (cL (vP vI vI)) (perSt tr j).1, im vI (perSt tr j).2.1, im vI (perSt tr j).2.2, .no, .no, .no]) _ PassesOwn.never rfl (wk_tup (ex_revT (ex_im (F := (vT (vQ vI vI vI))) 0))) (fun _ _ _ _ => gt_trip 4 5 6 rfl nd) ?_ ?_ ?_
  · repeat (first | exact Sub.nil | refine Sub.keep ?_ | refine Sub.drop ?_)
  · intro e1 j x h2 hx
    have jl : j < tr.length := Nat.lt_of_lt_of_eq (List.getElem?_eq_some_iff.mp hx).1 List.length_reverse
    have z1 : tr.length ≤ 4 := hp.2.1
    obtain ⟨b1, b2, b3, b4, b5⟩ := perSt_b hp j (by omega)
    obtain ⟨b6, b7, b8, b9, b10⟩ := perSt_b hp (j + 1) (by omega)
    rw [perSt_succ hx] at b6 b7 b8 b9 b10
    obtain ⟨r1, r2, r3, r4, r5, r6⟩ := hp.2.2 x (List.mem_reverse.mp (List.mem_of_getElem? hx))
    simp only [perStep] at b6 b7 b8
    have b11 : (8 : Int) ^ (j + 1) ≤ 4096 := by
      have : j = 0 ∨ j = 1 ∨ j = 2 ∨ j = 3 := by omega
      rcases this with z | z | z | z <;> subst z <;> decide
    refine ss_par 2 3 rfl nd (ex_mul (ex_im (F := vI) 2) (ex_im (F := vI) 5) ?_) (ex_mul (ex_im (F := vI) 3) (ex_im (F := vI) 6) ?_) ?_
    · exact .inr ⟨by omega, by omega⟩
    · exact .inr ⟨by omega, by omega⟩
    refine ss_app (F := (vP vI vI)) 1 rfl (ex_call c_fraction hr ?_ (xa_cons (ex_mul (ex_im (F := vI) 4) (ex_im (F := vI) 2) ?_) (xa_cons (ex_im (F := vI) 3) xa_nil))) ?_ ?_
    · exact ⟨Int.mul_nonneg (by omega) (by omega), by dsimp only; omega, by dsimp only; omega⟩
    · exact .inl ⟨by omega, by omega⟩
    · exact Nat.lt_of_le_of_lt b4 (by omega)
    exact ss_nil (fun _ _ g => by simp only [perSt_succ hx]; exact g.sub (by repeat (first | exact Sub.nil | refine Sub.keep ?_ | refine Sub.drop ?_)))
  · intro e4 h5
    refine ss_ret' (ex_tupL B.tuple (ex_revL (ex_ow (C := (cL (vP vI vI))) 1))) ?_ (((Same.refl _).trans h5))
    exact rfl
end W92
set_option Elab.async false
set_option linter.all false
set_option maxRecDepth 100000
set_option maxHeartbeats 4000000
namespace W92
open PySem PySem.Spec PyProof.Rows L2 Gm C8
variable {P : Program} {w : World} {K : PySem.W.Frag} {mg : Str → Option Value} {base : Heap}
abbrev sp_is_dent : Sp := spG (aC (vT (vQ vI vI vI)) (aC (vP vI (vP vI vI)) aN)) false vB (fun i => TrOk i.1 ∧ DentOk i.1 i.2.1) (fun _ => true)
abbrev N_is_dent : List Str := ["train", "thing"]
theorem sc_is_dent : FnScope ["train", "thing"] ["train", "thing"] (L2.defScope (topS 32)) := ⟨rfl, rfl, rfl, by decide +kernel, rfl, by decide +kernel, by decide +kernel⟩
theorem c_is_dent (D : DefT K mg "is_dent" (topS 32)) (B : Bl mg) (C : Co mg) (c_is_fraction : Cal P w K mg base 3 "is_fraction" sp_is_fraction []) (c_is_less : Cal P w K mg base 1 "is_less" sp_is_less []) (c_is_long : Cal P w K mg base 1 "is_long" sp_is_long []) (c_is_within : Cal P w K mg base 2 "is_within" sp_is_within []) (c_periods_by : Cal P w K mg base 3 "periods_by" sp_periods_by []) : Cal P w K mg base 4 "is_dent" sp_is_dent [] := by
  refine cal_of (m := 0) D sc_is_dent (fits_im (fits_im fits_nil)) rfl (fun _ _ _ _ _ _ us hl => match us, hl with | [_, _], _ => rfl) (fun a cdv A outer s H E i hr hp => ?_)
  obtain ⟨tr, ⟨r, a, b⟩, ⟨⟩⟩ := i
  have nd := sc_is_dent.nd
  have ht : TrOk tr := hp.1
  obtain ⟨p1, p2, ⟨p3, p4, p5, p6⟩, p7, p8⟩ : DentOk tr (r, a, b) := hp.2
  simp only at p1 p2 p3 p4 p5 p6 p7 p8
  obtain ⟨q1, q2, q3, q4⟩ := per_getD ht p1 p2
  refine ss_ifr (ew_pt (ew_or (et_not (et_val (ex_call c_is_long hr trivial (xa_cons (asTupP (ex_im (F := (vP vI (vP vI vI))) 1)) (xa_cons ex_int (xa_cons ex_int xa_nil)))))) (fun h1 => (ew_or (et_not (et_val (ex_call c_is_within hr trivial (xa_cons (ex_p0 (ex_im (F := (vP vI (vP vI vI))) 1)) (xa_cons ex_int (xa_cons (ex_sub (ex_lenT B.len (ex_im (F := (vT (vQ vI vI vI))) 0)) ex_int) xa_nil)))))) (fun h2 => (ew_or1 (et_not (et_val (ex_call c_is_fraction hr ?_ (xa_cons (ex_p1 (ex_im (F := (vP vI (vP vI vI))) 1)) xa_nil)))))))))) (fun h => ?_) (fun h4 => ?_)
  · exact ⟨p3, by dsimp only; omega, p5, by dsimp only; omega⟩
  · skip
    refine ss_ret' ex_bl ?_ (Same.refl _)
    simp [p7] at h; omega
  refine ss_ret' (ex_call c_is_less hr ?_ (xa_cons (ex_p1 (ex_im (F := (vP vI (vP vI vI))) 1)) (xa_cons (ex_ixTd z2 (ex_call c_periods_by hr ?_ (xa_cons (ex_im (F := (vT (vQ vI vI vI))) 0) xa_nil)) (ex_p0 (ex_im (F := (vP vI (vP vI vI))) 1)) ?_) xa_nil))) ?_ (Same.refl _)
  · exact ⟨⟨p3, by dsimp only; omega, p5, by dsimp only; omega⟩, show FrB ((periods tr).getD r.toNat z2) from ⟨by omega, by omega, q3, by omega⟩⟩
  · exact ht
  · exact ⟨p1, show r.toNat < (periods tr).length by rw [periods_len]; omega⟩
  simpa using p8
abbrev sp_is_story_by : Sp := spG (aC (vT (vQ vI vI vI)) (aC (vT (vP vI (vP vI vI))) aN)) false vB (fun i => TrOk i.1 ∧ StoryOk i.1 i.2.1) (fun _ => true)
abbrev N_is_story_by : List Str := ["train", "thing", "one", "roller", "phase"]
theorem sc_is_story_by : FnScope ["train", "thing", "one", "roller", "phase"] ["train", "thing"] (L2.defScope (topS 33)) := ⟨rfl, rfl, rfl, by decide +kernel, rfl, by decide +kernel, by decide +kernel⟩
theorem c_is_story_by (D : DefT K mg "is_story_by" (topS 33)) (B : Bl mg) (C : Co mg) (c_is_dent : Cal P w K mg base 4 "is_dent" sp_is_dent []) (c_rises : Cal P w K mg base 1 "rises" sp_rises []) : Cal P w K mg base 5 "is_story_by" sp_is_story_by [] := by
  refine cal_of (m := 3) D sc_is_story_by (fits_im (fits_im fits_nil)) rfl (fun _ _ _ _ _ _ us hl => match us, hl with | [_, _], _ => rfl) (fun a cdv A outer s H E i hr hp => ?_)
  obtain ⟨tr, st, ⟨⟩⟩ := i
  have nd := sc_is_story_by.nd
  refine ss_ifr (ew_pt (ew_or (et_not (et_val (ex_isi (F := vTup) (r := true) B.isinstance (asTup (ex_im (F := (vT (vP vI (vP vI vI)))) 1)) (ex_ty B.tuple boot_tuple)))) (fun h1 => (ew_or1 (et_not (et_val (ex_all rfl B.all (ex_lc0 [("one", 2)] _ rfl nd (wk_tup (ex_im (F := (vT (vP vI (vP vI vI)))) 1)) (fun _ _ _ _ _ _ _ _ => lg_name 2 nd) (fun _ _ _ _ _ _ x6 h2 h3 => (ex_call c_is_dent hr ?_ (xa_cons (ex_im (F := (vT (vQ vI vI vI))) 0) (xa_cons (ex_im (F := (vP vI (vP vI vI))) 2) xa_nil)))) ?_ (blkOk_by (N := N_is_story_by) (sc := L2.defScope (topS 33)) (by decide +kernel)))))))))) (fun h => ?_) (fun h8 => ?_)
  · exact ⟨hp.1, hp.2.1 _ (by assumption)⟩
  · exact Nat.le_trans hp.2.2.2 (by decide)
  · skip
    refine ss_ret' ex_bl ?_ (Same.refl _)
    simp at h
  refine ss_ret' (ex_call c_rises hr ?_ (xa_cons (ex_lc0 [("roller", 3), ("phase", 4)] _ rfl nd (wk_tup (ex_im (F := (vT (vP vI (vP vI vI)))) 1)) (fun _ _ _ _ _ _ _ _ => lg_pair 3 4 rfl nd) (fun _ _ _ _ _ _ x13 h9 h10 => (ex_im (F := vI) 3)) ?_ (blkOk_by (N := N_is_story_by) (sc := L2.defScope (topS 33)) (by decide +kernel))) xa_nil)) ?_ (Same.refl _)
  · exact Nat.le_trans (by rw [List.length_map]; exact hp.2.2.2) (by decide)
  · exact Nat.le_trans hp.2.2.2 (by decide)
  exact hp.2.2.1
abbrev sp_need_story : Sp := spG (aC (vT (vQ vI vI vI)) (aC (vT (vP vI (vP vI vI))) aN)) false vU (fun i => TrOk i.1 ∧ StoryOk i.1 i.2.1) (fun _ => ())
abbrev N_need_story : List Str := ["train", "thing"]
theorem sc_need_story : FnScope ["train", "thing"] ["train", "thing"] (L2.defScope (topS 34)) := ⟨rfl, rfl, rfl, by decide +kernel, rfl, by decide +kernel, by decide +kernel⟩
theorem c_need_story (D : DefT K mg "need_story" (topS 34)) (B : Bl mg) (C : Co mg) (c_is_story_by : Cal P w K mg base 5 "is_story_by" sp_is_story_by []) : Cal P w K mg base 6 "need_story" sp_need_story [] := by
  refine cal_ofN (m := 0) D sc_need_story (fits_im (fits_im fits_nil)) rfl (fun _ _ _ _ _ _ us hl => match us, hl with | [_, _], _ => rfl) (fun a cdv A outer s H E i hr hp => ?_)
  obtain ⟨tr, st, ⟨⟩⟩ := i
  have nd := sc_need_story.nd
  refine ss_ifr (et_not (et_val (ex_call c_is_story_by hr ?_ (xa_cons (ex_im (F := (vT (vQ vI vI vI))) 0) (xa_cons (ex_im (F := (vT (vP vI (vP vI vI)))) 1) xa_nil))))) (fun h => ?_) (fun h2 => ?_)
  · exact hp
  · skip
    exfalso
    exact Bool.noConfusion h
  exact ss_nil (fun _ _ g => (Same.refl _).trans g.same)
abbrev sp_has_mark : Sp := spG (aC (vP vI vI) (aC (vP vI vI) (aC (vQ vS vI vI) aN))) false vB (fun i => PerOk i.1 ∧ PhOk i.2.1 ∧ LkOk i.2.2.1) (fun i => hasMark i.1 i.2.1 i.2.2.1)
abbrev N_has_mark : List Str := ["period", "phase", "look", "by", "begin", "every", "first", "last", "turns"]
theorem sc_has_mark : FnScope ["period", "phase", "look", "by", "begin", "every", "first", "last", "turns"] ["period", "phase", "look"] (L2.defScope (topS 35)) := ⟨rfl, rfl, rfl, by decide +kernel, rfl, by decide +kernel, by decide +kernel⟩
theorem c_has_mark (D : DefT K mg "has_mark" (topS 35)) (B : Bl mg) (C : Co mg)  : Cal P w K mg base 1 "has_mark" sp_has_mark [] := by
  refine cal_of (m := 6) D sc_has_mark (fits_im (fits_im (fits_im fits_nil))) rfl (fun _ _ _ _ _ _ us hl => match us, hl with | [_, _, _], _ => rfl) (fun a cdv A outer s H E i hr hp => ?_)
  obtain ⟨⟨r, b⟩, ⟨pn, pd⟩, ⟨wd, f, l⟩, ⟨⟩⟩ := i
  have nd := sc_has_mark.nd
  obtain ⟨⟨h1, h2, h3, h4⟩, ⟨h5, h6, h7, h8⟩, h9, h10, h11, h12, h13⟩ := hp
  simp only at h1 h2 h3 h4 h5 h6 h7 h8 h9 h10 h11 h12
  have e1 : 0 < r * pd := Int.mul_pos (by omega) h7
  have e2 : r * pd ≤ 245760 * 4096 := Int.mul_le_mul h2 h8 (by omega) (by omega)
  refine ss_par3 3 4 5 rfl nd (ex_mul (ex_p1 (ex_im (F := (vP vI vI)) 1)) (ex_p1 (ex_im (F := (vP vI vI)) 0)) ?_) (ex_mul (ex_p0 (ex_im (F := (vP vI vI)) 1)) (ex_p1 (ex_im (F := (vP vI vI)) 0)) ?_) (ex_mul (ex_p0 (ex_im (F := (vP vI vI)) 0)) (ex_p1 (ex_im (F := (vP vI vI)) 1)) ?_) ?_
  · exact .inl ⟨by dsimp only; omega, by dsimp only; omega⟩
  · exact .inl ⟨by dsimp only; omega, by dsimp only; omega⟩
  · exact .inl ⟨by dsimp only; omega, by dsimp only; omega⟩
  refine ss_par 6 7 rfl nd (ex_mul (ex_q1 (ex_im (F := (vQ vS vI vI)) 2)) (ex_im (F := vI) 3) ?_) (ex_mul (ex_q2 (ex_im (F := (vQ vS vI vI)) 2)) (ex_im (F := vI) 3) ?_) ?_
  · exact .inl ⟨by dsimp only; omega, by dsimp only; omega⟩
  · exact .inl ⟨by dsimp only; omega, by dsimp only; omega⟩
  refine ss_ifd (et_eq (ex_q0 (ex_im (F := (vQ vS vI vI)) 2)) ex_str) (fun h1 => ?_) (fun h2 => ?_)
  · apply Exists.intro
    constructor
    · skip
      refine ss_par 6 7 rfl nd (ex_add (ex_im (F := vI) 6) ex_int) (ex_sub (ex_im (F := vI) 7) ex_int) ?_
      exact ss_nil (fun _ _ g => g)
    · skip
      refine ss_im 8 nd (ex_max rfl B.max ex_int (ex_fdiv (ex_sub (ex_add (ex_sub (ex_im (F := vI) 6) (ex_im (F := vI) 4)) (ex_im (F := vI) 5)) ex_int) (ex_im (F := vI) 5) ?_)) ?_
      · exact ⟨by dsimp only; omega, by dsimp only; omega⟩
      refine ss_ret' (ex_le (ex_add (ex_im (F := vI) 4) (ex_mul (ex_im (F := vI) 8) (ex_im (F := vI) 5) ?_)) (ex_im (F := vI) 7)) ?_ (Same.refl _)
      · exact .inr ⟨by dsimp only; omega, by dsimp only; omega⟩
      unfold hasMark
      dsimp only at *
      rw [if_pos (by simpa using h1)]
  · apply Exists.intro
    constructor
    · skip
      exact ss_nil (fun _ _ g => g)
    · skip
      refine ss_im 8 nd (ex_max rfl B.max ex_int (ex_fdiv (ex_sub (ex_add (ex_sub (ex_im (F := vI) 6) (ex_im (F := vI) 4)) (ex_im (F := vI) 5)) ex_int) (ex_im (F := vI) 5) ?_)) ?_
      · exact ⟨by dsimp only; omega, by dsimp only; omega⟩
      refine ss_ret' (ex_le (ex_add (ex_im (F := vI) 4) (ex_mul (ex_im (F := vI) 8) (ex_im (F := vI) 5) ?_)) (ex_im (F := vI) 7)) ?_ (Same.refl _)
      · exact .inr ⟨by dsimp only; omega, by dsimp only; omega⟩
      unfold hasMark
      dsimp only at *
      rw [if_neg (by simpa using h2)]
end W92
set_option Elab.async false
set_option linter.all false
set_option maxRecDepth 100000
set_option maxHeartbeats 4000000
namespace W92
open PySem PySem.Spec PyProof.Rows L2 Gm C8
variable {P : Program} {w : World} {K : PySem.W.Frag} {mg : Str → Option Value} {base : Heap}
abbrev sp_marks_by : Sp := spG (aC (vT (vQ vI vI vI)) (aC (vT (vP vI (vP vI vI))) (aC vI aN))) false (vP (vL vI) vI) (fun i => TrOk i.1 ∧ StoryOk i.1 i.2.1 ∧ BotOk i.1 i.2.1 ∧ 0 ≤ i.2.2.1 ∧ i.2.2.1 ≤ 400) (fun i => (sortI (marksM i.1 i.2.1 (botOf i.1 i.2.1) i.2.2.1), botOf i.1 i.2.1))
abbrev N_marks_by : List Str := ["train", "story", "end", "each", "bottom", "roller", "phase", "own", "found", "begin", "every", "mark"]
theorem sc_marks_by : FnScope ["train", "story", "end", "each", "bottom", "roller", "phase", "own", "found", "begin", "every", "mark"] ["train", "story", "end"] (L2.defScope (topS 36)) := ⟨rfl, rfl, rfl, by decide +kernel, rfl, by decide +kernel, by decide +kernel⟩
theorem c_marks_by (D : DefT K mg "marks_by" (topS 36)) (B : Bl mg) (C : Co mg) (c_common_of : Cal P w K mg base 1 "common_of" sp_common_of []) (c_periods_by : Cal P w K mg base 3 "periods_by" sp_periods_by []) : Cal P w K mg base 4 "marks_by" sp_marks_by [] := by
  refine cal_of (m := 9) D sc_marks_by (fits_im (fits_im (fits_im fits_nil))) rfl (fun _ _ _ _ _ _ us hl => match us, hl with | [_, _, _], _ => rfl) (fun a cdv A outer s H E i hr hp => ?_)
  obtain ⟨tr, st, en, ⟨⟩⟩ := i
  have nd := sc_marks_by.nd
  have ht : TrOk tr := hp.1
  have hs : StoryOk tr st := hp.2.1
  obtain ⟨L, l1, l2, l3⟩ : BotOk tr st := hp.2.2.1
  have e0 : 0 ≤ en := hp.2.2.2.1
  have e400 : en ≤ 400 := hp.2.2.2.2
  have all : ∀ d ∈ st, 0 < d.2.2 ∧ d.2.2 ∣ L ∧ 0 < ((periods tr).getD d.1.toNat z2).2 ∧ ((periods tr).getD d.1.toNat z2).2 ∣ L := fun d hd =>
    ⟨(hs.1 d hd).2.2.1.2.2.1, (l3 d hd).1, (per_getD ht (hs.1 d hd).1 (hs.1 d hd).2.1).2.2.1, (l3 d hd).2⟩
  have part : ∀ j, 0 < (st.take j).foldl (botStep tr) 1 ∧ (st.take j).foldl (botStep tr) 1 ≤ 4096 ∧ (st.take j).foldl (botStep tr) 1 ∣ L := fun j => by
    obtain ⟨a1, a2, _⟩ := bot_ok (tr := tr) l1 (st.take j) 1 (by decide) (Int.one_dvd _) fun d hd => all d (List.mem_of_mem_take hd)
    exact ⟨a1, Int.le_trans (dvd_le a2 l1) l2, a2⟩
  have bt : 0 < botOf tr st ∧ botOf tr st ≤ 4096 := by
    obtain ⟨a1, a2, _⟩ := part st.length
    rw [List.take_length] at a1 a2
    exact ⟨a1, a2⟩
  have few : ∀ j, ((st.take j).foldl (fun f d => (marksIn tr (botOf tr st) en d).foldl putM f) []).length ≤ 401 * j := fun j => marks_len ht hs bt.1 bt.2 e0 e400 j
  refine ss_par 3 4 rfl nd (ex_call c_periods_by hr ?_ (xa_cons (ex_im (F := (vT (vQ vI vI vI))) 0) xa_nil)) ex_int ?_
  · exact ht
  refine ss_for (fun j => [im (vT (vQ vI vI vI)) tr, im (vT (vP vI (vP vI vI))) st, im vI en, im (vT (vP vI vI)) (periods tr), im vI ((st.take j).foldl (botStep tr) 1), .no, .no, .no, .no, .no, .no, .no]) _ PassesOwn.never rfl (wk_tup (ex_im (F := (vT (vP vI (vP vI vI)))) 1)) (fun _ _ _ _ => gt_pair 5 6 rfl nd) ?_ ?_ ?_
  · repeat (first | exact Sub.nil | refine Sub.keep ?_ | refine Sub.drop ?_)
  · intro e1 j x h2 hx
    have hm : x ∈ st := List.mem_of_getElem? hx
    obtain ⟨dk1, dk2, dk3, dk4, dk5⟩ := hs.1 x hm
    obtain ⟨b1, b2, b3⟩ := part j
    have bs : (st.take (j + 1)).foldl (botStep tr) 1 = botStep tr ((st.take j).foldl (botStep tr) 1) x := foldl_take _ _ _ _ hx
    obtain ⟨a1, a2, a3, a4⟩ := all x hm
    obtain ⟨c1, c2, c3, c4⟩ := gcdI_bezout b1 a1 b3 a2
    refine ss_for (fun k => [im (vT (vQ vI vI vI)) tr, im (vT (vP vI (vP vI vI))) st, im vI en, im (vT (vP vI vI)) (periods tr), im vI (([x.2.2, ((periods tr).getD x.1.toNat z2).2].take k).foldl lcmStep ((st.take j).foldl (botStep tr) 1)), im vI x.1, im (vP vI vI) x.2, .no, .no, .no, .no, .no]) _ PassesOwn.never rfl (wk_tup (ex_tup (xi_cons (ex_p1 (ex_im (F := (vP vI vI)) 6)) (xi_cons (ex_p1 (ex_ixTd z2 (ex_im (F := (vT (vP vI vI))) 3) (ex_im (F := vI) 5) ?_)) xi_nil)))) (fun _ _ _ _ => gt_name 7 nd) ?_ ?_ ?_
    · exact ⟨dk1, show x.1.toNat < _ by rw [periods_len]; omega⟩
    · repeat (first | exact Sub.nil | refine Sub.keep ?_ | refine Sub.drop ?_)
    · intro e4 k y h5 hy
      have key : 0 < ([x.2.2, ((periods tr).getD x.1.toNat z2).2].take k).foldl lcmStep ((st.take j).foldl (botStep tr) 1) ∧ ([x.2.2, ((periods tr).getD x.1.toNat z2).2].take k).foldl lcmStep ((st.take j).foldl (botStep tr) 1) ∣ L ∧ 0 < y ∧ y ∣ L := by
        match k, hy with
        | 0, hy => cases (Option.some.inj hy); exact ⟨b1, b3, a1, a2⟩
        | 1, hy => cases (Option.some.inj hy); exact ⟨c4, c1, a3, a4⟩
        | k + 2, hy => simp at hy
      obtain ⟨k1, k2, k3, k4⟩ := key
      have k5 := Int.le_trans (dvd_le k2 l1) l2
      have k6 := Int.le_trans (dvd_le k4 l1) l2
      have g1 := gcdI_pos (a := ([x.2.2, ((periods tr).getD x.1.toNat z2).2].take k).foldl lcmStep ((st.take j).foldl (botStep tr) 1)) k3
      have g2 := gcdI_le (a := ([x.2.2, ((periods tr).getD x.1.toNat z2).2].take k).foldl lcmStep ((st.take j).foldl (botStep tr) 1)) k3
      have ks : ([x.2.2, ((periods tr).getD x.1.toNat z2).2].take (k + 1)).foldl lcmStep ((st.take j).foldl (botStep tr) 1) = lcmStep (([x.2.2, ((periods tr).getD x.1.toNat z2).2].take k).foldl lcmStep ((st.take j).foldl (botStep tr) 1)) y := foldl_take _ _ _ _ hy
      refine ss_im 4 nd (ex_fdiv (ex_mul (ex_im (F := vI) 4) (ex_im (F := vI) 7) ?_) (ex_call c_common_of hr ?_ (xa_cons (ex_im (F := vI) 4) (xa_cons (ex_im (F := vI) 7) xa_nil))) ?_) ?_
      · exact .inl ⟨by omega, by omega⟩
      · exact ⟨Int.le_of_lt k1, Int.le_of_lt k3⟩
      · exact ⟨g1, Int.lt_of_le_of_lt g2 (by omega)⟩
      exact ss_nil (fun _ _ g => by simp only [ks]; exact g.sub (by repeat (first | exact Sub.nil | refine Sub.keep ?_ | refine Sub.drop ?_)))
    · intro e7 h8
      exact ss_nil (fun _ _ g => by simp only [bs]; exact (g.base h8 (by repeat (first | exact True.intro | constructor))).sub (by repeat (first | exact Sub.nil | refine Sub.keep ?_ | refine Sub.drop ?_)))
  · intro e9 h10
    refine ss_ow (C := cM) 8 nd ex_dnewM ?_
    refine ss_for (fun j => [im (vT (vQ vI vI vI)) tr, im (vT (vP vI (vP vI vI))) st, im vI en, im (vT (vP vI vI)) (periods tr), im vI (botOf tr st), .no, .no, .no, ow cM ((st.take j).foldl (fun f d => (marksIn tr (botOf tr st) en d).foldl putM f) []), .no, .no, .no]) _ PassesOwn.never rfl (wk_tup (ex_im (F := (vT (vP vI (vP vI vI)))) 1)) (fun _ _ _ _ => gt_pair 5 6 rfl nd) ?_ ?_ ?_
    · simp only [List.take_length]; repeat (first | exact Sub.nil | refine Sub.keep ?_ | refine Sub.drop ?_)
    · intro e11 j x h12 hx
      have hm : x ∈ st := List.mem_of_getElem? hx
      obtain ⟨dk1, dk2, ⟨dk3, dk6, dk7, dk8⟩, dk4, dk5⟩ := hs.1 x hm
      have fs : (st.take (j + 1)).foldl (fun f d => (marksIn tr (botOf tr st) en d).foldl putM f) [] = (marksIn tr (botOf tr st) en x).foldl putM ((st.take j).foldl (fun f d => (marksIn tr (botOf tr st) en d).foldl putM f) []) := foldl_take _ _ _ _ hx
      have pk := per_getD ht dk1 dk2
      obtain ⟨v1, v2⟩ := ev_ok pk bt.1 bt.2
      obtain ⟨p1, p2, p3, p4⟩ := pk
      have fj := few j
      have jl := (List.getElem?_eq_some_iff.mp hx).1
      have j4 := hs.2.2
      have bg1 : x.2.1 * botOf tr st ≤ 245760 * 4096 := Int.mul_le_mul dk6 bt.2 (by omega) (by omega)
      have bg2 : 0 ≤ x.2.1 * botOf tr st := Int.mul_nonneg dk3 (by omega)
      have bg0 : 0 ≤ x.2.1 * botOf tr st / x.2.2 := Int.ediv_nonneg bg2 (by omega)
      have bg3 := Int.ediv_le_self x.2.2 bg2
      have en1 : en * botOf tr st ≤ 400 * 4096 := Int.mul_le_mul e400 bt.2 (by omega) (by omega)
      have en2 : 0 ≤ en * botOf tr st := Int.mul_nonneg e0 (by omega)
      have rk : RgC (x.2.1 * botOf tr st / x.2.2) (en * botOf tr st + 1) (((periods tr).getD x.1.toNat z2).1 * botOf tr st / ((periods tr).getD x.1.toNat z2).2) (rgN (begOf (botOf tr st) x) (en * botOf tr st + 1) (evOf tr (botOf tr st) x)) := rg_ok bg0 (by omega) (by omega) (by omega) (by omega) v2
      refine ss_par 9 10 rfl nd (ex_fdiv (ex_mul (ex_p0 (ex_im (F := (vP vI vI)) 6)) (ex_im (F := vI) 4) ?_) (ex_p1 (ex_im (F := (vP vI vI)) 6)) ?_) (ex_fdiv (ex_mul (ex_p0 (ex_ixTd z2 (ex_im (F := (vT (vP vI vI))) 3) (ex_im (F := vI) 5) ?_)) (ex_im (F := vI) 4) ?_) (ex_p1 (ex_ixTd z2 (ex_im (F := (vT (vP vI vI))) 3) (ex_im (F := vI) 5) ?_)) ?_) ?_
      · exact .inl ⟨by omega, by omega⟩
      · exact ⟨by first | omega | (dsimp only; omega), by first | omega | (dsimp only; omega)⟩
      · exact ⟨dk1, show x.1.toNat < _ by rw [periods_len]; omega⟩
      · exact .inl ⟨by omega, by omega⟩
      · exact ⟨dk1, show x.1.toNat < _ by rw [periods_len]; omega⟩
      · exact ⟨by omega, by omega⟩
      refine ss_for (xs := marksIn tr (botOf tr st) en x) (fun k => [im (vT (vQ vI vI vI)) tr, im (vT (vP vI (vP vI vI))) st, im vI en, im (vT (vP vI vI)) (periods tr), im vI (botOf tr st), .no, .no, .no, ow cM (((marksIn tr (botOf tr st) en x).take k).foldl putM ((st.take j).foldl (fun f d => (marksIn tr (botOf tr st) en d).foldl putM f) [])), .no, .no, .no]) _ PassesOwn.never rfl (wk_range3 B.range (ex_im (F := vI) 9) (ex_add (ex_mul (ex_im (F := vI) 2) (ex_im (F := vI) 4) ?_) ex_int) (ex_im (F := vI) 10) ?_) (fun _ _ _ _ => gt_name 11 nd) ?_ ?_ ?_
      · exact .inl ⟨by omega, by omega⟩
      · exact rk
      · repeat (first | exact Sub.nil | refine Sub.keep ?_ | refine Sub.drop ?_)
      · intro e14 k y h15 hy
        have ks : ((marksIn tr (botOf tr st) en x).take (k + 1)).foldl putM ((st.take j).foldl (fun f d => (marksIn tr (botOf tr st) en d).foldl putM f) []) = putM (((marksIn tr (botOf tr st) en x).take k).foldl putM ((st.take j).foldl (fun f d => (marksIn tr (botOf tr st) en d).foldl putM f) [])) y := foldl_take _ _ _ _ hy
        have fl := foldM_len ((marksIn tr (botOf tr st) en x).take k) ((st.take j).foldl (fun f d => (marksIn tr (botOf tr st) en d).foldl putM f) [])
        have ml : (marksIn tr (botOf tr st) en x).length ≤ 401 := by
          unfold marksIn rgS
          rw [List.length_map, List.length_range]
          exact rg_few bg0 e0 e400 bt.1 v1
        rw [List.length_take] at fl
        refine ss_mput 8 hr (ex_im (F := vI) 11) ?_ ?_
        · exact Nat.lt_of_le_of_lt fl (by omega)
        exact ss_nil (fun _ _ g => by simp only [ks]; exact g.sub (by repeat (first | exact Sub.nil | refine Sub.keep ?_ | refine Sub.drop ?_)))
      · intro e17 h18
        exact ss_nil (fun _ _ g => by simp only [fs]; simp only [List.take_length] at g; exact (g.base h18 (by repeat (first | exact True.intro | constructor))).sub (by repeat (first | exact Sub.nil | refine Sub.keep ?_ | refine Sub.drop ?_)))
    · intro e19 h20
      refine ss_ret' (ex_tp (ex_sortM rfl B.sorted (ex_ow (C := cM) 8) ?_) (ex_im (F := vI) 4)) ?_ (((((Same.refl _).trans h10)).trans h20))
      · exact Nat.le_trans (few _) (by have := hs.2.2; omega)
      rw [List.take_length]
      rfl
abbrev sp_marks_of : Sp := spG (aC (vT (vQ vI vI vI)) (aC (vT (vP vI (vP vI vI))) (aC vI aN))) false (vT (vP vI vI)) (fun i => TrOk i.1 ∧ StoryOk i.1 i.2.1 ∧ BotOk i.1 i.2.1 ∧ 0 ≤ i.2.2.1 ∧ i.2.2.1 ≤ 400) (fun i => marksOf i.1 i.2.1 i.2.2.1)
abbrev N_marks_of : List Str := ["train", "story", "end", "found", "bottom", "mark"]
theorem sc_marks_of : FnScope ["train", "story", "end", "found", "bottom", "mark"] ["train", "story", "end"] (L2.defScope (topS 37)) := ⟨rfl, rfl, rfl, by decide +kernel, rfl, by decide +kernel, by decide +kernel⟩
theorem c_marks_of (D : DefT K mg "marks_of" (topS 37)) (B : Bl mg) (C : Co mg) (c_fraction : Cal P w K mg base 2 "fraction" sp_fraction []) (c_is_within : Cal P w K mg base 2 "is_within" sp_is_within []) (c_marks_by : Cal P w K mg base 4 "marks_by" sp_marks_by []) (c_need_story : Cal P w K mg base 6 "need_story" sp_need_story []) (c_need_train : Cal P w K mg base 5 "need_train" sp_need_train []) : Cal P w K mg base 7 "marks_of" sp_marks_of [] := by
  refine cal_of (m := 3) D sc_marks_of (fits_im (fits_im (fits_im fits_nil))) rfl (fun _ _ _ _ _ _ us hl => match us, hl with | [_, _, _], _ => rfl) (fun a cdv A outer s H E i hr hp => ?_)
  obtain ⟨tr, st, en, ⟨⟩⟩ := i
  have nd := sc_marks_of.nd
  have ht : TrOk tr := hp.1
  have hs : StoryOk tr st := hp.2.1
  have hb : BotOk tr st := hp.2.2.1
  have q0 : 0 ≤ en := hp.2.2.2.1
  have q1 : en ≤ 400 := hp.2.2.2.2
  have bo := botOf_ok ht hs hb
  have nn : ∀ m ∈ sortI (marksM tr st (botOf tr st) en), 0 ≤ m := fun m hm => marks_nn ht hs bo.1 bo.2 st (fun d hd => hd) m ((sortI_perm _).mem_iff.mp hm)
  have lm := marks_len ht hs bo.1 bo.2 q0 q1 st.length
  rw [List.take_length] at lm
  refine ss_exp (ex_call c_need_train hr ?_ (xa_cons (ex_im (F := (vT (vQ vI vI vI))) 0) xa_nil)) ?_
  · exact ht
  refine ss_exp (ex_call c_need_story hr ?_ (xa_cons (ex_im (F := (vT (vQ vI vI vI))) 0) (xa_cons (ex_im (F := (vT (vP vI (vP vI vI)))) 1) xa_nil))) ?_
  · exact ⟨ht, hs⟩
  refine ss_ifr (et_not (et_val (ex_call c_is_within hr trivial (xa_cons (ex_im (F := vI) 2) (xa_cons ex_int (xa_cons (ex_gint C.MOST_LENGTH) xa_nil)))))) (fun h => ?_) (fun h2 => ?_)
  · skip
    exfalso
    simp at h; omega
  refine ss_tgtG 3 4 (no_own rfl) rfl nd (ex_call c_marks_by hr ?_ (xa_cons (ex_im (F := (vT (vQ vI vI vI))) 0) (xa_cons (ex_im (F := (vT (vP vI (vP vI vI)))) 1) (xa_cons (ex_im (F := vI) 2) xa_nil)))) (fun e3 h4 => ?_)
  · exact ⟨ht, hs, hb, q0, q1⟩
  refine ss_ret' (ex_tupL B.tuple (ex_lc0 [("mark", 5)] _ rfl nd (wk_lstG 3) (fun _ _ _ _ _ _ _ _ => lg_name 5 nd) (fun _ _ _ _ _ _ x9 h5 h6 => (ex_call c_fraction hr ?_ (xa_cons (ex_im (F := vI) 5) (xa_cons (ex_im (F := vI) 4) xa_nil)))) ?_ (blkOk_by (N := N_marks_of) (sc := L2.defScope (topS 37)) (by decide +kernel)))) ?_ (((Same.refl _).trans h4))
  · exact ⟨nn _ (by assumption), bo.1, Int.lt_of_le_of_lt bo.2 (by decide)⟩
  · rw [(sortI_perm _).length_eq]; exact Nat.le_trans lm (by have := hs.2.2; omega)
  exact rfl
end W92
set_option Elab.async false
set_option linter.all false
set_option maxRecDepth 100000
set_option maxHeartbeats 4000000
namespace W92
open PySem PySem.Spec PyProof.Rows L2 Gm C8
variable {P : Program} {w : World} {K : PySem.W.Frag} {mg : Str → Option Value} {base : Heap}
abbrev sp_stretches : Sp := spG (aC vI (aC vI (aC vI aN))) true (vL (vP vI vI)) (fun i => 0 < i.1) (fun i => stretches i.1 i.2.1 i.2.2.1)
abbrev N_stretches : List Str := ["round_of", "first", "long", "begin", "end"]
theorem sc_stretches : FnScope ["round_of", "first", "long", "begin", "end"] ["round_of", "first", "long"] (L2.defScope (topS 38)) := ⟨rfl, rfl, rfl, by decide +kernel, rfl, by decide +kernel, by decide +kernel⟩
theorem c_stretches (D : DefT K mg "stretches" (topS 38)) (B : Bl mg) (C : Co mg)  : Cal P w K mg base 1 "stretches" sp_stretches [] := by
  refine cal_of (m := 2) D sc_stretches (fits_im (fits_im (fits_im fits_nil))) rfl (fun _ _ _ _ _ _ us hl => match us, hl with | [_, _, _], _ => rfl) (fun a cdv A outer s H E i hr hp => ?_)
  obtain ⟨r, f, l, ⟨⟩⟩ := i
  have nd := sc_stretches.nd
  have hr0 : 0 < r := hp
  refine ss_ifr (et_geq (ex_im (F := vI) 2) (ex_im (F := vI) 0)) (fun h => ?_) (fun h2 => ?_)
  · skip
    refine ss_ret' (ex_lst (xi_cons (ex_tp ex_int (ex_im (F := vI) 0)) xi_nil)) ?_ (Same.refl _)
    have a1 : r ≤ l := by simpa using h
    simp [stretches, a1]
  refine ss_im 3 nd (ex_mod (ex_im (F := vI) 1) (ex_im (F := vI) 0) ?_) ?_
  · exact hr0
  refine ss_im 4 nd (ex_add (ex_im (F := vI) 3) (ex_im (F := vI) 2)) ?_
  refine ss_ifr (et_geq (ex_im (F := vI) 4) (ex_im (F := vI) 0)) (fun h => ?_) (fun h4 => ?_)
  · skip
    refine ss_ret' (ex_lst (xi_cons (ex_tp ex_int (ex_sub (ex_im (F := vI) 4) (ex_im (F := vI) 0))) (xi_cons (ex_tp (ex_im (F := vI) 3) (ex_im (F := vI) 0)) xi_nil))) ?_ (Same.refl _)
    have a1 : ¬ r ≤ l := by simpa using h2
    have a2 : r ≤ f % r + l := by simpa using h
    simp [stretches, a1, a2]
  refine ss_ret' (ex_if (et_eq (ex_im (F := vI) 3) ex_int) (fun h5 => (ex_lst (xi_cons (ex_tp ex_int (ex_im (F := vI) 4)) (xi_cons (ex_tp (ex_im (F := vI) 0) (ex_im (F := vI) 0)) xi_nil)))) (fun h6 => (ex_lst (xi_cons (ex_tp (ex_im (F := vI) 3) (ex_im (F := vI) 4)) xi_nil)))) ?_ (Same.refl _)
  have a1 : ¬ r ≤ l := by simpa using h2
  have a2 : ¬ r ≤ f % r + l := by simpa using h4
  simp [stretches, a1, a2]
abbrev sp_let_by : Sp := spG (aC (vP vI vI) (aC (vQ vS vI vI) aN)) true (vL (vP vI vI)) (fun i => PerOk i.1 ∧ LkOk i.2.1) (fun i => letBy i.1 i.2.1)
abbrev N_let_by : List Str := ["period", "look", "round_of", "bottom", "first", "long"]
theorem sc_let_by : FnScope ["period", "look", "round_of", "bottom", "first", "long"] ["period", "look"] (L2.defScope (topS 39)) := ⟨rfl, rfl, rfl, by decide +kernel, rfl, by decide +kernel, by decide +kernel⟩
theorem c_let_by (D : DefT K mg "let_by" (topS 39)) (B : Bl mg) (C : Co mg) (c_stretches : Cal P w K mg base 1 "stretches" sp_stretches []) : Cal P w K mg base 2 "let_by" sp_let_by [] := by
  refine cal_of (m := 4) D sc_let_by (fits_im (fits_im fits_nil)) rfl (fun _ _ _ _ _ _ us hl => match us, hl with | [_, _], _ => rfl) (fun a cdv A outer s H E i hr hp => ?_)
  obtain ⟨⟨r, b⟩, ⟨wd, f, l⟩, ⟨⟩⟩ := i
  have nd := sc_let_by.nd
  have hq : PerOk (r, b) := hp.1
  have hk : LkOk (wd, f, l) := hp.2
  obtain ⟨h1', h2', h3', h4'⟩ := hq
  obtain ⟨k1, k2, k3, k4, k5⟩ := hk
  simp only at h1' h2' h3' h4' k1 k2 k3 k4
  refine ss_tgt (ex_im (F := (vP vI vI)) 0) (gt_pair 2 3 rfl nd) ?_
  refine ss_par 4 5 rfl nd (ex_mul (ex_q1 (ex_im (F := (vQ vS vI vI)) 1)) (ex_im (F := vI) 3) ?_) (ex_mul (ex_sub (ex_q2 (ex_im (F := (vQ vS vI vI)) 1)) (ex_q1 (ex_im (F := (vQ vS vI vI)) 1))) (ex_im (F := vI) 3) ?_) ?_
  · exact .inl ⟨by dsimp only; omega, by dsimp only; omega⟩
  · exact .inr ⟨by dsimp only; omega, by dsimp only; omega⟩
  refine ss_ifr (et_eq (ex_q0 (ex_im (F := (vQ vS vI vI)) 1)) ex_str) (fun h => ?_) (fun h2 => ?_)
  · skip
    refine ss_ret' (ex_call c_stretches hr ?_ (xa_cons (ex_im (F := vI) 2) (xa_cons (ex_im (F := vI) 4) (xa_cons (ex_im (F := vI) 5) xa_nil)))) ?_ (Same.refl _)
    · exact Int.lt_of_lt_of_le h3' h1'
    have a1 : wd = ("mark" : Str) := by simpa using h
    simp only [letBy]
    rw [if_pos a1]
  refine ss_ret' (ex_if (et_gt (ex_im (F := vI) 5) (ex_im (F := vI) 2)) (fun h3 => (ex_lst (F := (vP vI vI)) xi_nil)) (fun h4 => (ex_call c_stretches hr ?_ (xa_cons (ex_im (F := vI) 2) (xa_cons (ex_add (ex_im (F := vI) 4) (ex_im (F := vI) 5)) (xa_cons (ex_sub (ex_im (F := vI) 2) (ex_im (F := vI) 5)) xa_nil)))))) ?_ (Same.refl _)
  · exact Int.lt_of_lt_of_le h3' h1'
  have a1 : ¬ wd = ("mark" : Str) := by simpa using h2
  simp only [letBy]
  rw [if_neg a1]
  simp only [decide_eq_true_eq]
abbrev sp_common_stretches : Sp := spG (aC (vL (vP vI vI)) (aC (vL (vP vI vI)) aN)) true (vL (vP vI vI)) (fun i => i.1.length * i.2.1.length ≤ 10000 ∧ i.1.length ≤ 10000 ∧ i.2.1.length ≤ 10000) (fun i => commonSt i.1 i.2.1)
abbrev N_common_stretches : List Str := ["some", "others", "found", "first", "last", "other", "end"]
theorem sc_common_stretches : FnScope ["some", "others", "found", "first", "last", "other", "end"] ["some", "others"] (L2.defScope (topS 40)) := ⟨rfl, rfl, rfl, by decide +kernel, rfl, by decide +kernel, by decide +kernel⟩
theorem c_common_stretches (D : DefT K mg "common_stretches" (topS 40)) (B : Bl mg) (C : Co mg)  : Cal P w K mg base 1 "common_stretches" sp_common_stretches [] := by
  refine cal_of (m := 5) D sc_common_stretches (fits_ge (fits_ge fits_nil)) rfl (fun _ _ _ _ _ _ us hl => match us, hl with | [_, _], _ => rfl) (fun a cdv A outer s H E i hr hp => ?_)
  obtain ⟨ss, os, ⟨⟩⟩ := i
  have nd := sc_common_stretches.nd
  have c1 : ss.length * os.length ≤ 10000 := hp.1
  refine ss_ow (C := (cL (vP vI vI))) 2 nd (ex_lst (F := (vP vI vI)) xi_nil) ?_
  refine ss_for (fun j => [ge (vL (vP vI vI)) H ss, ge (vL (vP vI vI)) H os, ow (cL (vP vI vI)) ((ss.take j).foldl (csRow os) []), .no, .no, .no, .no]) _ PassesOwn.never rfl (wk_lstG 0) (fun _ _ _ _ => gt_pair 3 4 rfl nd) ?_ ?_ ?_
  · repeat (first | exact Sub.nil | refine Sub.keep ?_ | refine Sub.drop ?_)
  · intro e1 j x h2 hx
    have fs : (ss.take (j + 1)).foldl (csRow os) [] = csRow os ((ss.take j).foldl (csRow os) []) x := foldl_take _ _ _ _ hx
    have jl : j < ss.length := (List.getElem?_eq_some_iff.mp hx).1
    have l1 := csAll_len os ss j
    have l2 : j * os.length ≤ ss.length * os.length := Nat.mul_le_mul_right _ (by omega)
    have l3 : (j + 1) * os.length ≤ ss.length * os.length := Nat.mul_le_mul_right _ (by omega)
    refine ss_for (fun k => [ge (vL (vP vI vI)) H ss, ge (vL (vP vI vI)) H os, ow (cL (vP vI vI)) ((os.take k).foldl (csOne x) ((ss.take j).foldl (csRow os) [])), im vI x.1, im vI x.2, .no, .no]) _ PassesOwn.never rfl (wk_lstG 1) (fun _ _ _ _ => gt_pair 5 6 rfl nd) ?_ ?_ ?_
    · repeat (first | exact Sub.nil | refine Sub.keep ?_ | refine Sub.drop ?_)
    · intro e4 k y h5 hy
      have ks : (os.take (k + 1)).foldl (csOne x) ((ss.take j).foldl (csRow os) []) = csOne x ((os.take k).foldl (csOne x) ((ss.take j).foldl (csRow os) [])) y := foldl_take _ _ _ _ hy
      have kl : k < os.length := (List.getElem?_eq_some_iff.mp hy).1
      have l4 := csRow_len x os ((ss.take j).foldl (csRow os) []) k
      have l5 : (j + 1) * os.length = j * os.length + os.length := Nat.succ_mul _ _
      refine ss_ifd (et_le (ex_max rfl B.max (ex_im (F := vI) 3) (ex_im (F := vI) 5)) (ex_min rfl B.min (ex_im (F := vI) 4) (ex_im (F := vI) 6))) (fun h7 => ?_) (fun h8 => ?_)
      · apply Exists.intro
        constructor
        · skip
          refine ss_app (F := (vP vI vI)) 2 rfl (ex_tp (ex_max rfl B.max (ex_im (F := vI) 3) (ex_im (F := vI) 5)) (ex_min rfl B.min (ex_im (F := vI) 4) (ex_im (F := vI) 6))) ?_ ?_
          · omega
          exact ss_nil (fun _ _ g => g)
        · skip
          exact ss_nil (fun _ _ g => by simp only [ks, csOne]; first | (rw [if_pos (of_decide_eq_true (by assumption))]; exact g.sub (by repeat (first | exact Sub.nil | refine Sub.keep ?_ | refine Sub.drop ?_))) | (rw [if_neg (of_decide_eq_false (by assumption))]; exact g.sub (by repeat (first | exact Sub.nil | refine Sub.keep ?_ | refine Sub.drop ?_))))
      · apply Exists.intro
        constructor
        · skip
          exact ss_nil (fun _ _ g => g)
        · skip
          exact ss_nil (fun _ _ g => by simp only [ks, csOne]; first | (rw [if_pos (of_decide_eq_true (by assumption))]; exact g.sub (by repeat (first | exact Sub.nil | refine Sub.keep ?_ | refine Sub.drop ?_))) | (rw [if_neg (of_decide_eq_false (by assumption))]; exact g.sub (by repeat (first | exact Sub.nil | refine Sub.keep ?_ | refine Sub.drop ?_))))
    · intro e9 h10
      exact ss_nil (fun _ _ g => by simp only [fs]; simp only [List.take_length] at g; exact (g.base h10 (by repeat (first | exact True.intro | (refine ⟨?_, ?_⟩) | assumption))).sub (by repeat (first | exact Sub.nil | refine Sub.keep ?_ | refine Sub.drop ?_)))
  · intro e11 h12
    refine ss_ret' (ex_sortP B.sorted (ex_ow (C := (cL (vP vI vI))) 2)) ?_ (((Same.refl _).trans h12))
    rw [List.take_length]; rfl
abbrev sp_let_by_all : Sp := spG (aC (vP vI vI) (aC (vT (vQ vS vI vI)) aN)) true (vL (vP vI vI)) (fun i => PerOk i.1 ∧ LksOk i.2.1) (fun i => letAll i.1 i.2.1)
abbrev N_let_by_all : List Str := ["period", "looks", "found", "look"]
theorem sc_let_by_all : FnScope ["period", "looks", "found", "look"] ["period", "looks"] (L2.defScope (topS 41)) := ⟨rfl, rfl, rfl, by decide +kernel, rfl, by decide +kernel, by decide +kernel⟩
theorem c_let_by_all (D : DefT K mg "let_by_all" (topS 41)) (B : Bl mg) (C : Co mg) (c_common_stretches : Cal P w K mg base 1 "common_stretches" sp_common_stretches []) (c_let_by : Cal P w K mg base 2 "let_by" sp_let_by []) : Cal P w K mg base 3 "let_by_all" sp_let_by_all [] := by
  refine cal_of (m := 2) D sc_let_by_all (fits_im (fits_im fits_nil)) rfl (fun _ _ _ _ _ _ us hl => match us, hl with | [_, _], _ => rfl) (fun a cdv A outer s H E i hr hp => ?_)
  obtain ⟨per, lk, ⟨⟩⟩ := i
  have nd := sc_let_by_all.nd
  have hq : PerOk per := hp.1
  have hk : LksOk lk := hp.2
  refine ss_ow (C := (cL (vP vI vI))) 2 nd (ex_lst (xi_cons (ex_tp ex_int (ex_p0 (ex_im (F := (vP vI vI)) 0))) xi_nil)) ?_
  refine ss_for (fun j => [im (vP vI vI) per, im (vT (vQ vS vI vI)) lk, ow (cL (vP vI vI)) ((lk.take j).foldl (fun f l => commonSt f (letBy per l)) [(0, per.1)]), .no]) _ PassesOwn.never rfl (wk_tup (ex_im (F := (vT (vQ vS vI vI))) 1)) (fun _ _ _ _ => gt_name 3 nd) ?_ ?_ ?_
  · repeat (first | exact Sub.nil | refine Sub.keep ?_ | refine Sub.drop ?_)
  · intro e1 j x h2 hx
    have fs : (lk.take (j + 1)).foldl (fun f l => commonSt f (letBy per l)) [(0, per.1)] = commonSt ((lk.take j).foldl (fun f l => commonSt f (letBy per l)) [(0, per.1)]) (letBy per x) := foldl_take _ _ _ _ hx
    have jl : j < lk.length := (List.getElem?_eq_some_iff.mp hx).1
    have k8 := hk.1
    have l1 := letAll_len per lk j (by omega)
    have l2 := letBy_len per x
    have l3 : ((lk.take j).foldl (fun f l => commonSt f (letBy per l)) [(0, per.1)]).length * (letBy per x).length ≤ 256 * 2 := Nat.mul_le_mul l1 l2
    refine ss_ow (C := (cL (vP vI vI))) 2 nd (ex_call c_common_stretches hr ?_ (xa_cons (ex_ow (C := (cL (vP vI vI))) 2) (xa_cons (ex_call c_let_by hr ?_ (xa_cons (ex_im (F := (vP vI vI)) 0) (xa_cons (ex_im (F := (vQ vS vI vI)) 3) xa_nil))) xa_nil))) ?_
    · exact ⟨Nat.le_trans l3 (by decide), Nat.le_trans l1 (by decide), Nat.le_trans l2 (by decide)⟩
    · exact ⟨hq, hk.2 x (List.mem_of_getElem? hx)⟩
    exact ss_nil (fun _ _ g => by simp only [fs]; exact g.sub (by repeat (first | exact Sub.nil | refine Sub.keep ?_ | refine Sub.drop ?_)))
  · intro e4 h5
    refine ss_retO' (C := (cL (vP vI vI))) 2 rfl ?_ (((Same.refl _).trans h5))
    rw [List.take_length]; rfl
end W92
set_option Elab.async false
set_option linter.all false
set_option maxRecDepth 100000
set_option maxHeartbeats 4000000
namespace W92
open PySem PySem.Spec PyProof.Rows L2 Gm C8
variable {P : Program} {w : World} {K : PySem.W.Frag} {mg : Str → Option Value} {base : Heap}
abbrev sp_arcs_by : Sp := spG (aC (vP vI vI) (aC (vT (vQ vS vI vI)) aN)) true (vL (vP vI vI)) (fun i => PerOk i.1 ∧ LksOk i.2.1) (fun i => arcsBy i.1 i.2.1)
abbrev N_arcs_by : List Str := ["period", "looks", "found", "round_of", "begin", "end", "first"]
theorem sc_arcs_by : FnScope ["period", "looks", "found", "round_of", "begin", "end", "first"] ["period", "looks"] (L2.defScope (topS 42)) := ⟨rfl, rfl, rfl, by decide +kernel, rfl, by decide +kernel, by decide +kernel⟩
theorem c_arcs_by (D : DefT K mg "arcs_by" (topS 42)) (B : Bl mg) (C : Co mg) (c_let_by_all : Cal P w K mg base 3 "let_by_all" sp_let_by_all []) : Cal P w K mg base 4 "arcs_by" sp_arcs_by [] := by
  refine cal_of (m := 5) D sc_arcs_by (fits_im (fits_im fits_nil)) rfl (fun _ _ _ _ _ _ us hl => match us, hl with | [_, _], _ => rfl) (fun a cdv A outer s H E i hr hp => ?_)
  obtain ⟨per, lk, ⟨⟩⟩ := i
  have nd := sc_arcs_by.nd
  have hq : PerOk per := hp.1
  have hk : LksOk lk := hp.2
  have ll : (letAll per lk).length ≤ 256 := by
    have h := letAll_len per lk lk.length hk.1
    rwa [List.take_length] at h
  refine ss_paro0 2 3 rfl nd (ex_call c_let_by_all hr ?_ (xa_cons (ex_im (F := (vP vI vI)) 0) (xa_cons (ex_im (F := (vT (vQ vS vI vI))) 1) xa_nil))) (ex_p0 (ex_im (F := (vP vI vI)) 0)) ?_
  · exact ⟨hq, hk⟩
  refine ss_ifr (ew_pt (ew_or (et_eqD hr (ex_ow (C := (cL (vP vI vI))) 2) (ex_lst (xi_cons (ex_tp ex_int (ex_im (F := vI) 3)) xi_nil))) (fun h0 => ew_or1 (et_eqD hr (ex_ow (C := (cL (vP vI vI))) 2) (ex_lst (F := vP vI vI) xi_nil))))) (fun h => ?_) (fun h2 => ?_)
  · refine ss_retO' (C := (cL (vP vI vI))) 2 rfl ?_ (Same.refl _)
    have a1 : letAll per lk = [(0, per.1)] ∨ letAll per lk = [] := by simpa using h
    simp only [arcsBy]
    rw [if_pos a1]
  · have a1 : ¬ (letAll per lk = [(0, per.1)] ∨ letAll per lk = []) := by
      intro z
      have z2 : (decide (letAll per lk = [(0, per.1)]) || decide (letAll per lk = [])) = false := h2
      rcases z with z | z <;> simp [z] at z2
    have ne : letAll per lk ≠ [] := fun z => a1 (.inr z)
    have l0 : 0 < (letAll per lk).length := List.length_pos_iff.mpr ne
    refine ss_ifd (et_eq (ex_p0 (ex_ixLd z2 (ex_ow (C := (cL (vP vI vI))) 2) ex_int ?_)) ex_int) (fun h3 => ?_) (fun h4 => ?_)
    · exact ⟨by decide, l0⟩
    · have b1 : ((letAll per lk).getD 0 z2).1 = 0 := of_decide_eq_true h3
      apply Exists.intro
      constructor
      · refine ss_tgtX (ex_pop (x := (letAll per lk).getLastD z2) 2 rfl ?_) (gt_pair 4 5 rfl nd) ?_
        · rw [← List.getLast?_eq_getElem?, List.getLast?_eq_some_getLast ne]
          congr 1
          rw [List.getLastD_eq_getLast?, List.getLast?_eq_some_getLast ne]
          rfl
        refine ss_imX (F := vP vI vI) 6 nd (ex_ifX (x := (letAll per lk).dropLast.headD (0, 0)) (Γ' := [im (vP vI vI) per, im (vT (vQ vS vI vI)) lk, ow (cL (vP vI vI)) (letAll per lk).dropLast.tail, im vI per.1, im vI ((letAll per lk).getLastD z2).1, im vI ((letAll per lk).getLastD z2).2, .no]) (et_neD hr (ex_ow (C := (cL (vP vI vI))) 2) (ex_lst (F := vP vI vI) xi_nil)) (fun h5 => ?_) (fun h6 => ?_)) ?_
        · show PE _ _ (tX _ _ [im (vP vI vI) per, im (vT (vQ vS vI vI)) lk, ow (cL (vP vI vI)) (letAll per lk).dropLast, im vI per.1, im vI ((letAll per lk).getLastD z2).1, im vI ((letAll per lk).getLastD z2).2, .no] _ _)
          have c1 : (letAll per lk).dropLast ≠ [] := by
            have h7 : (!decide ((letAll per lk).dropLast = [])) = true := h5
            simpa using h7
          obtain ⟨hd, tl, e⟩ := List.exists_cons_of_ne_nil c1
          rw [e]
          exact ex_pop0 2 rfl
        · show PE _ _ (tX _ _ [im (vP vI vI) per, im (vT (vQ vS vI vI)) lk, ow (cL (vP vI vI)) (letAll per lk).dropLast, im vI per.1, im vI ((letAll per lk).getLastD z2).1, im vI ((letAll per lk).getLastD z2).2, .no] _ _)
          have c1 : (letAll per lk).dropLast = [] := by
            have h7 : (!decide ((letAll per lk).dropLast = [])) = false := h6
            simpa using h7
          rw [c1]
          exact ex_asX (ex_tp ex_int ex_int)
        refine ss_app (F := vP vI vI) 2 rfl (ex_if (et_eq (ex_im (F := vI) 4) (ex_im (F := vI) 3)) (fun _ => ex_tp ex_int (ex_p1 (ex_im (F := vP vI vI) 6))) (fun _ => ex_tp (ex_im (F := vI) 4) (ex_add (ex_im (F := vI) 3) (ex_p1 (ex_im (F := vP vI vI) 6))))) ?_ ?_
        · have : (letAll per lk).dropLast.tail.length ≤ 256 := by
            rw [List.length_tail, List.length_dropLast]
            omega
          exact Nat.lt_of_le_of_lt this (by decide)
        exact ss_nil (fun _ _ g => g)
      · refine ss_ret' (ex_sortP B.sorted (ex_ow (C := (cL (vP vI vI))) 2)) ?_ (Same.refl _)
        simp only [arcsBy]
        rw [if_neg a1, if_pos b1]
        congr 1
        simp only [arcTail, decide_eq_true_eq]
    · have b1 : ¬ ((letAll per lk).getD 0 z2).1 = 0 := of_decide_eq_false h4
      apply Exists.intro
      constructor
      · exact ss_nil (fun _ _ g => g)
      · refine ss_ret' (ex_sortP B.sorted (ex_ow (C := (cL (vP vI vI))) 2)) ?_ (Same.refl _)
        simp only [arcsBy]
        rw [if_neg a1, if_neg b1]
end W92
set_option Elab.async false
set_option linter.all false
set_option maxRecDepth 100000
set_option maxHeartbeats 4000000
namespace W92
open PySem PySem.Spec PyProof.Rows L2 Gm C8
variable {P : Program} {w : World} {K : PySem.W.Frag} {mg : Str → Option Value} {base : Heap}
abbrev sp_arcs : Sp := spG (aC (vT (vQ vI vI vI)) (aC (vT (vQ vS vI vI)) (aC vI aN))) false (vT (vP (vP vI vI) (vP vI vI))) (fun i => TrOk i.1 ∧ LksOk i.2.1 ∧ 0 ≤ i.2.2.1 ∧ i.2.2.1 < i.1.length) (fun i => (arcsBy ((periods i.1).getD i.2.2.1.toNat z2) i.2.1).map fun p => (frac p.1 ((periods i.1).getD i.2.2.1.toNat z2).2, frac p.2 ((periods i.1).getD i.2.2.1.toNat z2).2))
abbrev N_arcs : List Str := ["train", "looks", "roller", "period", "some", "first", "last"]
theorem sc_arcs : FnScope ["train", "looks", "roller", "period", "some", "first", "last"] ["train", "looks", "roller"] (L2.defScope (topS 43)) := ⟨rfl, rfl, rfl, by decide +kernel, rfl, by decide +kernel, by decide +kernel⟩
theorem c_arcs (D : DefT K mg "arcs" (topS 43)) (B : Bl mg) (C : Co mg) (c_arcs_by : Cal P w K mg base 4 "arcs_by" sp_arcs_by []) (c_fraction : Cal P w K mg base 2 "fraction" sp_fraction []) (c_is_within : Cal P w K mg base 2 "is_within" sp_is_within []) (c_need_looked : Cal P w K mg base 6 "need_looked" sp_need_looked []) (c_periods_by : Cal P w K mg base 3 "periods_by" sp_periods_by []) : Cal P w K mg base 7 "arcs" sp_arcs [] := by
  refine cal_of (m := 4) D sc_arcs (fits_im (fits_im (fits_im fits_nil))) rfl (fun _ _ _ _ _ _ us hl => match us, hl with | [_, _, _], _ => rfl) (fun a cdv A outer s H E i hr hp => ?_)
  obtain ⟨tr, lk, r, ⟨⟩⟩ := i
  have nd := sc_arcs.nd
  have ht : TrOk tr := hp.1
  have hk : LksOk lk := hp.2.1
  have r0 : 0 ≤ r := hp.2.2.1
  have r1 : r < tr.length := hp.2.2.2
  have pk := per_getD ht r0 r1
  have an := arcs_nn pk hk
  have al := arcsBy_len pk hk
  obtain ⟨q1, q2, q3, q4⟩ := pk
  refine ss_exp (ex_call c_need_looked hr ?_ (xa_cons (ex_im (F := (vT (vQ vI vI vI))) 0) (xa_cons (ex_im (F := (vT (vQ vS vI vI))) 1) xa_nil))) ?_
  · exact ⟨ht, hk⟩
  refine ss_ifr (et_not (et_val (ex_call c_is_within hr trivial (xa_cons (ex_im (F := vI) 2) (xa_cons ex_int (xa_cons (ex_sub (ex_lenT B.len (ex_im (F := (vT (vQ vI vI vI))) 0)) ex_int) xa_nil)))))) (fun h => ?_) (fun h2 => ?_)
  · skip
    exfalso
    simp at h; omega
  refine ss_im 3 nd (ex_ixTd z2 (ex_call c_periods_by hr ?_ (xa_cons (ex_im (F := (vT (vQ vI vI vI))) 0) xa_nil)) (ex_im (F := vI) 2) ?_) ?_
  · exact ht
  · exact ⟨r0, show r.toNat < (periods tr).length by rw [periods_len]; omega⟩
  refine ss_ow (C := (cL (vP vI vI))) 4 nd (ex_call c_arcs_by hr ?_ (xa_cons (ex_im (F := (vP vI vI)) 3) (xa_cons (ex_im (F := (vT (vQ vS vI vI))) 1) xa_nil))) ?_
  · exact ⟨per_getD ht r0 r1, hk⟩
  refine ss_frz (C := (cL (vP vI vI))) 4 rfl (fun e3 h4 => ?_)
  refine ss_ret' (ex_tupL B.tuple (ex_lc0 [("first", 5), ("last", 6)] _ rfl nd (wk_lstG 4) (fun _ _ _ _ _ _ _ _ => lg_pair 5 6 rfl nd) (fun _ _ _ _ _ _ x9 h5 h6 => (ex_tp (ex_call c_fraction hr ?_ (xa_cons (ex_im (F := vI) 5) (xa_cons (ex_p1 (ex_im (F := (vP vI vI)) 3)) xa_nil))) (ex_call c_fraction hr ?_ (xa_cons (ex_im (F := vI) 6) (xa_cons (ex_p1 (ex_im (F := (vP vI vI)) 3)) xa_nil))))) ?_ (blkOk_by (N := N_arcs) (sc := L2.defScope (topS 43)) (by decide +kernel)))) ?_ (((Same.refl _).trans h4))
  · exact ⟨(an _ (by assumption)).1, q3, Int.lt_of_le_of_lt q4 (by decide)⟩
  · exact ⟨(an _ (by assumption)).2, q3, Int.lt_of_le_of_lt q4 (by decide)⟩
  · exact Nat.le_trans al (by decide)
  exact rfl
abbrev sp_is_sound : Sp := spG (aC (vP vI vI) (aC (vP vI vI) (aC (vT (vQ vS vI vI)) aN))) false vB (fun i => PerOk i.1 ∧ PhOk i.2.1 ∧ LksOk i.2.2.1) (fun i => isSound i.1 i.2.1 i.2.2.1)
abbrev N_is_sound : List Str := ["period", "phase", "looks", "look"]
theorem sc_is_sound : FnScope ["period", "phase", "looks", "look"] ["period", "phase", "looks"] (L2.defScope (topS 46)) := ⟨rfl, rfl, rfl, by decide +kernel, rfl, by decide +kernel, by decide +kernel⟩
theorem c_is_sound (D : DefT K mg "is_sound" (topS 46)) (B : Bl mg) (C : Co mg) (c_has_mark : Cal P w K mg base 1 "has_mark" sp_has_mark []) : Cal P w K mg base 2 "is_sound" sp_is_sound [] := by
  refine cal_of (m := 1) D sc_is_sound (fits_im (fits_im (fits_im fits_nil))) rfl (fun _ _ _ _ _ _ us hl => match us, hl with | [_, _, _], _ => rfl) (fun a cdv A outer s H E i hr hp => ?_)
  obtain ⟨per, ph, lk, ⟨⟩⟩ := i
  have nd := sc_is_sound.nd
  refine ss_ret' (ex_not (ex_any rfl B.any (ex_lc1 [("look", 3)] _ rfl nd (wk_tup (ex_im (F := (vT (vQ vS vI vI))) 2)) (fun _ _ _ _ _ _ _ _ => lg_name 3 nd) (fun _ _ _ _ _ _ x5 h1 h2 => (et_eq (ex_q0 (ex_im (F := (vQ vS vI vI)) 3)) ex_str)) (fun _ _ _ _ _ _ x5 h1 h2 h4 => (ex_call c_has_mark hr ?_ (xa_cons (ex_im (F := (vP vI vI)) 0) (xa_cons (ex_im (F := (vP vI vI)) 1) (xa_cons (ex_im (F := (vQ vS vI vI)) 3) xa_nil))))) ?_ (blkOk_by (N := N_is_sound) (sc := L2.defScope (topS 46)) (by decide +kernel))))) ?_ (Same.refl _)
  · exact ⟨hp.1, hp.2.1, hp.2.2.2 _ (by assumption)⟩
  · exact Nat.le_trans hp.2.2.1 (by decide)
  exact rfl
abbrev sp_phases_of : Sp := spG (aC (vP vI vI) (aC (vT (vQ vS vI vI)) aN)) true (vL (vP vI vI)) (fun i => PerOk i.1 ∧ LksOk i.2.1) (fun i => phasesOf i.1 i.2.1)
abbrev N_phases_of : List Str := ["period", "looks", "round_of", "bottom", "ends", "word", "first", "last", "some", "end", "phase"]
theorem sc_phases_of : FnScope ["period", "looks", "round_of", "bottom", "ends", "word", "first", "last", "some", "end", "phase"] ["period", "looks"] (L2.defScope (topS 47)) := ⟨rfl, rfl, rfl, by decide +kernel, rfl, by decide +kernel, by decide +kernel⟩
theorem c_phases_of (D : DefT K mg "phases_of" (topS 47)) (B : Bl mg) (C : Co mg) (c_fraction : Cal P w K mg base 2 "fraction" sp_fraction []) (c_is_sound : Cal P w K mg base 2 "is_sound" sp_is_sound []) : Cal P w K mg base 3 "phases_of" sp_phases_of [] := by
  refine cal_of (m := 9) D sc_phases_of (fits_im (fits_im fits_nil)) rfl (fun _ _ _ _ _ _ us hl => match us, hl with | [_, _], _ => rfl) (fun a cdv A outer s H E i hr hp => ?_)
  obtain ⟨per, lk, ⟨⟩⟩ := i
  have nd := sc_phases_of.nd
  have hq : PerOk per := hp.1
  have hk : LksOk lk := hp.2
  have eb := ends_b hq lk
  have el := ends_len per lk lk.length
  rw [List.take_length] at el
  have k8 := hk.1
  obtain ⟨q1, q2, q3, q4⟩ := id hq
  refine ss_tgt (ex_im (F := (vP vI vI)) 0) (gt_pair 2 3 rfl nd) ?_
  refine ss_ow (C := cM) 4 nd ex_dispM ?_
  refine ss_for (fun j => [im (vP vI vI) per, im (vT (vQ vS vI vI)) lk, im vI per.1, im vI per.2, ow cM ((lk.take j).foldl (fun e l => putM (putM e (l.2.1 * per.2 % per.1)) (l.2.2 * per.2 % per.1)) [0]), .no, .no, .no, .no, .no, .no]) _ PassesOwn.never rfl (wk_tup (ex_im (F := (vT (vQ vS vI vI))) 1)) (fun _ _ _ _ => gt_trip 5 6 7 rfl nd) ?_ ?_ ?_
  · repeat (first | exact Sub.nil | refine Sub.keep ?_ | refine Sub.drop ?_)
  · intro e1 j x h2 hx
    have fs : (lk.take (j + 1)).foldl (fun e l => putM (putM e (l.2.1 * per.2 % per.1)) (l.2.2 * per.2 % per.1)) [0] = putM (putM ((lk.take j).foldl (fun e l => putM (putM e (l.2.1 * per.2 % per.1)) (l.2.2 * per.2 % per.1)) [0]) (x.2.1 * per.2 % per.1)) (x.2.2 * per.2 % per.1) := foldl_take _ _ _ _ hx
    have jl : j < lk.length := (List.getElem?_eq_some_iff.mp hx).1
    have le := ends_len per lk j
    have lx := hk.2 x (List.mem_of_getElem? hx)
    obtain ⟨x1, x2, x3, x4, x5⟩ := lx
    refine ss_mput2 4 rfl hr (fun _ => (ex_mod (ex_mul (ex_im (F := vI) 6) (ex_im (F := vI) 3) ?_) (ex_im (F := vI) 2) ?_)) (fun _ => (ex_mod (ex_mul (ex_im (F := vI) 7) (ex_im (F := vI) 3) ?_) (ex_im (F := vI) 2) ?_)) ?_ ?_
    · exact .inl ⟨by omega, by omega⟩
    · exact Int.lt_of_lt_of_le q3 q1
    · exact .inl ⟨by omega, by omega⟩
    · exact Int.lt_of_lt_of_le q3 q1
    · exact Nat.lt_of_le_of_lt (Nat.add_le_add_right le 1) (by omega)
    exact ss_nil (fun _ _ g => by simp only [fs]; exact g.sub (by repeat (first | exact Sub.nil | refine Sub.keep ?_ | refine Sub.drop ?_)))
  · intro e4 h5
    refine ss_lc0 8 [("end", 9)] _ rfl nd (wk_lstN (ex_sortM rfl B.sorted (ex_ow (C := cM) 4) ?_)) (fun _ _ _ _ _ _ _ _ => lg_name 9 nd) (fun _ _ _ _ _ _ x10 h6 h7 => (ex_call c_fraction hr ?_ (xa_cons (ex_im (F := vI) 9) (xa_cons (ex_im (F := vI) 3) xa_nil)))) ?_ ?_ (blkOk_by (N := N_phases_of) (sc := L2.defScope (topS 47)) (by decide +kernel))
    · rw [List.take_length]; exact Nat.le_trans el (by omega)
    · exact ⟨(eb _ ((sortI_perm _).mem_iff.mp (by rw [List.take_length] at *; assumption))).1, q3, Int.lt_of_le_of_lt q4 (by decide)⟩
    · rw [(sortI_perm _).length_eq, List.take_length]; exact Nat.le_trans el (by omega)
    refine ss_frz (C := (cL (vP vI vI))) 8 rfl (fun e11 h12 => ?_)
    refine ss_ret' (ex_lc1 [("phase", 10)] _ rfl nd (wk_lstG 8) (fun _ _ _ _ _ _ _ _ => lg_name 10 nd) (fun _ _ _ _ _ _ x17 h13 h14 => (et_val (ex_call c_is_sound hr ?_ (xa_cons (ex_im (F := (vP vI vI)) 0) (xa_cons (ex_im (F := (vP vI vI)) 10) (xa_cons (ex_im (F := (vT (vQ vS vI vI))) 1) xa_nil)))))) (fun _ _ _ _ _ _ x17 h13 h14 h16 => (ex_im (F := (vP vI vI)) 10)) ?_ (blkOk_by (N := N_phases_of) (sc := L2.defScope (topS 47)) (by decide +kernel))) ?_ (((((Same.refl _).trans h5)).trans h12))
    · exact ⟨hq, ph_ok hq (by rw [List.take_length] at *; assumption), hk⟩
    · rw [List.length_map, (sortI_perm _).length_eq, List.take_length]; exact Nat.le_trans el (by omega)
    rw [List.take_length]; simp only [List.map_id']; rfl
abbrev sp_numbers_of_marks : Sp := spG (aC (vT (vQ vS vI vI)) aN) true (vL vI) (fun i => LksOk i.1) (fun i => numMarks i.1)
abbrev N_numbers_of_marks : List Str := ["looks", "number", "look"]
theorem sc_numbers_of_marks : FnScope ["looks", "number", "look"] ["looks"] (L2.defScope (topS 48)) := ⟨rfl, rfl, rfl, by decide +kernel, rfl, by decide +kernel, by decide +kernel⟩
theorem c_numbers_of_marks (D : DefT K mg "numbers_of_marks" (topS 48)) (B : Bl mg) (C : Co mg)  : Cal P w K mg base 1 "numbers_of_marks" sp_numbers_of_marks [] := by
  refine cal_of (m := 2) D sc_numbers_of_marks (fits_im fits_nil) rfl (fun _ _ _ _ _ _ us hl => match us, hl with | [_], _ => rfl) (fun a cdv A outer s H E i hr hp => ?_)
  obtain ⟨lk, ⟨⟩⟩ := i
  have nd := sc_numbers_of_marks.nd
  refine ss_ret' (ex_lc1 [("number", 1), ("look", 2)] _ rfl nd (wk_enumT B.enumerate (ex_im (F := (vT (vQ vS vI vI))) 0)) (fun _ _ _ _ _ _ _ _ => lg_pair 1 2 rfl nd) (fun _ _ _ _ _ _ x5 h1 h2 => (et_eq (ex_q0 (ex_im (F := (vQ vS vI vI)) 2)) ex_str)) (fun _ _ _ _ _ _ x5 h1 h2 h4 => (ex_im (F := vI) 1)) ?_ (blkOk_by (N := N_numbers_of_marks) (sc := L2.defScope (topS 48)) (by decide +kernel))) ?_ (Same.refl _)
  · rw [enumI_len]; exact Nat.le_trans hp.1 (by decide)
  exact rfl
abbrev sp_shown_by : Sp := spG (aC (vP vI vI) (aC (vP vI vI) (aC (vT (vQ vS vI vI)) aN))) false (vT vI) (fun i => PerOk i.1 ∧ PhOk i.2.1 ∧ LksOk i.2.2.1) (fun i => shownBy i.1 i.2.1 i.2.2.1)
abbrev N_shown_by : List Str := ["period", "phase", "looks", "number"]
theorem sc_shown_by : FnScope ["period", "phase", "looks", "number"] ["period", "phase", "looks"] (L2.defScope (topS 49)) := ⟨rfl, rfl, rfl, by decide +kernel, rfl, by decide +kernel, by decide +kernel⟩
theorem c_shown_by (D : DefT K mg "shown_by" (topS 49)) (B : Bl mg) (C : Co mg) (c_has_mark : Cal P w K mg base 1 "has_mark" sp_has_mark []) (c_numbers_of_marks : Cal P w K mg base 1 "numbers_of_marks" sp_numbers_of_marks []) : Cal P w K mg base 2 "shown_by" sp_shown_by [] := by
  refine cal_of (m := 1) D sc_shown_by (fits_im (fits_im (fits_im fits_nil))) rfl (fun _ _ _ _ _ _ us hl => match us, hl with | [_, _, _], _ => rfl) (fun a cdv A outer s H E i hr hp => ?_)
  obtain ⟨per, ph, lk, ⟨⟩⟩ := i
  have nd := sc_shown_by.nd
  have hk : LksOk lk := hp.2.2
  refine ss_ret' (ex_tupL B.tuple (ex_lc1 [("number", 3)] _ rfl nd (wk_lstN (ex_call c_numbers_of_marks hr ?_ (xa_cons (ex_im (F := (vT (vQ vS vI vI))) 2) xa_nil))) (fun _ _ _ _ _ _ _ _ => lg_name 3 nd) (fun _ _ _ _ _ _ x5 h1 h2 => (et_val (ex_call c_has_mark hr ?_ (xa_cons (ex_im (F := (vP vI vI)) 0) (xa_cons (ex_im (F := (vP vI vI)) 1) (xa_cons (ex_ixTd zLk (ex_im (F := (vT (vQ vS vI vI))) 2) (ex_im (F := vI) 3) ?_) xa_nil)))))) (fun _ _ _ _ _ _ x5 h1 h2 h4 => (ex_im (F := vI) 3)) ?_ (blkOk_by (N := N_shown_by) (sc := L2.defScope (topS 49)) (by decide +kernel)))) ?_ (Same.refl _)
  · exact hk
  · exact ⟨hp.1, hp.2.1, num_lk hk (by assumption)⟩
  · exact num_ix (by assumption)
  · exact Nat.le_trans (num_len lk) (Nat.le_trans hk.1 (by decide))
  simp only [List.map_id']; rfl
end W92
set_option Elab.async false
set_option linter.all false
set_option maxRecDepth 100000
set_option maxHeartbeats 4000000
namespace W92
open PySem PySem.Spec PyProof.Rows L2 Gm C8
variable {P : Program} {w : World} {K : PySem.W.Frag} {mg : Str → Option Value} {base : Heap}
abbrev sp_joined : Sp := spG (aC (vT vI) (aC (vT vI) aN)) false (vT vI) (fun i => i.1.length + i.2.1.length < 64) (fun i => joined i.1 i.2.1)
abbrev N_joined : List Str := ["one", "other", "number"]
theorem sc_joined : FnScope ["one", "other", "number"] ["one", "other"] (L2.defScope (topS 51)) := ⟨rfl, rfl, rfl, by decide +kernel, rfl, by decide +kernel, by decide +kernel⟩
theorem c_joined (D : DefT K mg "joined" (topS 51)) (B : Bl mg) (C : Co mg)  : Cal P w K mg base 1 "joined" sp_joined [] := by
  refine cal_of (m := 1) D sc_joined (fits_im (fits_im fits_nil)) rfl (fun _ _ _ _ _ _ us hl => match us, hl with | [_, _], _ => rfl) (fun a cdv A outer s H E i hr hp => ?_)
  obtain ⟨a, b, ⟨⟩⟩ := i
  have nd := sc_joined.nd
  have hl : a.length + b.length < 64 := hp
  refine ss_ret' (ex_tupL B.tuple (ex_sortS rfl B.sorted (ex_si0 [("number", 2)] _ rfl nd (wk_tup (ex_catT (ex_im (F := (vT vI)) 0) (ex_im (F := (vT vI)) 1) ?_)) (fun _ _ _ _ _ _ _ _ => lg_name 2 nd) (fun _ _ _ _ _ _ x5 h1 h2 => (ex_im (F := vI) 2)) ?_ (blkOk_by (N := N_joined) (sc := L2.defScope (topS 51)) (by decide +kernel))) ?_)) ?_ (Same.refl _)
  · exact Nat.le_of_lt (Nat.lt_trans hl (by decide))
  · rw [List.length_append]; exact Nat.le_of_lt (Nat.lt_trans hl (by decide))
  · rw [List.length_map, List.length_append]; exact hl
  simp only [List.map_id']; rfl
abbrev sp_ways_of : Sp := spG (aC (vT (vQ vI vI vI)) (aC (vT (vQ vS vI vI)) aN)) true (vL (vD (vP vI vI))) (fun i => TrOk i.1 ∧ LksOk i.2.1) (fun i => waysOf i.1 i.2.1)
abbrev N_ways_of : List Str := ["train", "looks", "found", "period", "ways", "phase"]
theorem sc_ways_of : FnScope ["train", "looks", "found", "period", "ways", "phase"] ["train", "looks"] (L2.defScope (topS 50)) := ⟨rfl, rfl, rfl, by decide +kernel, rfl, by decide +kernel, by decide +kernel⟩
theorem c_ways_of (D : DefT K mg "ways_of" (topS 50)) (B : Bl mg) (C : Co mg) (c_periods_by : Cal P w K mg base 3 "periods_by" sp_periods_by []) (c_phases_of : Cal P w K mg base 3 "phases_of" sp_phases_of []) (c_shown_by : Cal P w K mg base 2 "shown_by" sp_shown_by []) : Cal P w K mg base 4 "ways_of" sp_ways_of [] := by
  refine cal_of (m := 4) D sc_ways_of (fits_im (fits_im fits_nil)) rfl (fun _ _ _ _ _ _ us hl => match us, hl with | [_, _], _ => rfl) (fun a cdv A outer s H E i hr hp => ?_)
  obtain ⟨tr, lk, ⟨⟩⟩ := i
  have nd := sc_ways_of.nd
  have ht : TrOk tr := hp.1
  have hk : LksOk lk := hp.2
  refine ss_ow (C := cLG H (vD (vP vI vI))) 2 nd ex_nilG ?_
  refine ss_forH (fun B j => [im (vT (vQ vI vI vI)) tr, im (vT (vQ vS vI vI)) lk, ow (cLG B (vD (vP vI vI))) (((periods tr).take j).map (waysOne lk)), .no, .no, .no]) _ PassesOwn.never rfl (wk_tup (ex_call c_periods_by hr ht (xa_cons (ex_im (F := (vT (vQ vI vI vI))) 0) xa_nil))) (fun _ _ _ _ => gt_name 3 nd) ?_ ?_ ?_
  · exact fun B σ Hx hB g => g.reC (i := 2) rfl fun p o ⟨vs, e, al⟩ => ⟨vs, e, al.map fun _ _ q => (vD (vP vI vI)).mono hB q⟩
  · intro B j x hB hx
    have px : PerOk x := periods_ok ht x (List.mem_of_getElem? hx)
    have jl : j < (periods tr).length := (List.getElem?_eq_some_iff.mp hx).1
    have t4 := ht.2.1
    rw [periods_len] at jl
    refine ss_ow (C := cD (vP vI vI)) 4 nd (ex_dnewD (F := (vP vI vI))) ?_
    refine ss_for (fun k => [im (vT (vQ vI vI vI)) tr, im (vT (vQ vS vI vI)) lk, ow (cLG B (vD (vP vI vI))) (((periods tr).take j).map (waysOne lk)), im (vP vI vI) x, ow (cD (vP vI vI)) (((phasesOf x lk).take k).foldl (fun d ph => putD d (shownBy x ph lk) ph) []), .no]) _ PassesOwn.never rfl (wk_lstN (ex_call c_phases_of hr ?_ (xa_cons (ex_im (F := (vP vI vI)) 3) (xa_cons (ex_im (F := (vT (vQ vS vI vI))) 1) xa_nil)))) (fun _ _ _ _ => gt_name 5 nd) ?_ ?_ ?_
    · exact ⟨px, hk⟩
    · repeat (first | exact Sub.nil | refine Sub.keep ?_ | refine Sub.drop ?_)
    · intro B1 k y hB1 hy
      have py : PhOk y := ph_ok px (List.mem_filter.mp (List.mem_of_getElem? hy)).1
      have fs : ((phasesOf x lk).take (k + 1)).foldl (fun d ph => putD d (shownBy x ph lk) ph) [] = putD (((phasesOf x lk).take k).foldl (fun d ph => putD d (shownBy x ph lk) ph) []) (shownBy x y lk) y := foldl_take _ _ _ _ hy
      have wl := way_part (per := x) hk k
      have kl : k < (phasesOf x lk).length := (List.getElem?_eq_some_iff.mp hy).1
      have pl := phases_len x hk
      refine ss_dput 4 hr (ex_im (F := (vP vI vI)) 5) (ex_call c_shown_by hr ?_ (xa_cons (ex_im (F := (vP vI vI)) 3) (xa_cons (ex_im (F := (vP vI vI)) 5) (xa_cons (ex_im (F := (vT (vQ vS vI vI))) 1) xa_nil)))) ?_ ?_
      · exact ⟨px, py, hk⟩
      · exact Nat.lt_of_le_of_lt wl (by omega)
      exact ss_nil (fun _ _ g => by simp only [fs]; exact g.sub (by repeat (first | exact Sub.nil | refine Sub.keep ?_ | refine Sub.drop ?_)))
    · intro B2 hB2
      refine ss_frz (C := cD (vP vI vI)) 4 rfl (fun B3 hB3 => ?_)
      refine ss_appG (F := vD (vP vI vI)) 2 rfl (hB2.trans hB3) (ex_geH (F := vD (vP vI vI)) 4) ?_ ?_
      · rw [List.length_map]; exact Nat.lt_of_le_of_lt (List.length_take_le _ _) (by omega)
      exact ss_nil (fun _ _ g => ⟨B3, hB2.trans hB3, by
        have e : ((periods tr).take (j + 1)).map (waysOne lk) = ((periods tr).take j).map (waysOne lk) ++ [waysOne lk x] := by
          rw [List.take_add_one, hx, List.map_append]
          rfl
        rw [e]
        simp only [List.take_length] at g
        exact g.sub (by repeat (first | exact Sub.nil | refine Sub.keep ?_ | refine Sub.drop ?_))⟩)
  · intro B hB
    refine ss_retOG (F := vD (vP vI vI)) 2 rfl (Same.refl _) ?_ hB
    rw [List.take_length]
    rfl
abbrev sp_told_by : Sp := spG (aC (vL (vD (vP vI vI))) (aC (vT vI) aN)) true (vD (vT (vP vI (vP vI vI)))) (fun i => (∃ n, WaysOk n i.1 ∧ ∀ r ∈ i.2.1, 0 ≤ r ∧ r < n) ∧ i.2.1.length ≤ 4) (fun i => toldBy i.1 i.2.1)
abbrev N_told_by : List Str := ["ways", "lot", "found", "roller", "longer", "shown", "story", "more", "phase"]
theorem sc_told_by : FnScope ["ways", "lot", "found", "roller", "longer", "shown", "story", "more", "phase"] ["ways", "lot"] (L2.defScope (topS 52)) := ⟨rfl, rfl, rfl, by decide +kernel, rfl, by decide +kernel, by decide +kernel⟩
theorem c_told_by (D : DefT K mg "told_by" (topS 52)) (B : Bl mg) (C : Co mg) (c_joined : Cal P w K mg base 1 "joined" sp_joined []) : Cal P w K mg base 2 "told_by" sp_told_by [] := by
  refine cal_of (m := 7) D sc_told_by (fits_ge (fits_im fits_nil)) rfl (fun _ _ _ _ _ _ us hl => match us, hl with | [_, _], _ => rfl) (fun a cdv A outer s H E i hr hp => ?_)
  obtain ⟨ways, lot, ⟨⟩⟩ := i
  have nd := sc_told_by.nd
  obtain ⟨n, hw, hl⟩ := hp.1
  have l4 : lot.length ≤ 4 := hp.2
  refine ss_raw 0 rfl (fun v hv hs0 => ?_)
  obtain ⟨pw, o, e1, e2, vs, e3, hvs⟩ := hv
  subst e1 e3
  refine ss_ow (C := cD (vT (vP vI (vP vI vI)))) 2 nd (ex_disp1 hr (fun _ _ => ex_tup (F := vI) xi_nil) (fun _ _ => ex_tup (F := (vP vI (vP vI vI))) xi_nil)) ?_
  refine ss_for (fun j => [im (vRv (.ref pw)) (), im (vT vI) lot, ow (cD (vT (vP vI (vP vI vI)))) ((lot.take j).foldl (tellOne ways) [([], [])]), .no, .no, .no, .no, .no, .no]) _ PassesOwn.never rfl (wk_tup (ex_im (F := (vT vI)) 1)) (fun _ _ _ _ => gt_name 3 nd) ?_ ?_ ?_
  · repeat (first | exact Sub.nil | refine Sub.keep ?_ | refine Sub.drop ?_)
  · intro B j r hB hr1
    have hB0 : Same H B := hB
    have jl : j < lot.length := (List.getElem?_eq_some_iff.mp hr1).1
    obtain ⟨r0, rn⟩ := hl r (List.mem_of_getElem? hr1)
    obtain ⟨t1, t2⟩ := tell_ok hw lot j hl
    have fs : (lot.take (j + 1)).foldl (tellOne ways) [([], [])] = tellOne ways ((lot.take j).foldl (tellOne ways) [([], [])]) r := foldl_take _ _ _ _ hr1
    generalize (lot.take j).foldl (tellOne ways) [([], [])] = found at t1 t2 fs ⊢
    have rl : r.toNat < ways.length := by rw [hw.1]; omega
    obtain ⟨u, hu, pd, od, ed1, ed2, ws, ed3, hws⟩ := hvs.get (List.getElem?_eq_getElem rl)
    subst ed1 ed3
    have wg : ways[r.toNat] = ways.getD r.toNat [] := by
      rw [List.getD_eq_getElem?_getD, List.getElem?_eq_getElem rl]
      rfl
    obtain ⟨w1, w2⟩ := hw.2.2 _ (List.getElem_mem rl)
    rw [wg] at hws w1 w2
    refine ss_ow (C := cD (vT (vP vI (vP vI vI)))) 4 nd (ex_dnewD (F := (vT (vP vI (vP vI vI))))) ?_
    refine ss_frzR (C := cD (vT (vP vI (vP vI vI)))) 2 rfl (fun B1 pf of hB1 nf ef2 ef4 => ?_)
    obtain ⟨fws, ef3, hfw⟩ := ef4
    subst ef3
    have bf : B1 pf = some (.dT fws) := ef2
    have bw : B1 pw = some (.lst vs) := (hB.trans hB1) _ _ e2
    have bd : B1 pd = some (.dT ws) := (hB.trans hB1) _ _ ed2
    have hfw1 : Al (DR (vT (vP vI (vP vI vI)))) found fws B1 := hfw
    have ne1 : pw ≠ pf := fun e => by rw [e, bf] at bw; cases bw
    have ne2 : pd ≠ pf := fun e => by
      have z := hB _ _ ed2
      rw [e, nf] at z
      cases z
    have ne3 : pw ≠ pd := fun e => by rw [e, bd] at bw; cases bw
    refine ss_forI (F := (vT (vP vI (vP vI vI)))) (ds := found) (ws := fws) (d := pf) (fun i => [im (vRv (.ref pw)) (), im (vT vI) lot, im (vRv (.ref pf)) (), im vI r, ow (cD (vT (vP vI (vP vI vI)))) ((found.take i).foldl (tellRow (ways.getD r.toNat []) r) []), .no, .no, .no, .no]) _ PassesOwn.never rfl bf hfw1 (fun od => ex_im (F := vRv (.ref pf)) 2) (fun _ _ _ _ => gt_pair 5 6 rfl nd) trivial (fun _ => trivial) ?_ ?_ ?_
    · repeat (first | exact Sub.nil | refine Sub.keep ?_ | refine Sub.drop ?_)
    · intro od1 i x hx
      have il : i < found.length := (List.getElem?_eq_some_iff.mp hx).1
      obtain ⟨x1, x2⟩ := t2 x (List.mem_of_getElem? hx)
      have gs : (found.take (i + 1)).foldl (tellRow (ways.getD r.toNat []) r) [] = tellRow (ways.getD r.toNat []) r ((found.take i).foldl (tellRow (ways.getD r.toNat []) r) []) x := foldl_take _ _ _ _ hx
      have dl := tellOne_len (ways.getD r.toNat []) r found w1 i
      have p17 : found.length * 17 ≤ 17 ^ j * 17 := Nat.mul_le_mul_right _ t1
      have p18 : (i + 1) * 17 ≤ found.length * 17 := Nat.mul_le_mul_right _ (by omega)
      have p19 := pow17 (show j ≤ 3 by omega)
      generalize (found.take i).foldl (tellRow (ways.getD r.toNat []) r) [] = dd at gs dl ⊢
      have bd1 : (upd B1 pf (.frz od1 (.dT fws))) pd = some (.dT ws) := by rw [upd_ne ne2]; exact bd
      have tu1 : Tu H (upd B1 pf (.frz od1 (.dT fws))) := fun b xs hb => by
        have z := (hB.trans hB1) _ _ hb
        rw [upd_ne (fun e => by rw [e, bf] at z; cases z)]
        exact z
      refine ss_forI (F := (vP vI vI)) (ds := ways.getD r.toNat []) (ws := ws) (d := pd) (fun k => [im (vRv (.ref pw)) (), im (vT vI) lot, im (vRv (.ref pf)) (), im vI r, ow (cD (vT (vP vI (vP vI vI)))) (((ways.getD r.toNat []).take k).foldl (tellIn r x.1 x.2) dd), im (vT vI) x.1, im (vT (vP vI (vP vI vI))) x.2, .no, .no]) _ PassesOwn.never rfl bd1 (hws.map fun _ _ q => ⟨q.1, Imm.tu tu1 q.2⟩) (fun od => ex_ixRaw (p := pw) (vs := vs) (ex_im (F := vRv (.ref pw)) 0) (ex_im (F := vI) 3) ?_ (at_nat r0 hu)) (fun _ _ _ _ => gt_pair 7 8 rfl nd) trivial (fun _ => trivial) ?_ ?_ ?_
      · rw [upd_ne ne3, upd_ne ne1]; exact bw
      · repeat (first | exact Sub.nil | refine Sub.keep ?_ | refine Sub.drop ?_)
      · intro od2 k y hy
        have kl : k < (ways.getD r.toNat []).length := (List.getElem?_eq_some_iff.mp hy).1
        have y1 := w2 y (List.mem_of_getElem? hy)
        have ks : ((ways.getD r.toNat []).take (k + 1)).foldl (tellIn r x.1 x.2) dd = tellIn r x.1 x.2 (((ways.getD r.toNat []).take k).foldl (tellIn r x.1 x.2) dd) y := foldl_take _ _ _ _ hy
        have kd := tellRow_len (ways.getD r.toNat []) r dd x k
        refine ss_dput 4 hr (ex_catT (ex_im (F := (vT (vP vI (vP vI vI)))) 6) (ex_tup (xi_cons (ex_tp (ex_im (F := vI) 3) (ex_im (F := (vP vI vI)) 8)) xi_nil)) ?_) (ex_call c_joined hr ?_ (xa_cons (ex_im (F := (vT vI)) 5) (xa_cons (ex_im (F := (vT vI)) 7) xa_nil))) ?_ ?_
        · simp only [List.length_cons, List.length_nil]; omega
        · show x.1.length + y.1.length < 64
          omega
        · omega
        exact ss_nil (fun _ _ g => by simp only [ks]; exact g.sub (by repeat (first | exact Sub.nil | refine Sub.keep ?_ | refine Sub.drop ?_)))
      · exact ss_nil (fun _ _ g => by simp only [gs]; simp only [List.take_length] at g; exact g.sub (by repeat (first | exact Sub.nil | refine Sub.keep ?_ | refine Sub.drop ?_)))
    · refine ss_mv (C := cD (vT (vP vI (vP vI vI)))) 2 4 (by decide) rfl nd ?_
      exact ss_nil (fun _ _ g => by simp only [fs]; simp only [List.take_length] at g; exact (g.base hB1 (by repeat (first | exact True.intro | constructor))).sub (by repeat (first | exact Sub.nil | refine Sub.keep ?_ | refine Sub.drop ?_)))
  · intro B hB
    refine ss_retO' (C := cD (vT (vP vI (vP vI vI)))) 2 rfl ?_ hB
    rw [List.take_length]
    rfl
end W92
set_option Elab.async false
set_option linter.all false
set_option maxRecDepth 100000
set_option maxHeartbeats 4000000
namespace W92
open PySem PySem.Spec PyProof.Rows L2 Gm C8
variable {P : Program} {w : World} {K : PySem.W.Frag} {mg : Str → Option Value} {base : Heap}
abbrev sp_lots_of : Sp := spG (aC vI (aC vI aN)) true (vL (vT vI)) (fun i => 0 ≤ i.1 ∧ i.1 ≤ 4 ∧ 0 ≤ i.2.1 ∧ i.2.1 ≤ 4) (fun i => lotsOf i.1 i.2.1.toNat)
abbrev N_lots_of : List Str := ["many", "size", "found", "turn", "lot", "one"]
theorem sc_lots_of : FnScope ["many", "size", "found", "turn", "lot", "one"] ["many", "size"] (L2.defScope (topS 53)) := ⟨rfl, rfl, rfl, by decide +kernel, rfl, by decide +kernel, by decide +kernel⟩
theorem c_lots_of (D : DefT K mg "lots_of" (topS 53)) (B : Bl mg) (C : Co mg)  : Cal P w K mg base 1 "lots_of" sp_lots_of [] := by
  refine cal_of (m := 4) D sc_lots_of (fits_im (fits_im fits_nil)) rfl (fun _ _ _ _ _ _ us hl => match us, hl with | [_, _], _ => rfl) (fun a cdv A outer s H E i hr hp => ?_)
  obtain ⟨many, size, ⟨⟩⟩ := i
  have nd := sc_lots_of.nd
  have m0 : 0 ≤ many := hp.1
  have m4 : many ≤ 4 := hp.2.1
  have s0 : 0 ≤ size := hp.2.2.1
  have s4 : size ≤ 4 := hp.2.2.2
  have ey : ∀ lot : List Int, (rng (if (!decide (lot = [])) = true then lot.getLastD 0 + 1 else 0) (many - (if (!decide (lot = [])) = true then lot.getLastD 0 + 1 else 0)).toNat).map (fun one => lot ++ [one]) = lotRow many lot := fun lot => by
    unfold lotRow
    by_cases e : lot = [] <;> simp [e]
  refine ss_ow (C := cL (vT vI)) 2 nd (ex_lst (xi_cons (ex_tup (F := vI) xi_nil) xi_nil)) ?_
  refine ss_for (fun j => [im vI many, im vI size, ow (cL (vT vI)) (lotsOf many j), .no, .no, .no]) _ PassesOwn.never rfl (wk_range1 B.range (ex_im (F := vI) 1) ?_) (fun _ _ _ _ => gt_name 3 nd) ?_ ?_ ?_
  · exact ⟨s0, by omega⟩
  · repeat (first | exact Sub.nil | refine Sub.keep ?_ | refine Sub.drop ?_)
  · intro b1 j x hb1 hx
    have j4 : j < 4 := by
      have z := (List.getElem?_eq_some_iff.mp hx).1
      rw [rng_len] at z
      omega
    have lo := lots_ok m4 (j + 1)
    have lj := lots_ok m4 j
    have p4 : 4 ^ (j + 1) ≤ 256 := by
      have : j = 0 ∨ j = 1 ∨ j = 2 ∨ j = 3 := by omega
      rcases this with z | z | z | z <;> subst z <;> decide
    have fm : (lotsOf many j).flatMap (fun lot => (rng (if (!decide (lot = [])) = true then lot.getLastD 0 + 1 else 0) (many - (if (!decide (lot = [])) = true then lot.getLastD 0 + 1 else 0)).toNat).map (fun one => lot ++ [one])) = lotsOf many (j + 1) := by
      simp only [ey]
      rfl
    refine ss_frz (C := cL (vT vI)) 2 rfl (fun b2 hb2 => ?_)
    refine ss_lc2 (F := (vT vI)) (G := vI) (J := (vT vI)) 2 [("lot", 4), ("one", 5)] [5] _ _ rfl nd (wk_lstG 2) (fun _ _ _ _ _ _ _ _ => lg_name 4 nd)
      (fun _ _ _ _ _ _ lot hm => wk0_range2 B.range (ex_if (et_neD hr (ex_im (F := (vT vI)) 4) (ex_tup (F := vI) xi_nil)) (fun h => ex_add (ex_ixT (x := lot.getLastD 0) (ex_im (F := (vT vI)) 4) (ex_neg ex_int) ?_) ex_int) (fun _ => ex_int)) (ex_im (F := vI) 0) ?_)
      (fun _ _ _ _ _ _ _ _ _ _ => lg_name 5 nd) (fun _ _ _ _ _ _ lot one hm _ => ex_catT (ex_im (F := (vT vI)) 4) (ex_tup (xi_cons (ex_im (F := vI) 5) xi_nil)) ?_) ?_ ?_ (by decide) (fun _ => no_own rfl) (blkOk_by (N := N_lots_of) (sc := L2.defScope (topS 53)) (by decide +kernel))
    · have hne : lot ≠ [] := by simpa using h
      have z := atI_last lot.dropLast (lot.getLast hne)
      rw [List.dropLast_concat_getLast hne] at z
      rw [List.getLastD_eq_getLast?, List.getLast?_eq_some_getLast hne]
      exact z
    · have hb : 0 ≤ (if (!decide (lot = [])) = true then lot.getLastD 0 + 1 else 0) ∧ (if (!decide (lot = [])) = true then lot.getLastD 0 + 1 else 0) ≤ 4 := by
        by_cases e : lot = []
        · simp [e]
        · have z := lot_last m4 hm e
          simp only [e, decide_false, Bool.not_false, if_true]
          omega
      exact ⟨by omega, by omega, by omega, by omega⟩
    · rw [(lj.2 lot hm).1]
      simp only [List.length_cons, List.length_nil]
      omega
    · rw [fm]
      exact Nat.le_trans lo.1 (by omega)
    exact ss_nil (fun _ _ g => by rw [fm] at g; exact (g.base hb2 (by repeat (first | exact True.intro | constructor))).sub (by repeat (first | exact Sub.nil | refine Sub.keep ?_ | refine Sub.drop ?_)))
  · intro b1 hb1
    refine ss_retO' (C := cL (vT vI)) 2 rfl ?_ hb1
    rw [rng_len]
abbrev sp_stories_by : Sp := spG (aC (vT (vQ vI vI vI)) (aC (vT (vQ vS vI vI)) aN)) true (vD (vT (vP vI (vP vI vI)))) (fun i => TrOk i.1 ∧ LksOk i.2.1) (fun i => storiesBy i.1 i.2.1)
abbrev N_stories_by : List Str := ["train", "looks", "ways", "wanted", "size", "found", "lot", "told"]
theorem sc_stories_by : FnScope ["train", "looks", "ways", "wanted", "size", "found", "lot", "told"] ["train", "looks"] (L2.defScope (topS 54)) := ⟨rfl, rfl, rfl, by decide +kernel, rfl, by decide +kernel, by decide +kernel⟩
theorem c_stories_by (D : DefT K mg "stories_by" (topS 54)) (B : Bl mg) (C : Co mg) (c_lots_of : Cal P w K mg base 1 "lots_of" sp_lots_of []) (c_numbers_of_marks : Cal P w K mg base 1 "numbers_of_marks" sp_numbers_of_marks []) (c_told_by : Cal P w K mg base 2 "told_by" sp_told_by []) (c_ways_of : Cal P w K mg base 4 "ways_of" sp_ways_of []) : Cal P w K mg base 5 "stories_by" sp_stories_by [] := by
  refine cal_of (m := 6) D sc_stories_by (fits_im (fits_im fits_nil)) rfl (fun _ _ _ _ _ _ us hl => match us, hl with | [_, _], _ => rfl) (fun a cdv A outer s H E i hr hp => ?_)
  obtain ⟨tr, lk, ⟨⟩⟩ := i
  have nd := sc_stories_by.nd
  have ht : TrOk tr := hp.1
  have hk : LksOk lk := hp.2
  have t4 : tr.length ≤ 4 := ht.2.1
  refine ss_parG (F := vL (vD (vP vI vI))) (G := (vT vI)) 2 3 (no_own rfl) rfl nd (ex_call c_ways_of hr ?_ (xa_cons (ex_im (F := (vT (vQ vI vI vI))) 0) (xa_cons (ex_im (F := (vT (vQ vS vI vI))) 1) xa_nil))) (ex_tupL B.tuple (ex_call c_numbers_of_marks hr ?_ (xa_cons (ex_im (F := (vT (vQ vS vI vI))) 1) xa_nil))) (fun b1 hb1 => ?_)
  · exact ⟨ht, hk⟩
  · exact hk
  refine ss_forP (xs := rng 0 ((tr.length : Int) + 1).toNat) (fun j => [im (vT (vQ vI vI vI)) tr, im (vT (vQ vS vI vI)) lk, ge (vL (vD (vP vI vI))) b1 (waysOf tr lk), im (vT vI) (numMarks lk), .no, .no, .no, .no]) _ (fun j => ∀ i, i < j → (sizeSt tr lk i).isEmpty = true) PassesOwn.never rfl (wk_range1 B.range (ex_add (ex_lenT B.len (ex_im (F := (vT (vQ vI vI vI))) 0)) ex_int) ?_) (fun _ _ _ _ => gt_name 4 nd) ?_ ?_ ?_ ?_
  · show 0 ≤ (tr.length : Int) + 1 ∧ (tr.length : Int) + 1 ≤ 100000
    omega
  · repeat (first | exact Sub.nil | refine Sub.keep ?_ | refine Sub.drop ?_)
  · exact fun i h => absurd h (Nat.not_lt_zero i)
  · intro b2 j x hb2 hx hP
    have jl := (List.getElem?_eq_some_iff.mp hx).1
    rw [rng_len] at jl
    have ex : x = (j : Int) := by
      have z2 : (rng 0 ((tr.length : Int) + 1).toNat)[j]? = some (0 + (j : Int)) := rng_get (by omega)
      rw [z2] at hx
      have := Option.some.inj hx
      omega
    subst ex
    have j4 : j ≤ tr.length := by omega
    have lo := lots_ok (many := (tr.length : Int)) (by omega) j
    have p4 : 4 ^ j ≤ 4 ^ 4 := Nat.pow_le_pow_right (by decide) (by omega)
    have p5 : (4 : Nat) ^ 4 = 256 := rfl
    refine ss_ow (C := cD (vT (vP vI (vP vI vI)))) 5 nd (ex_dnewD (F := (vT (vP vI (vP vI vI))))) ?_
    refine ss_for (xs := lotsOf tr.length j) (fun k => [im (vT (vQ vI vI vI)) tr, im (vT (vQ vS vI vI)) lk, ge (vL (vD (vP vI vI))) b1 (waysOf tr lk), im (vT vI) (numMarks lk), im vI (j : Int), ow (cD (vT (vP vI (vP vI vI)))) (((lotsOf tr.length j).take k).foldl (lotStep (waysOf tr lk) (numMarks lk)) []), .no, .no]) _ PassesOwn.never rfl (wk_lstN (ex_is (ex_call c_lots_of hr ?_ (xa_cons (ex_lenT B.len (ex_im (F := (vT (vQ vI vI vI))) 0)) (xa_cons (ex_im (F := vI) 4) xa_nil))) rfl)) (fun _ _ _ _ => gt_name 6 nd) ?_ ?_ ?_
    · exact ⟨by dsimp only; omega, by dsimp only; omega, by dsimp only; omega, by dsimp only; omega⟩
    · repeat (first | exact Sub.nil | refine Sub.keep ?_ | refine Sub.drop ?_)
    · intro b3 k lot hb3 hlot
      have hm := List.mem_of_getElem? hlot
      have kl := (List.getElem?_eq_some_iff.mp hlot).1
      have fs : ((lotsOf tr.length j).take (k + 1)).foldl (lotStep (waysOf tr lk) (numMarks lk)) [] = lotStep (waysOf tr lk) (numMarks lk) (((lotsOf tr.length j).take k).foldl (lotStep (waysOf tr lk) (numMarks lk)) []) lot := foldl_take _ _ _ _ hlot
      have bk := (sizeSt_b tr lk t4 j k).1
      generalize ((lotsOf tr.length j).take k).foldl (lotStep (waysOf tr lk) (numMarks lk)) [] = dd at fs bk ⊢
      refine ss_ow (C := cD (vT (vP vI (vP vI vI)))) 7 nd (ex_call c_told_by hr ?_ (xa_cons (ex_ge (F := vL (vD (vP vI vI))) 2) (xa_cons (ex_im (F := (vT vI)) 6) xa_nil))) ?_
      · exact ⟨⟨tr.length, ways_ok ht hk, fun r hr => (lo.2 lot hm).2 r hr⟩, by rw [(lo.2 lot hm).1]; omega⟩
      refine ss_ifd (et_inT hr (ex_im (F := (vT vI)) 3) (ex_ow (C := cD (vT (vP vI (vP vI vI)))) 7)) (fun h => ?_) (fun h => ?_)
      · obtain ⟨st, hst⟩ := Option.isSome_iff_exists.mp h
        apply Exists.intro
        constructor
        · refine ss_dput 5 hr (ex_dget hr (ex_ow (C := cD (vT (vP vI (vP vI vI)))) 7) (ex_im (F := (vT vI)) 3) hst) (ex_im (F := (vT vI)) 6) ?_ ?_
          · omega
          exact ss_nil (fun _ _ g => g)
        · exact ss_nil (fun _ _ g => by
            have hst2 : getD (toldBy (waysOf tr lk) lot) (numMarks lk) = some st := hst
            simp only [fs, lotStep, hst2]
            exact g.sub (by repeat (first | exact Sub.nil | refine Sub.keep ?_ | refine Sub.drop ?_)))
      · have hn : getD (toldBy (waysOf tr lk) lot) (numMarks lk) = none := by
          cases e : getD (toldBy (waysOf tr lk) lot) (numMarks lk) with
          | none => rfl
          | some st =>
            have h2 : (getD (toldBy (waysOf tr lk) lot) (numMarks lk)).isSome = false := h
            rw [e] at h2
            cases h2
        apply Exists.intro
        constructor
        · exact ss_nil (fun _ _ g => g)
        · exact ss_nil (fun _ _ g => by
            simp only [fs, lotStep, hn]
            exact g.sub (by repeat (first | exact Sub.nil | refine Sub.keep ?_ | refine Sub.drop ?_)))
    · intro b4 hb4
      rw [List.take_length]
      refine ss_ifr (et_neE hr (ex_ow (C := cD (vT (vP vI (vP vI vI)))) 5)) (fun h => ?_) (fun h => ?_)
      · refine ss_retO' (C := cD (vT (vP vI (vP vI vI)))) 5 rfl ?_ ((hb1.trans hb2).trans hb4)
        have h2 : (!(sizeSt tr lk j).isEmpty) = true := h
        exact (stories_at j4 hP (by simpa using h2)).symm
      · have h2 : (!(sizeSt tr lk j).isEmpty) = false := h
        exact ss_nil (fun _ _ g => ⟨(g.base hb4 (by repeat (first | exact True.intro | exact hb2 | constructor))).sub (by repeat (first | exact Sub.nil | refine Sub.keep ?_ | refine Sub.drop ?_)), fun i hi => by
          by_cases e : i = j
          · rw [e]; simpa using h2
          · exact hP i (by omega)⟩)
  · intro b2 hb2 hP
    refine ss_ret' (ex_dnewD (F := (vT (vP vI (vP vI vI))))) ?_ (hb1.trans hb2)
    rw [rng_len] at hP
    exact (stories_none fun s hs => hP s (by omega)).symm
end W92
set_option Elab.async false
set_option linter.all false
set_option maxRecDepth 100000
set_option maxHeartbeats 4000000
namespace W92
open PySem PySem.Spec PyProof.Rows L2 Gm C8
variable {P : Program} {w : World} {K : PySem.W.Frag} {mg : Str → Option Value} {base : Heap}
abbrev sp_fewest_by : Sp := spG (aC (vT (vQ vI vI vI)) (aC (vT (vQ vS vI vI)) aN)) false (vO (vP vI (vT (vT vI)))) (fun i => TrOk i.1 ∧ LksOk i.2.1) (fun i => fewestBy i.1 i.2.1)
abbrev N_fewest_by : List Str := ["train", "looks", "lots"]
theorem sc_fewest_by : FnScope ["train", "looks", "lots"] ["train", "looks"] (L2.defScope (topS 55)) := ⟨rfl, rfl, rfl, by decide +kernel, rfl, by decide +kernel, by decide +kernel⟩
theorem c_fewest_by (D : DefT K mg "fewest_by" (topS 55)) (B : Bl mg) (C : Co mg) (c_stories_by : Cal P w K mg base 5 "stories_by" sp_stories_by []) : Cal P w K mg base 6 "fewest_by" sp_fewest_by [] := by
  refine cal_of (m := 1) D sc_fewest_by (fits_im (fits_im fits_nil)) rfl (fun _ _ _ _ _ _ us hl => match us, hl with | [_, _], _ => rfl) (fun a cdv A outer s H E i hr hp => ?_)
  obtain ⟨tr, lk, ⟨⟩⟩ := i
  have nd := sc_fewest_by.nd
  have ht : TrOk tr := hp.1
  have hk : LksOk lk := hp.2
  have sb := stories_b (lk := lk) ht
  refine ss_ow (C := (cL (vT vI))) 2 nd (ex_sortD rfl hr B.sorted (ex_call c_stories_by hr ?_ (xa_cons (ex_im (F := (vT (vQ vI vI vI))) 0) (xa_cons (ex_im (F := (vT (vQ vS vI vI))) 1) xa_nil))) ?_) ?_
  · exact ⟨ht, hk⟩
  · exact ⟨sb.1, Nat.le_trans sb.2 (by decide)⟩
  refine ss_ret' (ex_if (et_eqD hr (ex_ow (C := (cL (vT vI))) 2) (ex_lst (F := (vT vI)) xi_nil)) (fun h1 => ex_non) (fun h2 => (ex_some (ex_tp (ex_lenT B.len (ex_ixLd [] (ex_ow (C := (cL (vT vI))) 2) ex_int ?_)) (ex_tupL B.tuple (ex_ow (C := (cL (vT vI))) 2)))))) ?_ (Same.refl _)
  · exact ⟨by decide, List.length_pos_iff.mpr (of_decide_eq_false (by assumption))⟩
  simp only [fewestBy, decide_eq_true_eq]
  rfl
abbrev sp_fewest : Sp := spG (aC (vT (vQ vI vI vI)) (aC (vT (vQ vS vI vI)) aN)) false (vO (vP vI (vT (vT vI)))) (fun i => TrOk i.1 ∧ LksOk i.2.1) (fun i => fewestBy i.1 i.2.1)
abbrev N_fewest : List Str := ["train", "looks"]
theorem sc_fewest : FnScope ["train", "looks"] ["train", "looks"] (L2.defScope (topS 56)) := ⟨rfl, rfl, rfl, by decide +kernel, rfl, by decide +kernel, by decide +kernel⟩
theorem c_fewest (D : DefT K mg "fewest" (topS 56)) (B : Bl mg) (C : Co mg) (c_fewest_by : Cal P w K mg base 6 "fewest_by" sp_fewest_by []) (c_need_looked : Cal P w K mg base 6 "need_looked" sp_need_looked []) : Cal P w K mg base 7 "fewest" sp_fewest [] := by
  refine cal_of (m := 0) D sc_fewest (fits_im (fits_im fits_nil)) rfl (fun _ _ _ _ _ _ us hl => match us, hl with | [_, _], _ => rfl) (fun a cdv A outer s H E i hr hp => ?_)
  obtain ⟨tr, lk, ⟨⟩⟩ := i
  have nd := sc_fewest.nd
  refine ss_exp (ex_call c_need_looked hr ?_ (xa_cons (ex_im (F := (vT (vQ vI vI vI))) 0) (xa_cons (ex_im (F := (vT (vQ vS vI vI))) 1) xa_nil))) ?_
  · exact hp
  refine ss_ret' (ex_call c_fewest_by hr ?_ (xa_cons (ex_im (F := (vT (vQ vI vI vI))) 0) (xa_cons (ex_im (F := (vT (vQ vS vI vI))) 1) xa_nil))) ?_ (Same.refl _)
  · exact hp
  exact rfl
abbrev sp_some_story : Sp := spG (aC (vT (vQ vI vI vI)) (aC (vT (vQ vS vI vI)) aN)) false (vO (vT (vP vI (vP vI vI)))) (fun i => TrOk i.1 ∧ LksOk i.2.1) (fun i => someStory i.1 i.2.1)
abbrev N_some_story : List Str := ["train", "looks", "found"]
theorem sc_some_story : FnScope ["train", "looks", "found"] ["train", "looks"] (L2.defScope (topS 57)) := ⟨rfl, rfl, rfl, by decide +kernel, rfl, by decide +kernel, by decide +kernel⟩
theorem c_some_story (D : DefT K mg "some_story" (topS 57)) (B : Bl mg) (C : Co mg) (c_need_looked : Cal P w K mg base 6 "need_looked" sp_need_looked []) (c_stories_by : Cal P w K mg base 5 "stories_by" sp_stories_by []) : Cal P w K mg base 7 "some_story" sp_some_story [] := by
  refine cal_of (m := 1) D sc_some_story (fits_im (fits_im fits_nil)) rfl (fun _ _ _ _ _ _ us hl => match us, hl with | [_, _], _ => rfl) (fun a cdv A outer s H E i hr hp => ?_)
  obtain ⟨tr, lk, ⟨⟩⟩ := i
  have nd := sc_some_story.nd
  refine ss_exp (ex_call c_need_looked hr hp (xa_cons (ex_im (F := (vT (vQ vI vI vI))) 0) (xa_cons (ex_im (F := (vT (vQ vS vI vI))) 1) xa_nil))) ?_
  refine ss_ow (C := cD (vT (vP vI (vP vI vI)))) 2 nd (ex_call c_stories_by hr hp (xa_cons (ex_im (F := (vT (vQ vI vI vI))) 0) (xa_cons (ex_im (F := (vT (vQ vS vI vI))) 1) xa_nil))) ?_
  refine ss_ret' (ex_if (x' := Gm.getD (storiesBy tr lk) (minT ((storiesBy tr lk).map (·.1)))) (et_eqE hr (ex_ow (C := cD (vT (vP vI (vP vI vI)))) 2)) (fun _ => ex_non (F := (vT (vP vI (vP vI vI))))) (fun h => ?_)) ?_ (Same.refl _)
  · have ne : (storiesBy tr lk) ≠ [] := by
      have h2 : (storiesBy tr lk).isEmpty = false := h
      intro z
      rw [z] at h2
      cases h2
    have hm : minT ((storiesBy tr lk).map (·.1)) ∈ (storiesBy tr lk).map (·.1) := minT_mem (by simpa using ne)
    obtain ⟨st, hst⟩ := Option.isSome_iff_exists.mp (getD_some_iff.mpr hm)
    rw [hst]
    exact ex_some (ex_dget hr (ex_ow (C := cD (vT (vP vI (vP vI vI)))) 2) (ex_minD rfl hr B.min (ex_ow (C := cD (vT (vP vI (vP vI vI)))) 2) (List.length_pos_iff.mpr ne)) hst)
  · rfl
abbrev sp_need_ahead : Sp := spG (aC (vT (vQ vS vI vI)) aN) false vU (fun i => i.1.length ≤ 7) (fun _ => ())
abbrev N_need_ahead : List Str := ["looks"]
theorem sc_need_ahead : FnScope ["looks"] ["looks"] (L2.defScope (topS 58)) := ⟨rfl, rfl, rfl, by decide +kernel, rfl, by decide +kernel, by decide +kernel⟩
theorem c_need_ahead (D : DefT K mg "need_ahead" (topS 58)) (B : Bl mg) (C : Co mg)  : Cal P w K mg base 1 "need_ahead" sp_need_ahead [] := by
  refine cal_ofN (m := 0) D sc_need_ahead (fits_im fits_nil) rfl (fun _ _ _ _ _ _ us hl => match us, hl with | [_], _ => rfl) (fun a cdv A outer s H E i hr hp => ?_)
  obtain ⟨lk, ⟨⟩⟩ := i
  have nd := sc_need_ahead.nd
  refine ss_ifr (et_gt (ex_lenT B.len (ex_im (F := (vT (vQ vS vI vI))) 0)) (ex_gint C.MOST_AHEAD)) (fun h => ?_) (fun h2 => ?_)
  · skip
    exfalso
    have h7 : lk.length ≤ 7 := hp
    simp at h
    omega
  exact ss_nil (fun _ _ g => (Same.refl _).trans g.same)
abbrev sp_is_piece : Sp := spG (aC (vP vI vI) aN) false vB (fun i => PcOk i.1) (fun _ => true)
abbrev N_is_piece : List Str := ["thing", "one"]
theorem sc_is_piece : FnScope ["thing", "one"] ["thing"] (L2.defScope (topS 65)) := ⟨rfl, rfl, rfl, by decide +kernel, rfl, by decide +kernel, by decide +kernel⟩
theorem c_is_piece (D : DefT K mg "is_piece" (topS 65)) (B : Bl mg) (C : Co mg) (c_is_long : Cal P w K mg base 1 "is_long" sp_is_long []) (c_is_within : Cal P w K mg base 2 "is_within" sp_is_within []) : Cal P w K mg base 3 "is_piece" sp_is_piece [] := by
  refine cal_of (m := 1) D sc_is_piece (fits_im fits_nil) rfl (fun _ _ _ _ _ _ us hl => match us, hl with | [_], _ => rfl) (fun a cdv A outer s H E i hr hp => ?_)
  obtain ⟨⟨a, b⟩, ⟨⟩⟩ := i
  have nd := sc_is_piece.nd
  have hq : PcOk (a, b) := hp
  obtain ⟨h1', h2', h3'⟩ := hq
  simp only at h1' h2' h3'
  refine ss_ifr (ew_pt (ew_or (et_not (et_val (ex_call c_is_long hr trivial (xa_cons (asTupP (ex_im (F := (vP vI vI)) 0)) (xa_cons ex_int (xa_cons ex_int xa_nil)))))) (fun h1 => (ew_or1 (et_not (et_val (ex_all rfl B.all (ex_lc0 [("one", 1)] _ rfl nd (wk_tup (asT2 (ex_im (F := (vP vI vI)) 0))) (fun _ _ _ _ _ _ _ _ => lg_name 1 nd) (fun _ _ _ _ _ _ x6 h2 h3 => (ex_call c_is_within hr trivial (xa_cons (ex_im (F := vI) 1) (xa_cons ex_int (xa_cons (ex_gint C.MOST_LENGTH) xa_nil))))) ?_ (blkOk_by (N := N_is_piece) (sc := L2.defScope (topS 65)) (by decide +kernel)))))))))) (fun h => ?_) (fun h8 => ?_)
  · exact (show 2 ≤ 100000 by decide)
  · skip
    refine ss_ret' ex_bl ?_ (Same.refl _)
    simp at h; omega
  refine ss_ret' (ex_lt (ex_p0 (ex_im (F := (vP vI vI)) 0)) (ex_p1 (ex_im (F := (vP vI vI)) 0))) ?_ (Same.refl _)
  simp; omega
abbrev sp_need_told : Sp := spG (aC (vT (vQ vI vI vI)) (aC (vT (vQ vS vI vI)) aN)) false vI (fun i => WordOk i.1 i.2.1) (fun i => fewN i.1 i.2.1)
abbrev N_need_told : List Str := ["train", "looks", "found"]
theorem sc_need_told : FnScope ["train", "looks", "found"] ["train", "looks"] (L2.defScope (topS 66)) := ⟨rfl, rfl, rfl, by decide +kernel, rfl, by decide +kernel, by decide +kernel⟩
theorem c_need_told (D : DefT K mg "need_told" (topS 66)) (B : Bl mg) (C : Co mg) (c_fewest_by : Cal P w K mg base 6 "fewest_by" sp_fewest_by []) (c_need_ahead : Cal P w K mg base 1 "need_ahead" sp_need_ahead []) (c_need_looked : Cal P w K mg base 6 "need_looked" sp_need_looked []) : Cal P w K mg base 7 "need_told" sp_need_told [] := by
  refine cal_of (m := 1) D sc_need_told (fits_im (fits_im fits_nil)) rfl (fun _ _ _ _ _ _ us hl => match us, hl with | [_, _], _ => rfl) (fun a cdv A outer s H E i hr hp => ?_)
  obtain ⟨tr, lk, ⟨⟩⟩ := i
  have nd := sc_need_told.nd
  obtain ⟨ht, hk, h7, hs⟩ : WordOk tr lk := hp
  obtain ⟨p, hf⟩ := Option.isSome_iff_exists.mp hs
  refine ss_exp (ex_call c_need_looked hr ⟨ht, hk⟩ (xa_cons (ex_im (F := (vT (vQ vI vI vI))) 0) (xa_cons (ex_im (F := (vT (vQ vS vI vI))) 1) xa_nil))) ?_
  refine ss_exp (ex_call c_need_ahead hr h7 (xa_cons (ex_im (F := (vT (vQ vS vI vI))) 1) xa_nil)) ?_
  refine ss_im (F := (vO (vP vI (vT (vT vI))))) 2 nd (ex_is (ex_call c_fewest_by hr ⟨ht, hk⟩ (xa_cons (ex_im (F := (vT (vQ vI vI vI))) 0) (xa_cons (ex_im (F := (vT (vQ vS vI vI))) 1) xa_nil))) hf) ?_
  refine ss_ifr (et_isN (F := (vP vI (vT (vT vI)))) (ex_im (F := (vO (vP vI (vT (vT vI))))) 2)) (fun h => ?_) (fun h => ?_)
  · exact Bool.noConfusion h
  · refine ss_ret' (ex_p0 (ex_got (F := (vP vI (vT (vT vI)))) (ex_im (F := (vO (vP vI (vT (vT vI))))) 2) rfl)) ?_ (Same.refl _)
    simp only [fewN, hf]
    rfl
end W92
set_option Elab.async false
set_option linter.all false
set_option maxRecDepth 100000
set_option maxHeartbeats 4000000
namespace W92
open PySem PySem.Spec PyProof.Rows L2 Gm C8
variable {P : Program} {w : World} {K : PySem.W.Frag} {mg : Str → Option Value} {base : Heap}
abbrev sp_may_be : Sp := spG (aC (vT (vQ vI vI vI)) (aC (vT (vQ vS vI vI)) (aC vI (aC (vQ vS vI vI) aN)))) false vB (fun i => TrOk i.1 ∧ LksOk (i.2.1 ++ [i.2.2.2.1])) (fun i => mayBe i.1 i.2.1 i.2.2.1 i.2.2.2.1)
abbrev N_may_be : List Str := ["train", "looks", "many", "look", "found"]
theorem sc_may_be : FnScope ["train", "looks", "many", "look", "found"] ["train", "looks", "many", "look"] (L2.defScope (topS 67)) := ⟨rfl, rfl, rfl, by decide +kernel, rfl, by decide +kernel, by decide +kernel⟩
theorem c_may_be (D : DefT K mg "may_be" (topS 67)) (B : Bl mg) (C : Co mg) (c_fewest_by : Cal P w K mg base 6 "fewest_by" sp_fewest_by []) : Cal P w K mg base 7 "may_be" sp_may_be [] := by
  refine cal_of (m := 1) D sc_may_be (fits_im (fits_im (fits_im (fits_im fits_nil)))) rfl (fun _ _ _ _ _ _ us hl => match us, hl with | [_, _, _, _], _ => rfl) (fun a cdv A outer s H E i hr hp => ?_)
  obtain ⟨tr, lk, many, l, ⟨⟩⟩ := i
  have nd := sc_may_be.nd
  have ht : TrOk tr := hp.1
  have hk : LksOk (lk ++ [l]) := hp.2
  have h8 := hk.1
  rw [List.length_append] at h8
  refine ss_im (F := (vO (vP vI (vT (vT vI))))) 4 nd (ex_is (y := fewestBy tr (lk ++ [l])) (ex_call c_fewest_by hr ?_ (xa_cons (ex_im (F := (vT (vQ vI vI vI))) 0) (xa_cons (ex_catT (ex_im (F := (vT (vQ vS vI vI))) 1) (ex_tup (xi_cons (ex_im (F := (vQ vS vI vI)) 3) xi_nil)) ?_) xa_nil))) rfl) ?_
  · exact ⟨ht, hk⟩
  · exact Nat.le_trans h8 (by decide)
  have mb : ∀ o, fewestBy tr (lk ++ [l]) = o → mayBe tr lk many l = (match o with | none => false | some p => decide (p.1 = many)) := fun o e => by
    rw [← e]
    rfl
  generalize hg : fewestBy tr (lk ++ [l]) = o
  have mo := mb o hg
  cases o with
  | none =>
    refine ss_ret' (ex_and (d := false) (f2 := false) (ex_notN (F := (vP vI (vT (vT vI)))) (ex_im (F := (vO (vP vI (vT (vT vI))))) 4)) (fun h => ?_)) ?_ (Same.refl _)
    · exact absurd (show false = true from h) (by decide)
    exact mo.symm
  | some p =>
    refine ss_ret' (ex_and (ex_notN (F := (vP vI (vT (vT vI)))) (ex_im (F := (vO (vP vI (vT (vT vI))))) 4)) (fun h => ex_one (ex_eq (ex_p0 (ex_got (F := (vP vI (vT (vT vI)))) (ex_im (F := (vO (vP vI (vT (vT vI))))) 4) rfl)) (ex_im (F := vI) 2)))) ?_ (Same.refl _)
    exact mo.symm
abbrev sp_word_by : Sp := spG (aC (vT (vQ vI vI vI)) (aC (vT (vQ vS vI vI)) (aC (vP vI vI) aN))) false vS (fun i => WordOk i.1 i.2.1 ∧ PcOk i.2.2.1) (fun i => wordBy i.1 i.2.1 i.2.2.1)
abbrev N_word_by : List Str := ["train", "looks", "piece", "many"]
theorem sc_word_by : FnScope ["train", "looks", "piece", "many"] ["train", "looks", "piece"] (L2.defScope (topS 68)) := ⟨rfl, rfl, rfl, by decide +kernel, rfl, by decide +kernel, by decide +kernel⟩
theorem c_word_by (D : DefT K mg "word_by" (topS 68)) (B : Bl mg) (C : Co mg) (c_fewest_by : Cal P w K mg base 6 "fewest_by" sp_fewest_by []) (c_may_be : Cal P w K mg base 7 "may_be" sp_may_be []) : Cal P w K mg base 8 "word_by" sp_word_by [] := by
  refine cal_of (m := 1) D sc_word_by (fits_im (fits_im (fits_im fits_nil))) rfl (fun _ _ _ _ _ _ us hl => match us, hl with | [_, _, _], _ => rfl) (fun a cdv A outer s H E i hr hp => ?_)
  obtain ⟨tr, lk, pc, ⟨⟩⟩ := i
  have nd := sc_word_by.nd
  obtain ⟨ht, hk, h7, hs⟩ : WordOk tr lk := hp.1
  have pc1 : PcOk pc := hp.2
  obtain ⟨p, hf⟩ := Option.isSome_iff_exists.mp hs
  have hn : fewN tr lk = p.1 := by
    simp only [fewN, hf]
    rfl
  refine ss_im (F := vI) 3 nd (ex_p0 (ex_got (F := (vP vI (vT (vT vI)))) (x := p) (ex_call c_fewest_by hr ?_ (xa_cons (ex_im (F := (vT (vQ vI vI vI))) 0) (xa_cons (ex_im (F := (vT (vQ vS vI vI))) 1) xa_nil))) hf)) ?_
  · exact ⟨ht, hk⟩
  refine ss_ifr (et_not (et_val (ex_call c_may_be hr ?_ (xa_cons (ex_im (F := (vT (vQ vI vI vI))) 0) (xa_cons (ex_im (F := (vT (vQ vS vI vI))) 1) (xa_cons (ex_im (F := vI) 3) (xa_cons (ex_catW (ex_tw ex_str) (ex_im (F := (vP vI vI)) 2)) xa_nil))))))) (fun h => ?_) (fun h => ?_)
  · exact ⟨ht, lks_app hk h7 (mark_ok pc1)⟩
  · have h2 : (!mayBe tr lk p.1 ("mark", pc.1, pc.2)) = true := h
    refine ss_ret' (ex_gstr C.SOUND) ?_ (Same.refl _)
    simp only [wordBy, hn]
    rw [if_neg (by simpa using h2)]
  · have h2 : (!mayBe tr lk p.1 ("mark", pc.1, pc.2)) = false := h
    refine ss_ret' (ex_if (et_val (ex_call c_may_be hr ?_ (xa_cons (ex_im (F := (vT (vQ vI vI vI))) 0) (xa_cons (ex_im (F := (vT (vQ vS vI vI))) 1) (xa_cons (ex_im (F := vI) 3) (xa_cons (ex_catW (ex_tw ex_str) (ex_im (F := (vP vI vI)) 2)) xa_nil)))))) (fun _ => ex_gstr C.MAYBE) (fun _ => ex_gstr C.MARKED)) ?_ (Same.refl _)
    · exact ⟨ht, lks_app hk h7 (sound_ok pc1)⟩
    · have a1 : mayBe tr lk p.1 ("mark", pc.1, pc.2) = true := by simpa using h2
      simp only [wordBy, hn]
      rw [a1]
      rfl
abbrev sp_word_of : Sp := spG (aC (vT (vQ vI vI vI)) (aC (vT (vQ vS vI vI)) (aC (vP vI vI) aN))) false vS (fun i => WordOk i.1 i.2.1 ∧ PcOk i.2.2.1) (fun i => wordBy i.1 i.2.1 i.2.2.1)
abbrev N_word_of : List Str := ["train", "looks", "piece"]
theorem sc_word_of : FnScope ["train", "looks", "piece"] ["train", "looks", "piece"] (L2.defScope (topS 69)) := ⟨rfl, rfl, rfl, by decide +kernel, rfl, by decide +kernel, by decide +kernel⟩
theorem c_word_of (D : DefT K mg "word_of" (topS 69)) (B : Bl mg) (C : Co mg) (c_is_piece : Cal P w K mg base 3 "is_piece" sp_is_piece []) (c_need_told : Cal P w K mg base 7 "need_told" sp_need_told []) (c_word_by : Cal P w K mg base 8 "word_by" sp_word_by []) : Cal P w K mg base 9 "word_of" sp_word_of [] := by
  refine cal_of (m := 0) D sc_word_of (fits_im (fits_im (fits_im fits_nil))) rfl (fun _ _ _ _ _ _ us hl => match us, hl with | [_, _, _], _ => rfl) (fun a cdv A outer s H E i hr hp => ?_)
  obtain ⟨tr, lk, pc, ⟨⟩⟩ := i
  have nd := sc_word_of.nd
  refine ss_exp (ex_call c_need_told hr ?_ (xa_cons (ex_im (F := (vT (vQ vI vI vI))) 0) (xa_cons (ex_im (F := (vT (vQ vS vI vI))) 1) xa_nil))) ?_
  · exact hp.1
  refine ss_ifr (et_not (et_val (ex_call c_is_piece hr ?_ (xa_cons (ex_im (F := (vP vI vI)) 2) xa_nil)))) (fun h => ?_) (fun h2 => ?_)
  · exact hp.2
  · skip
    exfalso
    exact Bool.noConfusion h
  refine ss_ret' (ex_call c_word_by hr ?_ (xa_cons (ex_im (F := (vT (vQ vI vI vI))) 0) (xa_cons (ex_im (F := (vT (vQ vS vI vI))) 1) (xa_cons (ex_im (F := (vP vI vI)) 2) xa_nil)))) ?_ (Same.refl _)
  · exact hp
  exact rfl
end W92
set_option Elab.async false
set_option linter.all false
set_option maxRecDepth 100000
set_option maxHeartbeats 4000000
namespace W92
open PySem PySem.Spec PyProof.Rows L2 Gm C8
variable {P : Program} {w : World} {K : PySem.W.Frag} {mg : Str → Option Value} {base : Heap}
abbrev sp__law_common : Sp := spG (aC vI (aC vI aN)) false vI (fun i => 0 ≤ i.1 ∧ 0 ≤ i.2.1) (fun i => gcdI i.1 i.2.1)
abbrev N__law_common : List Str := ["_law_one", "_law_other"]
theorem sc__law_common : FnScope ["_law_one", "_law_other"] ["_law_one", "_law_other"] (L2.defScope (topS 77)) := ⟨rfl, rfl, rfl, by decide +kernel, rfl, by decide +kernel, by decide +kernel⟩
theorem c__law_common (D : DefT K mg "_law_common" (topS 77)) (B : Bl mg) (C : Co mg)  : Cal P w K mg base 1 "_law_common" sp__law_common [] := by
  refine cal_of (m := 0) D sc__law_common (fits_im (fits_im fits_nil)) rfl (fun _ _ _ _ _ _ us hl => match us, hl with | [_, _], _ => rfl) (fun a cdv A outer s H E i hr hp => ?_)
  obtain ⟨a, b, ⟨⟩⟩ := i
  have nd := sc__law_common.nd
  refine ss_while (d := fun p : Int × Int => !decide (p.2 = 0)) (fun p => [im vI p.1, im vI p.2]) (fun p => 0 ≤ p.1 ∧ 0 ≤ p.2 ∧ gcdI p.1 p.2 = gcdI a b) (fun p => p.2.toNat) (a, b) PassesOwn.never (Sub.refl _) ⟨hp.1, hp.2, rfl⟩ ?_ ?_ ?_
  · exact fun p _ => et_ne (ex_im (F := vI) 1) ex_int
  · intro p ⟨q1, q2, q3⟩ hd
    have q4 : p.2 ≠ 0 := by simpa using hd
    refine ss_par 0 1 rfl nd (ex_im (F := vI) 1) (ex_mod (ex_im (F := vI) 0) (ex_im (F := vI) 1) ?_) ?_
    · omega
    · exact ss_nil fun _ _ g => ⟨(p.2, p.1 % p.2), ⟨q2, Int.emod_nonneg _ q4, by rw [← q3]; exact gcdI_step q1 (by omega)⟩, by
        have := Int.emod_lt_of_pos p.1 (show 0 < p.2 by omega)
        have := Int.emod_nonneg p.1 q4
        show (p.1 % p.2).toNat < p.2.toNat
        omega, g⟩
  · intro p ⟨q1, q2, q3⟩ hd
    have q4 : p.2 = 0 := by simpa using hd
    refine ss_ret' (ex_im (F := vI) 0) ?_ (Same.refl _)
    rw [q4, gcdI_zero q1] at q3
    exact q3
abbrev sp__law_fraction : Sp := spG (aC vI (aC vI aN)) false (vP vI vI) (fun i => 0 ≤ i.1 ∧ 0 < i.2.1 ∧ i.2.1 < 1073741824) (fun i => frac i.1 i.2.1)
abbrev N__law_fraction : List Str := ["_law_top", "_law_bottom", "_law_by"]
theorem sc__law_fraction : FnScope ["_law_top", "_law_bottom", "_law_by"] ["_law_top", "_law_bottom"] (L2.defScope (topS 78)) := ⟨rfl, rfl, rfl, by decide +kernel, rfl, by decide +kernel, by decide +kernel⟩
theorem c__law_fraction (D : DefT K mg "_law_fraction" (topS 78)) (B : Bl mg) (C : Co mg) (c__law_common : Cal P w K mg base 1 "_law_common" sp__law_common []) : Cal P w K mg base 2 "_law_fraction" sp__law_fraction [] := by
  refine cal_of (m := 1) D sc__law_fraction (fits_im (fits_im fits_nil)) rfl (fun _ _ _ _ _ _ us hl => match us, hl with | [_, _], _ => rfl) (fun a cdv A outer s H E i hr hp => ?_)
  obtain ⟨a, b, ⟨⟩⟩ := i
  have nd := sc__law_fraction.nd
  obtain ⟨p1, p2, p3⟩ := hp
  simp only at p1 p2 p3
  have g1 := gcdI_pos (a := a) p2
  have g2 := gcdI_le (a := a) p2
  refine ss_im 2 nd (ex_call c__law_common hr ?_ (xa_cons (ex_im (F := vI) 0) (xa_cons (ex_im (F := vI) 1) xa_nil))) ?_
  · exact ⟨p1, Int.le_of_lt p2⟩
  refine ss_ret' (ex_tp (ex_fdiv (ex_im (F := vI) 0) (ex_im (F := vI) 2) ?_) (ex_fdiv (ex_im (F := vI) 1) (ex_im (F := vI) 2) ?_)) ?_ (Same.refl _)
  · exact ⟨g1, Int.lt_of_le_of_lt g2 p3⟩
  · exact ⟨g1, Int.lt_of_le_of_lt g2 p3⟩
  exact rfl
abbrev sp__law_periods : Sp := spG (aC (vT (vQ vI vI vI)) aN) false (vT (vP vI vI)) (fun i => TrOk i.1) (fun i => lawPeriods i.1)
abbrev N__law_periods : List Str := ["_law_train_here", "_law_found", "_law_at", "_law_top", "_law_bottom", "_law_roller"]
theorem sc__law_periods : FnScope ["_law_train_here", "_law_found", "_law_at", "_law_top", "_law_bottom", "_law_roller"] ["_law_train_here"] (L2.defScope (topS 80)) := ⟨rfl, rfl, rfl, by decide +kernel, rfl, by decide +kernel, by decide +kernel⟩
theorem c__law_periods (D : DefT K mg "_law_periods" (topS 80)) (B : Bl mg) (C : Co mg) (c__law_fraction : Cal P w K mg base 2 "_law_fraction" sp__law_fraction []) : Cal P w K mg base 3 "_law_periods" sp__law_periods [] := by
  refine cal_of (m := 5) D sc__law_periods (fits_im fits_nil) rfl (fun _ _ _ _ _ _ us hl => match us, hl with | [_], _ => rfl) (fun a cdv A outer s H E i hr hp => ?_)
  obtain ⟨tr, ⟨⟩⟩ := i
  have nd := sc__law_periods.nd
  have ht : TrOk tr := hp
  have t4 : tr.length ≤ 4 := ht.2.1
  refine ss_ow (C := cL (vP vI vI)) 1 nd (ex_lst (F := (vP vI vI)) xi_nil) ?_
  refine ss_for (xs := rng 0 (tr.length : Int).toNat) (fun j => [im (vT (vQ vI vI vI)) tr, ow (cL (vP vI vI)) (((List.range tr.length).take j).map (lawPer tr)), .no, .no, .no, .no]) _ PassesOwn.never rfl (wk_range1 B.range (ex_lenT B.len (ex_im (F := (vT (vQ vI vI vI))) 0)) ?_) (fun _ _ _ _ => gt_name 2 nd) ?_ ?_ ?_
  · show 0 ≤ (tr.length : Int) ∧ (tr.length : Int) ≤ 100000
    omega
  · repeat (first | exact Sub.nil | refine Sub.keep ?_ | refine Sub.drop ?_)
  · intro b1 j x hb1 hx
    have jl := (List.getElem?_eq_some_iff.mp hx).1
    rw [rng_len] at jl
    have ex : x = (j : Int) := by
      have z : (rng 0 (tr.length : Int).toNat)[j]? = some (0 + (j : Int)) := rng_get (by omega)
      rw [z] at hx
      have := Option.some.inj hx
      omega
    subst ex
    have jl2 : j < tr.length := by omega
    have fs : ((List.range tr.length).take (j + 1)).map (lawPer tr) = ((List.range tr.length).take j).map (lawPer tr) ++ [lawPer tr j] := by
      rw [List.take_add_one, List.getElem?_range jl2, List.map_append]
      rfl
    have tj : RolOk (tr.getD j (0, 0, 0)) := by
      rw [List.getD_eq_getElem?_getD, List.getElem?_eq_getElem jl2]
      exact ht.2.2 _ (List.getElem_mem jl2)
    refine ss_par 3 4 rfl nd (ex_q0 (ex_ixTd (0, 0, 0) (ex_im (F := (vT (vQ vI vI vI))) 0) (ex_im (F := vI) 2) ?_)) ex_int ?_
    · exact ⟨by omega, show (j : Int).toNat < tr.length by omega⟩
    refine ss_for (xs := tr.drop j) (fun k => [im (vT (vQ vI vI vI)) tr, ow (cL (vP vI vI)) (((List.range tr.length).take j).map (lawPer tr)), im vI (j : Int), im vI (lawTB ((tr.drop j).take k) ((tr.getD j (0, 0, 0)).1, 1)).1, im vI (lawTB ((tr.drop j).take k) ((tr.getD j (0, 0, 0)).1, 1)).2, .no]) _ PassesOwn.never rfl (wk_tup (ex_is (ex_slT (ex_im (F := (vT (vQ vI vI vI))) 0) (eo_some (ex_im (F := vI) 2)) eo_none) (cut_from tr j))) (fun _ _ _ _ => gt_name 5 nd) ?_ ?_ ?_
    · repeat (first | exact Sub.nil | refine Sub.keep ?_ | refine Sub.drop ?_)
    · intro b2 k r hb2 hr1
      have fs2 : lawTB ((tr.drop j).take (k + 1)) ((tr.getD j (0, 0, 0)).1, 1) = ((lawTB ((tr.drop j).take k) ((tr.getD j (0, 0, 0)).1, 1)).1 * r.2.1, (lawTB ((tr.drop j).take k) ((tr.getD j (0, 0, 0)).1, 1)).2 * r.2.2) := foldl_take _ _ _ _ hr1
      obtain ⟨r1, r2, r3, r4, r5, r6⟩ := ht.2.2 r (List.mem_of_mem_drop (List.mem_of_getElem? hr1))
      refine ss_par 3 4 rfl nd (ex_mul (ex_im (F := vI) 3) (ex_q1 (ex_im (F := (vQ vI vI vI)) 5)) ?_) (ex_mul (ex_im (F := vI) 4) (ex_q2 (ex_im (F := (vQ vI vI vI)) 5)) ?_) ?_
      · exact .inr ⟨by omega, by omega⟩
      · exact .inr ⟨by omega, by omega⟩
      exact ss_nil (fun _ _ g => by simp only [fs2]; exact g.sub (by repeat (first | exact Sub.nil | refine Sub.keep ?_ | refine Sub.drop ?_)))
    · intro b2 hb2
      rw [List.take_length]
      obtain ⟨q1, q2, q3, q4, q5, q6⟩ := tj
      obtain ⟨c1, c2, c3, c4⟩ := lawTB_b (ts := tr.drop j) (fun r hr => ht.2.2 r (List.mem_of_mem_drop hr)) (a := ((tr.getD j (0, 0, 0)).1, 1)) (j := 4) (by rw [List.length_drop]; omega) (Nat.le_refl _) (show (1 : Int) ≤ 1 by decide) (by dsimp only; omega) (by dsimp only; omega) (show (1 : Int) ≤ 8 ^ (4 - 4) by decide)
      refine ss_app (F := (vP vI vI)) 1 rfl (ex_call c__law_fraction hr ?_ (xa_cons (ex_im (F := vI) 3) (xa_cons (ex_im (F := vI) 4) xa_nil))) ?_ ?_
      · exact ⟨by dsimp only; omega, by dsimp only; omega, by dsimp only; omega⟩
      · rw [List.length_map, List.length_take]; omega
      exact ss_nil (fun _ _ g => by simp only [fs]; exact (g.base hb2 (by repeat (first | exact True.intro | constructor))).sub (by repeat (first | exact Sub.nil | refine Sub.keep ?_ | refine Sub.drop ?_)))
  · intro b1 hb1
    refine ss_ret' (ex_tupL B.tuple (ex_ow (C := cL (vP vI vI)) 1)) ?_ hb1
    rw [rng_len, show (tr.length : Int).toNat = tr.length by omega]
    have e := List.take_length (l := List.range tr.length)
    rw [List.length_range] at e
    rw [e]
    rfl
end W92
set_option Elab.async false
set_option linter.all false
set_option maxRecDepth 100000
set_option maxHeartbeats 4000000
namespace W92
open PySem PySem.Spec PyProof.Rows L2 Gm C8
variable {P : Program} {w : World} {K : PySem.W.Frag} {mg : Str → Option Value} {base : Heap}
abbrev sp__law_comes : Sp := spG (aC (vP vI vI) (aC (vP vI vI) (aC vI (aC vI (aC vI aN))))) false vB (fun i => PerOk i.1 ∧ PhOk i.2.1 ∧ 0 ≤ i.2.2.1 ∧ i.2.2.1 ≤ 400 ∧ 0 ≤ i.2.2.2.1 ∧ i.2.2.2.1 ≤ 400) (fun i => lawComes i.1 i.2.1 i.2.2.1 i.2.2.2.1 i.2.2.2.2.1)
abbrev N__law_comes : List Str := ["_law_period", "_law_phase", "_law_first", "_law_last", "_law_inner", "_law_by", "_law_begin", "_law_every", "_law_low", "_law_high", "_law_at"]
theorem sc__law_comes : FnScope ["_law_period", "_law_phase", "_law_first", "_law_last", "_law_inner", "_law_by", "_law_begin", "_law_every", "_law_low", "_law_high", "_law_at"] ["_law_period", "_law_phase", "_law_first", "_law_last", "_law_inner"] (L2.defScope (topS 83)) := ⟨rfl, rfl, rfl, by decide +kernel, rfl, by decide +kernel, by decide +kernel⟩
theorem c__law_comes (D : DefT K mg "_law_comes" (topS 83)) (B : Bl mg) (C : Co mg)  : Cal P w K mg base 1 "_law_comes" sp__law_comes [] := by
  refine cal_of (m := 6) D sc__law_comes (fits_im (fits_im (fits_im (fits_im (fits_im fits_nil))))) rfl (fun _ _ _ _ _ _ us hl => match us, hl with | [_, _, _, _, _], _ => rfl) (fun a cdv A outer s H E i hr hp => ?_)
  obtain ⟨⟨r, b⟩, ⟨pn, pd⟩, f, l, n, ⟨⟩⟩ := i
  have nd := sc__law_comes.nd
  obtain ⟨q1, q2, q3, q4⟩ : PerOk (r, b) := hp.1
  obtain ⟨p1, p2, p3, p4⟩ : PhOk (pn, pd) := hp.2.1
  have f0 : 0 ≤ f := hp.2.2.1
  have f1 : f ≤ 400 := hp.2.2.2.1
  have l0 : 0 ≤ l := hp.2.2.2.2.1
  have l1 : l ≤ 400 := hp.2.2.2.2.2
  simp only at q1 q2 q3 q4 p1 p2 p3 p4
  have e1 : 0 < r * pd := Int.mul_pos (by omega) p3
  refine ss_par 5 6 rfl nd (ex_mul (ex_p1 (ex_im (F := (vP vI vI)) 1)) (ex_p1 (ex_im (F := (vP vI vI)) 0)) ?_) (ex_mul (ex_p0 (ex_im (F := (vP vI vI)) 1)) (ex_p1 (ex_im (F := (vP vI vI)) 0)) ?_) ?_
  · exact .inl ⟨by dsimp only; omega, by dsimp only; omega⟩
  · exact .inl ⟨by dsimp only; omega, by dsimp only; omega⟩
  refine ss_im 7 nd (ex_mul (ex_p0 (ex_im (F := (vP vI vI)) 0)) (ex_p1 (ex_im (F := (vP vI vI)) 1)) ?_) ?_
  · exact .inl ⟨by dsimp only; omega, by dsimp only; omega⟩
  refine ss_par 8 9 rfl nd (ex_add (ex_mul (ex_im (F := vI) 2) (ex_im (F := vI) 5) ?_) (ex_im (F := vI) 4)) (ex_sub (ex_mul (ex_im (F := vI) 3) (ex_im (F := vI) 5) ?_) (ex_im (F := vI) 4)) ?_
  · exact .inl ⟨by dsimp only; omega, by dsimp only; omega⟩
  · exact .inl ⟨by dsimp only; omega, by dsimp only; omega⟩
  refine ss_im 10 nd (ex_if (et_le (ex_im (F := vI) 8) (ex_im (F := vI) 6)) (fun h1 => (ex_im (F := vI) 6)) (fun h2 => (ex_add (ex_im (F := vI) 8) (ex_mod (ex_sub (ex_im (F := vI) 6) (ex_im (F := vI) 8)) (ex_im (F := vI) 7) ?_)))) ?_
  · exact e1
  refine ss_ret' (ex_le (ex_im (F := vI) 10) (ex_im (F := vI) 9)) ?_ (Same.refl _)
  simp only [lawComes, decide_eq_true_eq]
abbrev sp__law_near : Sp := spG (aC (vT (vP vI vI)) (aC (vL (vP vI (vP vI vI))) (aC vI aN))) false vB (fun i => (∀ p ∈ i.1, PerOk p) ∧ (∀ d ∈ i.2.1, 0 ≤ d.1 ∧ d.1 < i.1.length ∧ PhOk d.2) ∧ 0 ≤ i.2.2.1 ∧ i.2.2.1 ≤ 400) (fun i => lawNear i.1 i.2.1 i.2.2.1)
abbrev N__law_near : List Str := ["_law_each", "_law_story", "_law_at", "_law_roller", "_law_phase", "_law_top", "_law_bottom", "_law_by", "_law_begin", "_law_every", "_law_over"]
theorem sc__law_near : FnScope ["_law_each", "_law_story", "_law_at", "_law_roller", "_law_phase", "_law_top", "_law_bottom", "_law_by", "_law_begin", "_law_every", "_law_over"] ["_law_each", "_law_story", "_law_at"] (L2.defScope (topS 82)) := ⟨rfl, rfl, rfl, by decide +kernel, rfl, by decide +kernel, by decide +kernel⟩
theorem c__law_near (D : DefT K mg "_law_near" (topS 82)) (B : Bl mg) (C : Co mg)  : Cal P w K mg base 1 "_law_near" sp__law_near [] := by
  refine cal_of (m := 8) D sc__law_near (fits_im (fits_ge (fits_im fits_nil))) rfl (fun _ _ _ _ _ _ us hl => match us, hl with | [_, _, _], _ => rfl) (fun a cdv A outer s H E i hr hp => ?_)
  obtain ⟨each, st, tt, ⟨⟩⟩ := i
  have nd := sc__law_near.nd
  have he : ∀ p ∈ each, PerOk p := hp.1
  have hd : ∀ d ∈ st, 0 ≤ d.1 ∧ d.1 < each.length ∧ PhOk d.2 := hp.2.1
  have t0 : 0 ≤ tt := hp.2.2.1
  have t1 : tt ≤ 400 := hp.2.2.2
  refine ss_forP (xs := st) (fun j => [im (vT (vP vI vI)) each, ge (vL (vP vI (vP vI vI))) H st, im vI tt, .no, .no, .no, .no, .no, .no, .no, .no]) _ (fun j => ∀ i d, i < j → st[i]? = some d → lawTest each tt d = false) PassesOwn.never rfl (wk_lstG 1) (fun _ _ _ _ => gt_pair 3 4 rfl nd) ?_ ?_ ?_ ?_
  · repeat (first | exact Sub.nil | refine Sub.keep ?_ | refine Sub.drop ?_)
  · exact fun i d h _ => absurd h (Nat.not_lt_zero i)
  · intro e1 j x h2 hx hP
    have hm := List.mem_of_getElem? hx
    obtain ⟨d0, d1, d2, d3, d4, d5⟩ := hd x hm
    have xl : x.1.toNat < each.length := by omega
    have pk : PerOk (each.getD x.1.toNat z2) := by
      rw [List.getD_eq_getElem?_getD, List.getElem?_eq_getElem xl]
      exact he _ (List.getElem_mem xl)
    obtain ⟨k1, k2, k3, k4⟩ := pk
    have ev0 : 0 < (each.getD x.1.toNat z2).1 * x.2.2 := Int.mul_pos (by omega) d4
    have ev1 : (each.getD x.1.toNat z2).1 * x.2.2 ≤ 245760 * 4096 := Int.mul_le_mul k2 d5 (by omega) (by omega)
    refine ss_tgt (ex_ixTd z2 (ex_im (F := (vT (vP vI vI))) 0) (ex_im (F := vI) 3) ?_) (gt_pair 5 6 rfl nd) ?_
    · exact ⟨d0, xl⟩
    refine ss_im 7 nd (ex_mul (ex_p1 (ex_im (F := (vP vI vI)) 4)) (ex_im (F := vI) 6) ?_) ?_
    · exact .inl ⟨by omega, by omega⟩
    refine ss_par 8 9 rfl nd (ex_mul (ex_p0 (ex_im (F := (vP vI vI)) 4)) (ex_im (F := vI) 6) ?_) (ex_mul (ex_im (F := vI) 5) (ex_p1 (ex_im (F := (vP vI vI)) 4)) ?_) ?_
    · exact .inr ⟨by omega, by omega⟩
    · exact .inr ⟨by omega, by omega⟩
    refine ss_im 10 nd (ex_add (ex_fdiv (ex_sub (ex_mul (ex_im (F := vI) 2) (ex_im (F := vI) 7) ?_) (ex_im (F := vI) 8)) (ex_im (F := vI) 9) ?_) ex_int) ?_
    · exact .inl ⟨by omega, by omega⟩
    · exact ⟨ev0, by omega⟩
    refine ss_ifd (et_lt (ex_im (F := vI) 10) ex_int) (fun h4 => ?_) (fun h5 => ?_)
    · apply Exists.intro
      constructor
      · skip
        refine ss_im 10 nd ex_int ?_
        exact ss_nil (fun _ _ g => g)
      · skip
        refine ss_ifr (et_ltlt (ex_mul (ex_im (F := vI) 2) (ex_im (F := vI) 7) ?_) (ex_add (ex_im (F := vI) 8) (ex_mul (ex_im (F := vI) 10) (ex_im (F := vI) 9) ?_)) (ex_mul (ex_add (ex_im (F := vI) 2) ex_int) (ex_im (F := vI) 7) ?_)) (fun h => ?_) (fun h7 => ?_)
        · exact .inl ⟨by omega, by omega⟩
        · exact .inl ⟨by decide, by decide⟩
        · exact .inl ⟨by omega, by omega⟩
        · skip
          refine ss_ret' ex_bl ?_ (((Same.refl _).trans h2))
          symm
          refine List.any_eq_true.mpr ⟨x, hm, ?_⟩
          simp only [lawTest]
          rw [if_pos (of_decide_eq_true (by assumption))]
          assumption
        exact ss_nil (fun _ _ g => ⟨g.sub (by repeat (first | exact Sub.nil | refine Sub.keep ?_ | refine Sub.drop ?_)), fun i d hi e => by
          by_cases q : i = j
          · subst q
            rw [hx] at e
            cases (Option.some.inj e)
            simp only [lawTest]
            first
              | (rw [if_pos (of_decide_eq_true (by assumption))]; assumption)
              | (rw [if_neg (of_decide_eq_false (by assumption))]; assumption)
          · exact hP i d (by omega) e⟩)
    · apply Exists.intro
      constructor
      · skip
        exact ss_nil (fun _ _ g => g)
      · skip
        refine ss_ifr (et_ltlt (ex_mul (ex_im (F := vI) 2) (ex_im (F := vI) 7) ?_) (ex_add (ex_im (F := vI) 8) (ex_mul (ex_im (F := vI) 10) (ex_im (F := vI) 9) ?_)) (ex_mul (ex_add (ex_im (F := vI) 2) ex_int) (ex_im (F := vI) 7) ?_)) (fun h => ?_) (fun h9 => ?_)
        · exact .inl ⟨by omega, by omega⟩
        · exact .inr ⟨by omega, by omega⟩
        · exact .inl ⟨by omega, by omega⟩
        · skip
          refine ss_ret' ex_bl ?_ (((Same.refl _).trans h2))
          symm
          refine List.any_eq_true.mpr ⟨x, hm, ?_⟩
          simp only [lawTest]
          rw [if_neg (of_decide_eq_false (by assumption))]
          assumption
        exact ss_nil (fun _ _ g => ⟨g.sub (by repeat (first | exact Sub.nil | refine Sub.keep ?_ | refine Sub.drop ?_)), fun i d hi e => by
          by_cases q : i = j
          · subst q
            rw [hx] at e
            cases (Option.some.inj e)
            simp only [lawTest]
            first
              | (rw [if_pos (of_decide_eq_true (by assumption))]; assumption)
              | (rw [if_neg (of_decide_eq_false (by assumption))]; assumption)
          · exact hP i d (by omega) e⟩)
  · intro e10 h11 hP
    refine ss_ret' ex_bl ?_ (((Same.refl _).trans h11))
    symm
    rw [Bool.eq_false_iff]
    intro z
    obtain ⟨d, hm, h1⟩ := List.any_eq_true.mp z
    obtain ⟨i, hi, e⟩ := List.mem_iff_getElem.mp hm
    have h2 := hP i d hi (by rw [List.getElem?_eq_getElem hi, e])
    rw [h2] at h1
    cases h1
end W92
set_option Elab.async false
set_option linter.all false
set_option maxRecDepth 100000
set_option maxHeartbeats 4000000
namespace W92
open PySem PySem.Spec PyProof.Rows L2 Gm C8
variable {P : Program} {w : World} {K : PySem.W.Frag} {mg : Str → Option Value} {base : Heap}
abbrev sp__law_lots : Sp := spG (aC vI (aC vI aN)) true (vL (vT vI)) (fun i => 0 ≤ i.1 ∧ i.1 ≤ 4) (fun i => lawLots i.1.toNat i.2.1)
abbrev N__law_lots : List Str := ["_law_count", "_law_most", "_law_rows", "_law_at", "_law_row"]
theorem sc__law_lots : FnScope ["_law_count", "_law_most", "_law_rows", "_law_at", "_law_row"] ["_law_count", "_law_most"] (L2.defScope (topS 76)) := ⟨rfl, rfl, rfl, by decide +kernel, rfl, by decide +kernel, by decide +kernel⟩
theorem c__law_lots (D : DefT K mg "_law_lots" (topS 76)) (B : Bl mg) (C : Co mg)  : Cal P w K mg base 1 "_law_lots" sp__law_lots [] := by
  refine cal_of (m := 3) D sc__law_lots (fits_im (fits_im fits_nil)) rfl (fun _ _ _ _ _ _ us hl => match us, hl with | [_, _], _ => rfl) (fun a cdv A outer s H E i hr hp => ?_)
  obtain ⟨count, most, ⟨⟩⟩ := i
  have nd := sc__law_lots.nd
  have c0 : 0 ≤ count := hp.1
  have c4 : count ≤ 4 := hp.2
  refine ss_ow (C := cL (vT vI)) 2 nd (ex_lst (xi_cons (ex_tup (F := vI) xi_nil) xi_nil)) ?_
  refine ss_for (xs := rng 0 count.toNat) (fun j => [im vI count, im vI most, ow (cL (vT vI)) (((rng 0 count.toNat).take j).foldl (lawLotStep most) [[]]), .no, .no]) _ PassesOwn.never rfl (wk_range1 B.range (ex_im (F := vI) 0) ?_) (fun _ _ _ _ => gt_name 3 nd) ?_ ?_ ?_
  · exact ⟨c0, show count ≤ 100000 by omega⟩
  · repeat (first | exact Sub.nil | refine Sub.keep ?_ | refine Sub.drop ?_)
  · intro b1 j x hb1 hx
    have j4 : j < 4 := by
      have z := (List.getElem?_eq_some_iff.mp hx).1
      rw [rng_len] at z
      omega
    have fs : ((rng 0 count.toNat).take (j + 1)).foldl (lawLotStep most) [[]] = lawLotStep most (((rng 0 count.toNat).take j).foldl (lawLotStep most) [[]]) x := foldl_take _ _ _ _ hx
    obtain ⟨l1, l2⟩ := lawLots_b most (rng 0 count.toNat) j
    generalize ((rng 0 count.toNat).take j).foldl (lawLotStep most) [[]] = rows at fs l1 l2 ⊢
    have p2 : 2 ^ j ≤ 16 := by
      have : j = 0 ∨ j = 1 ∨ j = 2 ∨ j = 3 := by omega
      rcases this with z | z | z | z <;> subst z <;> decide
    refine ss_frz (C := cL (vT vI)) 2 rfl (fun b2 hb2 => ?_)
    refine ss_ow (C := cL (vT vI)) 2 nd (ex_catL (ex_ge (F := vL (vT vI)) 2) (ex_lc1 [("_law_row", 4)] _ rfl nd (wk_lstG 2) (fun _ _ _ _ _ _ _ _ => lg_name 4 nd) (fun _ _ _ _ _ _ _ _ _ => et_lt (ex_lenT B.len (ex_im (F := (vT vI)) 4)) (ex_im (F := vI) 1)) (fun _ _ _ _ _ _ y _ hm _ => ex_catT (ex_im (F := (vT vI)) 4) (ex_tup (xi_cons (ex_im (F := vI) 3) xi_nil)) ?_) ?_ (blkOk_by (N := N__law_lots) (sc := L2.defScope (topS 76)) (by decide +kernel))) ?_) ?_
    · have := l2 y hm
      simp only [List.length_cons, List.length_nil]
      omega
    · omega
    · rw [List.length_map]
      have := List.length_filter_le (fun r : List Int => decide ((r.length : Int) < most)) rows
      omega
    exact ss_nil (fun _ _ g => by simp only [fs, lawLotStep]; exact (g.base hb2 (by repeat (first | exact True.intro | constructor))).sub (by repeat (first | exact Sub.nil | refine Sub.keep ?_ | refine Sub.drop ?_)))
  · intro b1 hb1
    refine ss_retO' (C := cL (vT vI)) 2 rfl ?_ hb1
    rw [List.take_length]
    rfl
end W92
set_option Elab.async false
set_option linter.all false
set_option maxRecDepth 100000
set_option maxHeartbeats 4000000
namespace W92
open PySem PySem.Spec PyProof.Rows L2 Gm C8
variable {P : Program} {w : World} {K : PySem.W.Frag} {mg : Str → Option Value} {base : Heap}
abbrev sp__law_ways : Sp := spG (aC (vP vI vI) (aC (vT (vQ vS vI vI)) aN)) true (vL (vT vI)) (fun i => PerOk i.1 ∧ LksOk i.2.1) (fun i => lawWays i.1 i.2.1)
abbrev N__law_ways : List Str := ["_law_period", "_law_looks_here", "_law_top", "_law_bottom", "_law_found", "_law_ends", "_law_close_at", "_law_phase", "_law_inner", "_law_broken", "_law_row", "_law_at", "_law_look", "_law_word", "_law_first", "_law_last"]
theorem sc__law_ways : FnScope ["_law_period", "_law_looks_here", "_law_top", "_law_bottom", "_law_found", "_law_ends", "_law_close_at", "_law_phase", "_law_inner", "_law_broken", "_law_row", "_law_at", "_law_look", "_law_word", "_law_first", "_law_last"] ["_law_period", "_law_looks_here"] (L2.defScope (topS 84)) := ⟨rfl, rfl, rfl, by decide +kernel, rfl, by decide +kernel, by decide +kernel⟩
theorem c__law_ways (D : DefT K mg "_law_ways" (topS 84)) (B : Bl mg) (C : Co mg) (c__law_comes : Cal P w K mg base 1 "_law_comes" sp__law_comes []) (c__law_fraction : Cal P w K mg base 2 "_law_fraction" sp__law_fraction []) : Cal P w K mg base 3 "_law_ways" sp__law_ways [] := by
  refine cal_of (m := 14) D sc__law_ways (fits_im (fits_im fits_nil)) rfl (fun _ _ _ _ _ _ us hl => match us, hl with | [_, _], _ => rfl) (fun a cdv A outer s H E i hr hp => ?_)
  obtain ⟨per, lk, ⟨⟩⟩ := i
  have nd := sc__law_ways.nd
  have hq : PerOk per := hp.1
  have hk : LksOk lk := hp.2
  have k8 := hk.1
  obtain ⟨q1, q2, q3, q4⟩ := id hq
  have el : (lawEnds lk).length ≤ 17 := by
    unfold lawEnds
    simp only [List.length_append, List.length_map, List.length_cons, List.length_nil]
    omega
  refine ss_par3o2 2 3 4 rfl nd (ex_p0 (ex_im (F := (vP vI vI)) 0)) (ex_p1 (ex_im (F := (vP vI vI)) 0)) (ex_lst (F := (vT vI)) xi_nil) ?_
  refine ss_ow (C := (cL vI)) 5 nd (ex_catL (ex_catL (ex_lc0 [("_law_look", 12)] _ rfl nd (wk_tup (ex_im (F := (vT (vQ vS vI vI))) 1)) (fun _ _ _ _ _ _ _ _ => lg_name 12 nd) (fun _ _ _ _ _ _ x5 h1 h2 => (ex_q1 (ex_im (F := (vQ vS vI vI)) 12))) ?_ (blkOk_by (N := N__law_ways) (sc := L2.defScope (topS 84)) (by decide +kernel))) (ex_lc0 [("_law_look", 12)] _ rfl nd (wk_tup (ex_im (F := (vT (vQ vS vI vI))) 1)) (fun _ _ _ _ _ _ _ _ => lg_name 12 nd) (fun _ _ _ _ _ _ x10 h6 h7 => (ex_q2 (ex_im (F := (vQ vS vI vI)) 12))) ?_ (blkOk_by (N := N__law_ways) (sc := L2.defScope (topS 84)) (by decide +kernel))) ?_) (ex_lst (xi_cons ex_int xi_nil)) ?_) ?_
  · exact Nat.le_trans k8 (by decide)
  · exact Nat.le_trans k8 (by decide)
  · simp only [List.length_map]; omega
  · simp only [List.length_append, List.length_map, List.length_cons, List.length_nil]; omega
  refine ss_frz (C := (cL vI)) 5 rfl (fun e11 h12 => ?_)
  refine ss_for (xs := lawEnds lk) (fun j => [im (vP vI vI) per, im (vT (vQ vS vI vI)) lk, im vI per.1, im vI per.2, ow (cL (vT vI)) (((lawEnds lk).take j).foldl (lawWayStep per lk) []), .no, .no, .no, .no, .no, .no, .no, .no, .no, .no, .no]) _ PassesOwn.never rfl (wk_lstG 5) (fun _ _ _ _ => gt_name 6 nd) ?_ ?_ ?_
  · repeat (first | exact Sub.nil | refine Sub.keep ?_ | refine Sub.drop ?_)
  · intro e13 j x h14 hx
    have jl : j < (lawEnds lk).length := (List.getElem?_eq_some_iff.mp hx).1
    have xb := lawEnds_b hk x (List.mem_of_getElem? hx)
    have fs : ((lawEnds lk).take (j + 1)).foldl (lawWayStep per lk) [] = lawWayStep per lk (((lawEnds lk).take j).foldl (lawWayStep per lk) []) x := foldl_take _ _ _ _ hx
    have fl := lawWays_len per lk (lawEnds lk) j
    generalize ((lawEnds lk).take j).foldl (lawWayStep per lk) [] = ff at fs fl ⊢
    have pp : PhOk (lawPh per x) := lawPh_ok hq x
    refine ss_im 7 nd (ex_call c__law_fraction hr ?_ (xa_cons (ex_mod (ex_mul (ex_im (F := vI) 6) (ex_im (F := vI) 3) ?_) (ex_im (F := vI) 2) ?_) (xa_cons (ex_im (F := vI) 3) xa_nil))) ?_
    · exact ⟨Int.emod_nonneg _ (by omega), q3, Int.lt_of_le_of_lt q4 (by decide)⟩
    · exact .inl ⟨by omega, by omega⟩
    · exact Int.lt_of_lt_of_le q3 q1
    refine ss_lc1 8 [("_law_look", 12)] _ rfl nd (wk_tup (ex_im (F := (vT (vQ vS vI vI))) 1)) (fun _ _ _ _ _ _ _ _ => lg_name 12 nd) (fun _ _ _ _ _ _ x20 h16 h17 => (et_eq (ex_q0 (ex_im (F := (vQ vS vI vI)) 12)) ex_str)) (fun _ _ _ _ _ _ x20 h16 h17 h19 => (ex_im (F := (vQ vS vI vI)) 12)) ?_ ?_ (blkOk_by (N := N__law_ways) (sc := L2.defScope (topS 84)) (by decide +kernel))
    · exact Nat.le_trans k8 (by decide)
    refine ss_frz (C := (cL (vQ vS vI vI))) 8 rfl (fun e21 h22 => ?_)
    refine ss_lc1 9 [("_law_word", 13), ("_law_first", 14), ("_law_last", 15)] _ rfl nd (wk_lstG 8) (fun _ _ _ _ _ _ _ _ => lg_trip 13 14 15 rfl nd) (fun _ _ _ _ _ _ x27 h23 h24 => (et_val (ex_call c__law_comes hr ?_ (xa_cons (ex_im (F := (vP vI vI)) 0) (xa_cons (ex_im (F := (vP vI vI)) 7) (xa_cons (ex_im (F := vI) 14) (xa_cons (ex_im (F := vI) 15) (xa_cons ex_int xa_nil)))))))) (fun _ _ _ _ _ _ x27 h23 h24 h26 => ex_int) ?_ ?_ (blkOk_by (N := N__law_ways) (sc := L2.defScope (topS 84)) (by decide +kernel))
    · have hz := hk.2 _ (mem_fm (by assumption))
      exact ⟨hq, pp, hz.1, hz.2.1, hz.2.2.1, hz.2.2.2.1⟩
    · rw [List.length_map]; exact Nat.le_trans (List.length_filter_le _ _) (Nat.le_trans k8 (by decide))
    refine ss_ow (C := (cL vI)) 10 nd (ex_lst (F := vI) xi_nil) ?_
    refine ss_for (xs := enumI lk) (fun k => [im (vP vI vI) per, im (vT (vQ vS vI vI)) lk, im vI per.1, im vI per.2, ow (cL (vT vI)) ff, .no, .no, im (vP vI vI) (lawPh per x), .no, ow (cL vI) (lawBroken per (lawPh per x) lk), ow (cL vI) (((enumI lk).take k).foldl (fun f p => if (decide (p.2.1 = ("mark" : Str)) && lawComes per (lawPh per x) p.2.2.1 p.2.2.2 0) = true then f ++ [p.1] else f) []), .no, .no, .no, .no, .no]) _ PassesOwn.never rfl (wk_enumT B.enumerate (ex_im (F := (vT (vQ vS vI vI))) 1)) (fun _ _ _ _ => gt_pair 11 12 rfl nd) ?_ ?_ ?_
    · repeat (first | exact Sub.nil | refine Sub.keep ?_ | refine Sub.drop ?_)
    · intro e28 k y h29 hy
      have kl : k < (enumI lk).length := (List.getElem?_eq_some_iff.mp hy).1
      rw [enumI_len] at kl
      have ks : ((enumI lk).take (k + 1)).foldl (fun f p => if (decide (p.2.1 = ("mark" : Str)) && lawComes per (lawPh per x) p.2.2.1 p.2.2.2 0) = true then f ++ [p.1] else f) [] = (if (decide (y.2.1 = ("mark" : Str)) && lawComes per (lawPh per x) y.2.2.1 y.2.2.2 0) = true then (((enumI lk).take k).foldl (fun f p => if (decide (p.2.1 = ("mark" : Str)) && lawComes per (lawPh per x) p.2.2.1 p.2.2.2 0) = true then f ++ [p.1] else f) []) ++ [y.1] else (((enumI lk).take k).foldl (fun f p => if (decide (p.2.1 = ("mark" : Str)) && lawComes per (lawPh per x) p.2.2.1 p.2.2.2 0) = true then f ++ [p.1] else f) [])) := foldl_take _ _ _ _ hy
      have rl := lawRow_len per (lawPh per x) lk k
      have yk := enum_lk hk hy
      refine ss_ifd (ew_pt (ew_and (et_eq (ex_q0 (ex_im (F := (vQ vS vI vI)) 12)) ex_str) (fun h31 => (ew_and1 (et_val (ex_call c__law_comes hr ?_ (xa_cons (ex_im (F := (vP vI vI)) 0) (xa_cons (ex_im (F := (vP vI vI)) 7) (xa_cons (ex_q1 (ex_im (F := (vQ vS vI vI)) 12)) (xa_cons (ex_q2 (ex_im (F := (vQ vS vI vI)) 12)) (xa_cons ex_int xa_nil))))))))))) (fun h32 => ?_) (fun h33 => ?_)
      · exact ⟨hq, pp, yk.1, yk.2.1, yk.2.2.1, yk.2.2.2.1⟩
      · apply Exists.intro
        constructor
        · skip
          refine ss_app (F := vI) 10 rfl (ex_im (F := vI) 11) ?_ ?_
          · exact Nat.lt_of_le_of_lt rl (by omega)
          exact ss_nil (fun _ _ g => g)
        · skip
          exact ss_nil (fun _ _ g => by
            simp only [ks]
            first
              | (rw [if_pos h32]; exact g.sub (by repeat (first | exact Sub.nil | refine Sub.keep ?_ | refine Sub.drop ?_)))
              | (rw [if_neg (fun z => Bool.noConfusion (z.symm.trans h32))]; exact g.sub (by repeat (first | exact Sub.nil | refine Sub.keep ?_ | refine Sub.drop ?_))))
      · apply Exists.intro
        constructor
        · skip
          exact ss_nil (fun _ _ g => g)
        · skip
          exact ss_nil (fun _ _ g => by
            simp only [ks]
            first
              | (rw [if_pos h33]; exact g.sub (by repeat (first | exact Sub.nil | refine Sub.keep ?_ | refine Sub.drop ?_)))
              | (rw [if_neg (fun z => Bool.noConfusion (z.symm.trans h33))]; exact g.sub (by repeat (first | exact Sub.nil | refine Sub.keep ?_ | refine Sub.drop ?_))))
    · intro e34 h35
      rw [List.take_length]
      refine ss_ifd (ew_pt (ew_and (et_eqD hr (ex_ow (C := (cL vI)) 9) (ex_lst (F := vI) xi_nil)) (fun h36 => (ew_and1 (et_notInD hr (ex_tupL B.tuple (ex_ow (C := (cL vI)) 10)) (ex_ow (C := (cL (vT vI))) 4)))))) (fun h37 => ?_) (fun h38 => ?_)
      · apply Exists.intro
        constructor
        · skip
          refine ss_app (F := (vT vI)) 4 rfl (ex_tupL B.tuple (ex_ow (C := (cL vI)) 10)) ?_ ?_
          · exact Nat.lt_of_le_of_lt fl (by omega)
          exact ss_nil (fun _ _ g => g)
        · skip
          exact ss_nil (fun _ _ g => by
            simp only [fs, lawWayStep]
            first
              | (rw [if_pos (and_t (A := lawBroken per (lawPh per x) lk = []) (B := lawRow per (lawPh per x) lk ∈ ff) h37)]; exact (g.base ((h22).trans h35) (by repeat (first | exact True.intro | constructor))).sub (by repeat (first | exact Sub.nil | refine Sub.keep ?_ | refine Sub.drop ?_)))
              | (rw [if_neg (and_f (A := lawBroken per (lawPh per x) lk = []) (B := lawRow per (lawPh per x) lk ∈ ff) h37)]; exact (g.base ((h22).trans h35) (by repeat (first | exact True.intro | constructor))).sub (by repeat (first | exact Sub.nil | refine Sub.keep ?_ | refine Sub.drop ?_))))
      · apply Exists.intro
        constructor
        · skip
          exact ss_nil (fun _ _ g => g)
        · skip
          exact ss_nil (fun _ _ g => by
            simp only [fs, lawWayStep]
            first
              | (rw [if_pos (and_t (A := lawBroken per (lawPh per x) lk = []) (B := lawRow per (lawPh per x) lk ∈ ff) h38)]; exact (g.base ((h22).trans h35) (by repeat (first | exact True.intro | constructor))).sub (by repeat (first | exact Sub.nil | refine Sub.keep ?_ | refine Sub.drop ?_)))
              | (rw [if_neg (and_f (A := lawBroken per (lawPh per x) lk = []) (B := lawRow per (lawPh per x) lk ∈ ff) h38)]; exact (g.base ((h22).trans h35) (by repeat (first | exact True.intro | constructor))).sub (by repeat (first | exact Sub.nil | refine Sub.keep ?_ | refine Sub.drop ?_))))
  · intro e39 h40
    refine ss_retO' (C := (cL (vT vI))) 4 rfl ?_ (((((Same.refl _).trans h12)).trans h40))
    rw [List.take_length]; rfl
end W92
set_option Elab.async false
set_option linter.all false
set_option maxRecDepth 100000
set_option maxHeartbeats 4000000
namespace W92
open PySem PySem.Spec PyProof.Rows L2 Gm C8
variable {P : Program} {w : World} {K : PySem.W.Frag} {mg : Str → Option Value} {base : Heap}
abbrev sp__law_tells : Sp := spG (aC (vL (vL (vT vI))) (aC (vT vI) (aC (vT vI) aN))) false vB (fun i => (∃ n, LWaysOk n i.1 ∧ ∀ r ∈ i.2.1, 0 ≤ r ∧ r < n) ∧ i.2.1.length ≤ 4) (fun i => lawTells i.1 i.2.1 i.2.2.1)
abbrev N__law_tells : List Str := ["_law_ways_here", "_law_lot", "_law_wanted", "_law_rows", "_law_roller", "_law_longer", "_law_row", "_law_more"]
theorem sc__law_tells : FnScope ["_law_ways_here", "_law_lot", "_law_wanted", "_law_rows", "_law_roller", "_law_longer", "_law_row", "_law_more"] ["_law_ways_here", "_law_lot", "_law_wanted"] (L2.defScope (topS 85)) := ⟨rfl, rfl, rfl, by decide +kernel, rfl, by decide +kernel, by decide +kernel⟩
theorem c__law_tells (D : DefT K mg "_law_tells" (topS 85)) (B : Bl mg) (C : Co mg)  : Cal P w K mg base 1 "_law_tells" sp__law_tells [] := by
  refine cal_of (m := 5) D sc__law_tells (fits_ge (fits_im (fits_im fits_nil))) rfl (fun _ _ _ _ _ _ us hl => match us, hl with | [_, _, _], _ => rfl) (fun a cdv A outer s H E i hr hp => ?_)
  obtain ⟨ways, lot, wanted, ⟨⟩⟩ := i
  have nd := sc__law_tells.nd
  obtain ⟨n, hw, hl⟩ := hp.1
  have l4 : lot.length ≤ 4 := hp.2
  refine ss_ow (C := cL (vT vI)) 3 nd (ex_lst (xi_cons (ex_tup (F := vI) xi_nil) xi_nil)) ?_
  refine ss_for (xs := lot) (fun j => [ge (vL (vL (vT vI))) H ways, im (vT vI) lot, im (vT vI) wanted, ow (cL (vT vI)) ((lot.take j).foldl (lawTellOne ways) [[]]), .no, .no, .no, .no]) _ PassesOwn.never rfl (wk_tup (ex_im (F := (vT vI)) 1)) (fun _ _ _ _ => gt_name 4 nd) ?_ ?_ ?_
  · repeat (first | exact Sub.nil | refine Sub.keep ?_ | refine Sub.drop ?_)
  · intro b1 j r hb1 hr1
    have jl : j < lot.length := (List.getElem?_eq_some_iff.mp hr1).1
    obtain ⟨r0, rn⟩ := hl r (List.mem_of_getElem? hr1)
    obtain ⟨t1, t2⟩ := lawTell_ok hw lot j hl
    have fs : (lot.take (j + 1)).foldl (lawTellOne ways) [[]] = lawTellOne ways ((lot.take j).foldl (lawTellOne ways) [[]]) r := foldl_take _ _ _ _ hr1
    generalize (lot.take j).foldl (lawTellOne ways) [[]] = rows at t1 t2 fs ⊢
    have rl : r.toNat < ways.length := by rw [hw.1]; omega
    have hm : ways.getD r.toNat [] ∈ ways := by
      rw [List.getD_eq_getElem?_getD, List.getElem?_eq_getElem rl]
      exact List.getElem_mem rl
    obtain ⟨w1, w2⟩ := hw.2.2 _ hm
    have ha : atI ways r = some (ways.getD r.toNat []) := at_getD ⟨r0, rl⟩
    refine ss_ow (C := cD vB) 5 nd (ex_dnewD (F := vB)) ?_
    refine ss_frz (C := cL (vT vI)) 3 rfl (fun b2 hb2 => ?_)
    refine ss_for (xs := rows) (fun i => [ge (vL (vL (vT vI))) H ways, im (vT vI) lot, im (vT vI) wanted, .no, im vI r, ow (cD vB) ((rows.take i).foldl (lawTellRow (ways.getD r.toNat [])) []), .no, .no]) _ PassesOwn.never rfl (wk_lstG 3) (fun _ _ _ _ => gt_name 6 nd) ?_ ?_ ?_
    · repeat (first | exact Sub.nil | refine Sub.keep ?_ | refine Sub.drop ?_)
    · intro b3 i x hb3 hx
      have il : i < rows.length := (List.getElem?_eq_some_iff.mp hx).1
      have x1 := t2 x (List.mem_of_getElem? hx)
      have gs : (rows.take (i + 1)).foldl (lawTellRow (ways.getD r.toNat [])) [] = lawTellRow (ways.getD r.toNat []) ((rows.take i).foldl (lawTellRow (ways.getD r.toNat [])) []) x := foldl_take _ _ _ _ hx
      have dl := lawTellAll_len (ways.getD r.toNat []) w1 rows i
      have p17 : rows.length * 17 ≤ 17 ^ j * 17 := Nat.mul_le_mul_right _ t1
      have p18 : (i + 1) * 17 ≤ rows.length * 17 := Nat.mul_le_mul_right _ (by omega)
      have p19 := pow17 (show j ≤ 3 by omega)
      generalize (rows.take i).foldl (lawTellRow (ways.getD r.toNat [])) [] = dd at gs dl ⊢
      refine ss_for (xs := ways.getD r.toNat []) (fun k => [ge (vL (vL (vT vI))) H ways, im (vT vI) lot, im (vT vI) wanted, .no, im vI r, ow (cD vB) (((ways.getD r.toNat []).take k).foldl (lawTellIn x) dd), im (vT vI) x, .no]) _ PassesOwn.never rfl (wk_ixG 0 (ex_im (F := vI) 4) ha) (fun _ _ _ _ => gt_name 7 nd) ?_ ?_ ?_
      · repeat (first | exact Sub.nil | refine Sub.keep ?_ | refine Sub.drop ?_)
      · intro b4 k y hb4 hy
        have kl : k < (ways.getD r.toNat []).length := (List.getElem?_eq_some_iff.mp hy).1
        have y1 := w2 y (List.mem_of_getElem? hy)
        have ks : ((ways.getD r.toNat []).take (k + 1)).foldl (lawTellIn x) dd = lawTellIn x (((ways.getD r.toNat []).take k).foldl (lawTellIn x) dd) y := foldl_take _ _ _ _ hy
        have kd := lawTellRow_len (ways.getD r.toNat []) x dd k
        refine ss_dput 5 hr ex_bl (ex_tupL B.tuple (ex_sortS rfl B.sorted (ex_setT rfl B.set (ex_catT (ex_im (F := (vT vI)) 6) (ex_im (F := (vT vI)) 7) ?_) ?_) ?_)) ?_ ?_
        · omega
        · rw [List.length_append]; omega
        · rw [List.length_append]; omega
        · omega
        exact ss_nil (fun _ _ g => by simp only [ks]; exact g.sub (by repeat (first | exact Sub.nil | refine Sub.keep ?_ | refine Sub.drop ?_)))
      · intro b4 hb4
        exact ss_nil (fun _ _ g => by simp only [gs]; simp only [List.take_length] at g; exact (g.base hb4 (by repeat (first | exact True.intro | exact ((hb1.trans hb2).trans hb3) | constructor))).sub (by repeat (first | exact Sub.nil | refine Sub.keep ?_ | refine Sub.drop ?_)))
    · intro b3 hb3
      refine ss_ow (C := cL (vT vI)) 3 nd (ex_listD rfl B.list (ex_ow (C := cD vB) 5)) ?_
      exact ss_nil (fun _ _ g => by simp only [fs]; simp only [List.take_length] at g; exact (g.base (hb2.trans hb3) (by repeat (first | exact True.intro | exact hb1 | constructor))).sub (by repeat (first | exact Sub.nil | refine Sub.keep ?_ | refine Sub.drop ?_)))
  · intro b1 hb1
    refine ss_ret' (ex_inD hr (ex_im (F := (vT vI)) 2) (ex_ow (C := cL (vT vI)) 3)) ?_ hb1
    rw [List.take_length]
    unfold lawTells
    exact decide_eq_decide.mpr Iff.rfl
end W92
set_option Elab.async false
set_option linter.all false
set_option maxRecDepth 100000
set_option maxHeartbeats 4000000
namespace W92
open PySem PySem.Spec PyProof.Rows L2 Gm C8
variable {P : Program} {w : World} {K : PySem.W.Frag} {mg : Str → Option Value} {base : Heap}
abbrev sp__law_fewest : Sp := spG (aC (vT (vQ vI vI vI)) (aC (vT (vQ vS vI vI)) aN)) false (vO (vP vI (vT (vT vI)))) (fun i => TrOk i.1 ∧ LksOk i.2.1) (fun i => lawFewest i.1 i.2.1)
abbrev N__law_fewest : List Str := ["_law_train_here", "_law_looks_here", "_law_ways_here", "_law_wanted", "_law_size", "_law_lots_here", "_law_period", "_law_at", "_law_look", "_law_lot"]
theorem sc__law_fewest : FnScope ["_law_train_here", "_law_looks_here", "_law_ways_here", "_law_wanted", "_law_size", "_law_lots_here", "_law_period", "_law_at", "_law_look", "_law_lot"] ["_law_train_here", "_law_looks_here"] (L2.defScope (topS 86)) := ⟨rfl, rfl, rfl, by decide +kernel, rfl, by decide +kernel, by decide +kernel⟩
theorem c__law_fewest (D : DefT K mg "_law_fewest" (topS 86)) (B : Bl mg) (C : Co mg) (c__law_lots : Cal P w K mg base 1 "_law_lots" sp__law_lots []) (c__law_periods : Cal P w K mg base 3 "_law_periods" sp__law_periods []) (c__law_tells : Cal P w K mg base 1 "_law_tells" sp__law_tells []) (c__law_ways : Cal P w K mg base 3 "_law_ways" sp__law_ways []) : Cal P w K mg base 4 "_law_fewest" sp__law_fewest [] := by
  refine cal_of (m := 8) D sc__law_fewest (fits_im (fits_im fits_nil)) rfl (fun _ _ _ _ _ _ us hl => match us, hl with | [_, _], _ => rfl) (fun a cdv A outer s H E i hr hp => ?_)
  obtain ⟨tr, lk, ⟨⟩⟩ := i
  have nd := sc__law_fewest.nd
  have ht : TrOk tr := hp.1
  have hk : LksOk lk := hp.2
  have t4 : tr.length ≤ 4 := ht.2.1
  have pk : ∀ p ∈ lawPeriods tr, PerOk p := fun p h => periods_ok ht p (by rw [← lawPeriods_eq]; exact h)
  have pl : (lawPeriods tr).length = tr.length := by rw [lawPeriods_eq, periods_len]
  have nm : ((enumI lk).filter fun p => decide (p.2.1 = ("mark" : Str))).map (fun p => p.1) = numMarks lk := rfl
  refine ss_ge (F := vL (vL (vT vI))) 2 nd (no_own rfl) (ex_lcC (C := cL (vT vI)) [("_law_period", 6)] _ rfl nd (wk_tup (ex_call c__law_periods hr ht (xa_cons (ex_im (F := (vT (vQ vI vI vI))) 0) xa_nil))) (fun _ _ _ _ _ _ _ _ => lg_name 6 nd) (fun _ _ _ _ _ _ p _ hm => ex_call c__law_ways hr ⟨pk p hm, hk⟩ (xa_cons (ex_im (F := (vP vI vI)) 6) (xa_cons (ex_im (F := (vT (vQ vS vI vI))) 1) xa_nil))) ?_ (blkOk_by (N := N__law_fewest) (sc := L2.defScope (topS 86)) (by decide +kernel))) (fun b1 hb1 => ?_)
  · show (lawPeriods tr).length ≤ 100000
    omega
  refine ss_im (F := (vT vI)) 3 nd (ex_tupL B.tuple (ex_lc1 [("_law_at", 7), ("_law_look", 8)] _ rfl nd (wk_enumT B.enumerate (ex_im (F := (vT (vQ vS vI vI))) 1)) (fun _ _ _ _ _ _ _ _ => lg_pair 7 8 rfl nd) (fun _ _ _ _ _ _ _ _ _ => et_eq (ex_q0 (ex_im (F := (vQ vS vI vI)) 8)) ex_str) (fun _ _ _ _ _ _ _ _ _ _ => ex_im (F := vI) 7) ?_ (blkOk_by (N := N__law_fewest) (sc := L2.defScope (topS 86)) (by decide +kernel)))) ?_
  · rw [enumI_len]; exact Nat.le_trans hk.1 (by decide)
  refine ss_forP (xs := rng 0 ((tr.length : Int) + 1).toNat) (fun j => [im (vT (vQ vI vI vI)) tr, im (vT (vQ vS vI vI)) lk, ge (vL (vL (vT vI))) b1 ((lawPeriods tr).map fun p => lawWays p lk), im (vT vI) (numMarks lk), .no, .no, .no, .no, .no, .no]) _ (fun j => ∀ i, i < j → lawSize tr lk i = []) PassesOwn.never rfl (wk_range1 B.range (ex_add (ex_lenT B.len (ex_im (F := (vT (vQ vI vI vI))) 0)) ex_int) ?_) (fun _ _ _ _ => gt_name 4 nd) ?_ ?_ ?_ ?_
  · show 0 ≤ (tr.length : Int) + 1 ∧ (tr.length : Int) + 1 ≤ 100000
    omega
  · repeat (first | exact Sub.nil | refine Sub.keep ?_ | refine Sub.drop ?_)
  · exact fun i h => absurd h (Nat.not_lt_zero i)
  · intro b2 j x hb2 hx hP
    have jl := (List.getElem?_eq_some_iff.mp hx).1
    rw [rng_len] at jl
    have ex : x = (j : Int) := by
      have z2 : (rng 0 ((tr.length : Int) + 1).toNat)[j]? = some (0 + (j : Int)) := rng_get (by omega)
      rw [z2] at hx
      have := Option.some.inj hx
      omega
    subst ex
    have j4 : j ≤ tr.length := by omega
    have lb := lawLots_b (j : Int) (rng 0 tr.length) (rng 0 tr.length).length
    rw [List.take_length, rng_len] at lb
    have p2 : 2 ^ tr.length ≤ 2 ^ 4 := Nat.pow_le_pow_right (by decide) t4
    have p16 : (2 : Nat) ^ 4 = 16 := rfl
    have ll : (lawLots tr.length (j : Int)).length ≤ 16 := Nat.le_trans lb.1 (by omega)
    have lsz : (lawSize tr lk j).length ≤ 16 := Nat.le_trans (List.length_filter_le _ _) ll
    refine ss_lc1 (F := (vT vI)) (G := (vT vI)) (xs := lawLots tr.length (j : Int)) 5 [("_law_lot", 9)] _ rfl nd (wk_lstN (ex_is (ex_call c__law_lots hr ?_ (xa_cons (ex_lenT B.len (ex_im (F := (vT (vQ vI vI vI))) 0)) (xa_cons (ex_im (F := vI) 4) xa_nil))) rfl)) (fun _ _ _ _ _ _ _ _ => lg_name 9 nd) (fun _ _ _ _ _ _ lot _ hm => ew_pt (ew_and (et_eq (ex_lenT B.len (ex_im (F := (vT vI)) 9)) (ex_im (F := vI) 4)) (fun _ => ew_and1 (et_val (ex_call c__law_tells hr ?_ (xa_cons (ex_ge (F := vL (vL (vT vI))) 2) (xa_cons (ex_im (F := (vT vI)) 9) (xa_cons (ex_im (F := (vT vI)) 3) xa_nil)))))))) (fun _ _ _ _ _ _ _ _ _ _ => ex_im (F := (vT vI)) 9) ?_ ?_ (blkOk_by (N := N__law_fewest) (sc := L2.defScope (topS 86)) (by decide +kernel))
    · exact ⟨by dsimp only; omega, by dsimp only; omega⟩
    · exact ⟨⟨tr.length, lways_ok ht hk, lawLots_in tr.length (j : Int) lot hm⟩, Nat.le_trans (lb.2 lot hm) t4⟩
    · omega
    refine ss_ifr (et_neD hr (ex_ow (C := cL (vT vI)) 5) (ex_lst (F := (vT vI)) xi_nil)) (fun h => ?_) (fun h => ?_)
    · have h2 : lawSize tr lk j ≠ [] := by
        intro z
        have h3 : (!decide ((List.map (fun l : List Int => l) (lawSize tr lk j)) = [])) = true := h
        rw [z] at h3
        cases h3
      have em : List.map (fun l : List Int => l) (lawSize tr lk j) = lawSize tr lk j := List.map_id' _
      refine ss_ret' (ex_some (ex_tp (ex_im (F := vI) 4) (ex_tupL B.tuple (ex_sortT hr B.sorted (ex_ow (C := cL (vT vI)) 5) ?_)))) ?_ ((hb1.trans hb2))
      · show ((∀ b ∈ List.map (fun l : List Int => l) (lawSize tr lk j), b ≠ []) ∨ (List.map (fun l : List Int => l) (lawSize tr lk j)).length ≤ 1) ∧ (List.map (fun l : List Int => l) (lawSize tr lk j)).length ≤ 100000
        rw [em]
        exact ⟨lawSize_sort tr lk j, by omega⟩
      · show some ((j : Int), sortT (List.map (fun l : List Int => l) (lawSize tr lk j))) = _
        rw [em]
        exact (lawSearch_at (tr.length + 1) 0 j (Nat.zero_le _) (by omega) (fun s _ hs => hP s hs) h2).symm
    · have h2 : lawSize tr lk j = [] := by
        have h3 : (!decide ((List.map (fun l : List Int => l) (lawSize tr lk j)) = [])) = false := h
        simpa using h3
      exact ss_nil (fun _ _ g => ⟨g.sub (by repeat (first | exact Sub.nil | refine Sub.keep ?_ | refine Sub.drop ?_)), fun i hi => by
        by_cases e : i = j
        · rw [e]; exact h2
        · exact hP i (by omega)⟩)
  · intro b2 hb2 hP
    refine ss_ret' ex_non ?_ (hb1.trans hb2)
    rw [rng_len] at hP
    exact (lawSearch_none (tr.length + 1) 0 fun s _ hs => hP s (by omega)).symm
end W92
set_option Elab.async false
set_option linter.all false
set_option maxHeartbeats 4000000
/-! when a roller comes within a look; sliding a phase back to the last end before it -/
namespace W92
open PySem Gm
def innOf (l : Lk) : Int := if l.1 = ("sound" : Str) then 1 else 0
/-- p, in parts of the period's bottom, comes within the look at some turn -/
def Hits (per : Fr) (p : Int) (l : Lk) : Prop := ∃ k : Int, 0 ≤ k ∧ l.2.1 * per.2 + innOf l ≤ p + k * per.1 ∧ p + k * per.1 ≤ l.2.2 * per.2 - innOf l
def Comes (lo hi beg ev : Int) : Prop := ∃ k : Int, 0 ≤ k ∧ lo ≤ beg + k * ev ∧ beg + k * ev ≤ hi
theorem mulm {a b r : Int} (h : a ≤ b) (hr : 0 < r) : a * r ≤ b * r := Int.mul_le_mul_of_nonneg_right h (Int.le_of_lt hr)
theorem mulc {a b r : Int} (h : a * r ≤ b * r) (hr : 0 < r) : a ≤ b := Int.le_of_mul_le_mul_right h hr
theorem mull {a b r : Int} (h : a < b) (hr : 0 < r) : a * r < b * r := Int.mul_lt_mul_of_pos_right h hr
theorem mulk {a b r : Int} (h : a * r < b * r) (hr : 0 < r) : a < b := Int.lt_of_mul_lt_mul_right h (Int.le_of_lt hr)
theorem dm (a b : Int) : a = a % b + (a / b) * b := by
  have := Int.emod_def a b
  rw [Int.mul_comm b] at this
  omega
theorem comes_ceil {lo hi beg ev : Int} (h : 0 < ev) : Comes lo hi beg ev ↔ beg + max 0 ((lo - beg + ev - 1) / ev) * ev ≤ hi := by
  have d := dm (lo - beg + ev - 1) ev
  have d1 := Int.emod_nonneg (lo - beg + ev - 1) (show ev ≠ 0 by omega)
  have d2 := Int.emod_lt_of_pos (lo - beg + ev - 1) h
  generalize (lo - beg + ev - 1) / ev = c at d ⊢
  constructor
  · rintro ⟨k, k0, k1, k2⟩
    have h1 : c < k + 1 := mulk (r := ev) (by rw [Int.add_mul]; omega) h
    have h2 : max 0 c ≤ k := by omega
    have h3 := mulm h2 h
    omega
  · intro h1
    refine ⟨max 0 c, by omega, ?_, h1⟩
    have h2 := mulm (show c ≤ max 0 c by omega) h
    omega
theorem comes_mod {lo hi beg ev : Int} (h : 0 < ev) : Comes lo hi beg ev ↔ (if lo ≤ beg then beg else lo + (beg - lo) % ev) ≤ hi := by
  constructor
  · rintro ⟨k, k0, k1, k2⟩
    have hk : 0 ≤ k * ev := Int.mul_nonneg k0 (Int.le_of_lt h)
    split
    · omega
    · have e : (beg - lo) % ev = (beg + k * ev - lo) % ev := by
        rw [show beg + k * ev - lo = (beg - lo) + k * ev by omega, Int.add_mul_emod_self_right]
      have d := dm (beg + k * ev - lo) ev
      have q : 0 ≤ (beg + k * ev - lo) / ev := Int.ediv_nonneg (by omega) (Int.le_of_lt h)
      have q2 := Int.mul_nonneg q (Int.le_of_lt h)
      omega
  · intro h1
    split at h1
    · exact ⟨0, Int.le_refl _, by omega, by omega⟩
    · have d := dm (beg - lo) ev
      have d1 := Int.emod_nonneg (beg - lo) (show ev ≠ 0 by omega)
      have q : (beg - lo) / ev < 0 := Int.ediv_neg_of_neg_of_pos (by omega) h
      refine ⟨-((beg - lo) / ev), by omega, ?_, ?_⟩
      · rw [Int.neg_mul]; omega
      · rw [Int.neg_mul]; omega
/-- a phase as a fraction: the same up to a factor -/
theorem frac_sc {p b : Int} (hp : 0 ≤ p) (hb : 0 < b) : 0 < (frac p b).2 ∧ (frac p b).1 * b = p * (frac p b).2 := by
  obtain ⟨_, _, h3, _⟩ := frac_b hp hb
  refine ⟨h3, ?_⟩
  have g := gcdI_pos (a := p) hb
  obtain ⟨c, hc⟩ := gcdI_dvd_right (a := p) hb
  obtain ⟨d, hd⟩ := gcdI_dvd_left (b := b) hp
  have e1 : (frac p b).2 = c := Int.ediv_eq_of_eq_mul_right (by omega) hc
  have e2 : (frac p b).1 = d := Int.ediv_eq_of_eq_mul_right (by omega) hd
  rw [e1, e2]
  generalize gcdI p b = w at *
  rw [hc, hd, ← Int.mul_assoc, Int.mul_comm d w]
theorem scale {c A X i : Int} (hc : 0 < c) (hi : i = 0 ∨ i = 1) : A * c + i ≤ X * c ↔ A + i ≤ X := by
  rcases hi with e | e
  · subst e
    constructor
    · intro h; have := mulc (a := A) (b := X) (by omega) hc; omega
    · intro h; have := mulm (show A ≤ X by omega) hc; omega
  · subst e
    constructor
    · intro h
      have := mulk (a := A) (b := X) (by omega) hc
      omega
    · intro h
      have := mull (show A < X by omega) hc
      omega
theorem scale' {c A X i : Int} (hc : 0 < c) (hi : i = 0 ∨ i = 1) : X * c ≤ A * c - i ↔ X ≤ A - i := by
  rcases hi with e | e
  · subst e
    constructor
    · intro h; have := mulc (a := X) (b := A) (by omega) hc; omega
    · intro h; have := mulm (show X ≤ A by omega) hc; omega
  · subst e
    constructor
    · intro h
      have := mulk (a := X) (b := A) (by omega) hc
      omega
    · intro h
      have := mull (show X < A by omega) hc
      omega
theorem hits_sc {per : Fr} {p : Int} {f l i : Int} (hp : 0 ≤ p) (hb : 0 < per.2) (hi : i = 0 ∨ i = 1) :
    Comes (f * ((frac p per.2).2 * per.2) + i) (l * ((frac p per.2).2 * per.2) - i) ((frac p per.2).1 * per.2) (per.1 * (frac p per.2).2) ↔ ∃ k : Int, 0 ≤ k ∧ f * per.2 + i ≤ p + k * per.1 ∧ p + k * per.1 ≤ l * per.2 - i := by
  obtain ⟨hc, e⟩ := frac_sc hp hb
  rw [e]
  generalize (frac p per.2).2 = c at *
  have ef : ∀ f : Int, f * (c * per.2) = f * per.2 * c := fun f => by rw [Int.mul_comm c, Int.mul_assoc]
  have ek : ∀ k : Int, p * c + k * (per.1 * c) = (p + k * per.1) * c := fun k => by rw [Int.add_mul, Int.mul_assoc]
  unfold Comes
  simp only [ef, ek, scale hc hi, scale' hc hi]
theorem hasMark_iff {per : Fr} {p : Int} {l : Lk} (hp : 0 ≤ p) (hb : 0 < per.2) (hr : 0 < per.1) : hasMark per (frac p per.2) l = true ↔ Hits per p l := by
  have hc := (frac_sc hp hb).1
  have hev : 0 < per.1 * (frac p per.2).2 := Int.mul_pos hr hc
  unfold hasMark Hits innOf
  simp only
  split
  · rw [← hits_sc hp hb (.inr rfl), comes_ceil hev, decide_eq_true_eq]
  · rw [← hits_sc hp hb (.inl rfl), comes_ceil hev, decide_eq_true_eq]
    simp only [Int.add_zero, Int.sub_zero]
theorem lawComes_iff {per : Fr} {p : Int} {f l i : Int} (hp : 0 ≤ p) (hb : 0 < per.2) (hr : 0 < per.1) (hi : i = 0 ∨ i = 1) : lawComes per (frac p per.2) f l i = true ↔ ∃ k : Int, 0 ≤ k ∧ f * per.2 + i ≤ p + k * per.1 ∧ p + k * per.1 ≤ l * per.2 - i := by
  have hc := (frac_sc hp hb).1
  have hev : 0 < per.1 * (frac p per.2).2 := Int.mul_pos hr hc
  unfold lawComes
  simp only
  rw [← hits_sc hp hb hi, comes_mod hev, decide_eq_true_eq]
/-! ### sliding -/
theorem last_end (p : Int) : ∀ (E : List Int), 0 ≤ p → ∃ q, (q = 0 ∨ q ∈ E) ∧ q ≤ p ∧ ∀ e ∈ E, e ≤ p → e ≤ q
  | [], h => ⟨0, .inl rfl, h, fun _ h => nomatch h⟩
  | e :: E, h => by
    obtain ⟨q, h1, h2, h3⟩ := last_end p E h
    by_cases c : e ≤ p ∧ q < e
    · refine ⟨e, .inr List.mem_cons_self, c.1, fun x hx hp => ?_⟩
      rcases List.mem_cons.mp hx with z | z
      · omega
      · have := h3 x z hp
        omega
    · refine ⟨q, h1.imp id (List.mem_cons_of_mem _), h2, fun x hx hp => ?_⟩
      rcases List.mem_cons.mp hx with z | z
      · subst z
        have : ¬ (q < x) := fun z => c ⟨hp, z⟩
        omega
      · exact h3 x z hp
theorem slide {per : Fr} {E : List Int} {lks : List Lk} (hr : 0 < per.1) (h0 : 0 ∈ E) (hE : ∀ e ∈ E, 0 ≤ e ∧ e < per.1) (hl : ∀ l ∈ lks, l.2.1 * per.2 % per.1 ∈ E ∧ l.2.2 * per.2 % per.1 ∈ E) {p : Int} (p0 : 0 ≤ p) (p1 : p < per.1) :
    ∃ q ∈ E, (∀ l ∈ lks, l.1 = ("mark" : Str) → Hits per p l → Hits per q l) ∧ ∀ l ∈ lks, l.1 = ("sound" : Str) → Hits per q l → Hits per p l := by
  obtain ⟨q, h1, h2, h3⟩ := last_end p E p0
  have hq : q ∈ E := h1.elim (fun z => z ▸ h0) id
  have hq0 := hE q hq
  refine ⟨q, hq, fun l hm hw => ?_, fun l hm hw => ?_⟩
  · rintro ⟨k, k0, k1, k2⟩
    have ei : innOf l = 0 := by
      unfold innOf
      rw [hw]
      decide
    rw [ei] at k1 k2
    refine ⟨k, k0, ?_, by rw [ei]; omega⟩
    rw [ei]
    have e0 := (hl l hm).1
    have d := dm (l.2.1 * per.2) per.1
    have e1 := h3 _ e0
    have e2 := hE _ e0
    generalize l.2.1 * per.2 % per.1 = e at *
    generalize l.2.1 * per.2 / per.1 = m at *
    rcases Int.lt_trichotomy k m with c | c | c
    · have := mulm (show k + 1 ≤ m by omega) hr
      rw [Int.add_mul] at this
      omega
    · subst c
      omega
    · have := mulm (show m + 1 ≤ k by omega) hr
      rw [Int.add_mul] at this
      omega
  · rintro ⟨k, k0, k1, k2⟩
    have ei : innOf l = 1 := by
      unfold innOf
      rw [if_pos hw]
    rw [ei] at k1 k2
    refine ⟨k, k0, by rw [ei]; omega, ?_⟩
    rw [ei]
    have e0 := (hl l hm).2
    have d := dm (l.2.2 * per.2) per.1
    have e1 := h3 _ e0
    have e2 := hE _ e0
    generalize l.2.2 * per.2 % per.1 = e at *
    generalize l.2.2 * per.2 / per.1 = m at *
    rcases Int.lt_trichotomy k m with c | c | c
    · have := mulm (show k + 1 ≤ m by omega) hr
      rw [Int.add_mul] at this
      omega
    · subst c
      omega
    · have := mulm (show m + 1 ≤ k by omega) hr
      rw [Int.add_mul] at this
      omega
end W92
set_option Elab.async false
set_option linter.all false
set_option maxHeartbeats 4000000
/-! which lots tell all looks -/
namespace W92
open PySem Gm
section
variable {α : Type}
def putAll (d xs : List (List Int × α)) : List (List Int × α) := xs.foldl (fun d x => putD d x.1 x.2) d
theorem putD_in {d : List (List Int × α)} {k : List Int} {v : α} {p : List Int × α} (h : p ∈ putD d k v) : p = (k, v) ∨ p ∈ d := by
  unfold putD at h
  split at h
  · obtain ⟨q, hq, e⟩ := List.mem_map.mp h
    split at e
    · rename_i e2
      exact .inl (by rw [← e, e2])
    · exact .inr (by rw [← e]; exact hq)
  · rcases List.mem_append.mp h with z | z
    · exact .inr z
    · exact .inl (List.mem_singleton.mp z)
theorem putD_keys' (d : List (List Int × α)) (k : List Int) (v : α) (j : List Int) : j ∈ (putD d k v).map (·.1) ↔ j = k ∨ j ∈ d.map (·.1) := by
  unfold putD
  split
  · rename_i h
    have e : (d.map fun p => if p.1 = k then (p.1, v) else p).map (·.1) = d.map (·.1) := by
      rw [List.map_map]
      refine List.map_congr_left fun p _ => ?_
      show (if p.1 = k then (p.1, v) else p).1 = p.1
      split <;> rfl
    rw [e]
    refine ⟨.inr, fun q => q.elim (fun z => ?_) id⟩
    obtain ⟨p, h1, h2⟩ := List.any_eq_true.mp h
    rw [z]
    exact List.mem_map.mpr ⟨p, h1, of_decide_eq_true h2⟩
  · rw [List.map_append, List.mem_append]
    simp [or_comm]
theorem putAll_in : ∀ {xs d : List (List Int × α)} {p : List Int × α}, p ∈ putAll d xs → p ∈ d ∨ p ∈ xs
  | [], d, p, h => .inl h
  | x :: xs, d, p, h => by
    rcases putAll_in (xs := xs) (d := putD d x.1 x.2) h with z | z
    · rcases putD_in z with y | y
      · exact .inr (by rw [y]; exact List.mem_cons_self)
      · exact .inl y
    · exact .inr (List.mem_cons_of_mem _ z)
theorem putAll_keys : ∀ (xs d : List (List Int × α)) (j : List Int), j ∈ (putAll d xs).map (·.1) ↔ j ∈ d.map (·.1) ∨ j ∈ xs.map (·.1)
  | [], d, j => by simp [putAll]
  | x :: xs, d, j => by
    have h := putAll_keys xs (putD d x.1 x.2) j
    show j ∈ (putAll (putD d x.1 x.2) xs).map (·.1) ↔ _
    rw [h, putD_keys', List.map_cons, List.mem_cons]
    constructor
    · rintro ((z | z) | z)
      · exact .inr (.inl z)
      · exact .inl z
      · exact .inr (.inr z)
    · rintro (z | z | z)
      · exact .inl (.inr z)
      · exact .inl (.inl z)
      · exact .inr z
theorem fold_putAll {β : Type} (g : β → List (List Int × α)) : ∀ (f : List β) (d : List (List Int × α)), f.foldl (fun d p => putAll d (g p)) d = putAll d (f.flatMap g)
  | [], d => rfl
  | p :: f, d => by
    rw [List.foldl_cons, fold_putAll g f, List.flatMap_cons]
    unfold putAll
    rw [List.foldl_append]
end
def perOf (tr : List Rl) (r : Int) : Fr := (periods tr).getD r.toNat z2
theorem waysOne_eq (lks : List Lk) (per : Fr) : waysOne lks per = putAll [] ((phasesOf per lks).map fun ph => (shownBy per ph lks, ph)) := by
  unfold waysOne putAll
  rw [List.foldl_map]
theorem tellOne_eq (ways : List (List (List Int × Fr))) (found : DS) (r : Int) : tellOne ways found r = putAll [] (found.flatMap fun p => (ways.getD r.toNat []).map fun w => (joined p.1 w.1, p.2 ++ [(r, w.2)])) := by
  rw [← fold_putAll]
  unfold tellOne
  congr 1
  funext d p
  unfold tellRow putAll
  rw [List.foldl_map]
  rfl
theorem ways_at {tr : List Rl} {lks : List Lk} {r : Int} (h0 : 0 ≤ r) (h1 : r < tr.length) : (waysOf tr lks).getD r.toNat [] = waysOne lks (perOf tr r) := by
  have hl : r.toNat < (periods tr).length := by rw [periods_len]; omega
  unfold waysOf perOf
  rw [List.getD_eq_getElem?_getD, List.getElem?_map, List.getD_eq_getElem?_getD, List.getElem?_eq_getElem hl]
  rfl
theorem way_in {tr : List Rl} {lks : List Lk} {per : Fr} {k : List Int} {ph : Fr} (h : (k, ph) ∈ waysOne lks per) : ph ∈ phasesOf per lks ∧ k = shownBy per ph lks := by
  rw [waysOne_eq] at h
  rcases putAll_in h with z | z
  · exact nomatch z
  · obtain ⟨q, h1, h2⟩ := List.mem_map.mp z
    cases h2
    exact ⟨h1, rfl⟩
theorem way_has {lks : List Lk} {per : Fr} {ph : Fr} (h : ph ∈ phasesOf per lks) : ∃ ph', (shownBy per ph lks, ph') ∈ waysOne lks per := by
  have z : shownBy per ph lks ∈ (waysOne lks per).map (·.1) := by
    rw [waysOne_eq, putAll_keys]
    refine .inr ?_
    rw [List.map_map]
    exact List.mem_map.mpr ⟨ph, h, rfl⟩
  obtain ⟨p, h1, h2⟩ := List.mem_map.mp z
  exact ⟨p.2, by rw [← h2]; exact h1⟩
theorem joined_mem (a b : List Int) (n : Int) : n ∈ joined a b ↔ n ∈ a ∨ n ∈ b := by
  unfold joined
  rw [sortU_mem, List.mem_append]
theorem joined_lt (a b : List Int) : (joined a b).Pairwise (· < ·) := sortU_lt _
/-- what a story of so many rollers shows -/
def Shows (tr : List Rl) (lks : List Lk) (st : List Dt) (k : List Int) : Prop := ∀ n, n ∈ k ↔ ∃ x ∈ st, n ∈ shownBy (perOf tr x.1) x.2 lks
structure TellInv (tr : List Rl) (lks : List Lk) (pre : List Int) (found : DS) : Prop where
  snd : ∀ p ∈ found, p.2.map (·.1) = pre ∧ (∀ x ∈ p.2, x.2 ∈ phasesOf (perOf tr x.1) lks) ∧ Shows tr lks p.2 p.1 ∧ p.1.Pairwise (· < ·)
  cmp : ∀ st : List Dt, st.map (·.1) = pre → (∀ x ∈ st, x.2 ∈ phasesOf (perOf tr x.1) lks) → ∃ p ∈ found, Shows tr lks st p.1
theorem tell_inv {tr : List Rl} {lks : List Lk} : ∀ (lot pre : List Int) (found : DS), (∀ r ∈ lot, 0 ≤ r ∧ r < tr.length) → TellInv tr lks pre found → TellInv tr lks (pre ++ lot) (lot.foldl (tellOne (waysOf tr lks)) found)
  | [], pre, found, _, h => by rw [List.append_nil]; exact h
  | r :: lot, pre, found, hl, h => by
    have hr := hl r List.mem_cons_self
    have ih := tell_inv (tr := tr) (lks := lks) lot (pre ++ [r]) (tellOne (waysOf tr lks) found r) (fun x hx => hl x (List.mem_cons_of_mem _ hx))
    rw [List.append_assoc] at ih
    refine ih ⟨fun p hp => ?_, fun st h1 h2 => ?_⟩
    · rw [tellOne_eq, ways_at hr.1 hr.2] at hp
      rcases putAll_in hp with z | z
      · exact nomatch z
      · obtain ⟨q, q1, q2⟩ := List.mem_flatMap.mp z
        obtain ⟨w, w1, rfl⟩ := List.mem_map.mp q2
        obtain ⟨a1, a2, a3, a4⟩ := h.snd q q1
        obtain ⟨b1, b2⟩ := way_in (tr := tr) (k := w.1) (ph := w.2) w1
        refine ⟨by rw [List.map_append, a1]; rfl, fun x hx => ?_, fun n => ?_, joined_lt _ _⟩
        · rcases List.mem_append.mp hx with y | y
          · exact a2 x y
          · rw [List.mem_singleton.mp y]
            exact b1
        · rw [joined_mem, a3 n]
          constructor
          · rintro (⟨x, x1, x2⟩ | y)
            · exact ⟨x, List.mem_append_left _ x1, x2⟩
            · exact ⟨(r, w.2), List.mem_append_right _ List.mem_cons_self, by rw [← b2]; exact y⟩
          · rintro ⟨x, x1, x2⟩
            rcases List.mem_append.mp x1 with y | y
            · exact .inl ⟨x, y, x2⟩
            · rw [List.mem_singleton.mp y] at x2
              exact .inr (by rw [b2]; exact x2)
    · have hne : st ≠ [] := by
        intro z
        rw [z] at h1
        have := congrArg List.length h1
        simp at this
      obtain ⟨st0, x, rfl⟩ : ∃ st0 x, st = st0 ++ [x] := ⟨st.dropLast, st.getLast hne, (List.dropLast_concat_getLast hne).symm⟩
      rw [List.map_append] at h1
      obtain ⟨e1, e2⟩ := List.append_inj' h1 (by simp)
      have ex : x.1 = r := by simpa using e2
      obtain ⟨p, p1, p2⟩ := h.cmp st0 e1 fun y hy => h2 y (List.mem_append_left _ hy)
      have hx := h2 x (List.mem_append_right _ List.mem_cons_self)
      obtain ⟨ph', hw⟩ := way_has hx
      have key : joined p.1 (shownBy (perOf tr x.1) x.2 lks) ∈ (tellOne (waysOf tr lks) found r).map (·.1) := by
        rw [tellOne_eq, ways_at hr.1 hr.2, putAll_keys]
        refine .inr (List.mem_map.mpr ⟨(joined p.1 (shownBy (perOf tr x.1) x.2 lks), p.2 ++ [(r, ph')]), List.mem_flatMap.mpr ⟨p, p1, List.mem_map.mpr ⟨(shownBy (perOf tr x.1) x.2 lks, ph'), ?_, rfl⟩⟩, rfl⟩)
        rw [← ex]
        exact hw
      obtain ⟨q, q1, q2⟩ := List.mem_map.mp key
      refine ⟨q, q1, fun n => ?_⟩
      rw [q2, joined_mem, p2 n]
      constructor
      · rintro (⟨y, y1, y2⟩ | y)
        · exact ⟨y, List.mem_append_left _ y1, y2⟩
        · exact ⟨x, List.mem_append_right _ List.mem_cons_self, y⟩
      · rintro ⟨y, y1, y2⟩
        rcases List.mem_append.mp y1 with z | z
        · exact .inl ⟨y, z, y2⟩
        · rw [List.mem_singleton.mp z] at y2
          exact .inr y2
theorem told_inv {tr : List Rl} {lks : List Lk} {lot : List Int} (hl : ∀ r ∈ lot, 0 ≤ r ∧ r < tr.length) : TellInv tr lks lot (toldBy (waysOf tr lks) lot) :=
  tell_inv lot [] [([], [])] hl ⟨fun p hp => by
    rw [List.mem_singleton.mp hp]
    exact ⟨rfl, (fun x hx => nomatch hx), fun n => ⟨fun h => (nomatch h), fun ⟨x, h, _⟩ => (nomatch h)⟩, List.Pairwise.nil⟩, fun st h1 h2 => ⟨([], []), List.mem_cons_self, fun n => by
    rw [List.map_eq_nil_iff.mp h1]
    exact ⟨fun h => (nomatch h), fun ⟨x, h, _⟩ => (nomatch h)⟩⟩⟩
theorem lt_ext : ∀ {a b : List Int}, a.Pairwise (· < ·) → b.Pairwise (· < ·) → (∀ n, n ∈ a ↔ n ∈ b) → a = b
  | [], [], _, _, _ => rfl
  | [], y :: b, _, _, h => absurd ((h y).mpr List.mem_cons_self) (by simp)
  | x :: a, [], _, _, h => absurd ((h x).mp List.mem_cons_self) (by simp)
  | x :: a, y :: b, ha, hb, h => by
    obtain ⟨a1, a2⟩ := List.pairwise_cons.mp ha
    obtain ⟨b1, b2⟩ := List.pairwise_cons.mp hb
    have e : x = y := by
      rcases List.mem_cons.mp ((h x).mp List.mem_cons_self) with z | z
      · exact z
      · rcases List.mem_cons.mp ((h y).mpr List.mem_cons_self) with w | w
        · exact w.symm
        · have := b1 x z
          have := a1 y w
          omega
    subst e
    rw [lt_ext a2 b2 fun n => ?_]
    constructor
    · intro hn
      rcases List.mem_cons.mp ((h n).mp (List.mem_cons_of_mem _ hn)) with z | z
      · have := a1 n hn
        omega
      · exact z
    · intro hn
      rcases List.mem_cons.mp ((h n).mpr (List.mem_cons_of_mem _ hn)) with z | z
      · have := b1 n hn
        omega
      · exact z
theorem num_lt (lk : List Lk) : (numMarks lk).Pairwise (· < ·) := by
  have h : (enumI lk).Pairwise fun p q => p.1 < q.1 := by
    unfold enumI
    rw [List.pairwise_map, List.pairwise_iff_getElem]
    intro i j hi hj hij
    simp
    omega
  unfold numMarks
  rw [List.pairwise_map]
  exact h.filter _
/-- so many rollers tell all looks -/
theorem told_iff {tr : List Rl} {lks : List Lk} {lot : List Int} (hl : ∀ r ∈ lot, 0 ≤ r ∧ r < tr.length) : numMarks lks ∈ (toldBy (waysOf tr lks) lot).map (·.1) ↔ ∃ st : List Dt, st.map (·.1) = lot ∧ (∀ x ∈ st, x.2 ∈ phasesOf (perOf tr x.1) lks) ∧ ∀ n ∈ numMarks lks, ∃ x ∈ st, n ∈ shownBy (perOf tr x.1) x.2 lks := by
  have I := told_inv (lks := lks) hl
  constructor
  · intro h
    obtain ⟨p, h1, h2⟩ := List.mem_map.mp h
    obtain ⟨a1, a2, a3, a4⟩ := I.snd p h1
    exact ⟨p.2, a1, a2, fun n hn => (a3 n).mp (by rw [h2]; exact hn)⟩
  · rintro ⟨st, h1, h2, h3⟩
    obtain ⟨p, p1, p2⟩ := I.cmp st h1 h2
    refine List.mem_map.mpr ⟨p, p1, lt_ext (I.snd p p1).2.2.2 (num_lt lks) fun n => ?_⟩
    rw [p2 n]
    constructor
    · rintro ⟨x, _, x2⟩
      unfold shownBy at x2
      exact (List.mem_filter.mp x2).1
    · exact h3 n
/-- one story of the lot -/
theorem told_story {tr : List Rl} {lks : List Lk} {lot : List Int} {st : List Dt} (hl : ∀ r ∈ lot, 0 ≤ r ∧ r < tr.length) (h : Gm.getD (toldBy (waysOf tr lks) lot) (numMarks lks) = some st) : st.map (·.1) = lot ∧ (∀ x ∈ st, x.2 ∈ phasesOf (perOf tr x.1) lks) ∧ ∀ n ∈ numMarks lks, ∃ x ∈ st, n ∈ shownBy (perOf tr x.1) x.2 lks := by
  have I := told_inv (lks := lks) hl
  unfold Gm.getD at h
  obtain ⟨p, h1, h2⟩ := Option.map_eq_some_iff.mp h
  obtain ⟨a1, a2, a3, a4⟩ := I.snd p (List.mem_of_find?_eq_some h1)
  have ek : p.1 = numMarks lks := of_decide_eq_true (List.find?_some h1 :)
  rw [h2] at a1 a2 a3
  exact ⟨a1, a2, fun n hn => (a3 n).mp (by rw [ek]; exact hn)⟩
/-! ### whole phases -/
/-- a lot whose rollers, with some whole phases, tell all looks -/
def OkLot (tr : List Rl) (lks : List Lk) (lot : List Int) : Prop := ∃ z : List (Int × Int), z.map (·.1) = lot ∧ (∀ x ∈ z, 0 ≤ x.2 ∧ x.2 < (perOf tr x.1).1 ∧ ∀ l ∈ lks, l.1 = ("sound" : Str) → ¬ Hits (perOf tr x.1) x.2 l) ∧ ∀ l ∈ lks, l.1 = ("mark" : Str) → ∃ x ∈ z, Hits (perOf tr x.1) x.2 l
theorem sound_iff {per : Fr} {p : Int} {lks : List Lk} (hp : 0 ≤ p) (hb : 0 < per.2) (hr : 0 < per.1) : isSound per (frac p per.2) lks = true ↔ ∀ l ∈ lks, l.1 = ("sound" : Str) → ¬ Hits per p l := by
  unfold isSound
  rw [Bool.not_eq_true', ← Bool.not_eq_true, List.any_map, List.any_eq_true]
  constructor
  · intro h l hl hs hh
    exact h ⟨l, List.mem_filter.mpr ⟨hl, decide_eq_true hs⟩, (hasMark_iff hp hb hr).mpr hh⟩
  · rintro h ⟨l, h1, h2⟩
    obtain ⟨h3, h4⟩ := List.mem_filter.mp h1
    exact h l h3 (of_decide_eq_true h4) ((hasMark_iff hp hb hr).mp h2)
theorem ends_gen (per : Fr) : ∀ (lk : List Lk) (f : List Int) (e : Int), e ∈ lk.foldl (fun e l => putM (putM e (l.2.1 * per.2 % per.1)) (l.2.2 * per.2 % per.1)) f ↔ e ∈ f ∨ ∃ l ∈ lk, e = l.2.1 * per.2 % per.1 ∨ e = l.2.2 * per.2 % per.1
  | [], f, e => by simp
  | l :: lk, f, e => by
    rw [List.foldl_cons, ends_gen per lk, putM_mem, putM_mem]
    constructor
    · rintro (((z | z) | z) | ⟨x, x1, x2⟩)
      · exact .inl z
      · exact .inr ⟨l, List.mem_cons_self, .inl z⟩
      · exact .inr ⟨l, List.mem_cons_self, .inr z⟩
      · exact .inr ⟨x, List.mem_cons_of_mem _ x1, x2⟩
    · rintro (z | ⟨x, x1, x2⟩)
      · exact .inl (.inl (.inl z))
      · rcases List.mem_cons.mp x1 with w | w
        · subst w
          rcases x2 with z | z
          · exact .inl (.inl (.inr z))
          · exact .inl (.inr z)
        · exact .inr ⟨x, w, x2⟩
theorem phases_mem {per : Fr} (hq : PerOk per) {lks : List Lk} {ph : Fr} : ph ∈ phasesOf per lks ↔ ∃ p ∈ endsOf per lks, ph = frac p per.2 ∧ ∀ l ∈ lks, l.1 = ("sound" : Str) → ¬ Hits per p l := by
  have hr : 0 < per.1 := Int.lt_of_lt_of_le hq.2.2.1 hq.1
  unfold phasesOf
  rw [List.mem_filter]
  constructor
  · rintro ⟨h1, h2⟩
    obtain ⟨e, e1, rfl⟩ := List.mem_map.mp h1
    have e2 := (sortI_perm _).mem_iff.mp e1
    exact ⟨e, e2, rfl, (sound_iff (ends_b hq lks e e2).1 hq.2.2.1 hr).mp h2⟩
  · rintro ⟨p, p1, rfl, p2⟩
    exact ⟨List.mem_map.mpr ⟨p, (sortI_perm _).mem_iff.mpr p1, rfl⟩, (sound_iff (ends_b hq lks p p1).1 hq.2.2.1 hr).mpr p2⟩
theorem shown_mem {per : Fr} (hq : PerOk per) {lks : List Lk} {p : Int} (hp : 0 ≤ p) {n : Int} : n ∈ shownBy per (frac p per.2) lks ↔ ∃ (i : Nat) (l : Lk), n = i ∧ lks[i]? = some l ∧ l.1 = ("mark" : Str) ∧ Hits per p l := by
  have hr : 0 < per.1 := Int.lt_of_lt_of_le hq.2.2.1 hq.1
  unfold shownBy
  rw [List.mem_filter, num_mem]
  constructor
  · rintro ⟨⟨i, l, rfl, h1, h2⟩, h3⟩
    rw [show ((i : Int)).toNat = i by omega, List.getD_eq_getElem?_getD, h1] at h3
    exact ⟨i, l, rfl, h1, h2, (hasMark_iff hp hq.2.2.1 hr).mp h3⟩
  · rintro ⟨i, l, rfl, h1, h2, h3⟩
    refine ⟨⟨i, l, rfl, h1, h2⟩, ?_⟩
    rw [show ((i : Int)).toNat = i by omega, List.getD_eq_getElem?_getD, h1]
    exact (hasMark_iff hp hq.2.2.1 hr).mpr h3
/-- item by item something can be found -/
theorem pick_all {α β : Type} {P : α → β → Prop} : ∀ (xs : List α), (∀ x ∈ xs, ∃ y, P x y) → ∃ f : α → Option β, ∀ x ∈ xs, ∃ y, f x = some y ∧ P x y
  | xs, h => by
    classical
    exact ⟨fun x => if q : ∃ y, P x y then some q.choose else none, fun x hx => ⟨(h x hx).choose, dif_pos (h x hx), (h x hx).choose_spec⟩⟩
theorem ok_iff {tr : List Rl} (ht : TrOk tr) {lks : List Lk} {lot : List Int} (hl : ∀ r ∈ lot, 0 ≤ r ∧ r < tr.length) : numMarks lks ∈ (toldBy (waysOf tr lks) lot).map (·.1) ↔ OkLot tr lks lot := by
  rw [told_iff hl]
  constructor
  · rintro ⟨st, h1, h2, h3⟩
    have hst : ∀ x ∈ st, 0 ≤ x.1 ∧ x.1 < tr.length := fun x hx => hl x.1 (by rw [← h1]; exact List.mem_map.mpr ⟨x, hx, rfl⟩)
    have hq : ∀ x ∈ st, PerOk (perOf tr x.1) := fun x hx => per_getD ht (hst x hx).1 (hst x hx).2
    obtain ⟨f, hf⟩ := pick_all (P := fun (x : Dt) (p : Int) => p ∈ endsOf (perOf tr x.1) lks ∧ x.2 = frac p (perOf tr x.1).2 ∧ ∀ l ∈ lks, l.1 = ("sound" : Str) → ¬ Hits (perOf tr x.1) p l) st fun x hx => by
      obtain ⟨p, p1, p2, p3⟩ := (phases_mem (hq x hx)).mp (h2 x hx)
      exact ⟨p, p1, p2, p3⟩
    refine ⟨st.map fun x => (x.1, (f x).getD 0), by rw [List.map_map]; exact h1, fun y hy => ?_, fun l hm hw => ?_⟩
    · obtain ⟨x, hx, rfl⟩ := List.mem_map.mp hy
      obtain ⟨p, e, p1, p2, p3⟩ := hf x hx
      simp only [e, Option.getD_some]
      obtain ⟨b1, b2⟩ := ends_b (hq x hx) lks p p1
      exact ⟨b1, b2, p3⟩
    · obtain ⟨i, hi⟩ := List.getElem?_of_mem hm
      obtain ⟨x, hx, hn⟩ := h3 (i : Int) (num_mem.mpr ⟨i, l, rfl, hi, hw⟩)
      obtain ⟨p, e, p1, p2, p3⟩ := hf x hx
      rw [p2] at hn
      obtain ⟨i', l', e1, e2, e3, e4⟩ := (shown_mem (hq x hx) (ends_b (hq x hx) lks p p1).1).mp hn
      have : i' = i := by omega
      subst this
      rw [hi] at e2
      cases e2
      refine ⟨_, List.mem_map.mpr ⟨x, hx, rfl⟩, ?_⟩
      simp only [e, Option.getD_some]
      exact e4
  · rintro ⟨z, h1, h2, h3⟩
    have hst : ∀ x ∈ z, 0 ≤ x.1 ∧ x.1 < tr.length := fun x hx => hl x.1 (by rw [← h1]; exact List.mem_map.mpr ⟨x, hx, rfl⟩)
    have hq : ∀ x ∈ z, PerOk (perOf tr x.1) := fun x hx => per_getD ht (hst x hx).1 (hst x hx).2
    obtain ⟨f, hf⟩ := pick_all (P := fun (x : Int × Int) (q : Int) => q ∈ endsOf (perOf tr x.1) lks ∧ (∀ l ∈ lks, l.1 = ("mark" : Str) → Hits (perOf tr x.1) x.2 l → Hits (perOf tr x.1) q l) ∧ ∀ l ∈ lks, l.1 = ("sound" : Str) → ¬ Hits (perOf tr x.1) q l) z fun x hx => by
      obtain ⟨p0, p1, p2⟩ := h2 x hx
      obtain ⟨q, q1, q2, q3⟩ := slide (per := perOf tr x.1) (E := endsOf (perOf tr x.1) lks) (lks := lks) (Int.lt_of_lt_of_le (hq x hx).2.2.1 (hq x hx).1) ((ends_gen _ _ _ _).mpr (.inl List.mem_cons_self)) (ends_b (hq x hx) lks) (fun l hl => ⟨(ends_gen _ _ _ _).mpr (.inr ⟨l, hl, .inl rfl⟩), (ends_gen _ _ _ _).mpr (.inr ⟨l, hl, .inr rfl⟩)⟩) p0 p1
      exact ⟨q, q1, q2, fun l hl hs hh => p2 l hl hs (q3 l hl hs hh)⟩
    refine ⟨z.map fun x => (x.1, frac ((f x).getD 0) (perOf tr x.1).2), by rw [List.map_map]; exact h1, fun y hy => ?_, fun n hn => ?_⟩
    · obtain ⟨x, hx, rfl⟩ := List.mem_map.mp hy
      obtain ⟨p, e, p1, p2, p3⟩ := hf x hx
      simp only [e, Option.getD_some]
      exact (phases_mem (hq x hx)).mpr ⟨p, p1, rfl, p3⟩
    · obtain ⟨i, l, rfl, hi, hw⟩ := num_mem.mp hn
      obtain ⟨x, hx, hh⟩ := h3 l (List.mem_of_getElem? hi) hw
      obtain ⟨p, e, p1, p2, p3⟩ := hf x hx
      refine ⟨_, List.mem_map.mpr ⟨x, hx, rfl⟩, ?_⟩
      simp only [e, Option.getD_some]
      exact (shown_mem (hq x hx) (ends_b (hq x hx) lks p p1).1).mpr ⟨i, l, rfl, hi, hw, p2 l (List.mem_of_getElem? hi) hw hh⟩
theorem OkLot.cong {tr : List Rl} {lks lks' : List Lk} {lot : List Int} (h : ∀ l, l ∈ lks ↔ l ∈ lks') : OkLot tr lks lot ↔ OkLot tr lks' lot := by
  unfold OkLot
  simp only [h]
end W92
set_option Elab.async false
set_option linter.all false
set_option maxHeartbeats 4000000
/-! the fewest rollers of a story, and words of pieces -/
namespace W92
open PySem Gm
theorem lots_in {many : Int} (h4 : many ≤ 4) {n : Nat} {l : List Int} (h : l ∈ lotsOf many n) : ∀ r ∈ l, 0 ≤ r ∧ r < many := ((lots_ok h4 n).2 l h).2
theorem lots_lt {many : Int} (h4 : many ≤ 4) : ∀ (n : Nat), ∀ l ∈ lotsOf many n, l.Pairwise (· < ·)
  | 0, l, hl => by
    rw [List.mem_singleton.mp hl]
    exact List.Pairwise.nil
  | n + 1, l, hl => by
    obtain ⟨l0, m0, hl2⟩ := List.mem_flatMap.mp hl
    have ih := lots_lt h4 n l0 m0
    unfold lotRow at hl2
    obtain ⟨o, ho, rfl⟩ := List.mem_map.mp hl2
    unfold rng at ho
    obtain ⟨i, hi, rfl⟩ := List.mem_map.mp ho
    rw [List.pairwise_append]
    refine ⟨ih, List.pairwise_singleton _ _, fun a ha b hb => ?_⟩
    rw [List.mem_singleton.mp hb]
    have hne : l0 ≠ [] := fun z => by
      rw [z] at ha
      exact nomatch ha
    rw [if_neg hne]
    have : a ≤ l0.getLastD 0 := by
      rw [List.getLastD_eq_getLast?, List.getLast?_eq_some_getLast hne]
      show a ≤ l0.getLast hne
      rw [← List.dropLast_concat_getLast hne, List.pairwise_append] at ih
      rw [← List.dropLast_concat_getLast hne] at ha
      rcases List.mem_append.mp ha with z | z
      · have := ih.2.2 a z _ List.mem_cons_self
        omega
      · rw [List.mem_singleton.mp z]
        exact Int.le_refl _
    omega
/-- a rising list of so many numbers is such a lot -/
theorem lots_has {many : Int} : ∀ (n : Nat) (l : List Int), l.length = n → l.Pairwise (· < ·) → (∀ r ∈ l, 0 ≤ r ∧ r < many) → l ∈ lotsOf many n
  | 0, l, h, _, _ => by
    rw [List.eq_nil_of_length_eq_zero h]
    exact List.mem_cons_self
  | n + 1, l, h, hp, hb => by
    have hne : l ≠ [] := fun z => by
      rw [z] at h
      cases h
    obtain ⟨l0, o, rfl⟩ : ∃ l0 o, l = l0 ++ [o] := ⟨l.dropLast, l.getLast hne, (List.dropLast_concat_getLast hne).symm⟩
    rw [List.pairwise_append] at hp
    refine List.mem_flatMap.mpr ⟨l0, lots_has n l0 (by rw [List.length_append] at h; simp at h; exact h) hp.1 fun r hr => hb r (List.mem_append_left _ hr), ?_⟩
    have ho := hb o (List.mem_append_right _ List.mem_cons_self)
    have hlo : (if l0 = [] then (0 : Int) else l0.getLastD 0 + 1) ≤ o := by
      split
      · exact ho.1
      · rename_i q
        have : l0.getLastD 0 < o := by
          rw [List.getLastD_eq_getLast?, List.getLast?_eq_some_getLast q]
          exact hp.2.2 _ (List.getLast_mem q) o List.mem_cons_self
        omega
    unfold lotRow
    refine List.mem_map.mpr ⟨o, ?_, rfl⟩
    generalize (if l0 = [] then (0 : Int) else l0.getLastD 0 + 1) = lo at *
    unfold rng
    exact List.mem_map.mpr ⟨(o - lo).toNat, List.mem_range.mpr (by omega), by omega⟩
/-! ### sizes -/
def HasAt (tr : List Rl) (lks : List Lk) (s : Nat) : Prop := ∃ lot ∈ lotsOf tr.length s, OkLot tr lks lot
theorem lotStep_eq (ways) (wanted : List Int) (d : DS) (lot : List Int) : lotStep ways wanted d lot = match Gm.getD (toldBy ways lot) wanted with
  | some st => putD d lot st
  | none => d := rfl
theorem sizeFold {ways} {wanted : List Int} : ∀ (ls : List (List Int)) (d : DS), (∀ p ∈ ls.foldl (lotStep ways wanted) d, p ∈ d ∨ (p.1 ∈ ls ∧ Gm.getD (toldBy ways p.1) wanted = some p.2)) ∧ ∀ j, j ∈ (ls.foldl (lotStep ways wanted) d).map (·.1) ↔ j ∈ d.map (·.1) ∨ (j ∈ ls ∧ wanted ∈ (toldBy ways j).map (·.1))
  | [], d => ⟨fun p hp => .inl hp, fun j => ⟨.inl, fun h => h.elim id fun z => nomatch z.1⟩⟩
  | l :: ls, d => by
    rw [List.foldl_cons]
    obtain ⟨h1, h2⟩ := sizeFold ls (lotStep ways wanted d l)
    constructor
    · intro p hp
      rcases h1 p hp with z | z
      · rw [lotStep_eq] at z
        split at z
        · rename_i st hst
          rcases putD_in z with w | w
          · exact .inr ⟨by rw [w]; exact List.mem_cons_self, by rw [w]; exact hst⟩
          · exact .inl w
        · exact .inl z
      · exact .inr ⟨List.mem_cons_of_mem _ z.1, z.2⟩
    · intro j
      rw [h2 j]
      have hk : j ∈ (lotStep ways wanted d l).map (·.1) ↔ j ∈ d.map (·.1) ∨ (j = l ∧ wanted ∈ (toldBy ways j).map (·.1)) := by
        rw [lotStep_eq]
        split
        · rename_i st hst
          rw [putD_keys']
          have hin : wanted ∈ (toldBy ways l).map (·.1) := getD_some_iff.mp (by rw [hst]; rfl)
          constructor
          · rintro (z | z)
            · exact .inr ⟨z, by rw [z]; exact hin⟩
            · exact .inl z
          · rintro (z | z)
            · exact .inr z
            · exact .inl z.1
        · rename_i hst
          refine ⟨.inl, fun z => z.elim id fun w => ?_⟩
          rw [w.1] at w
          have := getD_some_iff.mpr w.2
          rw [hst] at this
          cases this
      rw [hk]
      constructor
      · rintro ((z | z) | z)
        · exact .inl z
        · exact .inr ⟨by rw [z.1]; exact List.mem_cons_self, z.2⟩
        · exact .inr ⟨List.mem_cons_of_mem _ z.1, z.2⟩
      · rintro (z | ⟨z1, z2⟩)
        · exact .inl (.inl z)
        · rcases List.mem_cons.mp z1 with w | w
          · exact .inl (.inr ⟨w, z2⟩)
          · exact .inr ⟨w, z2⟩
theorem size_empty {tr : List Rl} (ht : TrOk tr) (lks : List Lk) (s : Nat) : (sizeSt tr lks s).isEmpty = false ↔ HasAt tr lks s := by
  have h4 : (tr.length : Int) ≤ 4 := by have := ht.2.1; omega
  obtain ⟨h1, h2⟩ := sizeFold (ways := waysOf tr lks) (wanted := numMarks lks) (lotsOf tr.length s) []
  constructor
  · intro h
    cases e : sizeSt tr lks s with
    | nil =>
      rw [e] at h
      cases h
    | cons p t =>
      have hp : p ∈ sizeSt tr lks s := by rw [e]; exact List.mem_cons_self
      rcases (h2 p.1).mp (List.mem_map.mpr ⟨p, hp, rfl⟩) with z | z
      · exact nomatch z
      · exact ⟨p.1, z.1, (ok_iff ht (lots_in h4 z.1)).mp z.2⟩
  · rintro ⟨lot, hl, ho⟩
    have hk := (h2 lot).mpr (.inr ⟨hl, (ok_iff ht (lots_in h4 hl)).mpr ho⟩)
    obtain ⟨p, hp, _⟩ := List.mem_map.mp hk
    have hp2 : p ∈ sizeSt tr lks s := hp
    cases e : sizeSt tr lks s with
    | nil =>
      rw [e] at hp2
      cases hp2
    | cons p t => rfl
structure FewIs (tr : List Rl) (lks : List Lk) (s : Nat) : Prop where
  le : s ≤ tr.length
  has : HasAt tr lks s
  min : ∀ t, t < s → ¬ HasAt tr lks t
theorem few_none {tr : List Rl} (ht : TrOk tr) {lks : List Lk} (h : fewestBy tr lks = none) : ∀ s, s ≤ tr.length → ¬ HasAt tr lks s := by
  rcases stories_cases tr lks with ⟨e, h1⟩ | ⟨j, h1, h2, h3, e⟩
  · intro s hs hh
    have := (size_empty ht lks s).mpr hh
    rw [h1 s (by omega)] at this
    cases this
  · exfalso
    unfold fewestBy at h
    simp only at h
    split at h
    · rename_i z
      rw [e] at z
      have := (sortT_perm ((sizeSt tr lks j).map (·.1))).length_eq
      rw [z, List.length_map] at this
      rw [List.eq_nil_of_length_eq_zero this.symm] at h3
      cases h3
    · cases h
theorem few_some {tr : List Rl} (ht : TrOk tr) {lks : List Lk} {p : Int × List (List Int)} (h : fewestBy tr lks = some p) : ∃ s : Nat, p.1 = s ∧ FewIs tr lks s := by
  have h4 := ht.2.1
  rcases stories_cases tr lks with ⟨e, h1⟩ | ⟨j, h1, h2, h3, e⟩
  · exfalso
    unfold fewestBy at h
    simp only [e] at h
    rw [if_pos (List.eq_nil_of_length_eq_zero (by rw [(sortT_perm _).length_eq]; rfl))] at h
    cases h
  · refine ⟨j, ?_, h1, (size_empty ht lks j).mp h3, fun t hlt hh => ?_⟩
    · unfold fewestBy at h
      simp only [e] at h
      split at h
      · cases h
      · rename_i hne
        cases h
        have hm : (sortT ((sizeSt tr lks j).map (·.1))).getD 0 [] ∈ sortT ((sizeSt tr lks j).map (·.1)) := by
          have hl := List.length_pos_iff.mpr hne
          rw [List.getD_eq_getElem?_getD, List.getElem?_eq_getElem hl]
          exact List.getElem_mem hl
        obtain ⟨q, q1, q2⟩ := List.mem_map.mp ((sortT_perm _).mem_iff.mp hm)
        have b := (sizeSt_b tr lks h4 j (lotsOf tr.length j).length).2
        rw [List.take_length] at b
        have := b q q1
        show (((sortT ((sizeSt tr lks j).map (·.1))).getD 0 []).length : Int) = j
        rw [← q2]
        omega
    · have := (size_empty ht lks t).mpr hh
      rw [h2 t hlt] at this
      cases this
theorem few_isSome {tr : List Rl} (ht : TrOk tr) {lks : List Lk} : (fewestBy tr lks).isSome = true ↔ ∃ s, s ≤ tr.length ∧ HasAt tr lks s := by
  cases e : fewestBy tr lks with
  | none =>
    constructor
    · intro h
      cases h
    · rintro ⟨s, h1, h2⟩
      exact absurd h2 (few_none ht e s h1)
  | some p =>
    obtain ⟨s, _, h⟩ := few_some ht e
    exact ⟨fun _ => ⟨s, h.le, h.has⟩, fun _ => rfl⟩
theorem FewIs.uniq {tr : List Rl} {lks : List Lk} {s t : Nat} (h : FewIs tr lks s) (k : FewIs tr lks t) : s = t := by
  rcases Nat.lt_trichotomy s t with c | c | c
  · exact absurd h.has (k.min s c)
  · exact c
  · exact absurd k.has (h.min t c)
theorem few_n {tr : List Rl} (ht : TrOk tr) {lks : List Lk} (h : (fewestBy tr lks).isSome = true) : ∃ s : Nat, fewN tr lks = s ∧ FewIs tr lks s := by
  cases e : fewestBy tr lks with
  | none =>
    rw [e] at h
    cases h
  | some p =>
    obtain ⟨s, h1, h2⟩ := few_some ht e
    exact ⟨s, by unfold fewN; rw [e]; exact h1, h2⟩
theorem HasAt.cong {tr : List Rl} {lks lks' : List Lk} {s : Nat} (h : ∀ l, l ∈ lks ↔ l ∈ lks') : HasAt tr lks s ↔ HasAt tr lks' s := by
  unfold HasAt
  simp only [OkLot.cong h]
theorem OkLot.sub {tr : List Rl} {lks lks' : List Lk} {lot : List Int} (h : ∀ l ∈ lks, l ∈ lks') (k : OkLot tr lks' lot) : OkLot tr lks lot := by
  obtain ⟨z, z1, z2, z3⟩ := k
  exact ⟨z, z1, fun x hx => ⟨(z2 x hx).1, (z2 x hx).2.1, fun l hl => (z2 x hx).2.2 l (h l hl)⟩, fun l hl => z3 l (h l hl)⟩
theorem FewIs.cong {tr : List Rl} {lks lks' : List Lk} {s : Nat} (h : ∀ l, l ∈ lks ↔ l ∈ lks') (k : FewIs tr lks s) : FewIs tr lks' s :=
  ⟨k.le, (HasAt.cong h).mp k.has, fun t ht hh => k.min t ht ((HasAt.cong h).mpr hh)⟩
theorem may_iff {tr : List Rl} (ht : TrOk tr) {lks : List Lk} {s : Nat} (h : FewIs tr lks s) (l : Lk) : mayBe tr lks (s : Int) l = true ↔ HasAt tr (lks ++ [l]) s := by
  unfold mayBe
  cases e : fewestBy tr (lks ++ [l]) with
  | none =>
    constructor
    · intro h
      cases h
    · intro hh
      exact absurd hh (few_none ht e s h.le)
  | some p =>
    obtain ⟨t, h1, h2⟩ := few_some ht e
    show decide (p.1 = (s : Int)) = true ↔ _
    rw [decide_eq_true_eq, h1]
    constructor
    · intro q
      have : t = s := by omega
      rw [← this]
      exact h2.has
    · intro hh
      have a : ¬ s < t := fun c => h2.min s c hh
      have b : ¬ t < s := fun c => by
        obtain ⟨lot, m, o⟩ := h2.has
        exact h.min t c ⟨lot, m, o.sub fun x hx => List.mem_append_left _ hx⟩
      omega
/-! ### pieces -/
abbrev mk (p : Fr) : Lk := ("mark", p.1, p.2)
abbrev sd (p : Fr) : Lk := ("sound", p.1, p.2)
theorem hits_mk {per : Fr} {p : Int} {q : Fr} : Hits per p (mk q) ↔ ∃ k : Int, 0 ≤ k ∧ q.1 * per.2 ≤ p + k * per.1 ∧ p + k * per.1 ≤ q.2 * per.2 := by
  have e : innOf (mk q) = 0 := by unfold innOf; exact if_neg (show ¬ ("mark" : Str) = "sound" by decide)
  unfold Hits
  rw [e]
  simp only [Int.add_zero, Int.sub_zero]
theorem hits_sd {per : Fr} {p : Int} {q : Fr} : Hits per p (sd q) ↔ ∃ k : Int, 0 ≤ k ∧ q.1 * per.2 < p + k * per.1 ∧ p + k * per.1 < q.2 * per.2 := by
  have e : innOf (sd q) = 1 := by unfold innOf; exact if_pos rfl
  unfold Hits
  rw [e]
  constructor
  · rintro ⟨k, a, b, c⟩
    exact ⟨k, a, Int.lt_of_add_one_le b, Int.lt_of_le_sub_one c⟩
  · rintro ⟨k, a, b, c⟩
    exact ⟨k, a, b, Int.le_sub_one_of_lt c⟩
theorem hits_sd_mk {per : Fr} {p : Int} {q : Fr} (h : Hits per p (sd q)) : Hits per p (mk q) := by
  obtain ⟨k, a, b, c⟩ := hits_sd.mp h
  exact hits_mk.mpr ⟨k, a, Int.le_of_lt b, Int.le_of_lt c⟩
theorem hits_mk_in {per : Fr} (hb : 0 < per.2) {p : Int} {o q : Fr} (h1 : o.1 ≤ q.1) (h2 : q.2 ≤ o.2) (h : Hits per p (mk q)) : Hits per p (mk o) := by
  obtain ⟨k, a, b, c⟩ := hits_mk.mp h
  exact hits_mk.mpr ⟨k, a, Int.le_trans (mulm h1 hb) b, Int.le_trans c (mulm h2 hb)⟩
theorem hits_sd_in {per : Fr} (hb : 0 < per.2) {p : Int} {o q : Fr} (h1 : o.1 ≤ q.1) (h2 : q.2 ≤ o.2) (h : Hits per p (sd q)) : Hits per p (sd o) := by
  obtain ⟨k, a, b, c⟩ := hits_sd.mp h
  exact hits_sd.mpr ⟨k, a, Int.lt_of_le_of_lt (mulm h1 hb) b, Int.lt_of_lt_of_le c (mulm h2 hb)⟩
theorem mem_snoc {lks : List Lk} {l x : Lk} : x ∈ lks ++ [l] ↔ x ∈ lks ∨ x = l := by
  rw [List.mem_append, List.mem_singleton]
/-- one mark look more -/
theorem ok_mk {tr : List Rl} {lks : List Lk} {lot : List Int} {q : Fr} : OkLot tr (lks ++ [mk q]) lot ↔ ∃ z : List (Int × Int), z.map (·.1) = lot ∧ (∀ x ∈ z, 0 ≤ x.2 ∧ x.2 < (perOf tr x.1).1 ∧ ∀ l ∈ lks, l.1 = ("sound" : Str) → ¬ Hits (perOf tr x.1) x.2 l) ∧ (∀ l ∈ lks, l.1 = ("mark" : Str) → ∃ x ∈ z, Hits (perOf tr x.1) x.2 l) ∧ ∃ x ∈ z, Hits (perOf tr x.1) x.2 (mk q) := by
  constructor
  · rintro ⟨z, z1, z2, z3⟩
    exact ⟨z, z1, fun x hx => ⟨(z2 x hx).1, (z2 x hx).2.1, fun l hl => (z2 x hx).2.2 l (mem_snoc.mpr (.inl hl))⟩, fun l hl => z3 l (mem_snoc.mpr (.inl hl)), z3 _ (mem_snoc.mpr (.inr rfl)) rfl⟩
  · rintro ⟨z, z1, z2, z3, z4⟩
    refine ⟨z, z1, fun x hx => ⟨(z2 x hx).1, (z2 x hx).2.1, fun l hl hs => ?_⟩, fun l hl hw => ?_⟩
    · rcases mem_snoc.mp hl with y | y
      · exact (z2 x hx).2.2 l y hs
      · rw [y] at hs
        exact absurd (show ("mark" : Str) = "sound" from hs) (by decide)
    · rcases mem_snoc.mp hl with y | y
      · exact z3 l y hw
      · rw [y]
        exact z4
theorem ok_sd {tr : List Rl} {lks : List Lk} {lot : List Int} {q : Fr} : OkLot tr (lks ++ [sd q]) lot ↔ ∃ z : List (Int × Int), z.map (·.1) = lot ∧ (∀ x ∈ z, 0 ≤ x.2 ∧ x.2 < (perOf tr x.1).1 ∧ ∀ l ∈ lks, l.1 = ("sound" : Str) → ¬ Hits (perOf tr x.1) x.2 l) ∧ (∀ l ∈ lks, l.1 = ("mark" : Str) → ∃ x ∈ z, Hits (perOf tr x.1) x.2 l) ∧ ∀ x ∈ z, ¬ Hits (perOf tr x.1) x.2 (sd q) := by
  constructor
  · rintro ⟨z, z1, z2, z3⟩
    exact ⟨z, z1, fun x hx => ⟨(z2 x hx).1, (z2 x hx).2.1, fun l hl => (z2 x hx).2.2 l (mem_snoc.mpr (.inl hl))⟩, fun l hl => z3 l (mem_snoc.mpr (.inl hl)), fun x hx => (z2 x hx).2.2 _ (mem_snoc.mpr (.inr rfl)) rfl⟩
  · rintro ⟨z, z1, z2, z3, z4⟩
    refine ⟨z, z1, fun x hx => ⟨(z2 x hx).1, (z2 x hx).2.1, fun l hl hs => ?_⟩, fun l hl hw => ?_⟩
    · rcases mem_snoc.mp hl with y | y
      · exact (z2 x hx).2.2 l y hs
      · rw [y]
        exact z4 x hx
    · rcases mem_snoc.mp hl with y | y
      · exact z3 l y hw
      · rw [y] at hw
        exact absurd (show ("sound" : Str) = "mark" from hw) (by decide)
theorem z_per {tr : List Rl} (ht : TrOk tr) {s : Nat} {lot : List Int} (hl : lot ∈ lotsOf tr.length s) {z : List (Int × Int)} (e : z.map (·.1) = lot) : ∀ x ∈ z, PerOk (perOf tr x.1) := fun x hx => by
  have h4 : (tr.length : Int) ≤ 4 := by have := ht.2.1; omega
  have h := lots_in h4 hl x.1 (by rw [← e]; exact List.mem_map.mpr ⟨x, hx, rfl⟩)
  exact per_getD ht h.1 h.2
section
variable {tr : List Rl} {lks : List Lk} {s : Nat}
theorem at_more (h : HasAt tr lks s) (q : Fr) (n : ¬ HasAt tr (lks ++ [mk q]) s) : HasAt tr (lks ++ [sd q]) s := by
  obtain ⟨lot, hl, z, z1, z2, z3⟩ := h
  refine ⟨lot, hl, ok_sd.mpr ⟨z, z1, z2, z3, fun x hx hh => n ⟨lot, hl, ok_mk.mpr ⟨z, z1, z2, z3, x, hx, hits_sd_mk hh⟩⟩⟩⟩
theorem at_mk_in (ht : TrOk tr) {o q : Fr} (h1 : o.1 ≤ q.1) (h2 : q.2 ≤ o.2) (h : HasAt tr (lks ++ [mk q]) s) : HasAt tr (lks ++ [mk o]) s := by
  obtain ⟨lot, hl, k⟩ := h
  obtain ⟨z, z1, z2, z3, x, hx, z4⟩ := ok_mk.mp k
  exact ⟨lot, hl, ok_mk.mpr ⟨z, z1, z2, z3, x, hx, hits_mk_in (z_per ht hl z1 x hx).2.2.1 h1 h2 z4⟩⟩
theorem at_sd_in (ht : TrOk tr) {o q : Fr} (h1 : o.1 ≤ q.1) (h2 : q.2 ≤ o.2) (h : HasAt tr (lks ++ [sd o]) s) : HasAt tr (lks ++ [sd q]) s := by
  obtain ⟨lot, hl, k⟩ := h
  obtain ⟨z, z1, z2, z3, z4⟩ := ok_sd.mp k
  exact ⟨lot, hl, ok_sd.mpr ⟨z, z1, z2, z3, fun x hx hh => z4 x hx (hits_sd_in (z_per ht hl z1 x hx).2.2.1 h1 h2 hh)⟩⟩
end
/-! ### words -/
section
variable {tr : List Rl} {lks : List Lk}
abbrev MayM (tr : List Rl) (lks : List Lk) (q : Fr) : Bool := mayBe tr lks (fewN tr lks) (mk q)
abbrev MayS (tr : List Rl) (lks : List Lk) (q : Fr) : Bool := mayBe tr lks (fewN tr lks) (sd q)
theorem mayM_iff (ht : TrOk tr) (h : (fewestBy tr lks).isSome = true) : ∃ s : Nat, FewIs tr lks s ∧ fewN tr lks = s ∧ (∀ q, MayM tr lks q = true ↔ HasAt tr (lks ++ [mk q]) s) ∧ ∀ q, MayS tr lks q = true ↔ HasAt tr (lks ++ [sd q]) s := by
  obtain ⟨s, e, f⟩ := few_n ht h
  refine ⟨s, f, e, fun q => ?_, fun q => ?_⟩
  · show mayBe tr lks (fewN tr lks) (mk q) = true ↔ _
    rw [e]
    exact may_iff ht f _
  · show mayBe tr lks (fewN tr lks) (sd q) = true ↔ _
    rw [e]
    exact may_iff ht f _
theorem word_eq (q : Fr) : wordBy tr lks q = if MayM tr lks q = true then if MayS tr lks q = true then ("maybe" : Str) else ("marked" : Str) else ("sound" : Str) := rfl
/-- one look more turns no fewest, or the other does -/
theorem may_either (ht : TrOk tr) (h : (fewestBy tr lks).isSome = true) (q : Fr) : MayM tr lks q = true ∨ MayS tr lks q = true := by
  obtain ⟨s, f, _, hm, hs⟩ := mayM_iff ht h
  by_cases c : HasAt tr (lks ++ [mk q]) s
  · exact .inl ((hm q).mpr c)
  · exact .inr ((hs q).mpr (at_more f.has q c))
/-- in whatever order, twice told -/
theorem word_cong (ht : TrOk tr) (h : (fewestBy tr lks).isSome = true) {lks' : List Lk} (hm : ∀ l, l ∈ lks ↔ l ∈ lks') (q : Fr) : (fewestBy tr lks').isSome = true ∧ wordBy tr lks' q = wordBy tr lks q := by
  obtain ⟨s, f, _, hk, hs⟩ := mayM_iff ht h
  have f' := f.cong hm
  have h' : (fewestBy tr lks').isSome = true := (few_isSome ht).mpr ⟨s, f'.le, f'.has⟩
  obtain ⟨s', g, _, hk', hs'⟩ := mayM_iff ht h'
  have e := f'.uniq g
  subst e
  have hm2 : ∀ (l x : Lk), x ∈ lks ++ [l] ↔ x ∈ lks' ++ [l] := fun l x => by rw [mem_snoc, mem_snoc, hm]
  have e1 : MayM tr lks' q = MayM tr lks q := by
    rw [Bool.eq_iff_iff, hk q, hk' q]
    exact HasAt.cong fun x => (hm2 _ x).symm
  have e2 : MayS tr lks' q = MayS tr lks q := by
    rw [Bool.eq_iff_iff, hs q, hs' q]
    exact HasAt.cong fun x => (hm2 _ x).symm
  exact ⟨h', by rw [word_eq, word_eq, e1, e2]⟩
theorem mayM_in (ht : TrOk tr) (h : (fewestBy tr lks).isSome = true) {o q : Fr} (h1 : o.1 ≤ q.1) (h2 : q.2 ≤ o.2) (k : MayM tr lks q = true) : MayM tr lks o = true := by
  obtain ⟨s, f, _, hm, hs⟩ := mayM_iff ht h
  exact (hm o).mpr (at_mk_in ht h1 h2 ((hm q).mp k))
theorem mayS_in (ht : TrOk tr) (h : (fewestBy tr lks).isSome = true) {o q : Fr} (h1 : o.1 ≤ q.1) (h2 : q.2 ≤ o.2) (k : MayS tr lks o = true) : MayS tr lks q = true := by
  obtain ⟨s, f, _, hm, hs⟩ := mayM_iff ht h
  exact (hs q).mpr (at_sd_in ht h1 h2 ((hs o).mp k))
theorem word_sound {q : Fr} : wordBy tr lks q = "sound" ↔ MayM tr lks q = false := by
  rw [word_eq]
  cases MayM tr lks q <;> cases MayS tr lks q <;> decide
theorem word_marked {q : Fr} : wordBy tr lks q = "marked" ↔ MayM tr lks q = true ∧ MayS tr lks q = false := by
  rw [word_eq]
  cases MayM tr lks q <;> cases MayS tr lks q <;> decide
/-- a piece within another -/
theorem word_within (ht : TrOk tr) (h : (fewestBy tr lks).isSome = true) {o q : Fr} (h1 : o.1 ≤ q.1) (h2 : q.2 ≤ o.2) : (wordBy tr lks o = "sound" → wordBy tr lks q = "sound") ∧ (wordBy tr lks q = "marked" → wordBy tr lks o = "marked") := by
  rw [word_sound, word_sound, word_marked, word_marked]
  constructor
  · intro k
    cases e : MayM tr lks q with
    | false => rfl
    | true =>
      rw [mayM_in ht h h1 h2 e] at k
      cases k
  · rintro ⟨k1, k2⟩
    refine ⟨mayM_in ht h h1 h2 k1, ?_⟩
    cases e : MayS tr lks o with
    | false => rfl
    | true =>
      rw [mayS_in ht h h1 h2 e] at k2
      cases k2
end
end W92
set_option Elab.async false
set_option linter.all false
set_option maxHeartbeats 4000000
/-! one story of the fewest rollers, and its marks -/
namespace W92
open PySem Gm
/-- a story of a lot -/
structure IsStory (tr : List Rl) (lks : List Lk) (lot : List Int) (st : List Dt) : Prop where
  fst : st.map (·.1) = lot
  ph : ∀ x ∈ st, x.2 ∈ phasesOf (perOf tr x.1) lks
  all : ∀ n ∈ numMarks lks, ∃ x ∈ st, n ∈ shownBy (perOf tr x.1) x.2 lks
theorem getD_mem {α : Type} {d : List (List Int × α)} {k : List Int} {v : α} (h : Gm.getD d k = some v) : (k, v) ∈ d := by
  unfold Gm.getD at h
  obtain ⟨p, h1, h2⟩ := Option.map_eq_some_iff.mp h
  have ek : p.1 = k := of_decide_eq_true (List.find?_some h1 :)
  rw [← h2, ← ek]
  exact List.mem_of_find?_eq_some h1
theorem some_story {tr : List Rl} (ht : TrOk tr) {lks : List Lk} {s : Nat} (h : FewIs tr lks s) : ∃ lot ∈ lotsOf tr.length s, ∃ st, someStory tr lks = some st ∧ IsStory tr lks lot st := by
  have h4 : (tr.length : Int) ≤ 4 := by have := ht.2.1; omega
  rcases stories_cases tr lks with ⟨e, h1⟩ | ⟨j, h1, h2, h3, e⟩
  · have := (size_empty ht lks s).mpr h.has
    rw [h1 s (by have := h.le; omega)] at this
    cases this
  · have hj : j = s := FewIs.uniq ⟨h1, (size_empty ht lks j).mp h3, fun t hlt hh => by
      have := (size_empty ht lks t).mpr hh
      rw [h2 t hlt] at this
      cases this⟩ h
    subst hj
    have hne : (sizeSt tr lks j).map (·.1) ≠ [] := fun z => by
      rw [List.map_eq_nil_iff.mp z] at h3
      cases h3
    have hm := minT_mem hne
    have hg := getD_some_iff.mpr hm
    obtain ⟨st, hst⟩ := Option.isSome_iff_exists.mp hg
    obtain ⟨f1, f2⟩ := sizeFold (ways := waysOf tr lks) (wanted := numMarks lks) (lotsOf tr.length j) []
    rcases f1 _ (getD_mem hst) with z | ⟨z1, z2⟩
    · exact nomatch z
    · obtain ⟨a1, a2, a3⟩ := told_story (lots_in h4 z1) z2
      refine ⟨_, z1, st, ?_, a1, a2, a3⟩
      unfold someStory
      simp only [e]
      rw [if_neg (by rw [h3]; decide)]
      exact hst
section
variable {tr : List Rl} {lks : List Lk} {lot : List Int} {st : List Dt} {s : Nat}
theorem IsStory.dents (ht : TrOk tr) (hl : lot ∈ lotsOf tr.length s) (h : IsStory tr lks lot st) : ∀ x ∈ st, 0 ≤ x.1 ∧ x.1 < tr.length := fun x hx => by
  have h4 : (tr.length : Int) ≤ 4 := by have := ht.2.1; omega
  exact lots_in h4 hl x.1 (by rw [← h.fst]; exact List.mem_map.mpr ⟨x, hx, rfl⟩)
/-- its whole phases -/
theorem IsStory.whole (ht : TrOk tr) (hl : lot ∈ lotsOf tr.length s) (h : IsStory tr lks lot st) : ∃ f : Dt → Int, (∀ x ∈ st, 0 ≤ f x ∧ f x < (perOf tr x.1).1 ∧ x.2 = frac (f x) (perOf tr x.1).2) ∧ (∀ x ∈ st, ∀ l ∈ lks, l.1 = ("sound" : Str) → ¬ Hits (perOf tr x.1) (f x) l) ∧ ∀ l ∈ lks, l.1 = ("mark" : Str) → ∃ x ∈ st, Hits (perOf tr x.1) (f x) l := by
  have hst := h.dents ht hl
  have hq : ∀ x ∈ st, PerOk (perOf tr x.1) := fun x hx => per_getD ht (hst x hx).1 (hst x hx).2
  obtain ⟨f, hf⟩ := pick_all (P := fun (x : Dt) (p : Int) => p ∈ endsOf (perOf tr x.1) lks ∧ x.2 = frac p (perOf tr x.1).2 ∧ ∀ l ∈ lks, l.1 = ("sound" : Str) → ¬ Hits (perOf tr x.1) p l) st fun x hx => by
    obtain ⟨p, p1, p2, p3⟩ := (phases_mem (hq x hx)).mp (h.ph x hx)
    exact ⟨p, p1, p2, p3⟩
  refine ⟨fun x => (f x).getD 0, fun x hx => ?_, fun x hx => ?_, fun l hm hw => ?_⟩
  · obtain ⟨p, e, p1, p2, p3⟩ := hf x hx
    simp only [e, Option.getD_some]
    obtain ⟨b1, b2⟩ := ends_b (hq x hx) lks p p1
    exact ⟨b1, b2, p2⟩
  · obtain ⟨p, e, p1, p2, p3⟩ := hf x hx
    simp only [e, Option.getD_some]
    exact p3
  · obtain ⟨i, hi⟩ := List.getElem?_of_mem hm
    obtain ⟨x, hx, hn⟩ := h.all (i : Int) (num_mem.mpr ⟨i, l, rfl, hi, hw⟩)
    obtain ⟨p, e, p1, p2, p3⟩ := hf x hx
    rw [p2] at hn
    obtain ⟨i', l', e1, e2, e3, e4⟩ := (shown_mem (hq x hx) (ends_b (hq x hx) lks p p1).1).mp hn
    have : i' = i := by omega
    subst this
    rw [hi] at e2
    cases e2
    refine ⟨x, hx, ?_⟩
    simp only [e, Option.getD_some]
    exact e4
theorem gcd_frac {p b : Int} (hp : 0 ≤ p) (hb : 0 < b) : gcdI (frac p b).1 (frac p b).2 = 1 := by
  have hn : 0 < Nat.gcd p.toNat b.toNat := Nat.gcd_pos_of_pos_right _ (by omega)
  have h := Nat.gcd_div_gcd_div_gcd_of_pos_right (n := p.toNat) (show 0 < b.toNat by omega)
  have e1 : (p / gcdI p b).toNat = p.toNat / Nat.gcd p.toNat b.toNat := by
    unfold gcdI
    have e : p / ((Nat.gcd p.toNat b.toNat : Nat) : Int) = ((p.toNat / Nat.gcd p.toNat b.toNat : Nat) : Int) := by
      rw [Int.natCast_ediv, Int.toNat_of_nonneg hp]
    rw [e]
    exact Int.toNat_natCast _
  have e2 : (b / gcdI p b).toNat = b.toNat / Nat.gcd p.toNat b.toNat := by
    unfold gcdI
    have e : b / ((Nat.gcd p.toNat b.toNat : Nat) : Int) = ((b.toNat / Nat.gcd p.toNat b.toNat : Nat) : Int) := by
      rw [Int.natCast_ediv, Int.toNat_of_nonneg (Int.le_of_lt hb)]
    rw [e]
    exact Int.toNat_natCast _
  show ((Nat.gcd (p / gcdI p b).toNat (b / gcdI p b).toNat : Nat) : Int) = 1
  rw [e1, e2, h]
  rfl
theorem rises_of : ∀ {xs : List Int}, xs.Pairwise (· < ·) → rises xs = true
  | [], _ => rfl
  | [x], _ => rfl
  | x :: y :: xs, h => by
    have ih := rises_of (xs := y :: xs) (List.pairwise_cons.mp h).2
    have h1 := (List.pairwise_cons.mp h).1 y List.mem_cons_self
    unfold rises at ih ⊢
    simp only [List.drop_succ_cons, List.drop_zero, List.zip_cons_cons, List.all_cons, Bool.and_eq_true, decide_eq_true_eq] at ih ⊢
    exact ⟨h1, ih⟩
theorem IsStory.ok (ht : TrOk tr) (hl : lot ∈ lotsOf tr.length s) (hs : s ≤ tr.length) (h : IsStory tr lks lot st) : StoryOk tr st := by
  have h4 : (tr.length : Int) ≤ 4 := by have := ht.2.1; omega
  have hst := h.dents ht hl
  obtain ⟨f, hf, _, _⟩ := h.whole ht hl
  refine ⟨fun d hd => ?_, ?_, ?_⟩
  · have hq : PerOk (perOf tr d.1) := per_getD ht (hst d hd).1 (hst d hd).2
    obtain ⟨f1, f2, f3⟩ := hf d hd
    obtain ⟨b1, b2, b3, b4⟩ := frac_b f1 hq.2.2.1
    obtain ⟨c1, c2⟩ := frac_sc f1 hq.2.2.1
    have g := gcd_frac f1 hq.2.2.1
    refine ⟨(hst d hd).1, (hst d hd).2, ?_, by rw [f3]; exact g, ?_⟩
    · rw [f3]
      exact ⟨b1, by have := hq.2.1; omega, b3, by have := hq.2.2.2; omega⟩
    · show d.2.1 * (perOf tr d.1).2 < (perOf tr d.1).1 * d.2.2
      rw [f3, c2]
      exact mull f2 c1
  · rw [h.fst]
    exact rises_of (lots_lt h4 s lot hl)
  · have e := congrArg List.length h.fst
    rw [List.length_map, ((lots_ok h4 s).2 lot hl).1] at e
    have := ht.2.1
    omega
theorem tb_dvd : ∀ (ts : List Rl) (i : Nat), (lawTB (ts.drop i) (1, 1)).2 ∣ (lawTB ts (1, 1)).2
  | ts, 0 => Int.dvd_refl _
  | [], i + 1 => Int.dvd_refl _
  | r :: ts, i + 1 => by
    rw [List.drop_succ_cons]
    refine Int.dvd_trans (tb_dvd ts i) ?_
    have e : lawTB (r :: ts) (1, 1) = lawTB ts (1 * r.2.1, 1 * r.2.2) := rfl
    rw [e, lawTB_mul ts (1 * r.2.1) (1 * r.2.2)]
    exact Int.dvd_mul_left _ _
theorem per_dvd (ht : TrOk tr) {r : Int} (h0 : 0 ≤ r) (h1 : r < tr.length) : (perOf tr r).2 ∣ (lawTB tr (1, 1)).2 := by
  have hl : r.toNat < (lawPeriods tr).length := by rw [lawPeriods_eq, periods_len]; omega
  have e : perOf tr r = lawPer tr r.toNat := by
    unfold perOf
    rw [← lawPeriods_eq, List.getD_eq_getElem?_getD]
    unfold lawPeriods
    rw [List.getElem?_map, List.getElem?_range (by omega)]
    rfl
  rw [e]
  unfold lawPer
  rw [lawTB_mul]
  refine Int.dvd_trans ?_ (tb_dvd tr r.toNat)
  show (1 * (lawTB (tr.drop r.toNat) (1, 1)).2) / gcdI _ (1 * (lawTB (tr.drop r.toNat) (1, 1)).2) ∣ _
  rw [Int.one_mul]
  have hb : 0 < (lawTB (tr.drop r.toNat) (1, 1)).2 := by
    have := (lawTB_b (ts := tr.drop r.toNat) (fun x hx => ht.2.2 x (List.mem_of_mem_drop hx)) (a := (1, 1)) (j := 4) (by rw [List.length_drop]; have := ht.2.1; omega) (by omega) (by decide) (by decide) (by decide) (by decide)).1
    omega
  exact Int.ediv_dvd_of_dvd (gcdI_dvd_right hb)
theorem frac_dvd {p b : Int} (hb : 0 < b) : (frac p b).2 ∣ b := Int.ediv_dvd_of_dvd (gcdI_dvd_right hb)
theorem IsStory.bot (ht : TrOk tr) (hl : lot ∈ lotsOf tr.length s) (h : IsStory tr lks lot st) : BotOk tr st := by
  have hst := h.dents ht hl
  obtain ⟨f, hf, _, _⟩ := h.whole ht hl
  obtain ⟨b1, b2, b3, b4⟩ := lawTB_b (ts := tr) ht.2.2 (a := (1, 1)) (j := 4) ht.2.1 (by omega) (by decide) (by decide) (by decide) (by decide)
  refine ⟨(lawTB tr (1, 1)).2, by omega, b4, fun d hd => ?_⟩
  have hq : PerOk (perOf tr d.1) := per_getD ht (hst d hd).1 (hst d hd).2
  have k := per_dvd ht (hst d hd).1 (hst d hd).2
  refine ⟨?_, k⟩
  rw [(hf d hd).2.2]
  exact Int.dvd_trans (frac_dvd hq.2.2.1) k
/-! ### its marks -/
theorem marksM_mem (bot e : Int) : ∀ (ys : List Dt) (f : List Int) (m : Int), m ∈ ys.foldl (fun f d => (marksIn tr bot e d).foldl putM f) f ↔ m ∈ f ∨ ∃ d ∈ ys, m ∈ marksIn tr bot e d
  | [], f, m => by simp
  | d :: ys, f, m => by
    rw [List.foldl_cons, marksM_mem bot e ys, foldM_mem]
    constructor
    · rintro ((z | z) | ⟨x, x1, x2⟩)
      · exact .inl z
      · exact .inr ⟨d, List.mem_cons_self, z⟩
      · exact .inr ⟨x, List.mem_cons_of_mem _ x1, x2⟩
    · rintro (z | ⟨x, x1, x2⟩)
      · exact .inl (.inl z)
      · rcases List.mem_cons.mp x1 with w | w
        · subst w
          exact .inl (.inr x2)
        · exact .inr ⟨x, w, x2⟩
theorem rgS_mem {lo hi ev m : Int} (h : 0 < ev) : m ∈ rgS lo hi ev ↔ ∃ k : Int, 0 ≤ k ∧ m = lo + k * ev ∧ m < hi := by
  have d := dm (hi - lo + ev - 1) ev
  have d1 := Int.emod_nonneg (hi - lo + ev - 1) (show ev ≠ 0 by omega)
  have d2 := Int.emod_lt_of_pos (hi - lo + ev - 1) h
  unfold rgS rgN
  rw [List.mem_map]
  generalize (hi - lo + ev - 1) / ev = c at d ⊢
  constructor
  · rintro ⟨i, h1, rfl⟩
    rw [List.mem_range] at h1
    refine ⟨(i : Int), by omega, rfl, ?_⟩
    have := mulm (show (i : Int) + 1 ≤ c by omega) h
    rw [Int.add_mul] at this
    omega
  · rintro ⟨k, k0, k1, k2⟩
    have h1 : k < c := by
      have : k * ev < c * ev := by omega
      exact mulk this h
    refine ⟨k.toNat, List.mem_range.mpr (by omega), ?_⟩
    rw [Int.toNat_of_nonneg k0]
    exact k1.symm
/-- a mark of the story, in parts of its bottom -/
theorem mark_at {per : Fr} (hq : PerOk per) {p bot : Int} (hp : 0 ≤ p) (h1 : (frac p per.2).2 ∣ bot) (h2 : per.2 ∣ bot) (hb : 0 < bot) : ∃ c : Int, 0 < c ∧ bot = per.2 * c ∧ (frac p per.2).1 * bot / (frac p per.2).2 = p * c ∧ per.1 * bot / per.2 = per.1 * c := by
  obtain ⟨c, hc⟩ := h2
  have hper := hq.2.2.1
  have c0 : 0 < c := by
    rcases Int.lt_trichotomy c 0 with z | z | z
    · have := Int.mul_neg_of_pos_of_neg hper z
      omega
    · rw [z] at hc
      omega
    · exact z
  obtain ⟨s1, s2⟩ := frac_sc hp hper
  refine ⟨c, c0, hc, ?_, ?_⟩
  · rw [hc, ← Int.mul_assoc, s2, Int.mul_assoc, Int.mul_comm _ c, ← Int.mul_assoc]
    exact Int.mul_ediv_cancel _ (by omega)
  · rw [hc, ← Int.mul_assoc, Int.mul_comm per.1, Int.mul_assoc]
    exact Int.mul_ediv_cancel_left _ (by omega)
theorem frac_cmp {m b : Int} (hm : 0 ≤ m) (hb : 0 < b) (a : Int) : (a * (frac m b).2 ≤ (frac m b).1 ↔ a * b ≤ m) ∧ ((frac m b).1 ≤ a * (frac m b).2 ↔ m ≤ a * b) := by
  have g := gcdI_pos (a := m) hb
  obtain ⟨c, hc⟩ := gcdI_dvd_right (a := m) hb
  obtain ⟨d, hd⟩ := gcdI_dvd_left (b := b) hm
  have e1 : (frac m b).2 = c := Int.ediv_eq_of_eq_mul_right (by omega) hc
  have e2 : (frac m b).1 = d := Int.ediv_eq_of_eq_mul_right (by omega) hd
  rw [e1, e2]
  have k1 : a * b = a * c * gcdI m b := by
    rw [Int.mul_assoc, Int.mul_comm c, ← hc]
  have k2 : m = d * gcdI m b := by
    rw [Int.mul_comm d, ← hd]
  rw [k1]
  constructor
  · constructor
    · intro h
      have := mulm h g
      omega
    · intro h
      exact mulc (r := gcdI m b) (by omega) g
  · constructor
    · intro h
      have := mulm h g
      omega
    · intro h
      exact mulc (r := gcdI m b) (by omega) g
def closedIn (q : Fr) (m : Fr) : Bool := decide (q.1 * m.2 ≤ m.1) && decide (m.1 ≤ q.2 * m.2)
def innerIn (q : Fr) (m : Fr) : Bool := decide (q.1 * m.2 < m.1) && decide (m.1 < q.2 * m.2)
theorem IsStory.marks (ht : TrOk tr) (hl : lot ∈ lotsOf tr.length s) (hs : s ≤ tr.length) (h : IsStory tr lks lot st) : 0 < botOf tr st ∧ ∀ m : Int, m ∈ marksM tr st (botOf tr st) 400 → 0 ≤ m := by
  have b := botOf_ok ht (h.ok ht hl hs) (h.bot ht hl)
  exact ⟨b.1, fun m hm => marks_nn ht (h.ok ht hl hs) b.1 b.2 st (fun _ h => h) m hm⟩
theorem IsStory.bots (ht : TrOk tr) (hl : lot ∈ lotsOf tr.length s) (hs : s ≤ tr.length) (h : IsStory tr lks lot st) : ∀ d ∈ st, d.2.2 ∣ botOf tr st ∧ (perOf tr d.1).2 ∣ botOf tr st := by
  obtain ⟨L, l1, l2, l3⟩ := h.bot ht hl
  have ho := h.ok ht hl hs
  exact (bot_ok (tr := tr) l1 st 1 (by decide) (Int.one_dvd _) fun d hd => ⟨(ho.1 d hd).2.2.1.2.2.1, (l3 d hd).1, (per_getD ht (ho.1 d hd).1 (ho.1 d hd).2.1).2.2.1, (l3 d hd).2⟩).2.2.2
/-- what a story has in a closed piece -/
theorem story_closed (ht : TrOk tr) (hf : FewIs tr lks s) (hl : lot ∈ lotsOf tr.length s) (h : IsStory tr lks lot st) {q m : Fr} (hm : m ∈ marksOf tr st 400) (hc : closedIn q m = true) : HasAt tr (lks ++ [mk q]) s := by
  obtain ⟨b0, b1⟩ := h.marks ht hl hf.le
  obtain ⟨f, f1, f2, f3⟩ := h.whole ht hl
  unfold marksOf at hm
  obtain ⟨k, hk, rfl⟩ := List.mem_map.mp hm
  have hk2 := (sortI_perm _).mem_iff.mp hk
  have k0 := b1 k hk2
  unfold closedIn at hc
  rw [Bool.and_eq_true, decide_eq_true_eq, decide_eq_true_eq] at hc
  have c1 := (frac_cmp k0 b0 q.1).1.mp hc.1
  have c2 := (frac_cmp k0 b0 q.2).2.mp hc.2
  rcases (marksM_mem _ _ _ _ _).mp hk2 with z | ⟨d, d1, d2⟩
  · exact nomatch z
  · have hst := h.dents ht hl d d1
    have hq : PerOk (perOf tr d.1) := per_getD ht hst.1 hst.2
    obtain ⟨g1, g2, g3⟩ := f1 d d1
    have bd := h.bots ht hl hf.le d d1
    rw [g3] at bd
    obtain ⟨c, w1, w2, w3, w4⟩ := mark_at hq g1 bd.1 bd.2 b0
    have hev : 0 < evOf tr (botOf tr st) d := by
      show 0 < (perOf tr d.1).1 * _ / (perOf tr d.1).2
      rw [w4]
      exact Int.mul_pos (Int.lt_of_lt_of_le hq.2.2.1 hq.1) w1
    obtain ⟨j, j0, j1, j2⟩ := (rgS_mem hev).mp d2
    have e1 : k = (f d + j * (perOf tr d.1).1) * c := by
      rw [j1]
      show begOf (botOf tr st) d + j * ((perOf tr d.1).1 * _ / (perOf tr d.1).2) = _
      unfold begOf
      rw [g3, w3, w4, Int.add_mul, Int.mul_assoc]
    rw [e1, w2] at c1 c2
    rw [← Int.mul_assoc] at c1 c2
    have hit : Hits (perOf tr d.1) (f d) (mk q) := hits_mk.mpr ⟨j, j0, mulc c1 w1, mulc c2 w1⟩
    refine ⟨lot, hl, ok_mk.mpr ⟨st.map fun x => (x.1, f x), by rw [List.map_map]; exact h.fst, fun x hx => ?_, fun l hl hw => ?_, (d.1, f d), List.mem_map.mpr ⟨d, d1, rfl⟩, hit⟩⟩
    · obtain ⟨y, y1, rfl⟩ := List.mem_map.mp hx
      exact ⟨(f1 y y1).1, (f1 y y1).2.1, f2 y y1⟩
    · obtain ⟨y, y1, y2⟩ := f3 l hl hw
      exact ⟨_, List.mem_map.mpr ⟨y, y1, rfl⟩, y2⟩
theorem story_inner (ht : TrOk tr) (hf : FewIs tr lks s) (hl : lot ∈ lotsOf tr.length s) (h : IsStory tr lks lot st) {q : Fr} (hq2 : q.2 ≤ 400) (hn : ∀ m ∈ marksOf tr st 400, innerIn q m = false) : HasAt tr (lks ++ [sd q]) s := by
  obtain ⟨b0, b1⟩ := h.marks ht hl hf.le
  obtain ⟨f, f1, f2, f3⟩ := h.whole ht hl
  refine ⟨lot, hl, ok_sd.mpr ⟨st.map fun x => (x.1, f x), by rw [List.map_map]; exact h.fst, fun x hx => ?_, fun l hl hw => ?_, fun x hx hh => ?_⟩⟩
  · obtain ⟨y, y1, rfl⟩ := List.mem_map.mp hx
    exact ⟨(f1 y y1).1, (f1 y y1).2.1, f2 y y1⟩
  · obtain ⟨y, y1, y2⟩ := f3 l hl hw
    exact ⟨_, List.mem_map.mpr ⟨y, y1, rfl⟩, y2⟩
  · obtain ⟨d, d1, rfl⟩ := List.mem_map.mp hx
    obtain ⟨j, j0, j1, j2⟩ := hits_sd.mp hh
    dsimp only at j1 j2
    have hst := h.dents ht hl d d1
    have hq : PerOk (perOf tr d.1) := per_getD ht hst.1 hst.2
    obtain ⟨g1, g2, g3⟩ := f1 d d1
    have bd := h.bots ht hl hf.le d d1
    rw [g3] at bd
    obtain ⟨c, w1, w2, w3, w4⟩ := mark_at hq g1 bd.1 bd.2 b0
    have hev : 0 < evOf tr (botOf tr st) d := by
      show 0 < (perOf tr d.1).1 * _ / (perOf tr d.1).2
      rw [w4]
      exact Int.mul_pos (Int.lt_of_lt_of_le hq.2.2.1 hq.1) w1
    have m1 := mull j1 w1
    have m2 := mull j2 w1
    have m3 := mulm hq2 b0
    have e1 : begOf (botOf tr st) d + j * evOf tr (botOf tr st) d = (f d + j * (perOf tr d.1).1) * c := by
      show begOf (botOf tr st) d + j * ((perOf tr d.1).1 * _ / (perOf tr d.1).2) = _
      unfold begOf
      rw [g3, w3, w4, Int.add_mul, Int.mul_assoc]
    have e2 : ∀ a : Int, a * (perOf tr d.1).2 * c = a * botOf tr st := fun a => by rw [w2, Int.mul_assoc]
    rw [e2, ← e1] at m1 m2
    have hk : begOf (botOf tr st) d + j * evOf tr (botOf tr st) d ∈ marksM tr st (botOf tr st) 400 := (marksM_mem _ _ _ _ _).mpr (.inr ⟨d, d1, (rgS_mem hev).mpr ⟨j, j0, rfl, by omega⟩⟩)
    generalize begOf (botOf tr st) d + j * evOf tr (botOf tr st) d = k at *
    have k0 := b1 k hk
    have no := hn (frac k (botOf tr st)) (List.mem_map.mpr ⟨k, (sortI_perm _).mem_iff.mpr hk, rfl⟩)
    have yes : innerIn q (frac k (botOf tr st)) = true := by
      unfold innerIn
      rw [Bool.and_eq_true, decide_eq_true_eq, decide_eq_true_eq]
      constructor
      · refine Int.not_le.mp fun z => ?_
        have := (frac_cmp k0 b0 q.1).2.mp z
        omega
      · refine Int.not_le.mp fun z => ?_
        have := (frac_cmp k0 b0 q.2).1.mp z
        omega
    rw [yes] at no
    cases no
end
/-- the story that the program tells, and words -/
theorem story_words {tr : List Rl} {lks : List Lk} (ht : TrOk tr) (h : (fewestBy tr lks).isSome = true) : ∃ st, someStory tr lks = some st ∧ StoryOk tr st ∧ BotOk tr st ∧ ∀ q : Fr, q.2 ≤ 400 → (wordBy tr lks q = "sound" → ((marksOf tr st 400).filter (closedIn q)) = []) ∧ (wordBy tr lks q = "marked" → ((marksOf tr st 400).filter (innerIn q)) ≠ []) := by
  obtain ⟨s, f, _, hm, hs⟩ := mayM_iff ht h
  obtain ⟨lot, hl, st, e, k⟩ := some_story ht f
  refine ⟨st, e, k.ok ht hl f.le, k.bot ht hl, fun q hq => ⟨fun w => ?_, fun w z => ?_⟩⟩
  · rw [word_sound] at w
    refine List.filter_eq_nil_iff.mpr fun m mm mc => ?_
    rw [(hm q).mpr (story_closed ht f hl k mm mc)] at w
    cases w
  · rw [word_marked] at w
    have := (hs q).mpr (story_inner ht f hl k hq fun m mm => by
      cases c : innerIn q m with
      | false => rfl
      | true => exact absurd c (List.filter_eq_nil_iff.mp z m mm))
    rw [w.2] at this
    cases this
end W92
set_option Elab.async false
set_option linter.all false
set_option maxHeartbeats 4000000
/-! the law's own fewest; sure pieces; a roller alone -/
namespace W92
open PySem Gm
/-! ### the law's own fewest finds a story only where there is one -/
theorem foldIf_mem {α : Type} (c : α → Bool) (g : α → Int) : ∀ (xs : List α) (f : List Int) (n : Int), n ∈ xs.foldl (fun f p => if c p = true then f ++ [g p] else f) f ↔ n ∈ f ∨ ∃ p ∈ xs, c p = true ∧ n = g p
  | [], f, n => by simp
  | x :: xs, f, n => by
    rw [List.foldl_cons, foldIf_mem c g xs]
    by_cases h : c x = true
    · rw [if_pos h, List.mem_append, List.mem_singleton]
      constructor
      · rintro ((z | z) | ⟨p, p1, p2⟩)
        · exact .inl z
        · exact .inr ⟨x, List.mem_cons_self, h, z⟩
        · exact .inr ⟨p, List.mem_cons_of_mem _ p1, p2⟩
      · rintro (z | ⟨p, p1, p2⟩)
        · exact .inl (.inl z)
        · rcases List.mem_cons.mp p1 with w | w
          · rw [w] at p2
            exact .inl (.inr p2.2)
          · exact .inr ⟨p, w, p2⟩
    · rw [if_neg h]
      constructor
      · rintro (z | ⟨p, p1, p2⟩)
        · exact .inl z
        · exact .inr ⟨p, List.mem_cons_of_mem _ p1, p2⟩
      · rintro (z | ⟨p, p1, p2⟩)
        · exact .inl z
        · rcases List.mem_cons.mp p1 with w | w
          · rw [w] at p2
            exact absurd p2.1 h
          · exact .inr ⟨p, w, p2⟩
theorem lawRow_mem {per : Fr} (hq : PerOk per) {lks : List Lk} {p : Int} (hp : 0 ≤ p) {n : Int} (h : n ∈ lawRow per (frac p per.2) lks) : ∃ (i : Nat) (l : Lk), n = i ∧ lks[i]? = some l ∧ l.1 = ("mark" : Str) ∧ Hits per p l := by
  have hr : 0 < per.1 := Int.lt_of_lt_of_le hq.2.2.1 hq.1
  unfold lawRow at h
  rcases (foldIf_mem (fun (p' : Int × Lk) => decide (p'.2.1 = ("mark" : Str)) && lawComes per (frac p per.2) p'.2.2.1 p'.2.2.2 0) (fun p' => p'.1) (enumI lks) [] n).mp h with z | ⟨y, y1, y2, y3⟩
  · exact nomatch z
  · rw [Bool.and_eq_true, decide_eq_true_eq] at y2
    unfold enumI at y1
    obtain ⟨q, h4, rfl⟩ := List.mem_map.mp y1
    obtain ⟨x, i⟩ := q
    rw [List.mem_zipIdx_iff_getElem?] at h4
    refine ⟨i, x, y3, h4, y2.1, ?_⟩
    obtain ⟨k, a, b, c⟩ := (lawComes_iff hp hq.2.2.1 hr (.inl rfl)).mp y2.2
    have ei : innOf x = 0 := by
      unfold innOf
      rw [show x.1 = ("mark" : Str) from y2.1]
      decide
    exact ⟨k, a, by rw [ei]; exact b, by rw [ei]; exact c⟩
theorem lawBroken_nil {per : Fr} (hq : PerOk per) {lks : List Lk} {p : Int} (hp : 0 ≤ p) (h : lawBroken per (frac p per.2) lks = []) : ∀ l ∈ lks, l.1 = ("sound" : Str) → ¬ Hits per p l := by
  have hr : 0 < per.1 := Int.lt_of_lt_of_le hq.2.2.1 hq.1
  intro l hl hs hh
  unfold lawBroken at h
  rw [List.map_eq_nil_iff, List.filter_eq_nil_iff] at h
  refine h l (List.mem_map.mpr ⟨l, List.mem_filter.mpr ⟨hl, decide_eq_true hs⟩, rfl⟩) ((lawComes_iff hp hq.2.2.1 hr (.inr rfl)).mpr ?_)
  obtain ⟨k, a, b, c⟩ := hh
  have ei : innOf l = 1 := by
    unfold innOf
    rw [if_pos hs]
  rw [ei] at b c
  exact ⟨k, a, b, c⟩
theorem lawWays_in {per : Fr} (hq : PerOk per) {lks : List Lk} {w : List Int} (h : w ∈ lawWays per lks) : ∃ p : Int, 0 ≤ p ∧ p < per.1 ∧ lawBroken per (frac p per.2) lks = [] ∧ w = lawRow per (frac p per.2) lks := by
  have hr : 0 < per.1 := Int.lt_of_lt_of_le hq.2.2.1 hq.1
  have gen : ∀ (es : List Int) (f : List (List Int)), (∀ w ∈ f, ∃ p : Int, 0 ≤ p ∧ p < per.1 ∧ lawBroken per (frac p per.2) lks = [] ∧ w = lawRow per (frac p per.2) lks) → ∀ w ∈ es.foldl (lawWayStep per lks) f, ∃ p : Int, 0 ≤ p ∧ p < per.1 ∧ lawBroken per (frac p per.2) lks = [] ∧ w = lawRow per (frac p per.2) lks := by
    intro es
    induction es with
    | nil => intro f h; exact h
    | cons e es ih =>
      intro f h
      refine ih _ fun w hw => ?_
      unfold lawWayStep at hw
      split at hw
      · rename_i c
        rcases List.mem_append.mp hw with z | z
        · exact h w z
        · rw [List.mem_singleton.mp z]
          exact ⟨e * per.2 % per.1, Int.emod_nonneg _ (by omega), Int.emod_lt_of_pos _ hr, c.1, rfl⟩
      · exact h w hw
  exact gen _ [] (fun _ h => nomatch h) w h
def LawInv (tr : List Rl) (lks : List Lk) (pre : List Int) (rows : List (List Int)) : Prop := ∀ k ∈ rows, ∃ z : List (Int × Int), z.map (·.1) = pre ∧ (∀ x ∈ z, 0 ≤ x.2 ∧ x.2 < (perOf tr x.1).1 ∧ lawBroken (perOf tr x.1) (frac x.2 (perOf tr x.1).2) lks = []) ∧ ∀ n, n ∈ k → ∃ x ∈ z, n ∈ lawRow (perOf tr x.1) (frac x.2 (perOf tr x.1).2) lks
theorem lawTellOne_eq (ways : List (List (List Int))) (rows : List (List Int)) (r : Int) : lawTellOne ways rows r = (putAll [] (rows.flatMap fun row => (ways.getD r.toNat []).map fun m => (sortU (row ++ m), true))).map (·.1) := by
  rw [← fold_putAll]
  unfold lawTellOne
  congr 2
  funext d p
  unfold lawTellRow putAll
  rw [List.foldl_map]
  rfl
theorem lways_at {tr : List Rl} {lks : List Lk} {r : Int} (h0 : 0 ≤ r) (h1 : r < tr.length) : ((lawPeriods tr).map fun p => lawWays p lks).getD r.toNat [] = lawWays (perOf tr r) lks := by
  have hl : r.toNat < (periods tr).length := by rw [periods_len]; omega
  unfold perOf
  rw [lawPeriods_eq, List.getD_eq_getElem?_getD, List.getElem?_map, List.getD_eq_getElem?_getD, List.getElem?_eq_getElem hl]
  rfl
theorem law_inv {tr : List Rl} (ht : TrOk tr) {lks : List Lk} : ∀ (lot pre : List Int) (rows : List (List Int)), (∀ r ∈ lot, 0 ≤ r ∧ r < tr.length) → LawInv tr lks pre rows → LawInv tr lks (pre ++ lot) (lot.foldl (lawTellOne ((lawPeriods tr).map fun p => lawWays p lks)) rows)
  | [], pre, rows, _, h => by rw [List.append_nil]; exact h
  | r :: lot, pre, rows, hl, h => by
    have hr := hl r List.mem_cons_self
    have ih := law_inv ht (lks := lks) lot (pre ++ [r]) (lawTellOne ((lawPeriods tr).map fun p => lawWays p lks) rows r) (fun x hx => hl x (List.mem_cons_of_mem _ hx))
    rw [List.append_assoc] at ih
    refine ih fun k hk => ?_
    rw [lawTellOne_eq, lways_at hr.1 hr.2, putAll_keys] at hk
    rcases hk with z | z
    · exact nomatch z
    · obtain ⟨q, q1, rfl⟩ := List.mem_map.mp z
      obtain ⟨row, r1, r2⟩ := List.mem_flatMap.mp q1
      obtain ⟨m, m1, rfl⟩ := List.mem_map.mp r2
      obtain ⟨z, z1, z2, z3⟩ := h row r1
      obtain ⟨p, p0, p1, p2, p3⟩ := lawWays_in (per_getD ht hr.1 hr.2) m1
      refine ⟨z ++ [(r, p)], by rw [List.map_append, z1]; rfl, fun x hx => ?_, fun n hn => ?_⟩
      · rcases List.mem_append.mp hx with y | y
        · exact z2 x y
        · rw [List.mem_singleton.mp y]
          exact ⟨p0, p1, p2⟩
      · rw [sortU_mem, List.mem_append] at hn
        rcases hn with y | y
        · obtain ⟨x, x1, x2⟩ := z3 n y
          exact ⟨x, List.mem_append_left _ x1, x2⟩
        · exact ⟨(r, p), List.mem_append_right _ List.mem_cons_self, by rw [p3] at y; exact y⟩
theorem law_tells {tr : List Rl} (ht : TrOk tr) {lks : List Lk} {lot : List Int} (hl : ∀ r ∈ lot, 0 ≤ r ∧ r < tr.length) (h : lawTells ((lawPeriods tr).map fun p => lawWays p lks) lot (numMarks lks) = true) : OkLot tr lks lot := by
  unfold lawTells at h
  obtain ⟨z, z1, z2, z3⟩ := law_inv ht lot [] [[]] hl (fun k hk => ⟨[], rfl, (fun _ h => nomatch h), fun n hn => by
    rw [List.mem_singleton.mp hk] at hn
    exact nomatch hn⟩) _ (of_decide_eq_true h)
  have hst : ∀ x ∈ z, 0 ≤ x.1 ∧ x.1 < tr.length := fun x hx => hl x.1 (by
    have : x.1 ∈ z.map (·.1) := List.mem_map.mpr ⟨x, hx, rfl⟩
    rw [z1] at this
    exact this)
  have hq : ∀ x ∈ z, PerOk (perOf tr x.1) := fun x hx => per_getD ht (hst x hx).1 (hst x hx).2
  refine ⟨z, z1, fun x hx => ⟨(z2 x hx).1, (z2 x hx).2.1, lawBroken_nil (hq x hx) (z2 x hx).1 (z2 x hx).2.2⟩, fun l hl hw => ?_⟩
  obtain ⟨i, hi⟩ := List.getElem?_of_mem hl
  obtain ⟨x, x1, x2⟩ := z3 (i : Int) (num_mem.mpr ⟨i, l, rfl, hi, hw⟩)
  obtain ⟨i', l', e1, e2, e3, e4⟩ := lawRow_mem (hq x x1) (z2 x x1).1 x2
  have : i' = i := by omega
  subst this
  rw [hi] at e2
  cases e2
  exact ⟨x, x1, e4⟩
theorem lawLots_lt (most : Int) : ∀ (xs : List Int) (rows : List (List Int)), xs.Pairwise (· < ·) → (∀ l ∈ rows, l.Pairwise (· < ·) ∧ ∀ r ∈ l, ∀ x ∈ xs, r < x) → ∀ l ∈ xs.foldl (lawLotStep most) rows, l.Pairwise (· < ·)
  | [], rows, _, h => fun l hl => (h l hl).1
  | x :: xs, rows, hp, h => by
    obtain ⟨p1, p2⟩ := List.pairwise_cons.mp hp
    rw [List.foldl_cons]
    refine lawLots_lt most xs _ p2 fun l hl => ?_
    unfold lawLotStep at hl
    rcases List.mem_append.mp hl with z | z
    · exact ⟨(h l z).1, fun r hr y hy => (h l z).2 r hr y (List.mem_cons_of_mem _ hy)⟩
    · obtain ⟨l0, h3, rfl⟩ := List.mem_map.mp z
      have h4 := h l0 (List.mem_filter.mp h3).1
      refine ⟨List.pairwise_append.mpr ⟨h4.1, List.pairwise_singleton _ _, fun a ha b hb => ?_⟩, fun r hr y hy => ?_⟩
      · rw [List.mem_singleton.mp hb]
        exact h4.2 a ha x List.mem_cons_self
      · rcases List.mem_append.mp hr with w | w
        · exact h4.2 r w y (List.mem_cons_of_mem _ hy)
        · rw [List.mem_singleton.mp w]
          exact p1 y hy
theorem rng_lt (n : Nat) : (rng 0 n).Pairwise (· < ·) := by
  unfold rng
  rw [List.pairwise_map]
  refine List.pairwise_lt_range.imp fun h => ?_
  omega
theorem law_size {tr : List Rl} (ht : TrOk tr) {lks : List Lk} {s : Nat} (h : lawSize tr lks s ≠ []) : HasAt tr lks s := by
  obtain ⟨lot, hl⟩ := List.exists_mem_of_ne_nil _ h
  unfold lawSize at hl
  obtain ⟨h1, h2⟩ := List.mem_filter.mp hl
  rw [Bool.and_eq_true, decide_eq_true_eq] at h2
  have hb := lawLots_in tr.length s lot h1
  have hp := lawLots_lt s (rng 0 tr.length) [[]] (rng_lt _) (fun l hl => by
    rw [List.mem_singleton.mp hl]
    exact ⟨List.Pairwise.nil, fun _ h => nomatch h⟩) lot h1
  exact ⟨lot, lots_has s lot (by have := h2.1; omega) hp hb, law_tells ht hb h2.2⟩
theorem lawSearch_some {tr : List Rl} {lks : List Lk} : ∀ (n i : Nat), (lawSearch tr lks i n).isSome = true → ∃ s, i ≤ s ∧ s < i + n ∧ lawSize tr lks s ≠ []
  | 0, i, h => by cases h
  | n + 1, i, h => by
    unfold lawSearch at h
    split at h
    · obtain ⟨s, a, b, c⟩ := lawSearch_some n (i + 1) h
      exact ⟨s, by omega, by omega, c⟩
    · rename_i c
      exact ⟨i, Nat.le_refl _, by omega, c⟩
theorem law_few {tr : List Rl} (ht : TrOk tr) {lks : List Lk} (h : (lawFewest tr lks).isSome = true) : (fewestBy tr lks).isSome = true := by
  obtain ⟨s, a, b, c⟩ := lawSearch_some _ _ h
  exact (few_isSome ht).mpr ⟨s, by omega, law_size ht c⟩
theorem law_few_nil (tr : List Rl) : (lawFewest tr []).isSome = true := by
  have h : lawSize tr [] 0 ≠ [] := by
    unfold lawSize
    rw [show lawLots tr.length ((0 : Nat) : Int) = [[]] from lawLots_zero _]
    intro z
    have := List.filter_eq_nil_iff.mp z [] List.mem_cons_self
    exact this rfl
  unfold lawFewest lawSearch
  rw [if_neg h]
  rfl
/-! ### sure pieces -/
def sureGo (tr : List Rl) (lks : List Lk) (many len en : Int) : Nat → Int → List Int → List Int
  | 0, _, f => f
  | n + 1, first, f => if first + len ≤ en then (if mayBe tr lks many ("mark", first, first + len) = true then sureGo tr lks many len en n (first + 1) f else sureGo tr lks many len en n (first + len) (f ++ [first])) else f
def sureOf (tr : List Rl) (lks : List Lk) (len en : Int) : List Int := sureGo tr lks (fewN tr lks) len en (en + 1).toNat 0 []
section
variable {tr : List Rl} {lks : List Lk} {many len en : Int}
theorem sureGo_app : ∀ (n : Nat) (first : Int) (f : List Int), sureGo tr lks many len en n first f = f ++ sureGo tr lks many len en n first []
  | 0, first, f => (List.append_nil f).symm
  | n + 1, first, f => by
    unfold sureGo
    split
    · split
      · exact sureGo_app n (first + 1) f
      · rw [sureGo_app n (first + len) (f ++ [first]), sureGo_app n (first + len) ([] ++ [first]), List.append_assoc, List.nil_append]
    · exact (List.append_nil f).symm
theorem sureGo_in (hl : 1 ≤ len) : ∀ (n : Nat) (first : Int), (∀ x ∈ sureGo tr lks many len en n first [], first ≤ x ∧ x + len ≤ en ∧ mayBe tr lks many ("mark", x, x + len) = false) ∧ (sureGo tr lks many len en n first []).Pairwise fun x y => x + len ≤ y
  | 0, first => ⟨fun _ h => (nomatch h), List.Pairwise.nil⟩
  | n + 1, first => by
    unfold sureGo
    split
    · rename_i c
      split
      · obtain ⟨a, b⟩ := sureGo_in hl n (first + 1)
        exact ⟨fun x hx => ⟨by have := (a x hx).1; omega, (a x hx).2⟩, b⟩
      · rename_i d
        obtain ⟨a, b⟩ := sureGo_in hl n (first + len)
        rw [sureGo_app, List.nil_append]
        refine ⟨fun x hx => ?_, List.pairwise_append.mpr ⟨List.pairwise_singleton _ _, b, fun x hx y hy => ?_⟩⟩
        · rcases List.mem_append.mp hx with z | z
          · rw [List.mem_singleton.mp z]
            exact ⟨Int.le_refl _, c, by simpa using d⟩
          · exact ⟨by have := (a x z).1; omega, (a x z).2⟩
        · rw [List.mem_singleton.mp hx]
          exact (a y hy).1
    · exact ⟨fun _ h => (nomatch h), List.Pairwise.nil⟩
theorem sureGo_more {len2 en2 : Int} (h1 : 1 ≤ len2) (h2 : len2 ≤ len) (h3 : en ≤ en2) (mono : ∀ i : Int, 0 ≤ i → mayBe tr lks many ("mark", i, i + len) = false → mayBe tr lks many ("mark", i, i + len2) = false) : ∀ (N n m : Nat) (first first2 : Int), n + m ≤ N → 0 ≤ first2 → first2 ≤ first → en2 - first2 + 1 ≤ m → (sureGo tr lks many len en n first []).length ≤ (sureGo tr lks many len2 en2 m first2 []).length
  | N, 0, m, first, first2, _, _, _, _ => Nat.zero_le _
  | N, n + 1, 0, first, first2, hN, h0, hf, hm => by
    unfold sureGo
    rw [if_neg (by omega)]
    exact Nat.zero_le _
  | 0, n + 1, m + 1, _, _, hN, _, _, _ => by omega
  | N + 1, n + 1, m + 1, first, first2, hN, h0, hf, hm => by
    by_cases c : first + len ≤ en
    · have e1 : sureGo tr lks many len en (n + 1) first [] = if mayBe tr lks many ("mark", first, first + len) = true then sureGo tr lks many len en n (first + 1) [] else [first] ++ sureGo tr lks many len en n (first + len) [] := by
        rw [sureGo, if_pos c, sureGo_app n (first + len)]
        rfl
      have e2 : sureGo tr lks many len2 en2 (m + 1) first2 [] = if mayBe tr lks many ("mark", first2, first2 + len2) = true then sureGo tr lks many len2 en2 m (first2 + 1) [] else [first2] ++ sureGo tr lks many len2 en2 m (first2 + len2) [] := by
        rw [sureGo, if_pos (by omega), sureGo_app m (first2 + len2)]
        rfl
      by_cases d : mayBe tr lks many ("mark", first, first + len) = true
      · rw [e1, if_pos d]
        exact sureGo_more h1 h2 h3 mono N n (m + 1) (first + 1) first2 (by omega) h0 (by omega) hm
      · by_cases d2 : mayBe tr lks many ("mark", first2, first2 + len2) = true
        · have hne : first2 ≠ first := fun z => by
            rw [z] at d2 h0
            rw [mono first h0 (by simpa using d)] at d2
            cases d2
          rw [e2, if_pos d2]
          exact sureGo_more h1 h2 h3 mono N (n + 1) m first (first2 + 1) (by omega) (by omega) (by omega) (by omega)
        · rw [e1, if_neg d, e2, if_neg d2, List.length_append, List.length_append]
          have := sureGo_more h1 h2 h3 mono N n m (first + len) (first2 + len2) (by omega) (by omega) (by omega) (by omega)
          simp only [List.length_cons, List.length_nil]
          omega
    · rw [sureGo, if_neg c]
      exact Nat.zero_le _
end
theorem sure_in {tr : List Rl} {lks : List Lk} {len en : Int} (hl : 1 ≤ len) : (∀ x ∈ sureOf tr lks len en, 0 ≤ x ∧ x + len ≤ en ∧ wordBy tr lks (x, x + len) = "sound") ∧ (sureOf tr lks len en).Pairwise fun x y => x + len ≤ y := by
  obtain ⟨a, b⟩ := sureGo_in (tr := tr) (lks := lks) (many := fewN tr lks) (en := en) hl (en + 1).toNat 0
  exact ⟨fun x hx => ⟨(a x hx).1, (a x hx).2.1, word_sound.mpr (a x hx).2.2⟩, b⟩
theorem sure_more {tr : List Rl} {lks : List Lk} (ht : TrOk tr) (h : (fewestBy tr lks).isSome = true) {len en len2 en2 : Int} (h1 : 1 ≤ len2) (h2 : len2 ≤ len) (h3 : en ≤ en2) : (sureOf tr lks len en).length ≤ (sureOf tr lks len2 en2).length := by
  refine sureGo_more h1 h2 h3 (fun i hi k => ?_) _ _ _ 0 0 (Nat.le_refl _) (Int.le_refl _) (Int.le_refl _) (by omega)
  cases e : mayBe tr lks (fewN tr lks) ("mark", i, i + len2) with
  | false => rfl
  | true =>
    have := mayM_in ht h (o := (i, i + len)) (q := (i, i + len2)) (Int.le_refl _) (by dsimp only; omega) e
    exact absurd (show mayBe tr lks (fewN tr lks) ("mark", i, i + len) = true from this) (by rw [k]; decide)
end W92
set_option Elab.async false
set_option linter.all false
set_option maxHeartbeats 4000000
/-! a roller alone -/
namespace W92
open PySem Gm
theorem bool4 : ∀ a1 a2 a3 a4 : Bool, (a1 = true → a3 = true) → (a2 = true → a4 = false) → (!(a1 && !a3) && !(a2 && a4)) = true := by decide
def InS (s : List Fr) (p : Int) : Prop := ∃ x ∈ s, x.1 ≤ p ∧ p ≤ x.2
theorem inS_nil {p : Int} : InS [] p ↔ False := ⟨fun ⟨_, h, _⟩ => (nomatch h), False.elim⟩
theorem inS_cons {a : Fr} {s : List Fr} {p : Int} : InS (a :: s) p ↔ (a.1 ≤ p ∧ p ≤ a.2) ∨ InS s p := by
  unfold InS
  constructor
  · rintro ⟨x, h, k⟩
    rcases List.mem_cons.mp h with z | z
    · rw [← z]; exact .inl k
    · exact .inr ⟨x, z, k⟩
  · rintro (k | ⟨x, h, k⟩)
    · exact ⟨a, List.mem_cons_self, k⟩
    · exact ⟨x, List.mem_cons_of_mem _ h, k⟩
theorem inS_app {s t : List Fr} {p : Int} : InS (s ++ t) p ↔ InS s p ∨ InS t p := by
  unfold InS
  constructor
  · rintro ⟨x, h, k⟩
    rcases List.mem_append.mp h with z | z
    · exact .inl ⟨x, z, k⟩
    · exact .inr ⟨x, z, k⟩
  · rintro (⟨x, h, k⟩ | ⟨x, h, k⟩)
    · exact ⟨x, List.mem_append_left _ h, k⟩
    · exact ⟨x, List.mem_append_right _ h, k⟩
theorem inS_perm {s t : List Fr} (h : s.Perm t) {p : Int} : InS s p ↔ InS t p := by
  unfold InS
  simp only [h.mem_iff]
theorem inS_one {a : Fr} {p : Int} : InS [a] p ↔ a.1 ≤ p ∧ p ≤ a.2 := by
  rw [inS_cons, inS_nil, or_false]
theorem csOne_in {s o : Fr} {f : List Fr} {p : Int} : InS (csOne s f o) p ↔ InS f p ∨ ((s.1 ≤ p ∧ p ≤ s.2) ∧ (o.1 ≤ p ∧ p ≤ o.2)) := by
  unfold csOne
  split
  · rw [inS_app, inS_one]
    dsimp only
    constructor
    · rintro (h | h)
      · exact .inl h
      · exact .inr ⟨⟨by omega, by omega⟩, by omega, by omega⟩
    · rintro (h | h)
      · exact .inl h
      · exact .inr ⟨by omega, by omega⟩
  · refine ⟨.inl, fun h => h.elim id fun k => ?_⟩
    exfalso
    omega
theorem csRow_in {s : Fr} {p : Int} : ∀ (os f : List Fr), InS (os.foldl (csOne s) f) p ↔ InS f p ∨ ((s.1 ≤ p ∧ p ≤ s.2) ∧ InS os p)
  | [], f => by simp [inS_nil]
  | o :: os, f => by
    rw [List.foldl_cons, csRow_in os, csOne_in, inS_cons]
    constructor
    · rintro ((h | h) | h)
      · exact .inl h
      · exact .inr ⟨h.1, .inl h.2⟩
      · exact .inr ⟨h.1, .inr h.2⟩
    · rintro (h | ⟨h, k | k⟩)
      · exact .inl (.inl h)
      · exact .inl (.inr ⟨h, k⟩)
      · exact .inr ⟨h, k⟩
theorem csAll_in {os : List Fr} {p : Int} : ∀ (ss f : List Fr), InS (ss.foldl (csRow os) f) p ↔ InS f p ∨ (InS ss p ∧ InS os p)
  | [], f => by simp [inS_nil]
  | s :: ss, f => by
    rw [List.foldl_cons, csAll_in ss]
    unfold csRow
    rw [csRow_in, inS_cons]
    constructor
    · rintro ((h | h) | h)
      · exact .inl h
      · exact .inr ⟨.inl h.1, h.2⟩
      · exact .inr ⟨.inr h.1, h.2⟩
    · rintro (h | ⟨h | h, k⟩)
      · exact .inl (.inl h)
      · exact .inl (.inr ⟨h, k⟩)
      · exact .inr ⟨h, k⟩
theorem common_in {ss os : List Fr} {p : Int} : InS (commonSt ss os) p ↔ InS ss p ∧ InS os p := by
  unfold commonSt
  rw [inS_perm (sortP_perm _), csAll_in, inS_nil, false_or]
theorem stretches_in {r f l p : Int} (hr : 0 < r) (hl : 0 ≤ l) (p0 : 0 ≤ p) (p1 : p ≤ r) : InS (stretches r f l) p ↔ ∃ k : Int, f ≤ p + k * r ∧ p + k * r ≤ f + l := by
  have d := dm f r
  have d1 := Int.emod_nonneg f (show r ≠ 0 by omega)
  have d2 := Int.emod_lt_of_pos f hr
  -- all turns that matter
  have key : (∃ k : Int, f ≤ p + k * r ∧ p + k * r ≤ f + l) ↔ ∃ j : Int, f % r ≤ p + j * r ∧ p + j * r ≤ f % r + l := by
    generalize f % r = b at *
    generalize f / r = m at *
    constructor
    · rintro ⟨k, a, c⟩
      exact ⟨k - m, by rw [Int.sub_mul]; omega, by rw [Int.sub_mul]; omega⟩
    · rintro ⟨k, a, c⟩
      exact ⟨k + m, by rw [Int.add_mul]; omega, by rw [Int.add_mul]; omega⟩
  rw [key]
  clear key d
  unfold stretches
  generalize f % r = b at *
  have low : ∀ j : Int, b ≤ p + j * r → -1 ≤ j := fun j h => by
    refine Int.not_lt.mp fun c => ?_
    have := mulm (show j ≤ -2 by omega) hr
    omega
  by_cases c1 : r ≤ l
  · rw [if_pos c1, inS_one]
    dsimp only
    refine ⟨fun _ => ?_, fun _ => ⟨p0, p1⟩⟩
    by_cases c : b ≤ p
    · exact ⟨0, by omega, by omega⟩
    · exact ⟨1, by omega, by omega⟩
  · rw [if_neg c1]
    have three : (∃ j : Int, b ≤ p + j * r ∧ p + j * r ≤ b + l) ↔ (b ≤ p ∧ p ≤ b + l) ∨ (p + r ≤ b + l) ∨ (p = r ∧ b = 0) := by
      constructor
      · rintro ⟨j, a, c⟩
        have j1 := low j a
        have j2 : j ≤ 1 := by
          refine Int.not_lt.mp fun c => ?_
          have := mulm (show 2 ≤ j by omega) hr
          omega
        have : j = -1 ∨ j = 0 ∨ j = 1 := by omega
        rcases this with z | z | z <;> subst z
        · exact .inr (.inr ⟨by omega, by omega⟩)
        · exact .inl ⟨by omega, by omega⟩
        · exact .inr (.inl (by omega))
      · rintro (h | h | h)
        · exact ⟨0, by omega, by omega⟩
        · exact ⟨1, by omega, by omega⟩
        · exact ⟨-1, by omega, by omega⟩
    rw [three]
    by_cases c2 : r ≤ b + l
    · rw [if_pos c2, inS_cons, inS_one]
      dsimp only
      omega
    · rw [if_neg c2]
      by_cases c3 : b = 0
      · rw [if_pos c3, inS_cons, inS_one]
        dsimp only
        omega
      · rw [if_neg c3, inS_one]
        dsimp only
        omega
/-- a look lets a phase be -/
def LetZ (per : Fr) (p : Int) (l : Lk) : Prop := if l.1 = ("mark" : Str) then ∃ k : Int, l.2.1 * per.2 ≤ p + k * per.1 ∧ p + k * per.1 ≤ l.2.2 * per.2 else ∃ k : Int, l.2.2 * per.2 ≤ p + k * per.1 ∧ p + k * per.1 ≤ l.2.1 * per.2 + per.1
theorem letBy_in {per : Fr} (hq : PerOk per) {l : Lk} (hk : LkOk l) {p : Int} (p0 : 0 ≤ p) (p1 : p ≤ per.1) : InS (letBy per l) p ↔ LetZ per p l := by
  have hr : 0 < per.1 := Int.lt_of_lt_of_le hq.2.2.1 hq.1
  obtain ⟨k1, k2, k3, k4, k5⟩ := hk
  have hl : 0 ≤ (l.2.2 - l.2.1) * per.2 := Int.mul_nonneg (by rcases k5 with ⟨_, z⟩ | ⟨_, z⟩ <;> omega) (by have := hq.2.2.1; omega)
  have es : (l.2.2 - l.2.1) * per.2 = l.2.2 * per.2 - l.2.1 * per.2 := Int.sub_mul ..
  unfold letBy LetZ
  split
  · rw [stretches_in hr hl p0 p1, es]
    rw [show l.2.1 * per.2 + (l.2.2 * per.2 - l.2.1 * per.2) = l.2.2 * per.2 by omega]
  · split
    · rw [inS_nil]
      refine ⟨False.elim, fun ⟨k, a, b⟩ => ?_⟩
      omega
    · rw [stretches_in hr (by omega) p0 p1, es]
      rw [show l.2.1 * per.2 + (l.2.2 * per.2 - l.2.1 * per.2) = l.2.2 * per.2 by omega, show l.2.2 * per.2 + (per.1 - (l.2.2 * per.2 - l.2.1 * per.2)) = l.2.1 * per.2 + per.1 by omega]
theorem letAll_in {per : Fr} (hq : PerOk per) {p : Int} (p0 : 0 ≤ p) (p1 : p ≤ per.1) : ∀ (lks : List Lk) (f : List Fr), (∀ l ∈ lks, LkOk l) → (InS (lks.foldl (fun f l => commonSt f (letBy per l)) f) p ↔ InS f p ∧ ∀ l ∈ lks, LetZ per p l)
  | [], f, _ => by simp
  | l :: lks, f, h => by
    rw [List.foldl_cons, letAll_in hq p0 p1 lks _ fun x hx => h x (List.mem_cons_of_mem _ hx), common_in, letBy_in hq (h l List.mem_cons_self) p0 p1]
    constructor
    · rintro ⟨⟨a, b⟩, c⟩
      refine ⟨a, fun x hx => ?_⟩
      rcases List.mem_cons.mp hx with z | z
      · rw [z]; exact b
      · exact c x z
    · rintro ⟨a, b⟩
      exact ⟨⟨a, b l List.mem_cons_self⟩, fun x hx => b x (List.mem_cons_of_mem _ hx)⟩
theorem letZ_turn {per : Fr} {l : Lk} (h : LetZ per per.1 l) : LetZ per 0 l := by
  unfold LetZ at h ⊢
  split
  · rename_i c
    rw [if_pos c] at h
    obtain ⟨k, a, b⟩ := h
    exact ⟨k + 1, by rw [Int.add_mul]; omega, by rw [Int.add_mul]; omega⟩
  · rename_i c
    rw [if_neg c] at h
    obtain ⟨k, a, b⟩ := h
    exact ⟨k + 1, by rw [Int.add_mul]; omega, by rw [Int.add_mul]; omega⟩
/-- a look lets a phase be iff it is true of it -/
theorem letZ_hits {per : Fr} (hq : PerOk per) {l : Lk} (hk : LkOk l) {p : Int} (p0 : 0 ≤ p) (p1 : p < per.1) : LetZ per p l ↔ (l.1 = ("mark" : Str) → Hits per p l) ∧ (l.1 = ("sound" : Str) → ¬ Hits per p l) := by
  have hr : 0 < per.1 := Int.lt_of_lt_of_le hq.2.2.1 hq.1
  obtain ⟨k1, k2, k3, k4, k5⟩ := hk
  have f0 : 0 ≤ l.2.1 * per.2 := Int.mul_nonneg k1 (by have := hq.2.2.1; omega)
  have nn : ∀ k : Int, 0 ≤ p + k * per.1 → 0 ≤ k := fun k h => by
    refine Int.not_lt.mp fun c => ?_
    have := mulm (show k ≤ -1 by omega) hr
    omega
  unfold LetZ Hits
  rcases k5 with ⟨w, k5⟩ | ⟨w, k5⟩
  · have ei : innOf l = 0 := by
      unfold innOf
      rw [w]
      decide
    rw [if_pos w, ei]
    have ns : ¬ l.1 = ("sound" : Str) := by rw [w]; decide
    constructor
    · rintro ⟨k, a, b⟩
      exact ⟨fun _ => ⟨k, nn k (by omega), by omega, by omega⟩, fun z => absurd z ns⟩
    · rintro ⟨h, _⟩
      obtain ⟨k, _, a, b⟩ := h w
      exact ⟨k, by omega, by omega⟩
  · have ei : innOf l = 1 := by
      unfold innOf
      rw [w]
      decide
    have nm : ¬ l.1 = ("mark" : Str) := by rw [w]; decide
    rw [if_neg nm, ei]
    constructor
    · rintro ⟨k, a, b⟩
      refine ⟨fun z => absurd z nm, fun _ => ?_⟩
      rintro ⟨j, j0, j1, j2⟩
      have hj : j < k := by
        have : j * per.1 < k * per.1 := by omega
        exact mulk this hr
      have := mulm (show j + 1 ≤ k by omega) hr
      rw [Int.add_mul] at this
      omega
    · rintro ⟨_, h⟩
      have hn := h w
      have d := dm (l.2.1 * per.2 - p) per.1
      have d1 := Int.emod_nonneg (l.2.1 * per.2 - p) (show per.1 ≠ 0 by omega)
      have d2 := Int.emod_lt_of_pos (l.2.1 * per.2 - p) hr
      generalize (l.2.1 * per.2 - p) / per.1 = c at *
      generalize (l.2.1 * per.2 - p) % per.1 = e at *
      have ec : (c + 1) * per.1 = c * per.1 + per.1 := by rw [Int.add_mul]; omega
      refine ⟨c + 1, ?_, by omega⟩
      refine Int.not_lt.mp fun z => hn ⟨c + 1, nn _ (by omega), by omega, by omega⟩
theorem letAll_ne {per : Fr} (hq : PerOk per) {lks : List Lk} (hk : LksOk lks) : letAll per lks ≠ [] ↔ ∃ p : Int, 0 ≤ p ∧ p < per.1 ∧ ∀ l ∈ lks, (l.1 = ("mark" : Str) → Hits per p l) ∧ (l.1 = ("sound" : Str) → ¬ Hits per p l) := by
  have hr : 0 < per.1 := Int.lt_of_lt_of_le hq.2.2.1 hq.1
  constructor
  · intro h
    obtain ⟨s, hs⟩ := List.exists_mem_of_ne_nil _ h
    obtain ⟨b1, b2, b3⟩ := letAll_b hq hk s hs
    have hin : InS (letAll per lks) s.1 := ⟨s, hs, Int.le_refl _, b2⟩
    have hz := ((letAll_in hq b1 (by omega) lks _ hk.2).mp hin).2
    by_cases c : s.1 < per.1
    · exact ⟨s.1, b1, c, fun l hl => (letZ_hits hq (hk.2 l hl) b1 c).mp (hz l hl)⟩
    · have e : s.1 = per.1 := by omega
      rw [e] at hz
      exact ⟨0, Int.le_refl _, hr, fun l hl => (letZ_hits hq (hk.2 l hl) (Int.le_refl _) hr).mp (letZ_turn (hz l hl))⟩
  · rintro ⟨p, p0, p1, h⟩ z
    have hin : InS (letAll per lks) p := (letAll_in hq p0 (by omega) lks _ hk.2).mpr ⟨inS_one.mpr ⟨p0, by dsimp only; omega⟩, fun l hl => (letZ_hits hq (hk.2 l hl) p0 p1).mpr (h l hl)⟩
    rw [z] at hin
    exact inS_nil.mp hin
theorem arcs_ne {per : Fr} {lks : List Lk} : arcsBy per lks = [] ↔ letAll per lks = [] := by
  unfold arcsBy
  simp only
  split
  · exact Iff.rfl
  · rename_i h
    refine ⟨fun z => ?_, fun z => absurd (.inr z) h⟩
    exfalso
    have hl := (sortP_perm (if ((letAll per lks).getD 0 z2).1 = 0 then arcTail per.1 (letAll per lks) else letAll per lks)).length_eq
    rw [z] at hl
    have hn := List.eq_nil_of_length_eq_zero hl.symm
    split at hn
    · unfold arcTail at hn
      simp at hn
    · exact h (.inr hn)
/-- one roller: with it, or without -/
theorem one_zero {tr : List Rl} (h1 : tr.length = 1) {lks : List Lk} : HasAt tr lks 0 ↔ ∀ l ∈ lks, ¬ l.1 = ("mark" : Str) := by
  constructor
  · rintro ⟨lot, hl, z, z1, z2, z3⟩ l hl2 hw
    have e : lot = [] := List.mem_singleton.mp hl
    rw [e, List.map_eq_nil_iff] at z1
    obtain ⟨x, hx, _⟩ := z3 l hl2 hw
    rw [z1] at hx
    cases hx
  · intro h
    exact ⟨[], List.mem_cons_self, [], rfl, (fun _ h => nomatch h), fun l hl hw => absurd hw (h l hl)⟩
theorem one_one {tr : List Rl} (ht : TrOk tr) (h1 : tr.length = 1) {lks : List Lk} (hk : LksOk lks) : HasAt tr lks 1 ↔ ¬ arcsBy (perOf tr 0) lks = [] := by
  have hq : PerOk (perOf tr 0) := per_getD ht (Int.le_refl _) (by omega)
  rw [arcs_ne]
  show _ ↔ letAll (perOf tr 0) lks ≠ []
  rw [letAll_ne hq hk]
  have el : lotsOf (tr.length : Int) 1 = [[0]] := by
    rw [h1]
    decide
  constructor
  · rintro ⟨lot, hl, z, z1, z2, z3⟩
    rw [el] at hl
    rw [List.mem_singleton.mp hl] at z1
    have hz : z.length = 1 := by
      have := congrArg List.length z1
      simpa using this
    match z, hz with
    | [x], _ =>
      have ex : x.1 = 0 := by simpa using z1
      have a := z2 x List.mem_cons_self
      rw [ex] at a
      refine ⟨x.2, a.1, a.2.1, fun l hl => ⟨fun hw => ?_, a.2.2 l hl⟩⟩
      obtain ⟨y, hy, h⟩ := z3 l hl hw
      rw [List.mem_singleton.mp hy, ex] at h
      exact h
  · rintro ⟨p, p0, p1, h⟩
    refine ⟨[0], by rw [el]; exact List.mem_cons_self, [(0, p)], rfl, fun x hx => ?_, fun l hl hw => ⟨(0, p), List.mem_cons_self, (h l hl).1 hw⟩⟩
    rw [List.mem_singleton.mp hx]
    exact ⟨p0, p1, fun l hl hs => (h l hl).2 hs⟩
/-- the words of one roller are by its arcs -/
theorem alone_none {tr : List Rl} (ht : TrOk tr) (h1 : tr.length = 1) {lks : List Lk} (h : (fewestBy tr lks).isSome = true) (hn : ∀ l ∈ lks, ¬ l.1 = ("mark" : Str)) (q : Fr) : wordBy tr lks q = "sound" := by
  obtain ⟨s, f, _, hm, hs⟩ := mayM_iff ht h
  have h0 : s = 0 := by
    rcases Nat.eq_zero_or_pos s with z | z
    · exact z
    · exact absurd ((one_zero h1).mpr hn) (f.min 0 z)
  subst h0
  rw [word_sound]
  cases e : MayM tr lks q with
  | false => rfl
  | true => exact absurd rfl ((one_zero h1).mp ((hm q).mp e) (mk q) (mem_snoc.mpr (.inr rfl)))
theorem alone_word {tr : List Rl} (ht : TrOk tr) (h1 : tr.length = 1) {lks : List Lk} (hk : LksOk lks) (h7 : lks.length ≤ 7) (h : (fewestBy tr lks).isSome = true) (hn : ∃ l ∈ lks, l.1 = ("mark" : Str)) {q : Fr} (hp : PcOk q) :
    wordBy tr lks q = if arcsBy (perOf tr 0) (lks ++ [mk q]) = [] then ("sound" : Str) else if arcsBy (perOf tr 0) (lks ++ [sd q]) = [] then ("marked" : Str) else ("maybe" : Str) := by
  obtain ⟨s, f, _, hm, hs⟩ := mayM_iff ht h
  have e1 : s = 1 := by
    rcases Nat.eq_zero_or_pos s with z | z
    · exfalso
      rw [z] at f
      obtain ⟨l, hl, hw⟩ := hn
      exact (one_zero h1).mp f.has l hl hw
    · have := f.le
      omega
  subst e1
  have em := (hm q).trans (one_one ht h1 (lks_app hk h7 (mark_ok hp)))
  have es := (hs q).trans (one_one ht h1 (lks_app hk h7 (sound_ok hp)))
  rw [word_eq]
  by_cases c : arcsBy (perOf tr 0) (lks ++ [mk q]) = []
  · rw [if_pos c, if_neg (fun z => em.mp z c)]
  · rw [if_neg c, if_pos (em.mpr c)]
    by_cases d : arcsBy (perOf tr 0) (lks ++ [sd q]) = []
    · rw [if_pos d, if_neg (fun z => es.mp z d)]
    · rw [if_neg d, if_pos (es.mpr d)]
end W92
set_option Elab.async false
set_option linter.all false
set_option maxHeartbeats 4000000
namespace W92
open PySem Gm
theorem sureGo_len {tr : List Rl} {lks : List Lk} {many len en : Int} : ∀ (n : Nat) (first : Int), (sureGo tr lks many len en n first []).length ≤ n
  | 0, first => Nat.le_refl _
  | n + 1, first => by
    unfold sureGo
    split
    · split
      · exact Nat.le_succ_of_le (sureGo_len n (first + 1))
      · rw [sureGo_app, List.length_append]
        have := sureGo_len (tr := tr) (lks := lks) (many := many) (len := len) (en := en) n (first + len)
        simp only [List.nil_append, List.length_cons, List.length_nil]
        omega
    · exact Nat.zero_le _
theorem sure_len {tr : List Rl} {lks : List Lk} {len en : Int} (h : en ≤ 40) : (sureOf tr lks len en).length ≤ 41 := by
  have := sureGo_len (tr := tr) (lks := lks) (many := fewN tr lks) (len := len) (en := en) (en + 1).toNat 0
  unfold sureOf
  omega
theorem zip_apart {len en : Int} : ∀ {xs : List Int}, xs.Pairwise (fun x y => x + len ≤ y) → (∀ x ∈ xs, x + len ≤ en) → ∀ p ∈ xs.zip (xs.drop 1 ++ [en]), ¬ p.2 < p.1 + len
  | [], _, _, p, hp => nomatch hp
  | [x], _, h, p, hp => by
    have e : p = (x, en) := by simpa using hp
    rw [e]
    have := h x List.mem_cons_self
    dsimp only
    omega
  | x :: y :: xs, hp, h, p, hm => by
    obtain ⟨a, b⟩ := List.pairwise_cons.mp hp
    have ih := zip_apart (len := len) (en := en) b fun z hz => h z (List.mem_cons_of_mem _ hz)
    rw [show (x :: y :: xs).drop 1 = y :: xs from rfl, List.cons_append, List.zip_cons_cons] at hm
    rcases List.mem_cons.mp hm with z | z
    · rw [z]
      have := a y List.mem_cons_self
      dsimp only
      omega
    · exact ih p z
end W92
set_option Elab.async false
set_option linter.all false
set_option maxRecDepth 100000
set_option maxHeartbeats 4000000
/-! a def with keyword-only parameters, called with all of them -/
namespace Gm
open PySem PySem.Spec PyProof.Rows L2
structure CalK (P : Program) (w : World) (K : PySem.W.Frag) (mg : Str → Option Value) (base : Heap) (k n : Nat) (x : Str) (ks : List Str) (sp : Sp) : Prop where
  ex : ∃ (f : Addr) (fd : FuncData) (ps : List Str) (g : List Value → List Value → List Value), FnOk P w K mg base C8.CX0 k f fd ps sp ∧ mg x = some (.ref f) ∧ PySem.W.keepIn K (.ref f) = true ∧ KBn K fd ps n ks g (fun vs zs => vs ++ zs)
structure DefTK (K : PySem.W.Frag) (mg : Str → Option Value) (n : Str) (st : Stmt) (kws : List (Str × V)) : Prop where
  ex : ∃ (f : Addr) (fd : FuncData), FunD K n n (L2.defArgs st) (L2.defBody st) (L2.defScope st) [] kws f fd ∧ mg n = some (.ref f)
section
variable {P : Program} {w : World} {K : PySem.W.Frag} {mg : Str → Option Value} {base : Heap}
theorem cal_ofK {n : Str} {st : Stmt} {kws : List (Str × V)} {ks : List Str} {N ps : List Str} {k m np : Nat} {ι ρ : Type} {A : RepA ι} {fr : Bool} {R : Rep ρ} {pre : ι → Prop} {f : ι → ρ} {sl : Hp → ι → List Slot}
    (D : DefTK K mg n st kws) (hk : kws ≠ []) (S : FnScope N ps (L2.defScope st)) (hf : Fits A sl ps.length) (hm : N.length = ps.length + m)
    (hb : ∀ (kV doc pm : Value) (an : Option Addr) (cdv ct : Value) (us ws : List Value), us.length = np → ws.length = ks.length → bindArgs (PySem.W.fnOf n n (L2.defArgs st) (L2.defBody st) (L2.defScope st) .none kV doc pm an cdv ct) ⟨us, ks.zip ws⟩ = pure (ps.zip (us ++ ws)))
    (body : ∀ (a : Addr) (cdv : Value) (A : Around) (outer : List Env) (s : Shared) (H : Hp) (E : XK) (i : ι), Room k (CxD P w K mg base N n st a cdv A outer s H E).A → pre i →
      PSs (CxD P w K mg base N n st a cdv A outer s H E) (L2.defBody st) (tS H (sl H i ++ List.replicate m .no) (Rt fr R H (f i)) Nv)) : CalK P w K mg base (k + 1) np n ks (spG A fr R pre f) := by
  obtain ⟨a, fd, F, hmg⟩ := D.ex
  obtain ⟨mv, kb⟩ := F.kbinds0 np ks [] (fun us _ ws => us ++ ws) hk (fun _ h => nomatch h) (fun r1 _ r3 => r1.append r3) fun D doc pm an cdv ct us mv ws h1 h2 h3 => by
    have e : mv = [] := List.eq_nil_of_length_eq_zero h2
    subst e
    exact hb _ _ _ _ _ _ us ws h1 h3
  refine ⟨a, fd, ps, _, ?_, hmg, F.kp, kb⟩
  refine F.ok S (fun vs H Q E ⟨i, h, _⟩ => by rw [(hf.to h).len, hf.n]) fun cdv Ar outer s H vs Q E hr h => ?_
  obtain ⟨i, h1, h2, h3⟩ := h
  refine ⟨_, PSs.nox (body a cdv Ar outer s H E i hr h2), ?_⟩
  have hs := hf.to h1
  refine ⟨?_, fun v H2 s2 r => h3 v H2 s2 r.1 r.2, fun _ _ z => z.elim⟩
  have e : L2.start N vs = vs.map some ++ List.replicate m none := by
    unfold L2.start
    rw [hs.len, hf.n, hm, Nat.add_sub_cancel_left]
  rw [e]
  exact hs.en m
end
section
variable {X : Cx} {a b c d : Expr} {pos : Pos} {H0 : Hp} {Γ : List Slot} {fr f1 f2 f3 f4 : Bool}
variable {α β γ δ ρ : Type} {F : Rep α} {G : Rep β} {J : Rep γ} {M : Rep δ} {x : α} {y : β} {z : γ} {u : δ}
open C8 in
/-- f(a, b, k1 = c, k2 = d) -/
theorem ex_callK {R : Rep ρ} {pre : α × β × γ × δ × Unit → Prop} {f : α × β × γ × δ × Unit → ρ} {k j : Nat} {n k1 k2 : Str} {p p1 p2 : Pos} (cl : CalK X.prog X.w X.K X.mg X.base k 2 n [k1, k2] (spG (aC F (aC G (aC J (aC M aN)))) fr R pre f)) (hr : Room j X.A) (hp : pre (x, y, z, u, ()))
    (ha : PE X a (tE f1 F H0 Γ x)) (hb : PE X b (tE f2 G H0 Γ y)) (hc : PE X c (tE f3 J H0 Γ z)) (hd : PE X d (tE f4 M H0 Γ u)) (hk : k ≤ j := by decide) (hg : Gl X n := by rfl)
    (hdb : (n == ("__debug__" : Str)) = false := by decide) (hs1 : starEach [a, b] X.env = (false, eval a X.env) :: starEach [b] X.env := by rfl) (hs2 : starEach [b] X.env = (false, eval b X.env) :: starEach [] X.env := by rfl)
    (hall : (backToKw pos (keywordEach [⟨some k1, c, p1⟩, ⟨some k2, d, p2⟩] X.env)).all (·.1.isSome) = true := by rfl) (hks : (backToKw pos (keywordEach [⟨some k1, c, p1⟩, ⟨some k2, d, p2⟩] X.env)).filterMap (·.1) = [k1, k2] := by rfl)
    (hpl : ((backTo pos (starEach [a, b] X.env)).any (·.1) || (backToKw pos (keywordEach [⟨some k1, c, p1⟩, ⟨some k2, d, p2⟩] X.env)).any (·.1.isNone)) = false := by rfl) :
    PE X (.Call (.Name n p) [a, b] [⟨some k1, c, p1⟩, ⟨some k2, d, p2⟩] pos) (tE fr R H0 Γ (f (x, y, z, u, ()))) := by
  obtain ⟨fa, fd, ps, g, hF, hm, kp, kb⟩ := cl.ex
  refine (pe_callN hF (hr.mono hk) hg hm kp kb (C8.pass0 (E := C8.E0)) (pa_cons ha (pa_cons hb pa_nil hs2) hs1) (pk_cons hc (pk_cons hd pk_nil)) hall hks hdb hs1 hpl).wk fun σ H Q ⟨g0, q⟩ => ?_
  exact ⟨g0, fun v1 H1 e1 r1 _ => ⟨g0.mono e1, fun v2 H2 e2 r2 _ => ⟨g0.mono (e1.trans e2), fun v3 H3 e3 r3 _ => ⟨g0.mono ((e1.trans e2).trans e3), fun v4 H4 e4 r4 _ => ⟨rfl, rfl, ⟨(x, y, z, u, ()), ⟨v1, _, rfl, F.mono ((e2.trans e3).trans e4) r1, v2, _, rfl, G.mono (e3.trans e4) r2, v3, _, rfl, J.mono e4 r3, v4, _, rfl, r4, rfl⟩, hp, fun v H5 e5 r5 fz => q v H5 ((((e1.trans e2).trans e3).trans e4).trans e5) r5 (fz.back (((e1.trans e2).trans e3).trans e4))⟩⟩⟩⟩⟩⟩
end
end Gm
set_option Elab.async false
set_option linter.all false
set_option maxRecDepth 100000
set_option maxHeartbeats 4000000
/-! a dict of three words, each with two truths -/
namespace Gm
open PySem PySem.Spec PyProof.Rows L2
def dueKs (k1 k2 k3 : Str) (q1 q2 q3 : Addr) : List (Key × V) := [(.inr k1, .ref q1), (.inr k2, .ref q2), (.inr k3, .ref q3)]
def l2V (a b : Bool) : HO := .lst [.bl a, .bl b]
def vDue (k1 k2 k3 : Str) (a1 b1 a2 b2 a3 b3 : Bool) : Rep Unit := ⟨fun _ v H => ∃ p q1 q2 q3, v = .ref p ∧ H p = some (.dK (dueKs k1 k2 k3 q1 q2 q3)) ∧ H q1 = some (l2V a1 b1) ∧ H q2 = some (l2V a2 b2) ∧ H q3 = some (l2V a3 b3),
  fun e ⟨p, q1, q2, q3, h1, h2, h3, h4, h5⟩ => ⟨p, q1, q2, q3, h1, e _ _ h2, e _ _ h3, e _ _ h4, e _ _ h5⟩⟩
section
variable {X : Cx} {a b : Expr} {pos : Pos} {H0 : Hp} {Γ : List Slot} {f1 f2 : Bool} {k1 k2 k3 : Str} {a1 b1 a2 b2 a3 b3 : Bool}
theorem pe_two {x y : Bool} {j1 j2 : Nat} {p1 p2 p3 : Pos} : PE X (.List [.Constant (.bool x) j1 p1, .Constant (.bool y) j2 p2] p3) (fun σ H Q => ∀ p, H p = none → Q (.ref p) (upd H p (l2V x y))) :=
  (pe_lst (pa_cons pe_bl (pa_cons pe_bl pa_nil))).wk fun σ H Q q => ⟨two_le, fun p hp => q p hp⟩
theorem ex_due {j1 j2 j3 : Nat} {i1 i2 i3 i4 i5 i6 : Nat} {p1 p2 p3 : Pos} {q1 q2 q3 q4 q5 q6 r1 r2 r3 : Pos} (h12 : k1 ≠ k2) (h13 : k1 ≠ k3) (h23 : k2 ≠ k3) :
    PE X (.Dict [some (.Constant (.str k1) j1 p1), some (.Constant (.str k2) j2 p2), some (.Constant (.str k3) j3 p3)] [.List [.Constant (.bool a1) i1 q1, .Constant (.bool b1) i2 q2] r1, .List [.Constant (.bool a2) i3 q3, .Constant (.bool b2) i4 q4] r2, .List [.Constant (.bool a3) i5 q5, .Constant (.bool b3) i6 q6] r3] pos) (tE false (vDue k1 k2 k3 a1 b1 a2 b2 a3 b3) H0 Γ ()) :=
  (pe_disp (pps_cons pe_str pe_two (pps_cons pe_str pe_two (pps_cons pe_str pe_two pps_nil))) rfl rfl (fun h => nomatch h) (show 3 ≤ 15 by decide)).wk fun σ H Q ⟨g, q⟩ => fun p hp =>
    show tPairs _ _ _ _ from fun q1 hq1 => fun q2 hq2 => fun q3 hq3 => by
      have n1 : q1 ≠ p := fun z => by
        rw [z, upd_same] at hq1
        cases hq1
      have e1 : H q1 = none := by rwa [upd_ne n1] at hq1
      have n2 : q2 ≠ q1 := fun z => by
        rw [z, upd_same] at hq2
        cases hq2
      rw [upd_ne n2] at hq2
      have n3 : q2 ≠ p := fun z => by
        rw [z, upd_same] at hq2
        cases hq2
      have e2 : H q2 = none := by rwa [upd_ne n3] at hq2
      have n4 : q3 ≠ q2 := fun z => by
        rw [z, upd_same] at hq3
        cases hq3
      rw [upd_ne n4] at hq3
      have n5 : q3 ≠ q1 := fun z => by
        rw [z, upd_same] at hq3
        cases hq3
      rw [upd_ne n5] at hq3
      have n6 : q3 ≠ p := fun z => by
        rw [z, upd_same] at hq3
        cases hq3
      have e3 : H q3 = none := by rwa [upd_ne n6] at hq3
      have mk : mergeK [] (dueKs k1 k2 k3 q1 q2 q3) = dueKs k1 k2 k3 q1 q2 q3 := by
        have d12 : ¬ (Sum.inr k1 : Key) = .inr k2 := fun z => h12 (Sum.inr.inj z)
        have d13 : ¬ (Sum.inr k1 : Key) = .inr k3 := fun z => h13 (Sum.inr.inj z)
        have d23 : ¬ (Sum.inr k2 : Key) = .inr k3 := fun z => h23 (Sum.inr.inj z)
        simp only [mergeK, dueKs, List.foldl_cons, List.foldl_nil, putK, List.any_nil, Bool.false_eq_true, if_false, List.nil_append, List.any_cons, decide_eq_false d12, decide_eq_false d13, decide_eq_false d23, Bool.or_false, Bool.false_or, List.cons_append]
      have hpE : upd (upd (upd (upd H p (.dK [])) q1 (l2V a1 b1)) q2 (l2V a2 b2)) q3 (l2V a3 b3) p = some (.dK []) := by
        rw [upd_ne n6.symm, upd_ne n3.symm, upd_ne n1.symm, upd_same]
      refine ⟨hpE, dueKs k1 k2 k3 q1 q2 q3, rfl, (show 3 ≤ 15 by decide), ?_⟩
      rw [mk]
      refine q _ _ (same_mut (((( same_new hp).trans (same_new ?_)).trans (same_new ?_)).trans (same_new ?_)) hp) ⟨p, q1, q2, q3, rfl, upd_same, ?_, ?_, ?_⟩ fre0
      · rw [upd_ne n1]; exact e1
      · rw [upd_ne n2, upd_ne n3]; exact e2
      · rw [upd_ne n4, upd_ne n5, upd_ne n6]; exact e3
      · rw [upd_ne n1, upd_ne n5.symm, upd_ne n2.symm, upd_same]
      · rw [upd_ne n3, upd_ne n4.symm, upd_same]
      · rw [upd_ne n6, upd_same]
def dueOf (k1 k2 k3 : Str) (a1 b1 a2 b2 a3 b3 : Bool) (k : Str) : Option (List Bool) := if k1 = k then some [a1, b1] else if k2 = k then some [a2, b2] else if k3 = k then some [a3, b3] else none
theorem lst_two {H : Hp} {q : Addr} {x y : Bool} (h : H q = some (l2V x y)) : (vL vB).r [x, y] (.ref q) H := ⟨q, _, rfl, h, _, rfl, rfl, rfl, trivial⟩
theorem ex_dueAt {k : Str} {xs : List Bool} {j : Nat} (hr : Room j X.A) (ha : PE X a (tE f1 (vDue k1 k2 k3 a1 b1 a2 b2 a3 b3) H0 Γ ())) (hb : PE X b (tE f2 vS H0 Γ k)) (h : dueOf k1 k2 k3 a1 b1 a2 b2 a3 b3 k = some xs) (hs : NoSl b := by exact fun _ _ => rfl) : PE X (.Subscript a b pos) (tE false (vL vB) H0 Γ xs) :=
  (pe_dget (hu_of hr) ha hb hs).wk fun σ H Q ⟨g, q⟩ => ⟨g, fun v H1 s1 r1 _ => ⟨g.mono s1, fun w H2 s2 r2 _ => by
    obtain ⟨p, q1, q2, q3, h1, h2, h3, h4, h5⟩ := (vDue k1 k2 k3 a1 b1 a2 b2 a3 b3).mono s2 r1
    have dg := DGet.k (k := .inr k) h2
    have e2 : w = kV (.inr k) := r2
    rw [← e2] at dg
    unfold dueOf at h
    unfold dueKs at dg
    by_cases c1 : k1 = k
    · rw [if_pos c1] at h
      cases h
      rw [valV_pos (by rw [c1])] at dg
      exact ⟨p, _, h1, dg, q _ _ (s1.trans s2) (lst_two h3) fre0⟩
    · rw [if_neg c1] at h
      rw [valV_neg (fun z => c1 (Sum.inr.inj z))] at dg
      by_cases c2 : k2 = k
      · rw [if_pos c2] at h
        cases h
        rw [valV_pos (by rw [c2])] at dg
        exact ⟨p, _, h1, dg, q _ _ (s1.trans s2) (lst_two h4) fre0⟩
      · rw [if_neg c2] at h
        rw [valV_neg (fun z => c2 (Sum.inr.inj z))] at dg
        by_cases c3 : k3 = k
        · rw [if_pos c3] at h
          cases h
          rw [valV_pos (by rw [c3])] at dg
          exact ⟨p, _, h1, dg, q _ _ (s1.trans s2) (lst_two h5) fre0⟩
        · rw [if_neg c3] at h
          cases h⟩⟩
end
end Gm
set_option Elab.async false
set_option linter.all false
set_option maxRecDepth 100000
set_option maxHeartbeats 4000000
/-! what draws from a pen: a list of three numbers, one's own, at a known place; what it gives is known by a law alone -/
namespace Gm
open PySem PySem.Spec PyProof.Rows L2
/-- the pen -/
def PenH (o : HO) : Prop := ∃ a b c : Int, o = .lst [.int a, .int b, .int c] ∧ 0 ≤ b ∧ b < 2147483648
def cPen : Con Unit := ⟨fun _ o _ => PenH o, fun _ h => h, fun ⟨a, b, c, h, _⟩ xs e => by
  rw [h] at e
  cases e⟩
instance : ImmC cPen := ⟨fun _ h => h⟩
abbrev penS (p : Addr) : Slot := owA p cPen ()
/-- the heap without the pen -/
noncomputable def del (p : Addr) (H : Hp) : Hp := fun a => open Classical in if a = p then none else H a
theorem del_at {p : Addr} {H : Hp} : del p H p = none := if_pos rfl
theorem del_ne {p a : Addr} {H : Hp} (h : a ≠ p) : del p H a = H a := if_neg h
theorem del_sub {p : Addr} {H : Hp} : Same (del p H) H := fun a o h => by
  by_cases e : a = p
  · rw [e, del_at] at h
    cases h
  · rwa [del_ne e] at h
theorem del_tu {p : Addr} {H : Hp} {o : HO} (h : H p = some o) (k : PenH o) : Tu H (del p H) := fun a xs e => by
  have n : a ≠ p := fun z => by
    rw [z, h] at e
    obtain ⟨a, b, c, q, _⟩ := k
    rw [q] at e
    cases e
  rw [del_ne n]
  exact e
section
variable {H0 H H2 : Hp} {Γ : List Slot} {σ : HSt} {p : Addr} {s : Nat}
theorem pen_tu (h : ∃ o, H p = some o ∧ PenH o) (e : Same (del p H) H2) : Tu H H2 := fun a xs q => by
  obtain ⟨o, h1, h2⟩ := h
  exact e _ _ (del_tu h1 h2 a xs q)
theorem En.penAt (g : En H0 Γ σ H) (h : Γ[s]? = some (penS p)) : H0 p = none ∧ σ[s]? = some (some (.ref p)) ∧ ∃ o, H p = some o ∧ PenH o := by
  obtain ⟨q, o, h1, h2, h3, h4, h5⟩ := g.ow h
  subst h4
  exact ⟨h2, h1, o, h3, h5⟩
/-- the pen is drawn from: all else stays -/
theorem En.drawn (g : En H0 Γ σ H) (h : Γ[s]? = some (penS p)) (e : Same (del p H) H2) (k : ∃ o, H2 p = some o ∧ PenH o) : En H0 Γ σ H2 := by
  obtain ⟨h1, h2, h3⟩ := g.penAt h
  have t : Tu H H2 := pen_tu h3 e
  refine ⟨fun a o q => ?_, g.len, fun i t' hi => ?_, g.apart⟩
  · have n : a ≠ p := fun z => by
      rw [z, h1] at q
      cases q
    exact e _ _ (by rw [del_ne n]; exact g.same _ _ q)
  · have z := g.ok i t' hi
    cases t' with
    | no => trivial
    | im P kk =>
      obtain ⟨x, z1, z2⟩ := z
      exact ⟨x, z1, kk _ _ _ t z2⟩
    | ge Hc P kk => exact z
    | ow C kc nc =>
      by_cases es : i = s
      · subst es
        rw [h] at hi
        cases hi
        obtain ⟨o, k1, k2⟩ := k
        exact ⟨p, o, by rw [h2] <;> rfl, h1, k1, rfl, k2⟩
      · obtain ⟨q, o, z1, z2, z3, z4⟩ := z
        have n : q ≠ p := fun y => by
          rw [y] at z1
          exact g.apart i s _ _ p es hi h rfl rfl z1 (by rw [h2] <;> rfl)
        exact ⟨q, o, z1, z2, e _ _ (by rw [del_ne n]; exact z3), kc _ _ _ _ t z4⟩
/-- a pen in front of all slots -/
theorem En.push (g : En H0 Γ σ H) (hno : ∀ t ∈ Γ, t.own = false) (h0 : H0 p = none) (k : ∃ o, H p = some o ∧ PenH o) : En H0 (penS p :: Γ) (some (.ref p) :: σ) H := by
  obtain ⟨o, k1, k2⟩ := k
  refine ⟨g.same, by simp [g.len], fun i t h => ?_, fun i j t u q hij h1 h2 o1 o2 _ _ => ?_⟩
  · cases i with
    | zero =>
      cases h
      exact ⟨p, o, rfl, h0, k1, rfl, k2⟩
    | succ i => exact g.ok i t h
  · cases i with
    | zero =>
      cases j with
      | zero => exact hij rfl
      | succ j =>
        rw [hno _ (List.mem_of_getElem? h2)] at o2
        cases o2
    | succ i =>
      rw [hno _ (List.mem_of_getElem? h1)] at o1
      cases o1
end
class ImmA {ι : Type} (A : RepA ι) : Prop where
  tu : ∀ {i : ι} {vs : List V} {H H' : Hp}, Tu H H' → A.r i vs H → A.r i vs H'
instance : ImmA aN := ⟨fun _ h => h⟩
instance {α ι : Type} {F : Rep α} {A : RepA ι} [i : Imm F] [j : ImmA A] : ImmA (aC F A) := ⟨fun e ⟨v, r, h1, h2, h3⟩ => ⟨v, r, h1, i.tu e h2, j.tu e h3⟩⟩
/-- worth something of which P is known; the pen may have been drawn from -/
def tM {α : Type} (F : Rep α) (P : α → Prop) (H0 : Hp) (Γ : List Slot) : TE := fun σ H Q => En H0 Γ σ H ∧ ∀ a v H2, P a → En H0 Γ σ H2 → Tu H H2 → F.r a v H2 → Q v H2
def tMA {ι : Type} (A : RepA ι) (P : ι → Prop) (H0 : Hp) (Γ : List Slot) : TA := fun σ H Q => En H0 Γ σ H ∧ ∀ i vs H2, P i → En H0 Γ σ H2 → Tu H H2 → A.r i vs H2 → Q vs H2
def tTM (P : Bool → Prop) (H0 : Hp) (Γ : List Slot) : TT := fun σ H Q => En H0 Γ σ H ∧ ∀ b H2, P b → En H0 Γ σ H2 → Tu H H2 → Q b H2
/-- the promise of a def that draws: its pen first -/
def spM {α ι : Type} (A : RepA ι) (F : Rep α) (pre : ι → Prop) (post : ι → α → Prop) : Sp := fun vs H Q _ => ∃ p i ws, vs = .ref p :: ws ∧ (∃ o, H p = some o ∧ PenH o) ∧ A.r i ws (del p H) ∧ pre i ∧ ∀ a v H2, post i a → Same (del p H) H2 → (∃ o, H2 p = some o ∧ PenH o) → F.r a v H2 → Q v H2
def RtM {α : Type} (F : Rep α) (post : α → Prop) (p : Addr) : V → Hp → Prop := fun v H2 => ∃ a, post a ∧ F.r a v H2 ∧ ∃ o, H2 p = some o ∧ PenH o
theorem tu_refl {H : Hp} : Tu H H := fun _ _ h => h
section
variable {X : Cx} {e a b c tg l iter : Expr} {es : List Expr} {rest body orelse : List Stmt} {pos p' : Pos} {H0 : Hp} {Γ Γ' : List Slot} {fr f1 f2 f3 : Bool} {R : V → Hp → Prop} {N : HSt → Hp → Prop}
variable {α β γ ι ρ : Type} {F : Rep α} {G : Rep β} {J : Rep γ} {x : α} {P P' : α → Prop} {P2 : β → Prop} {P3 : γ → Prop}
theorem m_lift (h : PE X e (tE fr F H0 Γ x)) : PE X e (tM F (fun a => a = x) H0 Γ) := h.wk fun σ H Q ⟨g, q⟩ => ⟨g, fun v H2 s r _ => q x v H2 rfl (g.mono s) (tu_of s) r⟩
theorem m_imp (h : PE X e (tM F P H0 Γ)) (k : ∀ a, P a → P' a) : PE X e (tM F P' H0 Γ) := h.wk fun σ H Q ⟨g, q⟩ => ⟨g, fun a v H2 p g2 t r => q a v H2 (k a p) g2 t r⟩
section
variable {Pi Pj : Int → Prop}
theorem m_add (ha : PE X a (tM vI Pi H0 Γ)) (hb : PE X b (tM vI Pj H0 Γ)) : PE X (.BinOp a .Add b pos) (tM vI (fun z => ∃ i j, Pi i ∧ Pj j ∧ z = i + j) H0 Γ) :=
  (pe_op op_add ha hb).wk fun σ H Q ⟨g, q⟩ => ⟨g, fun i v H1 p1 g1 t1 r1 => ⟨g1, fun j w H2 p2 g2 t2 r2 => k0 (i := i) (j := j) r1 r2 fun u H3 s3 e3 => q (i + j) u H3 ⟨i, j, p1, p2, rfl⟩ (g2.mono s3) ((t1.trans t2).trans (tu_of s3)) e3⟩⟩
theorem m_sub (ha : PE X a (tM vI Pi H0 Γ)) (hb : PE X b (tM vI Pj H0 Γ)) : PE X (.BinOp a .Sub b pos) (tM vI (fun z => ∃ i j, Pi i ∧ Pj j ∧ z = i - j) H0 Γ) :=
  (pe_op op_sub ha hb).wk fun σ H Q ⟨g, q⟩ => ⟨g, fun i v H1 p1 g1 t1 r1 => ⟨g1, fun j w H2 p2 g2 t2 r2 => k0 (i := i) (j := j) r1 r2 fun u H3 s3 e3 => q (i - j) u H3 ⟨i, j, p1, p2, rfl⟩ (g2.mono s3) ((t1.trans t2).trans (tu_of s3)) e3⟩⟩
theorem m_mul (ha : PE X a (tM vI Pi H0 Γ)) (hb : PE X b (tM vI Pj H0 Γ)) (hc : ∀ i j, Pi i → Pj j → CMul i j) : PE X (.BinOp a .Mult b pos) (tM vI (fun z => ∃ i j, Pi i ∧ Pj j ∧ z = i * j) H0 Γ) :=
  (pe_op op_mul ha hb).wk fun σ H Q ⟨g, q⟩ => ⟨g, fun i v H1 p1 g1 t1 r1 => ⟨g1, fun j w H2 p2 g2 t2 r2 => kC (i := i) (j := j) (hc i j p1 p2) r1 r2 fun u H3 s3 e3 => q (i * j) u H3 ⟨i, j, p1, p2, rfl⟩ (g2.mono s3) ((t1.trans t2).trans (tu_of s3)) e3⟩⟩
theorem mt_eq (ha : PE X a (tM vI Pi H0 Γ)) (hb : PE X b (tM vI Pj H0 Γ)) (hm : behindInMarks .Eq b = false := by rfl) : PT X (.Compare a [.Eq] [b] pos) (tTM (fun _ => True) H0 Γ) :=
  (pt_cmpR op_eq ha hb hm).wk fun σ H Q ⟨g, q⟩ => ⟨g, fun i v H1 p1 g1 t1 r1 => ⟨g1, fun j w H2 p2 g2 t2 r2 => kEq (F := vI) (x := i) (x' := j) r1 r2 fun u H3 s3 e3 => ⟨decide (i = j), e3, q _ H3 trivial (g2.mono s3) ((t1.trans t2).trans (tu_of s3))⟩⟩⟩
end
theorem mt_val {Pb : Bool → Prop} (h : PE X e (tM vB Pb H0 Γ)) (he : ∀ whole, isTrue e X.env whole = (do let v ← whole; standAt e.pos; holding [v] (truthy v)) := by intro _; rfl) : PT X e (tTM Pb H0 Γ) :=
  (pt_val h he).wk fun σ H Q ⟨g, q⟩ => ⟨g, fun b v H1 p1 g1 t1 r1 => ⟨b, r1, q b H1 p1 g1 t1⟩⟩
theorem mt_not {Pb : Bool → Prop} (h : PT X a (tTM Pb H0 Γ)) : PT X (.UnaryOp .Not a pos) (tTM (fun b => ∃ c, Pb c ∧ b = !c) H0 Γ) := (pt_not h).wk fun σ H Q ⟨g, q⟩ => ⟨g, fun b H1 p1 g1 t1 => q (!b) H1 ⟨b, p1, rfl⟩ g1 t1⟩
theorem mt_lift {d : Bool} (h : PT X e (tT H0 Γ d)) : PT X e (tTM (fun b => b = d) H0 Γ) := h.wk fun σ H Q ⟨g, q⟩ => ⟨g, fun H1 s => q d H1 rfl (g.mono s) (tu_of s)⟩
/-- a and b -/
theorem mt_and {Pa Pb : Bool → Prop} (ha : PT X a (tTM Pa H0 Γ)) (hb : PT X b (tTM Pb H0 Γ)) : PT X (.BoolOp .And [a, b] pos) (tTM (fun _ => True) H0 Γ) :=
  (PW.pt (pw_and ha (pw_and1 hb))).wk fun σ H Q ⟨g, q⟩ => ⟨g, fun c H1 p1 g1 t1 => by
    cases c with
    | true => exact iteT ⟨g1, fun d H2 p2 g2 t2 => q d H2 trivial g2 (t1.trans t2)⟩
    | false => exact iteF (q false H1 trivial g1 t1)⟩
/-- both true -/
theorem m_and {Pa Pb : Bool → Prop} (ha : PE X a (tM vB Pa H0 Γ)) (hb : PE X b (tM vB Pb H0 Γ)) (ka : ∀ c, Pa c → c = true) (kb : ∀ c, Pb c → c = true) : PE X (.BoolOp .And [a, b] pos) (tM vB (fun c => c = true) H0 Γ) :=
  (pe_and ha (pe_one hb)).wk fun σ H Q ⟨g, q⟩ => ⟨g, fun c v H1 p1 g1 t1 r1 => ⟨true, by rw [← ka c p1]; exact r1, iteT ⟨g1, fun d w H2 p2 g2 t2 r2 => q d w H2 (kb d p2) g2 (t1.trans t2) r2⟩⟩⟩
theorem m_tp [Imm F] (ha : PE X a (tM F P H0 Γ)) (hb : PE X b (tM G P2 H0 Γ)) {k : Nat} (hs : starEach [a, b] X.env = (false, eval a X.env) :: starEach [b] X.env := by rfl) (hs2 : starEach [b] X.env = (false, eval b X.env) :: starEach [] X.env := by rfl) : PE X (.Tuple [a, b] k pos) (tM (vP F G) (fun z => P z.1 ∧ P2 z.2) H0 Γ) :=
  (pe_tup (pa_cons ha (pa_cons hb pa_nil hs2) hs)).wk fun σ H Q ⟨g, q⟩ => ⟨g, fun x v H1 p1 g1 t1 r1 => ⟨g1, fun y w H2 p2 g2 t2 r2 => ⟨two_le, fun r hr => q (x, y) _ _ ⟨p1, p2⟩ (g2.mono (same_new hr)) ((t1.trans t2).trans (tu_of (same_new hr))) ⟨r, v, w, rfl, upd_same, F.mono (same_new hr) (Imm.tu t2 r1), G.mono (same_new hr) r2⟩⟩⟩⟩
theorem m_tq [Imm F] [Imm G] (ha : PE X a (tM F P H0 Γ)) (hb : PE X b (tM G P2 H0 Γ)) (hc : PE X c (tM J P3 H0 Γ)) {k : Nat} (hs : starEach [a, b, c] X.env = (false, eval a X.env) :: starEach [b, c] X.env := by rfl) (hs2 : starEach [b, c] X.env = (false, eval b X.env) :: starEach [c] X.env := by rfl) (hs3 : starEach [c] X.env = (false, eval c X.env) :: starEach [] X.env := by rfl) : PE X (.Tuple [a, b, c] k pos) (tM (vQ F G J) (fun z => P z.1 ∧ P2 z.2.1 ∧ P3 z.2.2) H0 Γ) :=
  (pe_tup (pa_cons ha (pa_cons hb (pa_cons hc pa_nil hs3) hs2) hs)).wk fun σ H Q ⟨g, q⟩ => ⟨g, fun x v H1 p1 g1 t1 r1 => ⟨g1, fun y w H2 p2 g2 t2 r2 => ⟨g2, fun z u H3 p3 g3 t3 r3 => ⟨three_le, fun r hr => q (x, y, z) _ _ ⟨p1, p2, p3⟩ (g3.mono (same_new hr)) (((t1.trans t2).trans t3).trans (tu_of (same_new hr))) ⟨r, v, w, u, rfl, upd_same, F.mono (same_new hr) (Imm.tu (t2.trans t3) r1), G.mono (same_new hr) (Imm.tu t3 r2), J.mono (same_new hr) r3⟩⟩⟩⟩⟩
/-! ### calls -/
theorem ma_nil : PA X [] (tMA aN (fun _ => True) H0 Γ) := pa_nil.wk fun σ H Q ⟨g, q⟩ => q () [] H trivial g tu_refl rfl
theorem ma_cons [Imm F] {A : RepA ι} {PA' : ι → Prop} (ha : PE X e (tM F P H0 Γ)) (hr : PA X es (tMA A PA' H0 Γ)) (hs : starEach (e :: es) X.env = (false, eval e X.env) :: starEach es X.env := by rfl) : PA X (e :: es) (tMA (aC F A) (fun z => P z.1 ∧ PA' z.2) H0 Γ) :=
  (pa_cons ha hr hs).wk fun σ H Q ⟨g, q⟩ => ⟨g, fun x v H1 p1 g1 t1 r1 => ⟨g1, fun i vs H2 p2 g2 t2 r2 => q (x, i) _ H2 ⟨p1, p2⟩ g2 (t1.trans t2) ⟨v, vs, rfl, Imm.tu t2 r1, r2⟩⟩⟩
open C8 in
/-- a plain def with drawn arguments -/
theorem m_callP {A : RepA ι} {PA' : ι → Prop} {R : Rep ρ} {pre : ι → Prop} {f : ι → ρ} {k j : Nat} {n : Str} {p : Pos} (c : Cal X.prog X.w X.K X.mg X.base k n (spG A fr R pre f) []) (hr : Room j X.A) (hp : ∀ i, PA' i → pre i) (ha : PA X (e :: es) (tMA A PA' H0 Γ)) (hk : k ≤ j := by decide) (hg : Gl X n := by rfl)
    (hdb : (n == ("__debug__" : Str)) = false := by decide) (he : starEach (e :: es) X.env = (false, eval e X.env) :: starEach es X.env := by rfl) (hpl : (backTo pos (starEach es X.env)).any (·.1) = false := by rfl) :
    PE X (.Call (.Name n p) (e :: es) [] pos) (tM R (fun v => ∃ i, PA' i ∧ v = f i) H0 Γ) :=
  (pe_c c hr hk hg ha hdb he hpl).wk fun σ H Q ⟨g, q⟩ => ⟨g, fun i vs H1 p1 g1 t1 r1 => ⟨i, by rw [List.append_nil]; exact r1, hp i p1, fun v H2 e2 r2 _ => q (f i) v H2 ⟨i, p1, rfl⟩ (g1.mono e2) (t1.trans (tu_of e2)) r2⟩⟩
open C8 in
/-- a def that draws: its pen, then its arguments -/
theorem m_call {q : Addr} {A : RepA ι} [ImmA A] {PA' : ι → Prop} {pre : ι → Prop} {post : ι → α → Prop} {k j : Nat} {n m : Str} {p p2 : Pos} (s : Nat) (c : Cal X.prog X.w X.K X.mg X.base k n (spM A F pre post) []) (hr : Room j X.A) (hp : ∀ i, PA' i → pre i) (ha : PA X es (tMA A PA' H0 Γ)) (h : Γ[s]? = some (penS q) := by rfl) (hN : X.N[s]? = some m := by rfl) (hk : k ≤ j := by decide) (hg : Gl X n := by rfl)
    (hv : Vis X.env.scope m := by first | exact Or.inl rfl | exact Or.inr (Or.inl rfl)) (hd : (m == ("__debug__" : Str)) = false := by decide) (hcd : (m == ("__classdict__" : Str)) = false := by decide)
    (hdb : (n == ("__debug__" : Str)) = false := by decide) (he : starEach (.Name m p2 :: es) X.env = (false, eval (.Name m p2) X.env) :: starEach es X.env := by rfl) (hpl : (backTo pos (starEach es X.env)).any (·.1) = false := by rfl) :
    PE X (.Call (.Name n p) (.Name m p2 :: es) [] pos) (tM F (fun a => ∃ i, PA' i ∧ post i a) H0 Γ) :=
  (pe_c c hr hk hg (pa_cons (pv s hN hv hd hcd) ha he) hdb he hpl).wk fun σ H Q ⟨g, z⟩ => by
    obtain ⟨h1, h2, h3⟩ := g.penAt h
    refine ⟨.ref q, h2, g, fun i ws H1 p1 g1 t1 r1 => ?_⟩
    obtain ⟨k1, k2, k3⟩ := g1.penAt h
    obtain ⟨o, k4, k5⟩ := k3
    refine ⟨q, i, ws, by rw [List.append_nil], ⟨o, k4, k5⟩, ImmA.tu (del_tu k4 k5) r1, hp i p1, fun a v H2 pa s2 ph r2 => z a v H2 ⟨i, p1, pa⟩ (g1.drawn h s2 ph) (t1.trans (pen_tu ⟨o, k4, k5⟩ s2)) r2⟩
open C8 in
/-- a def that draws from a list written here -/
theorem m_pick [Imm G] {q : Addr} {pre : List β × Unit → Prop} {post : List β × Unit → α → Prop} {k j : Nat} {xs : List β} {n m : Str} {p p2 p3 : Pos} (s : Nat) (c : Cal X.prog X.w X.K X.mg X.base k n (spM (aC (vL G) aN) F pre post) []) (hr : Room j X.A) (hp : pre (xs, ())) (ha : PE X (.List es p3) (tE true (vL G) H0 Γ xs)) (h : Γ[s]? = some (penS q) := by rfl) (hN : X.N[s]? = some m := by rfl) (hk : k ≤ j := by decide) (hg : Gl X n := by rfl)
    (hv : Vis X.env.scope m := by first | exact Or.inl rfl | exact Or.inr (Or.inl rfl)) (hd : (m == ("__debug__" : Str)) = false := by decide) (hcd : (m == ("__classdict__" : Str)) = false := by decide)
    (hdb : (n == ("__debug__" : Str)) = false := by decide) (he : starEach [.Name m p2, .List es p3] X.env = (false, eval (.Name m p2) X.env) :: starEach [.List es p3] X.env := by rfl) (he2 : starEach [.List es p3] X.env = (false, eval (.List es p3) X.env) :: starEach [] X.env := by rfl) (hpl : (backTo pos (starEach [.List es p3] X.env)).any (·.1) = false := by rfl) :
    PE X (.Call (.Name n p) [.Name m p2, .List es p3] [] pos) (tM F (post (xs, ())) H0 Γ) :=
  (pe_c c hr hk hg (pa_cons (pv s hN hv hd hcd) (pa_cons ha pa_nil he2) he) hdb he hpl).wk fun σ H Q ⟨g, z⟩ => by
    obtain ⟨h1, h2, o0, h3, h4⟩ := g.penAt h
    refine ⟨.ref q, h2, g, fun v H1 s1 r1 fz => ?_⟩
    have g1 := g.mono s1
    obtain ⟨k1, k2, o, k4, k5⟩ := g1.penAt h
    obtain ⟨pl, e1, e2⟩ := fz rfl
    obtain ⟨pl', ol, l1, l2, vs, l3, l4⟩ := r1
    rw [l1] at e1
    cases e1
    have n1 : pl ≠ q := fun y => by
      rw [y, h3] at e2
      cases e2
    exact ⟨q, (xs, ()), [v], by rw [List.append_nil], ⟨o, k4, k5⟩, ⟨v, [], rfl, ⟨pl, ol, l1, by rw [del_ne n1]; exact l2, vs, l3, l4.map fun _ _ y => Imm.tu (del_tu k4 k5) y⟩, rfl⟩, hp, fun a v' H2 pa s2 ph r2 => z a v' H2 pa (g1.drawn h s2 ph) ((tu_of s1).trans (pen_tu ⟨o, k4, k5⟩ s2)) r2⟩
end
end Gm
set_option Elab.async false
set_option linter.all false
set_option maxRecDepth 100000
set_option maxHeartbeats 4000000
/-! statements that draw -/
namespace Gm
open PySem PySem.Spec PyProof.Rows L2
theorem upd_self {H : Hp} {p : Addr} {o : HO} (h : H p = some o) : upd H p o = H := by
  funext a
  by_cases e : a = p
  · rw [e, upd_same, h]
  · rw [upd_ne e]
section
variable {X : Cx} {e a b c tg l iter : Expr} {es : List Expr} {rest body orelse : List Stmt} {pos p' : Pos} {H0 : Hp} {Γ Γ' : List Slot} {fr f1 f2 f3 : Bool} {R : V → Hp → Prop} {N : HSt → Hp → Prop}
variable {α β γ ι ρ κ : Type} {F : Rep α} {G : Rep β} {J : Rep γ} {x : α} {P P' : α → Prop}
theorem ss_goM {st : Stmt} {t : TS} {Pk : κ → Prop} (Γ' : κ → List Slot) (h1 : PS X st t) (h2 : ∀ u, Pk u → PSs X rest (tS H0 (Γ' u) R N)) (k : ∀ (D : Ends) σ H, En H0 Γ σ H → (∀ v H2, Same H0 H2 → R v H2 → D.rt v H2) → (∀ u σ' H', Pk u → En H0 (Γ' u) σ' H' → D.nx σ' H') → t D σ H) : PSs X (st :: rest) (tS H0 Γ R N) :=
  (pss_cons h1 (PSs.ex h2)).wk fun D σ H ⟨g, q1, q2⟩ => k _ σ H g q1 fun u σ' H' pu g' => ⟨u, pu, g', q1, q2⟩
theorem ss_imM [Imm F] {n : Str} (i : Nat) (nd : X.N.Nodup) (he : PE X e (tM F P H0 Γ)) (hr : ∀ a, P a → PSs X rest (tS H0 (Γ.set i (im F a)) R N)) (hi : X.N[i]? = some n := by rfl) (hx : Loc X.env.scope n := by first | exact Or.inl rfl | exact Or.inr rfl)
    (hs : swapsWith e (some (.Name n p')) pos.line X.env = pure false := by rfl) (hf : X.fn n = true ∨ X.env.scope.names.lookup n = some .local := by first | exact .inl rfl | exact .inr rfl | assumption) : PSs X (.Assign [.Name n p'] e pos :: rest) (tS H0 Γ R N) :=
  ss_goM (fun a => Γ.set i (im F a)) (ps_set nd hi hx he hs hf) hr fun D σ H g _ q => ⟨g, fun a v H2 pa g2 t r => q a _ _ pa (g2.set_im r)⟩
theorem ss_appM [Imm F] {xs : List α} {n : Str} {p2 p3 p4 : Pos} (i : Nat) (h : Γ[i]? = some (ow (cL F) xs)) (he : PE X e (tM F P H0 Γ)) (hl : xs.length < 100000) (hr : ∀ a, P a → PSs X rest (tS H0 (Γ.set i (ow (cL F) (xs ++ [a]))) R N)) (hN : X.N[i]? = some n := by rfl) (hv : Vis X.env.scope n := by first | exact Or.inl rfl | exact Or.inr (Or.inl rfl))
    (hd : (n == ("__debug__" : Str)) = false := by decide) (hcd : (n == ("__classdict__" : Str)) = false := by decide)
    (hbase : attributeBase (.Name n p2) "append" X.env (eval (.Name n p2) X.env) = eval (.Name n p2) X.env := by rfl) (hline : (p3.endLine == p4.line) = true := by rfl) (hs : starEach [e] X.env = (false, eval e X.env) :: starEach [] X.env := by rfl)
    (hfew : ((backTo p4 (starEach [e] X.env)).all (fun x => !x.1) && (backToKw p4 (keywordEach [] X.env)).all (fun x => x.1.isSome) && decide ([e].length + ([] : List Keyword).length + (if ([] : List Keyword).isEmpty then 0 else 1) < 30)) = true := by rfl)
    (hsw : swapsWith (.Call (.Attribute (.Name n p2) "append" p3) [e] [] p4) none pos.line X.env = pure false := by rfl) : PSs X (.Expr (.Call (.Attribute (.Name n p2) "append" p3) [e] [] p4) pos :: rest) (tS H0 Γ R N) :=
  ss_goM (fun a => Γ.set i (ow (cL F) (xs ++ [a]))) (ps_expr (pe_bm PySem.F.plainAttrs_list PySem.F.slot_list_append PySem.F.type_list_append mt_append (pv i hN hv hd hcd) (pa_cons he pa_nil hs) hbase hfew hline hs) hsw) hr fun D σ H g _ q => by
    obtain ⟨p, o, h1, h2, h3, vs, h4, h5⟩ := g.ow h
    subst h4
    refine ⟨_, h1, Or.inl ⟨rfl, _, SqL.of h3⟩, g, fun a v H2 pa g2 t r => ?_⟩
    obtain ⟨p1, o1, k1, k2, k3, ws, k4, k5⟩ := g2.ow h
    rw [h1] at k1
    cases k1
    subst k4
    refine ⟨p, ws, v, rfl, rfl, k3, by rw [k5.length]; exact line_lt hl, q a _ _ pa ?_⟩
    refine g2.mut h h1 k3 ⟨ws, rfl, k5⟩ ⟨_, rfl, ?_⟩
    have t : Tu H2 (upd H2 p (.lst (ws ++ [v]))) := tu_mut k3 (fun xs z => (nomatch z))
    exact (k5.map fun _ _ q => Imm.tu t q).app ⟨Imm.tu t r, trivial⟩
/-- the last statement -/
theorem ss_iftM {c : Expr} {Pb : Bool → Prop} (hc : PT X c (tTM Pb H0 Γ)) (ht : Pb true → PSs X body (tS H0 Γ R N)) (hf : Pb false → PSs X orelse (tS H0 Γ R N)) : PSs X [.If c body orelse pos] (tS H0 Γ R N) :=
  (pss_one (ps_if hc (PSs.ex (p := fun (_ : Unit) => Pb true) (t := fun _ => tS H0 Γ R N) fun _ h => ht h) (PSs.ex (p := fun (_ : Unit) => Pb false) (t := fun _ => tS H0 Γ R N) fun _ h => hf h))).wk fun D σ H ⟨g, q1, q2⟩ => ⟨g, fun b H2 pb g2 t => by
    cases b with
    | true => exact iteT ⟨(), pb, g2, q1, q2⟩
    | false => exact iteF ⟨(), pb, g2, q1, q2⟩⟩
/-- if c: .. (the rest of all that it may leave) -/
theorem ss_ifQ {c : Expr} {Pb : Bool → Prop} {Q : κ → Prop} (Γ' : κ → List Slot) (hc : PT X c (tTM Pb H0 Γ)) (ht : Pb true → PSs X body (tS H0 Γ R (fun σ H => ∃ u, Q u ∧ En H0 (Γ' u) σ H))) (hf : Pb false → PSs X orelse (tS H0 Γ R (fun σ H => ∃ u, Q u ∧ En H0 (Γ' u) σ H))) (hr : ∀ u, Q u → PSs X rest (tS H0 (Γ' u) R N)) : PSs X (.If c body orelse pos :: rest) (tS H0 Γ R N) :=
  ss_goM Γ' (ps_if hc (PSs.ex (p := fun (_ : Unit) => Pb true) (t := fun _ => tS H0 Γ R (fun σ H => ∃ u, Q u ∧ En H0 (Γ' u) σ H)) fun _ h => ht h) (PSs.ex (p := fun (_ : Unit) => Pb false) (t := fun _ => tS H0 Γ R (fun σ H => ∃ u, Q u ∧ En H0 (Γ' u) σ H)) fun _ h => hf h)) hr fun D σ H g q1 q => ⟨g, fun b H2 pb g2 t => by
    cases b with
    | true => exact iteT ⟨(), pb, g2, q1, fun σ2 H3 ⟨u, k1, k2⟩ => q u _ _ k1 k2⟩
    | false => exact iteF ⟨(), pb, g2, q1, fun σ2 H3 ⟨u, k1, k2⟩ => q u _ _ k1 k2⟩⟩
/-- if c: (it leaves the def) -/
theorem ss_ifrM {c : Expr} {Pb : Bool → Prop} (hc : PT X c (tTM Pb H0 Γ)) (ht : Pb true → PSs X body (tS H0 Γ R Nv)) (hr : Pb false → PSs X rest (tS H0 Γ R N)) : PSs X (.If c body [] pos :: rest) (tS H0 Γ R N) :=
  (pss_cons (ps_if hc (PSs.ex (p := fun (_ : Unit) => Pb true) (t := fun _ => tS H0 Γ R Nv) fun _ h => ht h) pss_nil) (PSs.ex (p := fun (_ : Unit) => Pb false) (t := fun _ => tS H0 Γ R N) fun _ h => hr h)).wk fun D σ H ⟨g, q1, q2⟩ => ⟨g, fun b H2 pb g2 t => by
    cases b with
    | true => exact iteT ⟨(), pb, g2, q1, fun _ _ z => z.elim⟩
    | false => exact iteF ⟨(), pb, g2, q1, q2⟩⟩
/-- return, the pen still at its place -/
theorem ss_retM {post : α → Prop} {q : Addr} {C : Addr → HO → Hp → Prop} {kk nn} (i : Nat) (he : PE X e (tM F P H0 Γ)) (hp : ∀ a, P a → post a) (h : Γ[i]? = some (.ow C kk nn)) (hc : ∀ r o H, C r o H → r = q ∧ PenH o) : PSs X (.Return (some e) pos :: rest) (tS H0 Γ (RtM F post q) N) :=
  (pss_cons (ps_ret he) pss_never).wk fun D σ H ⟨g, q1, _⟩ => ⟨g, fun a v H2 pa g2 t r => by
    obtain ⟨p, o, h1, h2, h3, h4⟩ := g2.ow h
    obtain ⟨k1, k2⟩ := hc _ _ _ h4
    subst k1
    exact q1 v H2 g2.same ⟨a, hp a pa, r, o, h3, k2⟩⟩
theorem pen_hc {q : Addr} : ∀ (r : Addr) (o : HO) (H : Hp), (r = q ∧ cPen.c () o H) → r = q ∧ PenH o := fun _ _ _ h => h
/-! ### loops -/
def tWkM (F : Rep α) (P : List α → Prop) (H0 : Hp) (Γ : List Slot) : TI := fun σ H R => En H0 Γ σ H ∧ ∀ (xs : List α) (H' : Hp) (J : It) (H1 : Hp) (G : Hp → Prop) (Y : Nat → Hp → V → Hp → Prop), P xs → En H0 Γ σ H' → Same H' H1 → Walk J xs.length G Y → (∀ H', Same (bare Γ σ H1) H' → G H') →
  (∀ i H2 v H3, i < xs.length → Same (bare Γ σ H1) H2 → Y i H2 v H3 → Same H2 H3 ∧ ∃ x, xs[i]? = some x ∧ F.r x v H3) → R J H1
theorem wk_lift {xs : List α} (h : PI X tg l (tWk F H0 Γ xs)) : PI X tg l (tWkM F (fun ys => ys = xs) H0 Γ) := h.wk fun σ H R ⟨g, q⟩ => ⟨g, fun J H1 G Y s w hG hY => q xs H J H1 G Y rfl g s w hG hY⟩
theorem wk_range1M {Pi : Int → Prop} {p : Pos} (hm : X.mg "range" = none) (ha : PE X a (tM vI Pi H0 Γ)) (hn : ∀ n, Pi n → 0 ≤ n ∧ n ≤ 100000) (hg : Gl X "range" := by rfl) (hs : starEach [a] X.env = [(false, eval a X.env)] := by rfl) : PI X tg (.Call (.Name "range" p) [a] [] pos) (tWkM vI (fun xs => ∃ n, Pi n ∧ xs = rng 0 n.toNat) H0 Γ) :=
  (pi_range1 hg hm (pa_cons ha pa_nil hs) hs).wk fun σ H R ⟨g, q⟩ => ⟨g, fun n v H1 pn g1 t r => ⟨n, by rw [show v = V.int n from r], by have := hn n pn; omega, by have := hn n pn; omega, wk_rng (Same.refl H1) fun J H2 G Y s w hG hY => q _ H1 J H2 G Y ⟨n, pn, rfl⟩ g1 s w hG hY⟩⟩
theorem ss_forM {PL : List α → Prop} (Γi : κ → List Slot) (Γb : κ → α → List Slot) (Pi : Nat → κ → Prop) (hp : PassesOwn (model X.prog X.w) X.A X.env X.xe) (hc : X.calm = true) (hi : PI X tg iter (tWkM F PL H0 Γ)) (hg : ∀ H1 u x, PG X tg (tGt F H1 (Γi u) (Γb u x) x)) (h0 : ∃ u, Pi 0 u ∧ Sub Γ (Γi u))
    (hb : ∀ H1 xs i x u, Same H0 H1 → PL xs → xs[i]? = some x → Pi i u → PSs X body (tS H1 (Γb u x) R (fun σ H => ∃ u', Pi (i + 1) u' ∧ En H1 (Γi u') σ H))) (hr : ∀ H1 xs u, Same H0 H1 → PL xs → Pi xs.length u → PSs X rest (tS H1 (Γi u) R N)) (hs : ∀ x, foldedSetIterable iter X.env x = pure x := by intro _; rfl) : PSs X (.For tg iter body [] pos :: rest) (tS H0 Γ R N) := by
  refine (pss_cons (ps_for hp hc hi (PG.ex (p := fun (_ : Hp × κ × α) => True) (t := fun z => tGt F z.1 (Γi z.2.1) (Γb z.2.1 z.2.2) z.2.2) fun z _ => hg z.1 z.2.1 z.2.2)
    (PSs.ex (p := fun (z : Hp × List α × Nat × α × κ) => Same H0 z.1 ∧ PL z.2.1 ∧ z.2.1[z.2.2.1]? = some z.2.2.2.1 ∧ Pi z.2.2.1 z.2.2.2.2) (t := fun z => tS z.1 (Γb z.2.2.2.2 z.2.2.2.1) R (fun σ H => ∃ u', Pi (z.2.2.1 + 1) u' ∧ En z.1 (Γi u') σ H)) fun z h => hb z.1 z.2.1 z.2.2.1 z.2.2.2.1 z.2.2.2.2 h.1 h.2.1 h.2.2.1 h.2.2.2) hs) (PSs.ex (p := fun (z : Hp × List α × κ) => Same H0 z.1 ∧ PL z.2.1 ∧ Pi z.2.1.length z.2.2) (t := fun z => tS z.1 (Γi z.2.2) R N) fun z h => hr z.1 z.2.1 z.2.2 h.1 h.2.1 h.2.2)).wk fun D σ H ⟨g, q1, q2⟩ => ⟨g, fun xs H' J H1 Gp Y px gH s w hG hY => ?_⟩
  have g1 := (gH.mono s).rebase
  have s0 : Same H0 (bare Γ σ H1) := (gH.mono s).bare_same
  refine for_it w (fun i σ' H' => ∃ u, Pi i u ∧ En (bare Γ σ H1) (Γi u) σ' H') ?_ ?_ ?_ ?_
  · obtain ⟨u, p0, sb⟩ := h0
    exact ⟨u, p0, g1.sub sb⟩
  · exact fun i σ' H' _ ⟨u, _, g'⟩ => hG H' g'.same
  · intro i v σ' H' H'' hi' ⟨u, pi, g'⟩ y
    obtain ⟨s3, c, e1, e2⟩ := hY i H' v H'' hi' g'.same y
    exact ⟨(bare Γ σ H1, u, c), trivial, g'.mono s3, e2, fun σ2 g2 => ⟨(bare Γ σ H1, xs, i, c, u), ⟨s0, px, e1, pi⟩, g2, fun v H2 s2 r => q1 v H2 (s0.trans s2) r, fun σ3 H3 g3 => g3⟩⟩
  · exact fun σ' H' ⟨u, pi, g'⟩ => ⟨(_, xs, u), ⟨s0, px, pi⟩, g', fun v H2 s2 r => q1 v H2 (s0.trans s2) r, q2⟩
/-! ### the draw itself -/
theorem ex_owA {C : Con α} [ImmC C] {q : Addr} {z : Str} (i : Nat) (h : Γ[i]? = some (owA q C x) := by rfl) (hN : X.N[i]? = some z := by rfl) (hv : Vis X.env.scope z := by first | exact Or.inl rfl | exact Or.inr (Or.inl rfl) | exact Or.inr (Or.inr rfl))
    (hd : (z == ("__debug__" : Str)) = false := by decide) (hcd : (z == ("__classdict__" : Str)) = false := by decide) : PE X (.Name z pos) (tE false (vC C) H0 Γ x) :=
  (pv i hN hv hd hcd).wk fun σ H Q ⟨g, q⟩ => by
    obtain ⟨p, o, h1, h2, h3, _, h4⟩ := g.ow h
    exact ⟨_, h1, q _ H (Same.refl H) ⟨p, o, rfl, h3, h4⟩ fre0⟩
/-- what the pen holds -/
theorem ss_open {sts : List Stmt} {q : Addr} (i : Nat) (h : Γ[i]? = some (penS q)) (hr : ∀ a b c : Int, 0 ≤ b → b < 2147483648 → PSs X sts (tS H0 (Γ.set i (owA q (cL vI) [a, b, c])) R N)) : PSs X sts (tS H0 Γ R N) :=
  (PSs.ex (p := fun (z : Int × Int × Int) => 0 ≤ z.2.1 ∧ z.2.1 < 2147483648) (t := fun z => tS H0 (Γ.set i (owA q (cL vI) [z.1, z.2.1, z.2.2])) R N) fun z k => hr z.1 z.2.1 z.2.2 k.1 k.2).wk fun D σ H ⟨g, q1, q2⟩ => by
    obtain ⟨h1, h2, o, h3, a, b, c, h4, h5, h6⟩ := g.penAt h
    subst h4
    have g2 : En H0 (Γ.set i (owA q (cL vI) [a, b, c])) σ (upd H q (.lst [.int a, .int b, .int c])) := g.mut h h2 h3 ⟨rfl, a, b, c, rfl, h5, h6⟩ ⟨rfl, _, rfl, rfl, rfl, rfl, trivial⟩
    rw [upd_self h3] at g2
    exact ⟨(a, b, c), ⟨h5, h6⟩, g2, q1, q2⟩
/-- xs[k] = e -/
theorem ss_lput {xs : List Int} {x k : Int} {jx : Nat} {q : Addr} {n : Str} {jc : Nat} {p1 p2 : Pos} (i : Nat) (he : PE X e (tE fr vI H0 Γ x)) (hj : ixN xs.length k = some jx) (hr : PSs X rest (tS H0 (Γ.set i (owA q (cL vI) (xs.set jx x))) R N)) (h : Γ[i]? = some (owA q (cL vI) xs) := by rfl) (hN : X.N[i]? = some n := by rfl) (hv : Vis X.env.scope n := by first | exact Or.inl rfl | exact Or.inr (Or.inl rfl))
    (hd : (n == ("__debug__" : Str)) = false := by decide) (hcd : (n == ("__classdict__" : Str)) = false := by decide) (hs : swapsWithSole [.Subscript (.Name n p1) (.Constant (.int k) jc p2) p'] e pos.line X.env = pure false := by rfl) (hw : swappedStores [.Subscript (.Name n p1) (.Constant (.int k) jc p2) p'] e X.env = pure none := by rfl) (h1 : (assignEach [.Subscript (.Name n p1) (.Constant (.int k) jc p2) p'] X.env).map (·.2) = [assign (.Subscript (.Name n p1) (.Constant (.int k) jc p2) p') X.env] := by rfl) :
    PSs X (.Assign [.Subscript (.Name n p1) (.Constant (.int k) jc p2) p'] e pos :: rest) (tS H0 Γ R N) :=
  ss_go (ps_asg he (pg_sub (pv i hN hv hd hcd) pe_int set_list) hs hw h1) hr fun D σ H g _ z => ⟨g, fun v H2 s r _ => by
    have g2 := g.mono s
    obtain ⟨p, o, h1, h2, h3, h4, vs, h5, h6⟩ := g2.ow h
    subst h4
    subst h5
    have ev : vs = xs.map V.int := ints_of h6
    refine ⟨.ref p, h1, p, vs, k, jx, rfl, rfl, h3, by rw [h6.length]; exact hj, z _ _ ?_⟩
    refine g2.mut h h1 h3 ⟨rfl, vs, rfl, h6⟩ ⟨rfl, vs.set jx v, rfl, ?_⟩
    rw [ev, show v = V.int x from r, ← List.map_set]
    exact of_ints _⟩
end
section
open C8
variable {P : Program} {w : World} {K : PySem.W.Frag} {mg : Str → Option Value} {base : Heap}
theorem cal_ofM {n x : Str} {st : Stmt} {N ps : List Str} {k m : Nat} {ι α : Type} {A : RepA ι} {F : Rep α} {pre : ι → Prop} {post : ι → α → Prop} {sl : Hp → ι → List Slot}
    (D : DefT K mg n st) (S : FnScope N (x :: ps) (L2.defScope st)) (hf : Fits A sl ps.length) (hm : N.length = ps.length + 1 + m)
    (hb : ∀ (kV doc pm : Value) (an : Option Addr) (cdv ct : Value) (us : List Value), us.length = (x :: ps).length → bindArgs (PySem.W.fnOf n n (L2.defArgs st) (L2.defBody st) (L2.defScope st) .none kV doc pm an cdv ct) ⟨us, []⟩ = pure ((x :: ps).zip us))
    (body : ∀ (a : Addr) (cdv : Value) (A : Around) (outer : List Env) (s : Shared) (H : Hp) (E : XK) (i : ι) (p : Addr) (H0 : Hp), Room k (CxD P w K mg base N n st a cdv A outer s H E).A → pre i →
      PSs (CxD P w K mg base N n st a cdv A outer s H E) (L2.defBody st) (tS H0 (penS p :: (sl H0 i ++ List.replicate m .no)) (RtM F (post i) p) Nv)) : Cal P w K mg base (k + 1) n (spM A F pre post) [] := by
  obtain ⟨a, fd, FD, hmg⟩ := D.ex
  refine ⟨a, fd, x :: ps, [], ?_, hmg, FD.kp, FD.bindsN hb, .nil⟩
  refine FD.ok S (fun vs H Q E ⟨p, i, ws, h1, _, h, _⟩ => by rw [h1, List.length_cons, (hf.to h).len, hf.n]; rfl) fun cdv Ar outer s H vs Q E hr h => ?_
  obtain ⟨p, i, ws, rfl, hpen, h1, h2, h3⟩ := h
  refine ⟨_, PSs.nox (body a cdv Ar outer s H E i p (del p H) hr h2), ?_⟩
  have hs := hf.to h1
  refine ⟨?_, fun v H2 s2 ⟨r, k1, k2, k3⟩ => h3 r v H2 k1 s2 k3 k2, fun _ _ z => z.elim⟩
  have e : L2.start N (.ref p :: ws) = some (.ref p) :: (ws.map some ++ List.replicate m none) := by
    unfold L2.start
    rw [List.length_cons, hs.len, hf.n, hm, show ps.length + 1 + m - (ps.length + 1) = m by omega]
    rfl
  rw [e]
  refine ((hs.en m).mono del_sub).push (fun t ht => ?_) del_at hpen
  rcases List.mem_append.mp ht with z | z
  · obtain ⟨j, hj⟩ := List.getElem?_of_mem z
    exact (hs.get hj).1
  · rw [(List.mem_replicate.mp z).2]
    rfl
end
end Gm
set_option Elab.async false
set_option linter.all false
set_option maxRecDepth 100000
set_option maxHeartbeats 4000000
namespace Gm
open PySem PySem.Spec PyProof.Rows L2
section
variable {X : Cx} {e a b c tg l iter : Expr} {es : List Expr} {rest body orelse : List Stmt} {pos p' : Pos} {H0 : Hp} {Γ Γ' : List Slot} {fr f1 f2 f3 : Bool} {R : V → Hp → Prop} {N : HSt → Hp → Prop}
variable {α β γ ι ρ κ : Type} {F : Rep α} {G : Rep β} {J : Rep γ} {x : α} {y : β} {z : γ} {P P' : α → Prop}
/-- one of a list that was handed in, by a drawn index -/
theorem m_ixG {Pj : Int → Prop} {Hc : Hp} {xs : List α} {n : Str} {p2 : Pos} (i : Nat) (hb : PE X b (tM vI Pj H0 Γ)) (hk : ∀ j, Pj j → 0 ≤ j ∧ j.toNat < xs.length) (h : Γ[i]? = some (ge (vL F) Hc xs) := by rfl) (hN : X.N[i]? = some n := by rfl) (hv : Vis X.env.scope n := by first | exact Or.inl rfl | exact Or.inr (Or.inl rfl))
    (hd : (n == ("__debug__" : Str)) = false := by decide) (hcd : (n == ("__classdict__" : Str)) = false := by decide) (hs : PlainIx b := by exact fun _ _ => rfl) : PE X (.Subscript (.Name n p2) b pos) (tM F (fun a => a ∈ xs) H0 Γ) :=
  (pe_ix ix_list (pv i hN hv hd hcd) hb hs).wk fun σ H Q ⟨g, q⟩ => by
    obtain ⟨v, h1, h2, h3⟩ := g.ge h
    refine ⟨v, h1, g, fun j w H2 pj g2 t r => ?_⟩
    obtain ⟨v', k1, k2, k3⟩ := g2.ge h
    rw [h1] at k1
    cases k1
    obtain ⟨p, o, l1, l2, vs, l3, l4⟩ := k2
    subst l3
    obtain ⟨m1, m2⟩ := hk j pj
    have hat : atI xs j = some (xs[j.toNat]'m2) := by
      have e := at_getD (d := xs[j.toNat]'m2) ⟨m1, m2⟩
      rw [List.getD_eq_getElem?_getD, List.getElem?_eq_getElem m2] at e
      exact e
    obtain ⟨u, h6, h7⟩ := atI_map l4 hat
    exact ⟨p, vs, j, u, l1, r, SqL.of (k3 _ _ l2), h6, q _ u H2 (List.getElem_mem m2) g2 t (F.mono k3 h7)⟩
/-- a, b, c = x, [], [] -/
theorem ss_par3o12 {C : Con β} {C2 : Con γ} [ImmC C] [ImmC C2] [Imm F] {n m o : Str} {c : Expr} {px py pz pt : Pos} {kt k2 : Nat} {pt2 : Pos} (i j l : Nat) (hc : X.calm = true) (nd : X.N.Nodup) (ha : PE X a (tE f1 F H0 Γ x)) (hb : PE X b (tE true (vC C) H0 Γ y)) (hcc : PE X c (tE true (vC C2) H0 Γ z)) (hr : PSs X rest (tS H0 (((Γ.set i (im F x)).set j (ow C y)).set l (ow C2 z)) R N))
    (hi : X.N[i]? = some n := by rfl) (hj : X.N[j]? = some m := by rfl) (hl : X.N[l]? = some o := by rfl) (hij : i ≠ j := by decide) (hil : i ≠ l := by decide) (hjl : j ≠ l := by decide)
    (hx : X.env.scope.names.lookup n = some .local := by rfl) (hy : X.env.scope.names.lookup m = some .local := by rfl) (hz : X.env.scope.names.lookup o = some .local := by rfl) (hw : swappedStores [.Tuple [.Name n px, .Name m py, .Name o pz] kt pt] (.Tuple [a, b, c] k2 pt2) X.env = pure (some [n, m, o]) := by rfl)
    (hs : swapsWithSole [.Tuple [.Name n px, .Name m py, .Name o pz] kt pt] (.Tuple [a, b, c] k2 pt2) pos.line X.env = pure false := by rfl) (he : starEach [a, b, c] X.env = (false, eval a X.env) :: starEach [b, c] X.env := by rfl) (he2 : starEach [b, c] X.env = (false, eval b X.env) :: starEach [c] X.env := by rfl) (he3 : starEach [c] X.env = (false, eval c X.env) :: starEach [] X.env := by rfl) :
    PSs X (.Assign [.Tuple [.Name n px, .Name m py, .Name o pz] kt pt] (.Tuple [a, b, c] k2 pt2) pos :: rest) (tS H0 Γ R N) :=
  ss_go (ps_par3 hc nd hi hj hl hij hil hjl hx hy hz (pa_cons ha (pa_cons hb (pa_cons hcc pa_nil he3) he2) he) hw hs) hr fun D σ H g _ q => ⟨g, fun v H1 e1 r1 _ => ⟨g.mono e1, fun w H2 e2 r2 fz => ⟨g.mono (e1.trans e2), fun u H3 e3 r3 fz2 => by
    obtain ⟨p, o, h1, h2, h3⟩ := r2
    obtain ⟨p1, k1, k2⟩ := fz rfl
    rw [h1] at k1
    cases k1
    obtain ⟨p2, o2, h4, h5, h6⟩ := r3
    obtain ⟨p3, k3, k4⟩ := fz2 rfl
    rw [h4] at k3
    cases k3
    exact ⟨v, w, u, rfl, by rw [h1, h4]; exact q _ _ ((((g.mono e1).set_im r1).set_ow e2 k2 h2 h3).set_ow e3 k4 h5 h6)⟩⟩⟩⟩
end
end Gm
set_option Elab.async false
set_option linter.all false
set_option maxRecDepth 100000
set_option maxHeartbeats 4000000
namespace Gm
open PySem PySem.Spec PyProof.Rows L2
/-- one of the two words -/
def wordB (b : Bool) : Str := if b then "mark" else "sound"
def vWd : Rep Bool := ⟨fun b v _ => v = .str (wordB b), fun _ h => h⟩
instance : Imm vWd := ⟨fun _ h => h⟩
instance : Dat vWd := ⟨fun b => .str (wordB b), fun h => by rw [show _ = V.str _ from h]; exact .str _, fun x y => by cases x <;> cases y <;> decide, fun x => by simp only [PyData.canLay0]; cases x <;> decide +kernel, 0, fun _ => Nat.le_refl _⟩
section
variable {α β γ : Type} {F : Rep α} {G : Rep β} {J : Rep γ}
variable [DecidableEq α] [DecidableEq β] [DecidableEq γ] [s : Dat F] [t : Dat G] [u : Dat J]
instance : Dat (vQ F G J) := ⟨fun x => .tuple [s.d x.1, t.d x.2.1, u.d x.2.2], fun ⟨p, v1, v2, v3, h1, h2, h3, h4, h5⟩ => by rw [h1]; exact .tup (SqT.of h2) (.cons (s.dp h3) (.cons (t.dp h4) (.cons (u.dp h5) .nil))),
  fun p q => by
    simp only [PyData.eqv, PyData.eqvAll]
    rw [s.eqv, t.eqv, u.eqv, Bool.and_true, ← Bool.decide_and, ← Bool.decide_and]
    exact decide_eq_decide.mpr ⟨fun e => Prod.ext e.1 (Prod.ext e.2.1 e.2.2), fun e => by rw [e]; exact ⟨rfl, rfl, rfl⟩⟩,
  fun x => by simp only [PyData.canLay0, PyData.canLayAll0, s.lay, t.lay, u.lay, Bool.and_self], max s.dep (max t.dep u.dep) + 1, fun p => by
    simp only [PyData.depth, PyData.depthAll]
    have h1 := s.le p.1
    have h2 := t.le p.2.1
    have h3 := u.le p.2.2
    omega⟩
end
section
variable {X : Cx} {H0 : Hp} {Γ : List Slot} {R : V → Hp → Prop} {N : HSt → Hp → Prop}
/-- put otherwise -/
theorem ex_conv {α β : Type} {F : Rep α} {G : Rep β} {e : Expr} {fr : Bool} {x : α} {y : β} (h : PE X e (tE fr F H0 Γ x)) (k : ∀ v H, F.r x v H → G.r y v H) : PE X e (tE fr G H0 Γ y) := h.wk fun σ H Q ⟨g, q⟩ => ⟨g, fun v H2 s r fz => q v H2 s (k v H2 r) fz⟩
/-- a new pen -/
theorem ss_penAt {sts : List Stmt} {a b c : Int} (i : Nat) (h : Γ[i]? = some (ow (cL vI) [a, b, c])) (b0 : 0 ≤ b) (b1 : b < 2147483648) (hr : ∀ p, PSs X sts (tS H0 (Γ.set i (penS p)) R N)) : PSs X sts (tS H0 Γ R N) :=
  (PSs.ex (p := fun (_ : Addr) => True) fun p _ => hr p).wk fun D σ H ⟨g, q1, q2⟩ => by
    obtain ⟨p, o, h1, h2, h3, vs, h4, h5⟩ := g.ow h
    have ev : vs = [a, b, c].map V.int := ints_of h5
    have g2 : En H0 (Γ.set i (penS p)) σ (upd H p o) := g.mut h h1 h3 ⟨vs, h4, h5⟩ ⟨rfl, a, b, c, by rw [h4, ev]; rfl, b0, b1⟩
    rw [upd_self h3] at g2
    exact ⟨p, trivial, g2, q1, q2⟩
end
/-! ### the law's own list: it may be frozen -/
def vScr (K : PySem.W.Frag) : Rep (List Int) := ⟨fun ns v H => ∃ a, v = .ref a ∧ SqL K H a (ns.map V.int), fun e ⟨a, h1, h2⟩ => ⟨a, h1, by
  rcases h2 with (h | ⟨o, h⟩) | h
  · exact .inl (.inl (e _ _ h))
  · exact .inl (.inr ⟨o, e _ _ h⟩)
  · exact .inr h⟩⟩
section
variable {X : Cx} {a b : Expr} {pos : Pos} {H0 : Hp} {Γ : List Slot} {f1 f2 : Bool}
theorem ex_lenS {p : Pos} {xs : List Int} (hm : X.mg "len" = none) (ha : PE X a (tE f1 (vScr X.K) H0 Γ xs)) (hg : Gl X "len" := by rfl) (he : starEach [a] X.env = (false, eval a X.env) :: starEach [] X.env := by rfl) (hpl : (backTo pos (starEach [] X.env)).any (·.1) = false := by rfl) : PE X (.Call (.Name "len" p) [a] [] pos) (tE false vI H0 Γ (xs.length : Int)) :=
  (pe_callB call_len_seq hg hm PySem.boot_len (pa_cons ha pa_nil he) (by decide) (by decide) he hpl).wk fun σ H Q ⟨g, q⟩ => ⟨g, fun v H1 e1 ⟨p, h1, h2⟩ _ => ⟨p, _, by rw [h1], .inl h2, q _ H1 e1 (by show V.int _ = V.int _; rw [List.length_map]) fre0⟩⟩
theorem ex_ixS {xs : List Int} {i : Int} (ha : PE X a (tE f1 (vScr X.K) H0 Γ xs)) (hb : PE X b (tE f2 vI H0 Γ i)) (h : 0 ≤ i ∧ i.toNat < xs.length) (hs : PlainIx b := by exact fun _ _ => rfl) : PE X (.Subscript a b pos) (tE false vI H0 Γ (xs.getD i.toNat 0)) :=
  ex_ixr ix_list ha hb hs fun v w H Q ⟨p, h1, h2⟩ r2 q => by
    obtain ⟨u, h4, h5⟩ := atI_map (of_ints (H := H) xs) (at_getD (d := 0) h)
    exact ⟨p, _, i, u, h1, r2, h2, h4, q u h5⟩
end
section
open C8
variable {P : Program} {w : World} {K : PySem.W.Frag} {mg : Str → Option Value} {base : Heap}
/-- the promise of a def whose object is known -/
theorem fnok_of {n : Str} {st : Stmt} {N ps : List Str} {k m : Nat} {ι ρ : Type} {A : RepA ι} {fr : Bool} {R : Rep ρ} {pre : ι → Prop} {f : ι → ρ} {sl : Hp → ι → List Slot} {a : Addr} {fd : FuncData}
    (F : FunD K n n (L2.defArgs st) (L2.defBody st) (L2.defScope st) [] [] a fd) (S : FnScope N ps (L2.defScope st)) (hf : Fits A sl ps.length) (hm : N.length = ps.length + m)
    (body : ∀ (a : Addr) (cdv : Value) (A : Around) (outer : List Env) (s : Shared) (H : Hp) (E : XK) (i : ι), Room k (CxD P w K mg base N n st a cdv A outer s H E).A → pre i →
      PSs (CxD P w K mg base N n st a cdv A outer s H E) (L2.defBody st) (tS H (sl H i ++ List.replicate m .no) (Rt fr R H (f i)) Nv)) : FnOk P w K mg base C8.CX0 (k + 1) a fd ps (spG A fr R pre f) := by
  refine F.ok S (fun vs H Q E ⟨i, h, _⟩ => by rw [(hf.to h).len, hf.n]) fun cdv Ar outer s H vs Q E hr h => ?_
  obtain ⟨i, h1, h2, h3⟩ := h
  refine ⟨_, PSs.nox (body a cdv Ar outer s H E i hr h2), ?_⟩
  have hs := hf.to h1
  refine ⟨?_, fun v H2 s2 r => h3 v H2 s2 r.1 r.2, fun _ _ z => z.elim⟩
  have e : L2.start N vs = vs.map some ++ List.replicate m none := by
    unfold L2.start
    rw [hs.len, hf.n, hm, Nat.add_sub_cancel_left]
  rw [e]
  exact hs.en m
end
end Gm
set_option Elab.async false
set_option linter.all false
set_option maxRecDepth 100000
set_option maxHeartbeats 4000000
namespace W92
open PySem PySem.Spec PyProof.Rows L2 Gm C8
variable {P : Program} {w : World} {K : PySem.W.Frag} {mg : Str → Option Value} {base : Heap}
def SureOk (tr : List Rl) (lk : List Lk) (len en : Int) : Prop := WordOk tr lk ∧ 1 ≤ len ∧ len ≤ 20 ∧ len ≤ en ∧ en ≤ 40
abbrev sp_sure_pieces : Sp := spG (aC (vT (vQ vI vI vI)) (aC (vT (vQ vS vI vI)) (aC vI (aC vI aN)))) false (vT vI) (fun i => SureOk i.1 i.2.1 i.2.2.1 i.2.2.2.1) (fun i => sureOf i.1 i.2.1 i.2.2.1 i.2.2.2.1)
theorem sc_sure_pieces : FnScope ["train", "looks", "length", "end", "many", "found", "first"] ["train", "looks", "length", "end"] (L2.defScope (topS 70)) := ⟨rfl, rfl, rfl, by decide +kernel, rfl, by decide +kernel, by decide +kernel⟩
theorem c_sure_pieces (D : DefTK K mg "sure_pieces" (topS 70) [("length", .int 5), ("end", .int 40)]) (B : Bl mg) (C : Co mg) (c_is_within : Cal P w K mg base 2 "is_within" sp_is_within []) (c_need_told : Cal P w K mg base 7 "need_told" sp_need_told []) (c_may_be : Cal P w K mg base 7 "may_be" sp_may_be []) : CalK P w K mg base 8 2 "sure_pieces" ["length", "end"] sp_sure_pieces := by
  refine cal_ofK (m := 3) D (by simp) sc_sure_pieces (fits_im (fits_im (fits_im (fits_im fits_nil)))) rfl (fun _ _ _ _ _ _ us ws h1 h2 => match us, ws, h1, h2 with | [_, _], [_, _], _, _ => rfl) (fun a cdv A outer s H E i hr hp => ?_)
  obtain ⟨tr, lk, len, en, ⟨⟩⟩ := i
  have nd := sc_sure_pieces.nd
  have hs : SureOk tr lk len en := hp
  obtain ⟨hw, l1, l20, le, e40⟩ := hs
  obtain ⟨ht, hk, h7, hf⟩ := hw
  refine ss_im (F := vI) 4 nd (ex_call c_need_told hr ?_ (xa_cons (ex_im (F := (vT (vQ vI vI vI))) 0) (xa_cons (ex_im (F := (vT (vQ vS vI vI))) 1) xa_nil))) ?_
  · exact ⟨ht, hk, h7, hf⟩
  refine ss_ifr (ew_pt (ew_or (et_not (et_val (ex_call c_is_within hr trivial (xa_cons (ex_im (F := vI) 2) (xa_cons ex_int (xa_cons (ex_gint C.MOST_PIECE) xa_nil)))))) (fun h1 => (ew_or1 (et_not (et_val (ex_call c_is_within hr trivial (xa_cons (ex_im (F := vI) 3) (xa_cons (ex_im (F := vI) 2) (xa_cons (ex_gint C.MOST_END) xa_nil)))))))))) (fun h => ?_) (fun h4 => ?_)
  · exfalso
    simp at h
    omega
  refine ss_paro0 (C := cL vI) 5 6 rfl nd (ex_lst (F := vI) xi_nil) ex_int ?_
  refine ss_while (ι := Int × List Int) (d := fun p => decide (p.1 + len ≤ en)) (fun p => [im (vT (vQ vI vI vI)) tr, im (vT (vQ vS vI vI)) lk, im vI len, im vI en, im vI (fewN tr lk), ow (cL vI) p.2, im vI p.1]) (fun p => 0 ≤ p.1 ∧ (p.2.length : Int) ≤ p.1 ∧ p.1 ≤ 100 ∧ ∃ n : Nat, en - p.1 + 1 ≤ n ∧ sureGo tr lk (fewN tr lk) len en n p.1 p.2 = sureOf tr lk len en) (fun p => (en - p.1).toNat) (0, []) PassesOwn.never (Sub.refl _) ⟨Int.le_refl _, Int.le_refl _, by decide, (en + 1).toNat, by dsimp only; omega, rfl⟩ ?_ ?_ ?_
  · exact fun p _ => et_le (ex_add (ex_im (F := vI) 6) (ex_im (F := vI) 2)) (ex_im (F := vI) 3)
  · rintro ⟨first, found⟩ ⟨p0, p1, p2, n, p3, p4⟩ hd
    have hd2 : first + len ≤ en := of_decide_eq_true hd
    dsimp only at p0 p1 p2 p3 p4
    obtain ⟨n, rfl⟩ : ∃ m, n = m + 1 := ⟨n - 1, by omega⟩
    have hm : LkOk ("mark", first, first + len) := mark_ok (p := (first, first + len)) ⟨p0, by dsimp only; omega, by dsimp only; omega⟩
    refine ss_ift (et_val (ex_call c_may_be hr ?_ (xa_cons (ex_im (F := (vT (vQ vI vI vI))) 0) (xa_cons (ex_im (F := (vT (vQ vS vI vI))) 1) (xa_cons (ex_im (F := vI) 4) (xa_cons (ex_tq ex_str (ex_im (F := vI) 6) (ex_add (ex_im (F := vI) 6) (ex_im (F := vI) 2))) xa_nil)))))) (fun h => ?_) (fun h => ?_)
    · exact ⟨ht, lks_app hk h7 hm⟩
    · have h2 : mayBe tr lk (fewN tr lk) ("mark", first, first + len) = true := h
      refine ss_aug 6 nd ex_int ?_
      refine ss_nil (fun _ _ g => ⟨(first + 1, found), ⟨by dsimp only; omega, by dsimp only; omega, by dsimp only; omega, n, by dsimp only; omega, ?_⟩, by dsimp only; omega, g⟩)
      rw [← p4, sureGo, if_pos hd2, if_pos h2]
    · have h2 : mayBe tr lk (fewN tr lk) ("mark", first, first + len) = false := h
      refine ss_app (F := vI) 5 rfl (ex_im (F := vI) 6) ?_ ?_
      · show found.length < 100000
        omega
      refine ss_aug 6 nd (ex_im (F := vI) 2) ?_
      refine ss_nil (fun _ _ g => ⟨(first + len, found ++ [first]), ⟨by dsimp only; omega, by rw [List.length_append]; simp; omega, by dsimp only; omega, n, by dsimp only; omega, ?_⟩, by dsimp only; omega, g⟩)
      rw [← p4, sureGo, if_pos hd2, if_neg (by rw [h2]; decide)]
  · rintro ⟨first, found⟩ ⟨p0, p1, p2, n, p3, p4⟩ hd
    have hd2 : ¬ first + len ≤ en := of_decide_eq_false hd
    refine ss_ret' (ex_tupL B.tuple (ex_ow (C := cL vI) 5)) ?_ (Same.refl _)
    rw [← p4]
    cases n with
    | zero => rfl
    | succ n => rw [sureGo, if_neg hd2]
end W92
set_option Elab.async false
set_option linter.all false
set_option maxRecDepth 100000
set_option maxHeartbeats 4000000
namespace W92
open PySem PySem.Spec PyProof.Rows L2 Gm C8
variable {P : Program} {w : World} {K : PySem.W.Frag} {mg : Str → Option Value} {base : Heap}
abbrev sp__law_within_right : Sp := spG (aC (vT (vQ vI vI vI)) (aC (vT (vQ vS vI vI)) (aC (vP vI vI) (aC (vP vI vI) aN)))) false vB (fun i => WordOk i.1 i.2.1 ∧ PcOk i.2.2.1 ∧ PcOk i.2.2.2.1 ∧ i.2.2.1.1 ≤ i.2.2.2.1.1 ∧ i.2.2.2.1.2 ≤ i.2.2.1.2) (fun _ => true)
abbrev N__law_within_right : List Str := ["_law_train_here", "_law_looks_here", "_law_outer", "_law_piece", "_law_words"]
theorem sc__law_within_right : FnScope ["_law_train_here", "_law_looks_here", "_law_outer", "_law_piece", "_law_words"] ["_law_train_here", "_law_looks_here", "_law_outer", "_law_piece"] (L2.defScope (topS 90)) := ⟨rfl, rfl, rfl, by decide +kernel, rfl, by decide +kernel, by decide +kernel⟩
theorem c__law_within_right (D : DefT K mg "_law_within_right" (topS 90)) (B : Bl mg) (C : Co mg) (c_word_of : Cal P w K mg base 9 "word_of" sp_word_of []) : Cal P w K mg base 10 "_law_within_right" sp__law_within_right [] := by
  refine cal_of (m := 1) D sc__law_within_right (fits_im (fits_im (fits_im (fits_im fits_nil)))) rfl (fun _ _ _ _ _ _ us hl => match us, hl with | [_, _, _, _], _ => rfl) (fun a cdv A outer s H E i hr hp => ?_)
  obtain ⟨tr, lk, o, q, ⟨⟩⟩ := i
  have nd := sc__law_within_right.nd
  have hw : WordOk tr lk := hp.1
  have po : PcOk o := hp.2.1
  have pq : PcOk q := hp.2.2.1
  obtain ⟨w1, w2⟩ := word_within hw.1 hw.2.2.2 (o := o) (q := q) hp.2.2.2.1 hp.2.2.2.2
  refine ss_ow (C := cL vS) 4 nd (ex_lst (F := vS) (xi_cons (ex_call c_word_of hr ?_ (xa_cons (ex_im (F := (vT (vQ vI vI vI))) 0) (xa_cons (ex_im (F := (vT (vQ vS vI vI))) 1) (xa_cons (ex_im (F := (vP vI vI)) 2) xa_nil)))) (xi_cons (ex_call c_word_of hr ?_ (xa_cons (ex_im (F := (vT (vQ vI vI vI))) 0) (xa_cons (ex_im (F := (vT (vQ vS vI vI))) 1) (xa_cons (ex_im (F := (vP vI vI)) 3) xa_nil)))) xi_nil))) ?_
  · exact ⟨hw, po⟩
  · exact ⟨hw, pq⟩
  refine ss_ret' (ex_and (ex_not (ex_and (ex_eq (ex_ixLd ("" : Str) (ex_ow (C := cL vS) 4) ex_int ?_) ex_str) (fun _ => ex_one (ex_ne (ex_ixLd ("" : Str) (ex_ow (C := cL vS) 4) ex_int ?_) ex_str)))) (fun _ => ex_one (ex_not (ex_and (ex_eq (ex_ixLd ("" : Str) (ex_ow (C := cL vS) 4) ex_int ?_) ex_str) (fun _ => ex_one (ex_ne (ex_ixLd ("" : Str) (ex_ow (C := cL vS) 4) ex_int ?_) ex_str)))))) ?_ (Same.refl _)
  · exact ⟨by decide, by simp⟩
  · exact ⟨by decide, by simp⟩
  · exact ⟨by decide, by simp⟩
  · exact ⟨by decide, by simp⟩
  show (!(decide (wordBy tr lk o = ("sound" : Str)) && !decide (wordBy tr lk q = ("sound" : Str))) && !(decide (wordBy tr lk q = ("marked" : Str)) && !decide (wordBy tr lk o = ("marked" : Str)))) = true
  by_cases c1 : wordBy tr lk o = ("sound" : Str)
  · rw [w1 c1, c1]
    rfl
  · by_cases c2 : wordBy tr lk q = ("marked" : Str)
    · rw [w2 c2, c2]
      rfl
    · rw [decide_eq_false c1, decide_eq_false c2]
      rfl
end W92
set_option Elab.async false
set_option linter.all false
set_option maxRecDepth 100000
set_option maxHeartbeats 4000000
namespace W92
open PySem PySem.Spec PyProof.Rows L2 Gm C8
variable {P : Program} {w : World} {K : PySem.W.Frag} {mg : Str → Option Value} {base : Heap}
abbrev sp__law_more_right : Sp := spG (aC (vT (vQ vI vI vI)) (aC (vT (vQ vS vI vI)) (aC (vP vI vI) aN))) false vB (fun i => WordOk i.1 i.2.1 ∧ i.2.1.length ≤ 6 ∧ PcOk i.2.2.1) (fun _ => true)
abbrev N__law_more_right : List Str := ["_law_train_here", "_law_looks_here", "_law_piece", "_law_many", "_law_ways_here", "_law_sort", "_law_more", "_law_due", "_law_word"]
theorem sc__law_more_right : FnScope ["_law_train_here", "_law_looks_here", "_law_piece", "_law_many", "_law_ways_here", "_law_sort", "_law_more", "_law_due", "_law_word"] ["_law_train_here", "_law_looks_here", "_law_piece"] (L2.defScope (topS 88)) := ⟨rfl, rfl, rfl, by decide +kernel, rfl, by decide +kernel, by decide +kernel⟩
theorem c__law_more_right (D : DefT K mg "_law_more_right" (topS 88)) (B : Bl mg) (C : Co mg) (c_fewest : Cal P w K mg base 7 "fewest" sp_fewest []) (c_word_of : Cal P w K mg base 9 "word_of" sp_word_of []) : Cal P w K mg base 10 "_law_more_right" sp__law_more_right [] := by
  refine cal_of (m := 6) D sc__law_more_right (fits_im (fits_im (fits_im fits_nil))) rfl (fun _ _ _ _ _ _ us hl => match us, hl with | [_, _, _], _ => rfl) (fun a cdv A outer s H E i hr hp => ?_)
  obtain ⟨tr, lk, pc, ⟨⟩⟩ := i
  have nd := sc__law_more_right.nd
  have hw : WordOk tr lk := hp.1
  have h6 : lk.length ≤ 6 := hp.2.1
  have pc1 : PcOk pc := hp.2.2
  obtain ⟨ht, hk, h7, hs⟩ := hw
  obtain ⟨p, hf⟩ := Option.isSome_iff_exists.mp hs
  have hn : fewN tr lk = p.1 := by
    simp only [fewN, hf]
    rfl
  refine ss_paro1 (C := cL vB) 3 4 rfl nd (ex_p0 (ex_got (F := (vP vI (vT (vT vI)))) (x := p) (ex_call c_fewest hr ?_ (xa_cons (ex_im (F := (vT (vQ vI vI vI))) 0) (xa_cons (ex_im (F := (vT (vQ vS vI vI))) 1) xa_nil))) hf)) (ex_lst (F := vB) xi_nil) ?_
  · exact ⟨ht, hk⟩
  refine ss_for (xs := [("mark" : Str), ("sound" : Str)]) (fun j => [im (vT (vQ vI vI vI)) tr, im (vT (vQ vS vI vI)) lk, im (vP vI vI) pc, im vI p.1, ow (cL vB) ([mayBe tr lk p.1 ("mark", pc.1, pc.2), mayBe tr lk p.1 ("sound", pc.1, pc.2)].take j), .no, .no, .no, .no]) _ PassesOwn.never rfl (wk_tup (ex_tup (xi_cons ex_str (xi_cons ex_str xi_nil)))) (fun _ _ _ _ => gt_name 5 nd) ?_ ?_ ?_
  · repeat (first | exact Sub.nil | refine Sub.keep ?_ | refine Sub.drop ?_)
  · intro b1 j x hb1 hx
    have hl : LkOk (x, pc.1, pc.2) ∧ [mayBe tr lk p.1 ("mark", pc.1, pc.2), mayBe tr lk p.1 ("sound", pc.1, pc.2)].take (j + 1) = [mayBe tr lk p.1 ("mark", pc.1, pc.2), mayBe tr lk p.1 ("sound", pc.1, pc.2)].take j ++ [mayBe tr lk p.1 (x, pc.1, pc.2)] := by
      match j, hx with
      | 0, hx =>
        cases hx
        exact ⟨mark_ok pc1, rfl⟩
      | 1, hx =>
        cases hx
        exact ⟨sound_ok pc1, rfl⟩
      | j + 2, hx => cases hx
    obtain ⟨hl, fs⟩ := hl
    have tl : ([mayBe tr lk p.1 ("mark", pc.1, pc.2), mayBe tr lk p.1 ("sound", pc.1, pc.2)].take j).length < 100000 := Nat.lt_of_le_of_lt (List.length_take_le' _ _) (show 2 < 100000 by decide)
    generalize [mayBe tr lk p.1 ("mark", pc.1, pc.2), mayBe tr lk p.1 ("sound", pc.1, pc.2)].take j = ys at fs tl ⊢
    refine ss_im (F := (vO (vP vI (vT (vT vI))))) 6 nd (ex_is (y := fewestBy tr (lk ++ [(x, pc.1, pc.2)])) (ex_call c_fewest hr ?_ (xa_cons (ex_im (F := (vT (vQ vI vI vI))) 0) (xa_cons (ex_catT (ex_im (F := (vT (vQ vS vI vI))) 1) (ex_tup (xi_cons (ex_catW (ex_tw (ex_im (F := vS) 5)) (ex_im (F := (vP vI vI)) 2)) xi_nil)) ?_) xa_nil))) rfl) ?_
    · exact ⟨ht, lks_app hk h7 hl⟩
    · simp only [List.length_cons, List.length_nil]
      omega
    have mb : ∀ o, fewestBy tr (lk ++ [(x, pc.1, pc.2)]) = o → mayBe tr lk p.1 (x, pc.1, pc.2) = (match o with | none => false | some z => decide (z.1 = p.1)) := fun o e => by
      rw [← e]
      rfl
    generalize hg : fewestBy tr (lk ++ [(x, pc.1, pc.2)]) = o
    have mo := mb o hg
    cases o with
    | none =>
      refine ss_app (F := vB) (x := mayBe tr lk p.1 (x, pc.1, pc.2)) 4 rfl (ex_is (ex_and (d := false) (f2 := false) (ex_notN (F := (vP vI (vT (vT vI)))) (ex_im (F := (vO (vP vI (vT (vT vI))))) 6)) ?_) ?_) tl ?_
      · intro h
        exact absurd (show false = true from h) (by decide)
      · exact mo.symm
      exact ss_nil (fun _ _ g => by simp only [fs]; exact g.sub (by repeat (first | exact Sub.nil | refine Sub.keep ?_ | refine Sub.drop ?_)))
    | some z =>
      refine ss_app (F := vB) (x := mayBe tr lk p.1 (x, pc.1, pc.2)) 4 rfl (ex_is (ex_and (ex_notN (F := (vP vI (vT (vT vI)))) (ex_im (F := (vO (vP vI (vT (vT vI))))) 6)) (fun h => ex_one (ex_eq (ex_p0 (ex_got (F := (vP vI (vT (vT vI)))) (ex_im (F := (vO (vP vI (vT (vT vI))))) 6) rfl)) (ex_im (F := vI) 3)))) ?_) tl ?_
      · exact mo.symm
      exact ss_nil (fun _ _ g => by simp only [fs]; exact g.sub (by repeat (first | exact Sub.nil | refine Sub.keep ?_ | refine Sub.drop ?_)))
  · intro b1 hb1
    rw [show [mayBe tr lk p.1 ("mark", pc.1, pc.2), mayBe tr lk p.1 ("sound", pc.1, pc.2)].take [("mark" : Str), ("sound" : Str)].length = [mayBe tr lk p.1 ("mark", pc.1, pc.2), mayBe tr lk p.1 ("sound", pc.1, pc.2)] from rfl, ← hn]
    refine ss_frz (C := cL vB) 4 rfl (fun b2 hb2 => ?_)
    refine ss_ge (F := vDue "sound" "marked" "maybe" false true true false true true) 7 nd (no_own rfl) (ex_due (by decide) (by decide) (by decide)) (fun b3 hb3 => ?_)
    refine ss_im (F := vS) 8 nd (ex_call c_word_of hr ?_ (xa_cons (ex_im (F := (vT (vQ vI vI vI))) 0) (xa_cons (ex_im (F := (vT (vQ vS vI vI))) 1) (xa_cons (ex_im (F := (vP vI vI)) 2) xa_nil)))) ?_
    · exact ⟨⟨ht, hk, h7, hs⟩, pc1⟩
    obtain ⟨c1, c2⟩ := word_cong ht hs (lks' := lk.reverse) (fun l => List.mem_reverse.symm) pc
    have d0 : ∀ l, l ∈ lk ↔ l ∈ lk ++ cut lk none (some 1) := fun l => by
      have e : cut lk none (some 1) = lk.take 1 := cut_to lk 1
      rw [e, List.mem_append]
      exact ⟨.inl, fun h => h.elim id List.mem_of_mem_take⟩
    have dl : (cut lk none (some 1)).length ≤ 1 := by
      have e : cut lk none (some 1) = lk.take 1 := cut_to lk 1
      rw [e]
      exact List.length_take_le _ _
    obtain ⟨d1, d2⟩ := word_cong ht hs d0 pc
    refine ss_ifr (ew_pt (ew_or (et_ne (ex_call c_word_of hr ?_ (xa_cons (ex_im (F := (vT (vQ vI vI vI))) 0) (xa_cons (ex_revT (ex_im (F := (vT (vQ vS vI vI))) 1)) (xa_cons (ex_im (F := (vP vI vI)) 2) xa_nil)))) (ex_im (F := vS) 8)) (fun _ => ew_or1 (et_ne (ex_call c_word_of hr ?_ (xa_cons (ex_im (F := (vT (vQ vI vI vI))) 0) (xa_cons (ex_catT (ex_im (F := (vT (vQ vS vI vI))) 1) (ex_slT (ex_im (F := (vT (vQ vS vI vI))) 1) eo_none (eo_some ex_int)) ?_) (xa_cons (ex_im (F := (vP vI vI)) 2) xa_nil)))) (ex_im (F := vS) 8))))) (fun h => ?_) (fun h => ?_)
    · exact ⟨⟨ht, ⟨by rw [List.length_reverse]; exact hk.1, fun l hl => hk.2 l (List.mem_reverse.mp hl)⟩, by rw [List.length_reverse]; exact h7, c1⟩, pc1⟩
    · exact ⟨⟨ht, ⟨by rw [List.length_append]; omega, fun l hl => hk.2 l ((d0 l).mpr hl)⟩, by rw [List.length_append]; omega, d1⟩, pc1⟩
    · omega
    · exfalso
      have h2 : (!decide (wordBy tr lk.reverse pc = wordBy tr lk pc) || !decide (wordBy tr (lk ++ cut lk none (some 1)) pc = wordBy tr lk pc)) = true := h
      rw [c2, d2] at h2
      simp at h2
    refine ss_ret' (ex_eqD hr (ex_ge (F := vL vB) 4) (ex_dueAt (xs := [mayBe tr lk (fewN tr lk) ("mark", pc.1, pc.2), mayBe tr lk (fewN tr lk) ("sound", pc.1, pc.2)]) hr (ex_ge (F := vDue "sound" "marked" "maybe" false true true false true true) 7) (ex_im (F := vS) 8) ?_)) ?_ ((hb1.trans hb2).trans hb3)
    · have e := may_either ht hs pc
      unfold MayM MayS at e
      rw [word_eq]
      unfold MayM MayS
      revert e
      show (mayBe tr lk (fewN tr lk) ("mark", pc.1, pc.2) = true ∨ mayBe tr lk (fewN tr lk) ("sound", pc.1, pc.2) = true) → dueOf "sound" "marked" "maybe" false true true false true true (if mayBe tr lk (fewN tr lk) ("mark", pc.1, pc.2) = true then if mayBe tr lk (fewN tr lk) ("sound", pc.1, pc.2) = true then ("maybe" : Str) else ("marked" : Str) else ("sound" : Str)) = _
      generalize mayBe tr lk (fewN tr lk) ("mark", pc.1, pc.2) = m
      generalize mayBe tr lk (fewN tr lk) ("sound", pc.1, pc.2) = n
      cases m <;> cases n <;> intro e
      · rcases e with e | e <;> cases e
      · rfl
      · rfl
      · rfl
    exact decide_eq_true rfl
end W92
set_option Elab.async false
set_option linter.all false
set_option maxRecDepth 100000
set_option maxHeartbeats 4000000
namespace W92
open PySem PySem.Spec PyProof.Rows L2 Gm C8
variable {P : Program} {w : World} {K : PySem.W.Frag} {mg : Str → Option Value} {base : Heap}
abbrev sp__law_story_right : Sp := spG (aC (vT (vQ vI vI vI)) (aC (vT (vQ vS vI vI)) (aC (vP vI vI) aN))) false vB (fun i => WordOk i.1 i.2.1 ∧ PcOk i.2.2.1) (fun _ => true)
abbrev N__law_story_right : List Str := ["_law_train_here", "_law_looks_here", "_law_piece", "_law_word", "_law_tale", "_law_marks", "_law_closed", "_law_inner", "_law_top", "_law_bottom"]
theorem sc__law_story_right : FnScope ["_law_train_here", "_law_looks_here", "_law_piece", "_law_word", "_law_tale", "_law_marks", "_law_closed", "_law_inner", "_law_top", "_law_bottom"] ["_law_train_here", "_law_looks_here", "_law_piece"] (L2.defScope (topS 89)) := ⟨rfl, rfl, rfl, by decide +kernel, rfl, by decide +kernel, by decide +kernel⟩
theorem c__law_story_right (D : DefT K mg "_law_story_right" (topS 89)) (B : Bl mg) (C : Co mg) (c_marks_of : Cal P w K mg base 7 "marks_of" sp_marks_of []) (c_some_story : Cal P w K mg base 7 "some_story" sp_some_story []) (c_word_of : Cal P w K mg base 9 "word_of" sp_word_of []) : Cal P w K mg base 10 "_law_story_right" sp__law_story_right [] := by
  refine cal_of (m := 7) D sc__law_story_right (fits_im (fits_im (fits_im fits_nil))) rfl (fun _ _ _ _ _ _ us hl => match us, hl with | [_, _, _], _ => rfl) (fun a cdv A outer s H E i hr hp => ?_)
  obtain ⟨tr, lk, pc, ⟨⟩⟩ := i
  have nd := sc__law_story_right.nd
  have hw : WordOk tr lk := hp.1
  have pc1 : PcOk pc := hp.2
  obtain ⟨st, se, so, sb, sw⟩ := story_words hw.1 hw.2.2.2
  obtain ⟨s1, s2⟩ := sw pc pc1.2.2
  refine ss_par 3 4 rfl nd (ex_call c_word_of hr ?_ (xa_cons (ex_im (F := (vT (vQ vI vI vI))) 0) (xa_cons (ex_im (F := (vT (vQ vS vI vI))) 1) (xa_cons (ex_im (F := (vP vI vI)) 2) xa_nil)))) (ex_got (F := (vT (vP vI (vP vI vI)))) (x := st) (ex_call c_some_story hr ?_ (xa_cons (ex_im (F := (vT (vQ vI vI vI))) 0) (xa_cons (ex_im (F := (vT (vQ vS vI vI))) 1) xa_nil))) se) ?_
  · exact ⟨hw, pc1⟩
  · exact ⟨hw.1, hw.2.1⟩
  refine ss_im (F := vT (vP vI vI)) 5 nd (ex_call c_marks_of hr ?_ (xa_cons (ex_im (F := (vT (vQ vI vI vI))) 0) (xa_cons (ex_im (F := (vT (vP vI (vP vI vI)))) 4) (xa_cons ex_int xa_nil)))) ?_
  · exact ⟨hw.1, so, sb, (by decide : (0 : Int) ≤ 400), Int.le_refl _⟩
  have ml : (marksOf tr st 400).length ≤ 100000 := by
    obtain ⟨b1, b2⟩ := botOf_ok hw.1 so sb
    have z := marks_len hw.1 so b1 b2 (en := 400) (by decide) (by decide) st.length
    rw [List.take_length] at z
    have := so.2.2
    unfold marksOf
    rw [List.length_map, (sortI_perm _).length_eq]
    unfold marksM
    omega
  have g1 : ∀ b : Int, CMul pc.1 b := fun b => .inl ⟨by have := pc1.1; omega, by have := pc1.2; omega⟩
  have g2 : ∀ b : Int, CMul pc.2 b := fun b => .inl ⟨by have := pc1.1; have := pc1.2; omega, by have := pc1.2; omega⟩
  refine ss_lc1 (G := vI) 6 [("_law_top", 8), ("_law_bottom", 9)] _ rfl nd (wk_tup (ex_im (F := vT (vP vI vI)) 5)) (fun _ _ _ _ _ _ _ _ => lg_pair 8 9 rfl nd) (fun _ _ _ _ _ _ _ _ _ => et_lele (ex_mul (ex_p0 (ex_im (F := (vP vI vI)) 2)) (ex_im (F := vI) 9) (g1 _)) (ex_im (F := vI) 8) (ex_mul (ex_p1 (ex_im (F := (vP vI vI)) 2)) (ex_im (F := vI) 9) (g2 _))) (fun _ _ _ _ _ _ _ _ _ _ => ex_int) ml ?_ (blkOk_by (N := N__law_story_right) (sc := L2.defScope (topS 89)) (by decide +kernel))
  refine ss_lc1 (G := vI) 7 [("_law_top", 8), ("_law_bottom", 9)] _ rfl nd (wk_tup (ex_im (F := vT (vP vI vI)) 5)) (fun _ _ _ _ _ _ _ _ => lg_pair 8 9 rfl nd) (fun _ _ _ _ _ _ _ _ _ => et_ltlt (ex_mul (ex_p0 (ex_im (F := (vP vI vI)) 2)) (ex_im (F := vI) 9) (g1 _)) (ex_im (F := vI) 8) (ex_mul (ex_p1 (ex_im (F := (vP vI vI)) 2)) (ex_im (F := vI) 9) (g2 _))) (fun _ _ _ _ _ _ _ _ _ _ => ex_int) ml ?_ (blkOk_by (N := N__law_story_right) (sc := L2.defScope (topS 89)) (by decide +kernel))
  refine ss_ret' (ex_and (ex_not (ex_and (ex_eq (ex_im (F := vS) 3) ex_str) (fun _ => ex_one (ex_neD hr (ex_ow (C := cL vI) 6) (ex_lst (F := vI) xi_nil))))) (fun _ => ex_one (ex_not (ex_and (ex_eq (ex_im (F := vS) 3) ex_str) (fun _ => ex_one (ex_eqD hr (ex_ow (C := cL vI) 7) (ex_lst (F := vI) xi_nil))))))) ?_ (Same.refl _)
  show (!(decide (wordBy tr lk pc = ("sound" : Str)) && !decide (((marksOf tr st 400).filter (closedIn pc)).map (fun _ => (1 : Int)) = [])) && !(decide (wordBy tr lk pc = ("marked" : Str)) && decide (((marksOf tr st 400).filter (innerIn pc)).map (fun _ => (1 : Int)) = []))) = true
  have e1 : decide (wordBy tr lk pc = ("sound" : Str)) = true → decide (((marksOf tr st 400).filter (closedIn pc)).map (fun _ => (1 : Int)) = []) = true := fun h => by
    rw [s1 (of_decide_eq_true h)]
    rfl
  have e2 : decide (wordBy tr lk pc = ("marked" : Str)) = true → decide (((marksOf tr st 400).filter (innerIn pc)).map (fun _ => (1 : Int)) = []) = false := fun h => by
    refine decide_eq_false fun z => s2 (of_decide_eq_true h) ?_
    exact List.map_eq_nil_iff.mp z
  exact bool4 _ _ _ _ e1 e2
end W92
set_option Elab.async false
set_option linter.all false
set_option maxRecDepth 100000
set_option maxHeartbeats 4000000
namespace W92
open PySem PySem.Spec PyProof.Rows L2 Gm C8
variable {P : Program} {w : World} {K : PySem.W.Frag} {mg : Str → Option Value} {base : Heap}
theorem pen3 {q : Addr} {a b c : Int} (b0 : 0 ≤ b) (b1 : b < 2147483648) : ∀ (r : Addr) (o : HO) (H : Hp), (r = q ∧ (cL vI).c [a, b, c] o H) → r = q ∧ PenH o := fun r o H ⟨h, vs, h1, h2⟩ => by
  have e : vs = [a, b, c].map V.int := ints_of h2
  exact ⟨h, a, b, c, by rw [h1, e]; rfl, b0, b1⟩
abbrev sp__law_draw : Sp := spM (aC vI aN) vI (fun i => 0 < i.1 ∧ i.1 < 1073741824) (fun i r => 0 ≤ r ∧ r < i.1)
theorem sc__law_draw : FnScope ["_law_pen_here", "_law_many", "_law_found", "_law_stirred"] ["_law_pen_here", "_law_many"] (L2.defScope (topS 74)) := ⟨rfl, rfl, rfl, by decide +kernel, rfl, by decide +kernel, by decide +kernel⟩
theorem c__law_draw (D : DefT K mg "_law_draw" (topS 74)) (B : Bl mg) (C : Co mg) : Cal P w K mg base 1 "_law_draw" sp__law_draw [] := by
  refine cal_ofM (m := 2) D sc__law_draw (fits_im fits_nil) rfl (fun _ _ _ _ _ _ us hl => match us, hl with | [_, _], _ => rfl) (fun _ cdv A outer s H E i p H0 hr hp => ?_)
  obtain ⟨many, ⟨⟩⟩ := i
  have nd := sc__law_draw.nd
  obtain ⟨m0, m1⟩ : 0 < many ∧ many < 1073741824 := hp
  refine ss_open 0 rfl (fun a b c b0 b1 => ?_)
  refine ss_ifr (et_gt (ex_ixL (x := a) (ex_owA (C := cL vI) 0) ex_int rfl) ex_int) (fun h => ?_) (fun h => ?_)
  · refine ss_im (F := vI) 2 nd (ex_mod (ex_ixL (x := a) (ex_owA (C := cL vI) 0) ex_int rfl) (ex_im (F := vI) 1) m0) ?_
    refine ss_lput (jx := 0) 0 (ex_fdiv (ex_ixL (x := a) (ex_owA (C := cL vI) 0) ex_int rfl) (ex_im (F := vI) 1) ⟨m0, m1⟩) rfl ?_
    refine ss_retM 0 (m_lift (ex_im (F := vI) 2)) (fun z hz => ?_) rfl (pen3 b0 b1)
    rw [hz]
    exact ⟨Int.emod_nonneg _ (by omega), Int.emod_lt_of_pos _ m0⟩
  · refine ss_lput (jx := 2) 0 (ex_add (ex_ixL (x := c) (ex_owA (C := cL vI) 0) ex_int rfl) ex_int) rfl ?_
    refine ss_lput (jx := 1) 0 (ex_mod (ex_add (ex_add (ex_mul (ex_ixL (x := b) (ex_owA (C := cL vI) 0) ex_int rfl) ex_int ?_) (ex_mul ex_int (ex_ixL (x := c + 1) (ex_owA (C := cL vI) 0) ex_int rfl) ?_)) ex_int) ex_int (by decide)) rfl ?_
    · exact .inr ⟨by decide, by decide⟩
    · exact .inl ⟨by decide, by decide⟩
    have d0 := Int.emod_nonneg (b * 48271 + 1013 * (c + 1) + 9) (show (2147483647 : Int) ≠ 0 by decide)
    have d1 := Int.emod_lt_of_pos (b * 48271 + 1013 * (c + 1) + 9) (show (0 : Int) < 2147483647 by decide)
    show PSs _ _ (tS _ [owA p (cL vI) [a, (b * 48271 + 1013 * (c + 1) + 9) % 2147483647, c + 1], im vI many, .no, .no] _ _)
    generalize (b * 48271 + 1013 * (c + 1) + 9) % 2147483647 = d at d0 d1 ⊢
    refine ss_im (F := vI) 3 nd (ex_mod (ex_add (ex_add (ex_mul (ex_ixL (x := d) (ex_owA (C := cL vI) 0) ex_int rfl) (ex_ixL (x := d) (ex_owA (C := cL vI) 0) ex_int rfl) ?_) (ex_mul ex_int (ex_ixL (x := d) (ex_owA (C := cL vI) 0) ex_int rfl) ?_)) ex_int) ex_int (by decide)) ?_
    · exact .inl ⟨by omega, by omega⟩
    · exact .inl ⟨by decide, by decide⟩
    have s0 := Int.emod_nonneg (d * d + 39373 * d + 13) (show (2147483629 : Int) ≠ 0 by decide)
    have s1 := Int.emod_lt_of_pos (d * d + 39373 * d + 13) (show (0 : Int) < 2147483629 by decide)
    generalize (d * d + 39373 * d + 13) % 2147483629 = e at s0 s1 ⊢
    refine ss_im (F := vI) 3 nd (ex_mod (ex_add (ex_mul (ex_im (F := vI) 3) (ex_im (F := vI) 3) ?_) (ex_mul ex_int (ex_im (F := vI) 3) ?_)) ex_int (by decide)) ?_
    · exact .inl ⟨by omega, by omega⟩
    · exact .inl ⟨by decide, by decide⟩
    refine ss_retM 0 (m_lift (ex_mod (ex_fdiv (ex_im (F := vI) 3) ex_int ⟨by decide, by decide⟩) (ex_im (F := vI) 1) m0)) (fun z hz => ?_) rfl (pen3 d0 (by omega))
    rw [hz]
    exact ⟨Int.emod_nonneg _ (by omega), Int.emod_lt_of_pos _ m0⟩
section
variable {X : Cx} {e : Expr} {pos : Pos} {H0 : Hp} {Γ : List Slot} {Pn : Int → Prop}
/-- a draw -/
theorem m_draw {q : Addr} {k j : Nat} {m : Str} {p p2 : Pos} (s : Nat) (c : Cal X.prog X.w X.K X.mg X.base k "_law_draw" sp__law_draw []) (hr : Room j X.A) (he : PE X e (tM vI Pn H0 Γ)) (hp : ∀ n, Pn n → 0 < n ∧ n < 1073741824) (h : Γ[s]? = some (penS q) := by rfl) (hN : X.N[s]? = some m := by rfl) (hk : k ≤ j := by decide) (hg : Gl X "_law_draw" := by rfl)
    (hv : Vis X.env.scope m := by first | exact Or.inl rfl | exact Or.inr (Or.inl rfl)) (hd : (m == ("__debug__" : Str)) = false := by decide) (hcd : (m == ("__classdict__" : Str)) = false := by decide)
    (h1 : starEach (.Name m p2 :: [e]) X.env = (false, eval (.Name m p2) X.env) :: starEach [e] X.env := by rfl) (h2 : starEach [e] X.env = (false, eval e X.env) :: starEach [] X.env := by rfl) (hpl : (backTo pos (starEach [e] X.env)).any (·.1) = false := by rfl) :
    PE X (.Call (.Name "_law_draw" p) [.Name m p2, e] [] pos) (tM vI (fun r => ∃ n, Pn n ∧ 0 ≤ r ∧ r < n) H0 Γ) :=
  m_imp (m_call s c hr (fun i hi => hp i.1 hi.1) (ma_cons he ma_nil h2) h hN hk hg hv hd hcd (by decide) h1 hpl) fun a ⟨i, hi, k⟩ => ⟨i.1, hi.1, k⟩
/-- a draw of so many -/
theorem m_drawN {q : Addr} {k j : Nat} {n : Int} {f1 : Bool} {m : Str} {p p2 : Pos} (s : Nat) (c : Cal X.prog X.w X.K X.mg X.base k "_law_draw" sp__law_draw []) (hr : Room j X.A) (he : PE X e (tE f1 vI H0 Γ n)) (hp : 0 < n ∧ n < 1073741824) (h : Γ[s]? = some (penS q) := by rfl) (hN : X.N[s]? = some m := by rfl) (hk : k ≤ j := by decide) (hg : Gl X "_law_draw" := by rfl)
    (hv : Vis X.env.scope m := by first | exact Or.inl rfl | exact Or.inr (Or.inl rfl)) (hd : (m == ("__debug__" : Str)) = false := by decide) (hcd : (m == ("__classdict__" : Str)) = false := by decide)
    (h1 : starEach (.Name m p2 :: [e]) X.env = (false, eval (.Name m p2) X.env) :: starEach [e] X.env := by rfl) (h2 : starEach [e] X.env = (false, eval e X.env) :: starEach [] X.env := by rfl) (hpl : (backTo pos (starEach [e] X.env)).any (·.1) = false := by rfl) :
    PE X (.Call (.Name "_law_draw" p) [.Name m p2, e] [] pos) (tM vI (fun r => 0 ≤ r ∧ r < n) H0 Γ) :=
  m_imp (m_draw s c hr (m_lift he) (fun n' z => by rw [z]; exact hp) h hN hk hg hv hd hcd h1 h2 hpl) fun a ⟨i, hi, k⟩ => by rw [← hi]; exact k
end
abbrev sp__law_pick {α : Type} (F : Rep α) : Sp := spM (aC (vL F) aN) F (fun i => 0 < i.1.length ∧ i.1.length < 1000) (fun i r => r ∈ i.1)
theorem sc__law_pick : FnScope ["_law_pen_here", "_law_some"] ["_law_pen_here", "_law_some"] (L2.defScope (topS 75)) := ⟨rfl, rfl, rfl, by decide +kernel, rfl, by decide +kernel, by decide +kernel⟩
theorem c__law_pick {α : Type} (F : Rep α) (D : DefT K mg "_law_pick" (topS 75)) (B : Bl mg) (C : Co mg) (c__law_draw : Cal P w K mg base 1 "_law_draw" sp__law_draw []) : Cal P w K mg base 2 "_law_pick" (sp__law_pick F) [] := by
  refine cal_ofM (m := 0) D sc__law_pick (fits_ge fits_nil) rfl (fun _ _ _ _ _ _ us hl => match us, hl with | [_, _], _ => rfl) (fun _ cdv A outer s H E i p H0 hr hp => ?_)
  obtain ⟨xs, ⟨⟩⟩ := i
  have nd := sc__law_pick.nd
  obtain ⟨m0, m1⟩ : 0 < xs.length ∧ xs.length < 1000 := hp
  refine ss_retM 0 (m_ixG (F := F) (xs := xs) 1 (m_drawN 0 c__law_draw hr (ex_lenL B.len (ex_ge (F := vL F) 1)) ?_) (fun j hj => ?_)) (fun z hz => hz) rfl pen_hc
  · show 0 < (xs.length : Int) ∧ (xs.length : Int) < 1073741824
    omega
  · have h2 : j < (xs.length : Int) := hj.2
    have h1 : 0 ≤ j := hj.1
    exact ⟨h1, by omega⟩
abbrev sp__law_train : Sp := spM (aC vI aN) (vT (vQ vI vI vI)) (fun i => 1 ≤ i.1 ∧ i.1 ≤ 4) (fun i tr => TrOk tr ∧ (tr.length : Int) ≤ i.1)
theorem sc__law_train : FnScope ["_law_pen_here", "_law_most", "_law_some", "_law_lap", "_law_top", "_law_turn"] ["_law_pen_here", "_law_most"] (L2.defScope (topS 79)) := ⟨rfl, rfl, rfl, by decide +kernel, rfl, by decide +kernel, by decide +kernel⟩
theorem c__law_train (D : DefT K mg "_law_train" (topS 79)) (B : Bl mg) (C : Co mg) (c__law_draw : Cal P w K mg base 1 "_law_draw" sp__law_draw []) (c__law_pick : Cal P w K mg base 2 "_law_pick" (sp__law_pick vI) []) : Cal P w K mg base 3 "_law_train" sp__law_train [] := by
  refine cal_ofM (m := 4) D sc__law_train (fits_im fits_nil) rfl (fun _ _ _ _ _ _ us hl => match us, hl with | [_, _], _ => rfl) (fun _ cdv A outer s H E i p H0 hr hp => ?_)
  obtain ⟨most, ⟨⟩⟩ := i
  have nd := sc__law_train.nd
  obtain ⟨m0, m1⟩ : 1 ≤ most ∧ most ≤ 4 := hp
  refine ss_ow (C := cL (vQ vI vI vI)) 2 nd (ex_lst (F := vQ vI vI vI) xi_nil) ?_
  refine ss_forM (κ := List Rl) (fun u => [penS p, im vI most, ow (cL (vQ vI vI vI)) u, .no, .no, .no]) _ (fun j u => u.length = j ∧ ∀ r ∈ u, RolOk r) PassesOwn.never rfl (wk_range1M B.range (m_add (m_lift ex_int) (m_drawN 0 c__law_draw hr (ex_im (F := vI) 1) ?_)) ?_) (fun _ _ _ => gt_name 3 nd) ⟨[], ⟨rfl, fun _ h => nomatch h⟩, ?_⟩ ?_ ?_
  · exact ⟨by omega, by omega⟩
  · rintro n ⟨i, j, rfl, ⟨j0, j1⟩, rfl⟩
    omega
  · repeat (first | exact Sub.nil | refine Sub.keep ?_ | refine Sub.drop ?_)
  · rintro H1 xs i x u hs ⟨n, ⟨_, j, rfl, ⟨j0, j1⟩, rfl⟩, rfl⟩ hx ⟨u1, u2⟩
    have il := (List.getElem?_eq_some_iff.mp hx).1
    rw [rng_len] at il
    refine ss_imM (F := vI) 4 nd (m_pick 0 c__law_pick hr ?_ (ex_lst (F := vI) (xs := [1, 1, 2, 3, 8]) (xi_cons ex_int (xi_cons ex_int (xi_cons ex_int (xi_cons ex_int (xi_cons ex_int xi_nil))))))) (fun top ht => ?_)
    · exact ⟨by decide, by decide⟩
    have ht2 : 1 ≤ top ∧ top ≤ 8 := by
      have h : top ∈ [(1 : Int), 1, 2, 3, 8] := ht
      simp at h
      omega
    refine ss_imM (F := vI) 5 nd (m_add (m_lift ex_int) (m_draw 0 c__law_draw hr (m_pick 0 c__law_pick hr ?_ (ex_lst (F := vI) (xs := [6, 12, 60]) (xi_cons ex_int (xi_cons ex_int (xi_cons ex_int xi_nil))))) (fun n hn => ?_))) (fun turn hu => ?_)
    · exact ⟨by decide, by decide⟩
    · have h : n ∈ [(6 : Int), 12, 60] := hn
      simp at h
      omega
    have hu2 : 1 ≤ turn ∧ turn ≤ 60 := by
      obtain ⟨_, r, rfl, ⟨n, hn, r0, r1⟩, rfl⟩ := hu
      have h : n ∈ [(6 : Int), 12, 60] := hn
      simp at h
      omega
    refine ss_appM (F := vQ vI vI vI) 2 rfl (m_tq (m_lift (ex_im (F := vI) 5)) (m_lift (ex_im (F := vI) 4)) (m_add (m_lift ex_int) (m_drawN 0 c__law_draw hr (ex_im (F := vI) 4) ?_))) ?_ (fun r hr2 => ?_)
    · exact ⟨by omega, by omega⟩
    · omega
    obtain ⟨r1, r2, _, d, rfl, ⟨d0, d1⟩, r3⟩ := hr2
    refine ss_nil (fun _ _ g => ⟨u ++ [r], ⟨by rw [List.length_append, u1]; rfl, fun y hy => ?_⟩, g.sub (by repeat (first | exact Sub.nil | refine Sub.keep ?_ | refine Sub.drop ?_))⟩)
    rcases List.mem_append.mp hy with z | z
    · exact u2 y z
    · rw [List.mem_singleton.mp z]
      refine ⟨?_, ?_, ?_, ?_, ?_, ?_⟩ <;> omega
  · rintro H1 xs u hs ⟨n, ⟨_, j, rfl, ⟨j0, j1⟩, rfl⟩, rfl⟩ ⟨u1, u2⟩
    rw [rng_len] at u1
    refine ss_retM 0 (m_lift (ex_tupL B.tuple (ex_ow (C := cL (vQ vI vI vI)) 2))) (fun z hz => ?_) rfl pen_hc
    rw [hz]
    exact ⟨⟨by omega, by omega, u2⟩, by dsimp only; omega⟩
end W92
set_option Elab.async false
set_option linter.all false
set_option maxRecDepth 100000
set_option maxHeartbeats 4000000
namespace W92
open PySem PySem.Spec PyProof.Rows L2 Gm C8
variable {P : Program} {w : World} {K : PySem.W.Frag} {mg : Str → Option Value} {base : Heap}
abbrev rTR : Rep (List Rl) := vT (vQ vI vI vI)
abbrev rLK : Rep (List Lk) := vT (vQ vS vI vI)
abbrev rDT : Rep Dt := vP vI (vP vI vI)
abbrev sp__law_looks : Sp := spM (aC rTR (aC vI (aC vI aN))) rLK (fun i => TrOk i.1 ∧ 0 ≤ i.2.1 ∧ i.2.1 ≤ 6) (fun i lk => LksOk lk ∧ lk.length ≤ 6)
theorem sc__law_looks : FnScope ["_law_pen_here", "_law_train_here", "_law_most", "_law_wild", "_law_each", "_law_story", "_law_found", "_law_roller", "_law_period", "_law_lap", "_law_at", "_law_near_here", "_law_word"] ["_law_pen_here", "_law_train_here", "_law_most", "_law_wild"] (L2.defScope (topS 81)) := ⟨rfl, rfl, rfl, by decide +kernel, rfl, by decide +kernel, by decide +kernel⟩
theorem c__law_looks (D : DefT K mg "_law_looks" (topS 81)) (B : Bl mg) (C : Co mg) (c__law_draw : Cal P w K mg base 1 "_law_draw" sp__law_draw []) (c__law_pick : Cal P w K mg base 2 "_law_pick" (sp__law_pick vI) []) (c__law_pickS : Cal P w K mg base 2 "_law_pick" (sp__law_pick vS) []) (c__law_periods : Cal P w K mg base 3 "_law_periods" sp__law_periods []) (c__law_fraction : Cal P w K mg base 2 "_law_fraction" sp__law_fraction []) (c__law_near : Cal P w K mg base 1 "_law_near" sp__law_near []) : Cal P w K mg base 4 "_law_looks" sp__law_looks [] := by
  refine cal_ofM (m := 9) D sc__law_looks (fits_im (fits_im (fits_im fits_nil))) rfl (fun _ _ _ _ _ _ us hl => match us, hl with | [_, _, _, _], _ => rfl) (fun _ cdv A outer s H E i p H0 hr hp => ?_)
  obtain ⟨tr, most, wild, ⟨⟩⟩ := i
  have nd := sc__law_looks.nd
  obtain ⟨ht, m0, m1⟩ : TrOk tr ∧ 0 ≤ most ∧ most ≤ 6 := hp
  have pk : ∀ p ∈ lawPeriods tr, PerOk p := fun p h => periods_ok ht p (by rw [← lawPeriods_eq]; exact h)
  have pl : (lawPeriods tr).length = tr.length := by rw [lawPeriods_eq, periods_len]
  have t4 := ht.2.1
  refine ss_par3o12 (C := cL rDT) (C2 := cL (vQ vS vI vI)) 4 5 6 rfl nd (ex_is (y := lawPeriods tr) (ex_call c__law_periods hr ht (xa_cons (ex_im (F := rTR) 1) xa_nil)) rfl) (ex_lst (F := rDT) xi_nil) (ex_lst (F := vQ vS vI vI) xi_nil) ?_
  generalize lawPeriods tr = each at pk pl ⊢
  refine ss_forM (κ := List Dt) (fun u => [penS p, im rTR tr, im vI most, im vI wild, im (vT (vP vI vI)) each, ow (cL rDT) u, ow (cL (vQ vS vI vI)) [], .no, .no, .no, .no, .no, .no]) _ (fun j u => u.length ≤ j ∧ ∀ d ∈ u, 0 ≤ d.1 ∧ d.1 < each.length ∧ PhOk d.2) PassesOwn.never rfl (wk_lift (wk_enumT B.enumerate (ex_im (F := vT (vP vI vI)) 4))) (fun _ _ _ => gt_pair 7 8 rfl nd) ⟨[], ⟨Nat.le_refl _, fun _ h => nomatch h⟩, ?_⟩ ?_ ?_
  · repeat (first | exact Sub.nil | refine Sub.keep ?_ | refine Sub.drop ?_)
  · rintro H1 xs i x u hs rfl hx ⟨u1, u2⟩
    have il := (List.getElem?_eq_some_iff.mp hx).1
    rw [enumI_len] at il
    have hm := List.mem_of_getElem? hx
    unfold enumI at hm
    obtain ⟨⟨y, k⟩, h4, rfl⟩ := List.mem_map.mp hm
    rw [List.mem_zipIdx_iff_getElem?] at h4
    have ym : y ∈ each := List.mem_of_getElem? h4
    have kl := (List.getElem?_eq_some_iff.mp h4).1
    obtain ⟨q1, q2, q3, q4⟩ := pk y ym
    refine ss_iftM (mt_eq (m_drawN 0 c__law_draw hr ex_int ⟨by decide, by decide⟩) (m_lift ex_int)) (fun _ => ?_) (fun _ => ?_)
    · refine ss_appM (F := rDT) 5 rfl (m_tp (m_lift (ex_im (F := vI) 7)) (m_callP c__law_fraction hr (fun i hi => ?_) (ma_cons (m_drawN 0 c__law_draw hr (ex_p0 (ex_im (F := vP vI vI) 8)) ?_) (ma_cons (m_lift (ex_p1 (ex_im (F := vP vI vI) 8))) ma_nil)))) ?_ (fun d hd => ?_)
      · obtain ⟨⟨i0, i1⟩, i2, _⟩ := hi
        rw [i2]
        exact ⟨i0, q3, by show y.2 < 1073741824; omega⟩
      · exact ⟨by show 0 < y.1; omega, by show y.1 < 1073741824; omega⟩
      · omega
      · obtain ⟨d1, i, ⟨⟨i0, i1⟩, i2, _⟩, d2⟩ := hd
        refine ss_nil (fun _ _ g => ⟨u ++ [d], ⟨by rw [List.length_append]; simp; exact u1, fun z hz => ?_⟩, g.sub (by repeat (first | exact Sub.nil | refine Sub.keep ?_ | refine Sub.drop ?_))⟩)
        rcases List.mem_append.mp hz with c | c
        · exact u2 z c
        · rw [List.mem_singleton.mp c, d1, d2, i2]
          obtain ⟨f1, f2, f3, f4⟩ := frac_b (t := i.1) (b := y.2) i0 q3
          have i3 : i.1 < y.1 := i1
          exact ⟨by dsimp only; omega, by dsimp only; omega, f1, by dsimp only; omega, f3, by dsimp only; omega⟩
    · exact ss_nil (fun _ _ g => ⟨u, ⟨Nat.le_succ_of_le u1, u2⟩, g.sub (by repeat (first | exact Sub.nil | refine Sub.keep ?_ | refine Sub.drop ?_))⟩)
  · rintro H1 xs st hs rfl ⟨_, st2⟩
    refine ss_forM (κ := List Lk) (fun u => [penS p, im rTR tr, im vI most, im vI wild, im (vT (vP vI vI)) each, ow (cL rDT) st, ow (cL (vQ vS vI vI)) u, .no, .no, .no, .no, .no, .no]) _ (fun j u => u.length = j ∧ ∀ l ∈ u, LkOk l) PassesOwn.never rfl (wk_range1M B.range (m_drawN 0 c__law_draw hr (ex_add (ex_im (F := vI) 2) ex_int) ?_) ?_) (fun _ _ _ => gt_name 9 nd) ⟨[], ⟨rfl, fun _ h => nomatch h⟩, ?_⟩ ?_ ?_
    · exact ⟨by omega, by omega⟩
    · rintro n ⟨n0, n1⟩
      omega
    · repeat (first | exact Sub.nil | refine Sub.keep ?_ | refine Sub.drop ?_)
    · rintro H2 xs i x u hs2 ⟨n, ⟨n0, n1⟩, rfl⟩ hx ⟨u1, u2⟩
      have il := (List.getElem?_eq_some_iff.mp hx).1
      rw [rng_len] at il
      refine ss_imM (F := vI) 10 nd (m_draw 0 c__law_draw hr (m_pick 0 c__law_pick hr ?_ (ex_lst (F := vI) (xs := [40, 40, 390]) (xi_cons ex_int (xi_cons ex_int (xi_cons ex_int xi_nil))))) (fun n hn => ?_)) (fun at_ ha => ?_)
      · exact ⟨by decide, by decide⟩
      · have h : n ∈ [(40 : Int), 40, 390] := hn
        simp at h
        omega
      have a2 : 0 ≤ at_ ∧ at_ < 390 := by
        obtain ⟨n, hn, a0, a1⟩ := ha
        have h : n ∈ [(40 : Int), 40, 390] := hn
        simp at h
        omega
      refine ss_im (F := vB) 11 nd (ex_call c__law_near hr ?_ (xa_cons (ex_im (F := vT (vP vI vI)) 4) (xa_cons (ex_ow (C := cL rDT) 5) (xa_cons (ex_im (F := vI) 10) xa_nil)))) ?_
      · exact ⟨pk, st2, a2.1, by dsimp only; omega⟩
      refine ss_im (F := vS) 12 nd (ex_if (et_val (ex_im (F := vB) 11)) (fun _ => ex_str) (fun _ => ex_str)) ?_
      have hw0 : (if lawNear each st at_ = true then ("mark" : Str) else ("sound" : Str)) = ("mark" : Str) ∨ (if lawNear each st at_ = true then ("mark" : Str) else ("sound" : Str)) = ("sound" : Str) := by
        split
        · exact .inl rfl
        · exact .inr rfl
      refine ss_ifQ (κ := Str) (Q := fun w1 => w1 = ("mark" : Str) ∨ w1 = ("sound" : Str)) (fun w1 => [penS p, im rTR tr, im vI most, im vI wild, im (vT (vP vI vI)) each, ow (cL rDT) st, ow (cL (vQ vS vI vI)) u, .no, .no, im vI x, im vI at_, im vB (lawNear each st at_), im vS w1]) (mt_and (mt_lift (et_eq (ex_im (F := vI) 3) ex_int)) (mt_eq (m_drawN 0 c__law_draw hr ex_int ⟨by decide, by decide⟩) (m_lift ex_int))) (fun _ => ?_) (fun _ => ?_) (fun w1 hw1 => ?_)
      · refine ss_imM (F := vS) 12 nd (m_pick 0 c__law_pickS hr ?_ (ex_lst (F := vS) (xs := [("mark" : Str), ("sound" : Str)]) (xi_cons ex_str (xi_cons ex_str xi_nil)))) (fun w2 hw2 => ?_)
        · exact ⟨show 0 < 2 by decide, show 2 < 1000 by decide⟩
        · have hw3 : w2 ∈ [("mark" : Str), ("sound" : Str)] := hw2
          exact ss_nil (fun _ _ g => ⟨w2, by simpa using hw3, g.sub (by repeat (first | exact Sub.nil | refine Sub.keep ?_ | refine Sub.drop ?_))⟩)
      · exact ss_nil (fun _ _ g => ⟨_, hw0, g.sub (by repeat (first | exact Sub.nil | refine Sub.keep ?_ | refine Sub.drop ?_))⟩)
      · refine ss_appM (F := vQ vS vI vI) 6 rfl (m_tq (m_lift (ex_im (F := vS) 12)) (m_lift (ex_im (F := vI) 10)) (m_add (m_lift (ex_add (ex_im (F := vI) 10) ex_int)) (m_mul (m_drawN 0 c__law_draw hr ex_int ⟨by decide, by decide⟩) (m_lift (ex_intB B.int (ex_eq (ex_im (F := vS) 12) ex_str))) (fun i j hi _ => ?_)))) ?_ (fun l hl => ?_)
        · exact .inl ⟨by have := hi.1; omega, by have := hi.2; omega⟩
        · omega
        obtain ⟨l1, l2, _, _, rfl, ⟨d, j, ⟨d0, d1⟩, rfl, rfl⟩, l3⟩ := hl
        refine ss_nil (fun _ _ g => ⟨u ++ [l], ⟨by rw [List.length_append, u1]; rfl, fun z hz => ?_⟩, g.sub (by repeat (first | exact Sub.nil | refine Sub.keep ?_ | refine Sub.drop ?_))⟩)
        rcases List.mem_append.mp hz with c | c
        · exact u2 z c
        · rw [List.mem_singleton.mp c]
          obtain ⟨lw, la, lb⟩ := l
          dsimp only at l1 l2 l3
          subst l1
          subst l2
          rcases hw1 with e | e
          · rw [e] at l3
            have l4 : lb = la + 1 + d * 1 := l3
            exact ⟨a2.1, by dsimp only; omega, by dsimp only; omega, by dsimp only; omega, .inl ⟨e, by dsimp only; omega⟩⟩
          · rw [e] at l3
            have l4 : lb = la + 1 + d * 0 := l3
            exact ⟨a2.1, by dsimp only; omega, by dsimp only; omega, by dsimp only; omega, .inr ⟨e, by dsimp only; omega⟩⟩
    · rintro H2 xs u hs2 ⟨n, ⟨n0, n1⟩, rfl⟩ ⟨u1, u2⟩
      rw [rng_len] at u1
      refine ss_retM 0 (m_lift (ex_tupL B.tuple (ex_ow (C := cL (vQ vS vI vI)) 6))) (fun z hz => ?_) rfl pen_hc
      rw [hz]
      exact ⟨⟨by omega, u2⟩, by omega⟩
abbrev sp__law_told_looks : Sp := spM (aC rTR (aC vI aN)) rLK (fun i => TrOk i.1 ∧ 0 ≤ i.2.1 ∧ i.2.1 ≤ 6) (fun i lk => WordOk i.1 lk ∧ lk.length ≤ 6)
theorem sc__law_told_looks : FnScope ["_law_pen_here", "_law_train_here", "_law_most", "_law_looks_here"] ["_law_pen_here", "_law_train_here", "_law_most"] (L2.defScope (topS 87)) := ⟨rfl, rfl, rfl, by decide +kernel, rfl, by decide +kernel, by decide +kernel⟩
theorem c__law_told_looks (D : DefT K mg "_law_told_looks" (topS 87)) (B : Bl mg) (C : Co mg) (c__law_draw : Cal P w K mg base 1 "_law_draw" sp__law_draw []) (c__law_looks : Cal P w K mg base 4 "_law_looks" sp__law_looks []) (c__law_fewest : Cal P w K mg base 4 "_law_fewest" sp__law_fewest []) : Cal P w K mg base 5 "_law_told_looks" sp__law_told_looks [] := by
  refine cal_ofM (m := 1) D sc__law_told_looks (fits_im (fits_im fits_nil)) rfl (fun _ _ _ _ _ _ us hl => match us, hl with | [_, _, _], _ => rfl) (fun _ cdv A outer s H E i p H0 hr hp => ?_)
  obtain ⟨tr, most, ⟨⟩⟩ := i
  have nd := sc__law_told_looks.nd
  obtain ⟨ht, m0, m1⟩ : TrOk tr ∧ 0 ≤ most ∧ most ≤ 6 := hp
  refine ss_imM (F := rLK) 3 nd (m_call 0 c__law_looks hr (fun i hi => ?_) (ma_cons (m_lift (ex_im (F := rTR) 1)) (ma_cons (m_lift (ex_im (F := vI) 2)) (ma_cons (m_drawN 0 c__law_draw hr ex_int ⟨by decide, by decide⟩) ma_nil)))) (fun lk hlk => ?_)
  · obtain ⟨h1, h2, _⟩ := hi
    rw [h1, h2]
    exact ⟨ht, m0, m1⟩
  obtain ⟨_, _, hk, h6⟩ := hlk
  refine ss_while (ι := List Lk) (d := fun l => (lawFewest tr l).isNone) (fun l => [penS p, im rTR tr, im vI most, im rLK l]) (fun l => LksOk l ∧ l.length ≤ 6) (fun l => l.length) lk PassesOwn.never (by repeat (first | exact Sub.nil | refine Sub.keep ?_ | refine Sub.drop ?_)) ⟨hk, h6⟩ ?_ ?_ ?_
  · intro l hl
    refine et_isN (F := vP vI (vT (vT vI))) (ex_is (y := lawFewest tr l) (ex_call c__law_fewest hr ?_ (xa_cons (ex_im (F := rTR) 1) (xa_cons (ex_im (F := rLK) 3) xa_nil))) rfl)
    exact ⟨ht, hl.1⟩
  · intro l hl hd
    have ne : l ≠ [] := fun z => by
      rw [z] at hd
      have := law_few_nil tr
      cases e : lawFewest tr [] with
      | none =>
        rw [e] at this
        cases this
      | some y =>
        rw [e] at hd
        cases hd
    have hc : cut l none (some (-1)) = l.dropLast := cut_butlast l
    refine ss_im (F := rLK) 3 nd (ex_is (y := l.dropLast) (ex_slT (ex_im (F := rLK) 3) eo_none (eo_some (ex_neg ex_int))) hc) ?_
    exact ss_nil (fun _ _ g => ⟨l.dropLast, ⟨⟨by rw [List.length_dropLast]; have := hl.1.1; omega, fun x hx => hl.1.2 x (List.dropLast_subset l hx)⟩, by rw [List.length_dropLast]; have := hl.2; omega⟩, by rw [List.length_dropLast]; have := List.length_pos_iff.mpr ne; omega, g⟩)
  · intro l hl hd
    refine ss_retM 0 (m_lift (ex_im (F := rLK) 3)) (fun z hz => ?_) rfl pen_hc
    rw [hz]
    have hs : (lawFewest tr l).isSome = true := by
      cases e : lawFewest tr l with
      | none =>
        rw [e] at hd
        cases hd
      | some y => rfl
    exact ⟨⟨ht, hl.1, Nat.le_succ_of_le hl.2, law_few ht hs⟩, hl.2⟩
end W92
set_option Elab.async false
set_option linter.all false
set_option maxRecDepth 100000
set_option maxHeartbeats 4000000
namespace W92
open PySem PySem.Spec PyProof.Rows L2 Gm C8
variable {P : Program} {w : World} {K : PySem.W.Frag} {mg : Str → Option Value} {base : Heap}
abbrev sp__law_sure_right : Sp := spM (aC rTR (aC rLK aN)) vB (fun i => WordOk i.1 i.2.1) (fun _ r => r = true)
abbrev N__law_sure_right : List Str := ["_law_pen_here", "_law_train_here", "_law_looks_here", "_law_long", "_law_close_at", "_law_found", "_law_first", "_law_one", "_law_later"]
theorem sc__law_sure_right : FnScope N__law_sure_right ["_law_pen_here", "_law_train_here", "_law_looks_here"] (L2.defScope (topS 91)) := ⟨rfl, rfl, rfl, by decide +kernel, rfl, by decide +kernel, by decide +kernel⟩
theorem c__law_sure_right (D : DefT K mg "_law_sure_right" (topS 91)) (B : Bl mg) (C : Co mg) (c__law_draw : Cal P w K mg base 1 "_law_draw" sp__law_draw []) (c_sure_pieces : CalK P w K mg base 8 2 "sure_pieces" ["length", "end"] sp_sure_pieces) (c_word_of : Cal P w K mg base 9 "word_of" sp_word_of []) : Cal P w K mg base 10 "_law_sure_right" sp__law_sure_right [] := by
  refine cal_ofM (m := 6) D sc__law_sure_right (fits_im (fits_im fits_nil)) rfl (fun _ _ _ _ _ _ us hl => match us, hl with | [_, _, _], _ => rfl) (fun _ cdv A outer s H E i p H0 hr hp => ?_)
  obtain ⟨tr, lk, ⟨⟩⟩ := i
  have nd := sc__law_sure_right.nd
  have hw : WordOk tr lk := hp
  refine ss_imM (F := vI) 3 nd (m_add (m_lift ex_int) (m_drawN 0 c__law_draw hr ex_int ⟨by decide, by decide⟩)) (fun long hl => ?_)
  have l1 : 1 ≤ long ∧ long ≤ 12 := by
    obtain ⟨_, d, rfl, ⟨d0, d1⟩, rfl⟩ := hl
    omega
  refine ss_imM (F := vI) 4 nd (m_add (m_lift (ex_im (F := vI) 3)) (m_drawN 0 c__law_draw hr (ex_sub ex_int (ex_im (F := vI) 3)) ⟨by omega, by omega⟩)) (fun en he => ?_)
  have e1 : long ≤ en ∧ en ≤ 40 := by
    obtain ⟨_, d, rfl, ⟨d0, d1⟩, rfl⟩ := he
    omega
  obtain ⟨f1, f2⟩ := sure_in (tr := tr) (lks := lk) (len := long) (en := en) l1.1
  have f3 := sure_len (tr := tr) (lks := lk) (len := long) (en := en) e1.2
  have f4 := sure_more hw.1 hw.2.2.2 (len := long) (en := en) (len2 := long) (en2 := 40) l1.1 (Int.le_refl _) e1.2
  have hh0 := Int.ediv_nonneg (show 0 ≤ long - 1 by omega) (show (0 : Int) ≤ 2 by decide)
  have hh1 : (long - 1) / 2 ≤ long - 1 := Int.ediv_le_self _ (by omega)
  have f5 := sure_more hw.1 hw.2.2.2 (len := long) (en := en) (len2 := 1 + (long - 1) / 2) (en2 := en) (by omega) (by omega) (Int.le_refl _)
  refine ss_im (F := vT vI) 5 nd (ex_is (y := sureOf tr lk long en) (ex_callK c_sure_pieces hr ?_ (ex_im (F := rTR) 1) (ex_im (F := rLK) 2) (ex_im (F := vI) 3) (ex_im (F := vI) 4)) rfl) ?_
  · exact ⟨hw, by dsimp only; omega, by dsimp only; omega, by dsimp only; omega, by dsimp only; omega⟩
  generalize sureOf tr lk long en = found at f1 f2 f3 f4 f5 ⊢
  refine ss_ifr (et_neD hr (ex_lc1 (F := vI) (xs := found) [("_law_first", 6)] _ rfl nd (wk_tup (ex_im (F := vT vI) 5)) (fun _ _ _ _ _ _ _ _ => lg_name 6 nd) (fun _ _ _ _ _ _ x _ hm => et_ne (ex_call c_word_of hr ?_ (xa_cons (ex_im (F := rTR) 1) (xa_cons (ex_im (F := rLK) 2) (xa_cons (ex_tp (ex_im (F := vI) 6) (ex_add (ex_im (F := vI) 6) (ex_im (F := vI) 3))) xa_nil)))) ex_str) (fun _ _ _ _ _ _ _ _ _ _ => ex_im (F := vI) 6) ?_ (blkOk_by (N := N__law_sure_right) (sc := L2.defScope (topS 91)) (by decide +kernel))) (ex_lst (F := vI) xi_nil)) (fun h => ?_) (fun _ => ?_)
  · obtain ⟨x0, x1, _⟩ := f1 x hm
    exact ⟨hw, x0, by dsimp only; omega, by dsimp only; omega⟩
  · omega
  · exfalso
    have h2 : (!decide ((found.filter fun x => !decide (wordBy tr lk (x, x + long) = ("sound" : Str))).map (fun x => x) = [])) = true := h
    have e : found.filter (fun x => !decide (wordBy tr lk (x, x + long) = ("sound" : Str))) = [] := List.filter_eq_nil_iff.mpr fun x hx => by
      rw [(f1 x hx).2.2]
      decide
    rw [e] at h2
    exact absurd h2 (by decide)
  have ec : cut found (some 1) none = found.drop 1 := cut_from found 1
  refine ss_ifr (et_neD hr (ex_lc1 (F := vP vI vI) (xs := found.zip (found.drop 1 ++ [en])) [("_law_one", 7), ("_law_later", 8)] _ rfl nd (wk_zipT B.zip (ex_im (F := vT vI) 5) (ex_catT (ex_is (ex_slT (ex_im (F := vT vI) 5) (eo_some ex_int) eo_none) ec) (ex_tup (F := vI) (xi_cons (ex_im (F := vI) 4) xi_nil)) ?_)) (fun _ _ _ _ _ _ _ _ => lg_pair 7 8 rfl nd) (fun _ _ _ _ _ _ x _ hm => et_lt (ex_im (F := vI) 8) (ex_add (ex_im (F := vI) 7) (ex_im (F := vI) 3))) (fun _ _ _ _ _ _ _ _ _ _ => ex_int) ?_ (blkOk_by (N := N__law_sure_right) (sc := L2.defScope (topS 91)) (by decide +kernel))) (ex_lst (F := vI) xi_nil)) (fun h => ?_) (fun _ => ?_)
  · simp only [List.length_drop, List.length_cons, List.length_nil]
    omega
  · rw [List.length_zip]
    omega
  · exfalso
    have h2 : (!decide (((found.zip (found.drop 1 ++ [en])).filter fun x => decide (x.2 < x.1 + long)).map (fun _ => (1 : Int)) = [])) = true := h
    have e : (found.zip (found.drop 1 ++ [en])).filter (fun x => decide (x.2 < x.1 + long)) = [] := List.filter_eq_nil_iff.mpr fun x hx => by
      rw [decide_eq_false (zip_apart f2 (fun y hy => (f1 y hy).2.1) x hx)]
      decide
    rw [e] at h2
    exact absurd h2 (by decide)
  refine ss_ifr (et_lt (ex_lenT B.len (ex_is (y := sureOf tr lk long 40) (ex_callK c_sure_pieces hr ?_ (ex_im (F := rTR) 1) (ex_im (F := rLK) 2) (ex_im (F := vI) 3) ex_int) rfl)) (ex_lenT B.len (ex_im (F := vT vI) 5))) (fun h => ?_) (fun _ => ?_)
  · exact ⟨hw, by dsimp only; omega, by dsimp only; omega, by dsimp only; omega, by dsimp only; omega⟩
  · exfalso
    have h2 : ((sureOf tr lk long 40).length : Int) < (found.length : Int) := of_decide_eq_true h
    omega
  refine ss_retM 0 (m_lift (ex_geq (ex_lenT B.len (ex_is (y := sureOf tr lk (1 + (long - 1) / 2) en) (ex_callK c_sure_pieces hr ?_ (ex_im (F := rTR) 1) (ex_im (F := rLK) 2) (ex_add ex_int (ex_fdiv (ex_sub (ex_im (F := vI) 3) ex_int) ex_int ⟨by decide, by decide⟩)) (ex_im (F := vI) 4)) rfl)) (ex_lenT B.len (ex_im (F := vT vI) 5)))) (fun z hz => ?_) rfl pen_hc
  · exact ⟨hw, by dsimp only; omega, by dsimp only; omega, by dsimp only; omega, by dsimp only; omega⟩
  · rw [hz]
    exact decide_eq_true (by omega)
abbrev sp__law_alone_right : Sp := spM aN vB (fun _ => True) (fun _ r => r = true)
abbrev N__law_alone_right : List Str := ["_law_pen_here", "_law_train_here", "_law_looks_here", "_law_first", "_law_piece", "_law_due", "_law_look"]
theorem sc__law_alone_right : FnScope N__law_alone_right ["_law_pen_here"] (L2.defScope (topS 92)) := ⟨rfl, rfl, rfl, by decide +kernel, rfl, by decide +kernel, by decide +kernel⟩
theorem c__law_alone_right (D : DefT K mg "_law_alone_right" (topS 92)) (B : Bl mg) (C : Co mg) (c__law_draw : Cal P w K mg base 1 "_law_draw" sp__law_draw []) (c__law_train : Cal P w K mg base 3 "_law_train" sp__law_train []) (c__law_told_looks : Cal P w K mg base 5 "_law_told_looks" sp__law_told_looks []) (c_word_of : Cal P w K mg base 9 "word_of" sp_word_of []) (c_arcs : Cal P w K mg base 7 "arcs" sp_arcs []) : Cal P w K mg base 10 "_law_alone_right" sp__law_alone_right [] := by
  refine cal_ofM (m := 6) D sc__law_alone_right fits_nil rfl (fun _ _ _ _ _ _ us hl => match us, hl with | [_], _ => rfl) (fun _ cdv A outer s H E i p H0 hr hp => ?_)
  obtain ⟨⟩ := i
  have nd := sc__law_alone_right.nd
  refine ss_imM (F := rTR) 1 nd (m_call 0 c__law_train hr (fun i hi => ?_) (ma_cons (m_lift ex_int) ma_nil)) (fun tr htr => ?_)
  · rw [hi.1]
    exact ⟨by decide, by decide⟩
  obtain ⟨⟨n, ⟨⟩⟩, ⟨rfl, _⟩, ht, hl1⟩ := htr
  dsimp only at hl1
  have one : tr.length = 1 := by have := ht.1; omega
  refine ss_imM (F := rLK) 2 nd (m_call 0 c__law_told_looks hr (fun i hi => ?_) (ma_cons (m_lift (ex_im (F := rTR) 1)) (ma_cons (m_lift ex_int) ma_nil))) (fun lk hlk => ?_)
  · obtain ⟨h1, h2, _⟩ := hi
    rw [h1, h2]
    exact ⟨ht, by decide, by decide⟩
  obtain ⟨⟨tr', six, ⟨⟩⟩, ⟨h1, h2, _⟩, hw, h6⟩ := hlk
  dsimp only at h1 h2 hw h6
  rw [h1] at hw
  obtain ⟨_, hk, h7, hs⟩ := hw
  refine ss_ifr (et_eqD (F := vL (vQ vWd vI vI)) hr (ex_lc1 (F := vQ vS vI vI) (G := vQ vWd vI vI) (f := fun l : Lk => (true, l.2)) (xs := lk) [("_law_look", 6)] _ rfl nd (wk_tup (ex_im (F := rLK) 2)) (fun _ _ _ _ _ _ _ _ => lg_name 6 nd) (fun _ _ _ _ _ _ x _ hm => et_eq (ex_q0 (ex_im (F := vQ vS vI vI) 6)) ex_str) (fun _ _ _ _ _ _ x _ hm hq => ex_conv (ex_im (F := vQ vS vI vI) 6) ?_) ?_ (blkOk_by (N := N__law_alone_right) (sc := L2.defScope (topS 92)) (by decide +kernel))) (ex_lst (F := vQ vWd vI vI) xi_nil)) (fun h => ?_) (fun h => ?_)
  · rintro v H ⟨p, v1, v2, v3, k1, k2, k3, k4, k5⟩
    refine ⟨p, v1, v2, v3, k1, k2, ?_, k4, k5⟩
    have e : x.1 = ("mark" : Str) := of_decide_eq_true hq
    rw [e] at k3
    exact k3
  · omega
  · have h2 : decide ((lk.filter fun x => decide (x.1 = ("mark" : Str))).map (fun l : Lk => (true, l.2)) = []) = true := h
    have h3 := List.map_eq_nil_iff.mp (of_decide_eq_true h2)
    have h4 : ∀ l ∈ lk, ¬ l.1 = ("mark" : Str) := fun l hl e => List.filter_eq_nil_iff.mp h3 l hl (decide_eq_true e)
    refine ss_retM 0 (m_lift (ex_eq (ex_call c_word_of hr ?_ (xa_cons (ex_im (F := rTR) 1) (xa_cons (ex_im (F := rLK) 2) (xa_cons (ex_tp ex_int ex_int) xa_nil)))) ex_str)) (fun z hz => ?_) rfl pen_hc
    · exact ⟨⟨ht, hk, h7, hs⟩, (by decide : (0 : Int) ≤ 0), (by decide : (0 : Int) < 400), Int.le_refl _⟩
    · rw [hz]
      exact decide_eq_true (alone_none ht one hs h4 _)
  have hmark : ∃ l ∈ lk, l.1 = ("mark" : Str) := by
    have h2 : decide ((lk.filter fun x => decide (x.1 = ("mark" : Str))).map (fun l : Lk => (true, l.2)) = []) = false := h
    refine Classical.byContradiction fun n => of_decide_eq_false h2 ?_
    rw [List.map_eq_nil_iff, List.filter_eq_nil_iff]
    exact fun l hl e => n ⟨l, hl, of_decide_eq_true e⟩
  refine ss_imM (F := vI) 3 nd (m_drawN 0 c__law_draw hr ex_int ⟨by decide, by decide⟩) (fun first hf => ?_)
  refine ss_imM (F := vP vI vI) 4 nd (m_tp (m_lift (ex_im (F := vI) 3)) (m_add (m_lift (ex_add (ex_im (F := vI) 3) ex_int)) (m_drawN 0 c__law_draw hr ex_int ⟨by decide, by decide⟩))) (fun pc hpc => ?_)
  have pc1 : PcOk pc := by
    obtain ⟨e1, _, d, rfl, ⟨d0, d1⟩, e2⟩ := hpc
    obtain ⟨f0, f1⟩ := hf
    refine ⟨by omega, by omega, by omega⟩
  have word := alone_word ht one hk (by omega) hs hmark pc1
  refine ss_im (F := vS) 5 nd (ex_if (et_neD hr (ex_call c_arcs hr ?_ (xa_cons (ex_im (F := rTR) 1) (xa_cons (ex_catT (ex_im (F := rLK) 2) (ex_tup (F := vQ vS vI vI) (xi_cons (ex_catW (ex_tw ex_str) (ex_im (F := vP vI vI) 4)) xi_nil)) ?_) (xa_cons ex_int xa_nil)))) (ex_tup (F := vP (vP vI vI) (vP vI vI)) xi_nil)) (fun _ => ex_str) (fun _ => ex_str)) ?_
  · exact ⟨ht, lks_app hk h7 (sound_ok pc1), Int.le_refl _, by dsimp only; omega⟩
  · simp only [List.length_cons, List.length_nil]
    omega
  refine ss_im (F := vS) 5 nd (ex_if (et_neD hr (ex_call c_arcs hr ?_ (xa_cons (ex_im (F := rTR) 1) (xa_cons (ex_catT (ex_im (F := rLK) 2) (ex_tup (F := vQ vS vI vI) (xi_cons (ex_catW (ex_tw ex_str) (ex_im (F := vP vI vI) 4)) xi_nil)) ?_) (xa_cons ex_int xa_nil)))) (ex_tup (F := vP (vP vI vI) (vP vI vI)) xi_nil)) (fun _ => ex_im (F := vS) 5) (fun _ => ex_str)) ?_
  · exact ⟨ht, lks_app hk h7 (mark_ok pc1), Int.le_refl _, by dsimp only; omega⟩
  · simp only [List.length_cons, List.length_nil]
    omega
  refine ss_retM 0 (m_lift (ex_eq (ex_call c_word_of hr ?_ (xa_cons (ex_im (F := rTR) 1) (xa_cons (ex_im (F := rLK) 2) (xa_cons (ex_im (F := vP vI vI) 4) xa_nil)))) (ex_im (F := vS) 5))) (fun z hz => ?_) rfl pen_hc
  · exact ⟨⟨ht, hk, h7, hs⟩, pc1⟩
  · rw [hz]
    refine decide_eq_true ?_
    have em : ∀ (l : Lk), (!decide (((arcsBy (perOf tr 0) (lk ++ [l])).map fun q => (frac q.1 (perOf tr 0).2, frac q.2 (perOf tr 0).2)) = [])) = true ↔ ¬ arcsBy (perOf tr 0) (lk ++ [l]) = [] := fun l => by
      rw [Bool.not_eq_true', decide_eq_false_iff_not, List.map_eq_nil_iff]
    show wordBy tr lk pc = if (!decide (((arcsBy (perOf tr 0) (lk ++ [mk pc])).map fun q => (frac q.1 (perOf tr 0).2, frac q.2 (perOf tr 0).2)) = [])) = true then (if (!decide (((arcsBy (perOf tr 0) (lk ++ [sd pc])).map fun q => (frac q.1 (perOf tr 0).2, frac q.2 (perOf tr 0).2)) = [])) = true then ("maybe" : Str) else ("marked" : Str)) else ("sound" : Str)
    rw [word]
    by_cases c : arcsBy (perOf tr 0) (lk ++ [mk pc]) = []
    · rw [if_pos c, if_neg (fun z => (em _).mp z c)]
    · rw [if_neg c, if_pos ((em _).mpr c)]
      by_cases d : arcsBy (perOf tr 0) (lk ++ [sd pc]) = []
      · rw [if_pos d, if_neg (fun z => (em _).mp z d)]
      · rw [if_neg d, if_pos ((em _).mpr d)]
end W92
set_option Elab.async false
set_option linter.all false
set_option maxRecDepth 100000
set_option maxHeartbeats 4000000
namespace W92
open PySem PySem.Spec PyProof.Rows L2 Gm C8
variable {P : Program} {w : World} {K : PySem.W.Frag} {mg : Str → Option Value} {base : Heap}
abbrev sp__law_right : Sp := spM aN vB (fun _ => True) (fun _ r => r = true)
theorem sc__law_right : FnScope ["_law_pen_here", "_law_train_here", "_law_looks_here", "_law_lap", "_law_first", "_law_outer", "_law_begin", "_law_piece"] ["_law_pen_here"] (L2.defScope (topS 93)) := ⟨rfl, rfl, rfl, by decide +kernel, rfl, by decide +kernel, by decide +kernel⟩
theorem c__law_right (D : DefT K mg "_law_right" (topS 93)) (B : Bl mg) (C : Co mg) (c__law_draw : Cal P w K mg base 1 "_law_draw" sp__law_draw []) (c__law_train : Cal P w K mg base 3 "_law_train" sp__law_train []) (c__law_told_looks : Cal P w K mg base 5 "_law_told_looks" sp__law_told_looks []) (c__law_more_right : Cal P w K mg base 10 "_law_more_right" sp__law_more_right []) (c__law_story_right : Cal P w K mg base 10 "_law_story_right" sp__law_story_right []) (c__law_within_right : Cal P w K mg base 10 "_law_within_right" sp__law_within_right []) (c__law_sure_right : Cal P w K mg base 10 "_law_sure_right" sp__law_sure_right []) (c__law_alone_right : Cal P w K mg base 10 "_law_alone_right" sp__law_alone_right []) : Cal P w K mg base 11 "_law_right" sp__law_right [] := by
  refine cal_ofM (m := 7) D sc__law_right fits_nil rfl (fun _ _ _ _ _ _ us hl => match us, hl with | [_], _ => rfl) (fun _ cdv A outer s H E i p H0 hr hp => ?_)
  obtain ⟨⟩ := i
  have nd := sc__law_right.nd
  refine ss_imM (F := rTR) 1 nd (m_call 0 c__law_train hr (fun i hi => ?_) (ma_cons (m_lift ex_int) ma_nil)) (fun tr htr => ?_)
  · rw [hi.1]
    exact ⟨by decide, by decide⟩
  obtain ⟨_, _, ht, _⟩ := htr
  refine ss_imM (F := rLK) 2 nd (m_call 0 c__law_told_looks hr (fun i hi => ?_) (ma_cons (m_lift (ex_im (F := rTR) 1)) (ma_cons (m_lift ex_int) ma_nil))) (fun lk hlk => ?_)
  · obtain ⟨h1, h2, _⟩ := hi
    rw [h1, h2]
    exact ⟨ht, by decide, by decide⟩
  obtain ⟨⟨tr', six, ⟨⟩⟩, ⟨h1, h2, _⟩, hw, h6⟩ := hlk
  dsimp only at h1 h2 hw h6
  rw [h1] at hw
  refine ss_forM (κ := Unit) (PL := fun ys => ys = rng 0 (3 : Int).toNat) (fun _ => [penS p, im rTR tr, im rLK lk, .no, .no, .no, .no, .no]) _ (fun _ _ => True) PassesOwn.never rfl (wk_lift (wk_range1 B.range ex_int ⟨by decide, by decide⟩)) (fun _ _ _ => gt_name 3 nd) ⟨(), trivial, ?_⟩ ?_ ?_
  · repeat (first | exact Sub.nil | refine Sub.keep ?_ | refine Sub.drop ?_)
  · rintro H1 xs i x u hs _ _ _
    refine ss_imM (F := vI) 4 nd (m_drawN 0 c__law_draw hr ex_int ⟨by decide, by decide⟩) (fun first hf => ?_)
    obtain ⟨f0, f1⟩ := hf
    refine ss_imM (F := vP vI vI) 5 nd (m_tp (m_lift (ex_im (F := vI) 4)) (m_add (m_lift (ex_add (ex_im (F := vI) 4) ex_int)) (m_drawN 0 c__law_draw hr ex_int ⟨by decide, by decide⟩))) (fun o ho => ?_)
    obtain ⟨o1, _, d, rfl, ⟨d0, d1⟩, o2⟩ := ho
    refine ss_imM (F := vI) 6 nd (m_add (m_lift (ex_im (F := vI) 4)) (m_drawN 0 c__law_draw hr (ex_sub (ex_p1 (ex_im (F := vP vI vI) 5)) (ex_im (F := vI) 4)) ⟨by omega, by omega⟩)) (fun beg hb => ?_)
    obtain ⟨_, e, rfl, ⟨e0, e1⟩, b2⟩ := hb
    refine ss_imM (F := vP vI vI) 7 nd (m_tp (m_lift (ex_im (F := vI) 6)) (m_add (m_lift (ex_add (ex_im (F := vI) 6) ex_int)) (m_drawN 0 c__law_draw hr (ex_sub (ex_p1 (ex_im (F := vP vI vI) 5)) (ex_im (F := vI) 6)) ⟨by omega, by omega⟩))) (fun pc hpc => ?_)
    obtain ⟨p1, _, g, rfl, ⟨g0, g1⟩, p2⟩ := hpc
    have po : PcOk o := ⟨by omega, by omega, by omega⟩
    have pp : PcOk pc := ⟨by omega, by omega, by omega⟩
    refine ss_ifr (ew_pt (ew_or (et_not (et_val (ex_call c__law_more_right hr ?_ (xa_cons (ex_im (F := rTR) 1) (xa_cons (ex_im (F := rLK) 2) (xa_cons (ex_im (F := vP vI vI) 7) xa_nil)))))) (fun _ => ew_or1 (et_not (et_val (ex_call c__law_story_right hr ?_ (xa_cons (ex_im (F := rTR) 1) (xa_cons (ex_im (F := rLK) 2) (xa_cons (ex_im (F := vP vI vI) 7) xa_nil))))))))) (fun h => ?_) (fun _ => ?_)
    · exact ⟨hw, h6, pp⟩
    · exact ⟨hw, pp⟩
    · exfalso
      exact Bool.noConfusion h
    refine ss_ifr (et_not (et_val (ex_call c__law_within_right hr ?_ (xa_cons (ex_im (F := rTR) 1) (xa_cons (ex_im (F := rLK) 2) (xa_cons (ex_im (F := vP vI vI) 5) (xa_cons (ex_im (F := vP vI vI) 7) xa_nil))))))) (fun h => ?_) (fun _ => ?_)
    · exact ⟨hw, po, pp, by dsimp only; omega, by dsimp only; omega⟩
    · exfalso
      exact Bool.noConfusion h
    exact ss_nil (fun _ _ g => ⟨(), trivial, g.sub (by repeat (first | exact Sub.nil | refine Sub.keep ?_ | refine Sub.drop ?_))⟩)
  · rintro H1 xs u hs _ _
    refine ss_retM 0 (m_and (m_call 0 c__law_sure_right hr (fun i hi => ?_) (ma_cons (m_lift (ex_im (F := rTR) 1)) (ma_cons (m_lift (ex_im (F := rLK) 2)) ma_nil))) (m_call 0 c__law_alone_right hr (fun _ _ => trivial) ma_nil) (fun c hc => ?_) (fun c hc => ?_)) (fun z hz => hz) rfl pen_hc
    · obtain ⟨k1, k2, _⟩ := hi
      show WordOk i.1 i.2.1
      rw [k1, k2]
      exact hw
    · obtain ⟨_, _, k⟩ := hc
      exact k
    · obtain ⟨_, _, k⟩ := hc
      exact k
abbrev sp_cell (K : PySem.W.Frag) : Sp := spG (aC (vScr K) (aC vI aN)) false vI (fun i => 0 ≤ i.2.1) (fun i => i.1.getD i.2.1.toNat 0)
theorem sc__law_cell_at : FnScope ["_law_script", "_law_k"] ["_law_script", "_law_k"] (L2.defScope (topS 72)) := ⟨rfl, rfl, rfl, by decide +kernel, rfl, by decide +kernel, by decide +kernel⟩
theorem c__law_cell_at (D : DefT K mg "_law_cell_at" (topS 72)) (B : Bl mg) : Cal P w K mg base 1 "_law_cell_at" (sp_cell K) [] := by
  refine cal_of (m := 0) D sc__law_cell_at (fits_ge (fits_im fits_nil)) rfl (fun _ _ _ _ _ _ us hl => match us, hl with | [_, _], _ => rfl) (fun a cdv A outer s H E i hr hp => ?_)
  obtain ⟨sc, k, ⟨⟩⟩ := i
  have k0 : 0 ≤ k := hp
  refine ss_ifr (et_lt (ex_im (F := vI) 1) (ex_lenS B.len (ex_ge (F := vScr K) 0))) (fun h => ?_) (fun h2 => ?_)
  · refine ss_ret' (ex_ixS (ex_ge (F := vScr K) 0) (ex_im (F := vI) 1) ?_) ?_ (Same.refl _)
    · have h2 : k < (sc.length : Int) := of_decide_eq_true h
      exact ⟨k0, show k.toNat < sc.length by omega⟩
    exact rfl
  refine ss_ret' ex_int ?_ (Same.refl _)
  have h3 : ¬ k < (sc.length : Int) := of_decide_eq_false h2
  show 0 = sc.getD k.toNat 0
  rw [List.getD_eq_getElem?_getD, List.getElem?_eq_none (by omega)]
  rfl
abbrev sp_pen (K : PySem.W.Frag) : Sp := spG (aC (vScr K) (aC vI aN)) true (vL vI) (fun i => 0 ≤ i.2.1) (fun i => penOf (i.1.getD i.2.1.toNat 0))
theorem sc__law_pen : FnScope ["_law_script", "_law_k", "_law_cell"] ["_law_script", "_law_k"] (L2.defScope (topS 73)) := ⟨rfl, rfl, rfl, by decide +kernel, rfl, by decide +kernel, by decide +kernel⟩
theorem c__law_pen (D : DefT K mg "_law_pen" (topS 73)) (B : Bl mg) (c__law_cell_at : Cal P w K mg base 1 "_law_cell_at" (sp_cell K) []) : Cal P w K mg base 2 "_law_pen" (sp_pen K) [] := by
  refine cal_of (m := 1) D sc__law_pen (fits_ge (fits_im fits_nil)) rfl (fun _ _ _ _ _ _ us hl => match us, hl with | [_, _], _ => rfl) (fun a cdv A outer s H E i hr hp => ?_)
  obtain ⟨sc, k, ⟨⟩⟩ := i
  have nd := sc__law_pen.nd
  refine ss_im (F := vI) 2 nd (ex_call c__law_cell_at hr ?_ (xa_cons (ex_ge (F := vScr K) 0) (xa_cons (ex_im (F := vI) 1) xa_nil))) ?_
  · exact hp
  refine ss_ret' (ex_lst (xi_cons (ex_max rfl B.max ex_int (ex_sub (ex_im (F := vI) 2) (ex_pow ex_int ex_int ?_))) (xi_cons (ex_add (ex_mod (ex_im (F := vI) 2) ex_int ?_) ex_int) (xi_cons ex_int xi_nil)))) ?_ (Same.refl _)
  · exact ⟨by decide, by decide, by decide⟩
  · decide
  exact rfl
abbrev sp_law (K : PySem.W.Frag) : Sp := spG (aC (vScr K) aN) false vB (fun _ => True) (fun _ => true)
theorem sc_law : FnScope ["_law_script", "_law_k", "_law_pen_here", "_law_lap"] ["_law_script"] (L2.defScope (topS 94)) := ⟨rfl, rfl, rfl, by decide +kernel, rfl, by decide +kernel, by decide +kernel⟩
theorem ok_law {f : Addr} {fd : FuncData} (F : FunD K "law" "law" (L2.defArgs (topS 94)) (L2.defBody (topS 94)) (L2.defScope (topS 94)) [] [] f fd) (B : Bl mg) (c__law_pen : Cal P w K mg base 2 "_law_pen" (sp_pen K) []) (c__law_right : Cal P w K mg base 11 "_law_right" sp__law_right []) : FnOk P w K mg base C8.CX0 12 f fd ["_law_script"] (sp_law K) := by
  refine fnok_of (m := 3) F sc_law (fits_ge fits_nil) rfl (fun a cdv A outer s H E i hr hp => ?_)
  obtain ⟨sc, ⟨⟩⟩ := i
  have nd := sc_law.nd
  refine ss_for (xs := rng 0 (max 1 (min (sc.length : Int) 2)).toNat) (fun _ => [ge (vScr K) H sc, .no, .no, .no]) _ PassesOwn.never rfl (wk_range1 B.range (ex_max rfl B.max ex_int (ex_min rfl B.min (ex_lenS B.len (ex_ge (F := vScr K) 0)) ex_int)) ?_) (fun _ _ _ _ => gt_name 1 nd) ?_ ?_ ?_
  · omega
  · repeat (first | exact Sub.nil | refine Sub.keep ?_ | refine Sub.drop ?_)
  · intro b1 j x hb1 hx
    have jl := (List.getElem?_eq_some_iff.mp hx).1
    rw [rng_len] at jl
    have ex : x = (j : Int) := by
      have z2 : (rng 0 (max 1 (min (sc.length : Int) 2)).toNat)[j]? = some (0 + (j : Int)) := rng_get jl
      rw [z2] at hx
      have := Option.some.inj hx
      omega
    refine ss_ow (C := cL vI) 2 nd (ex_is (y := penOf (sc.getD x.toNat 0)) (ex_call c__law_pen hr ?_ (xa_cons (ex_ge (F := vScr K) 0) (xa_cons (ex_im (F := vI) 1) xa_nil))) rfl) ?_
    · show 0 ≤ x
      omega
    have d0 := Int.emod_nonneg (sc.getD x.toNat 0) (show (2147483629 : Int) ≠ 0 by decide)
    have d1 := Int.emod_lt_of_pos (sc.getD x.toNat 0) (show (0 : Int) < 2147483629 by decide)
    refine ss_penAt 2 rfl (by omega) (by omega) (fun p => ?_)
    refine ss_forM (κ := Unit) (PL := fun ys => ys = rng 0 (1 : Int).toNat) (fun _ => [ge (vScr K) H sc, .no, penS p, .no]) _ (fun _ _ => True) PassesOwn.never rfl (wk_lift (wk_range1 B.range ex_int ⟨by decide, by decide⟩)) (fun _ _ _ => gt_name 3 nd) ⟨(), trivial, ?_⟩ ?_ ?_
    · repeat (first | exact Sub.nil | refine Sub.keep ?_ | refine Sub.drop ?_)
    · rintro b2 ys i y u hs _ _ _
      refine ss_ifrM (mt_not (mt_val (m_call 2 c__law_right hr (fun _ _ => trivial) ma_nil))) (fun h => ?_) (fun _ => ?_)
      · exfalso
        obtain ⟨c, ⟨_, _, k⟩, e⟩ := h
        rw [k] at e
        cases e
      · exact ss_nil (fun _ _ g => ⟨(), trivial, g.sub (by repeat (first | exact Sub.nil | refine Sub.keep ?_ | refine Sub.drop ?_))⟩)
    · rintro b2 ys u hs _ _
      exact ss_nil (fun _ _ g => (g.base hs (by repeat (first | exact True.intro | exact hb1 | constructor))).sub (by repeat (first | exact Sub.nil | refine Sub.keep ?_ | refine Sub.drop ?_)))
  · intro b1 hb1
    exact ss_ret' ex_bl rfl hb1
end W92
set_option Elab.async false
set_option linter.all false
set_option maxRecDepth 100000
set_option maxHeartbeats 0
namespace W92
open PySem PySem.Spec PyProof.Rows L2 Gm H92
section
variable {P : Program} {w : World} {K : PySem.W.Frag} {h : Heap} {mg : Str → Option Value}
theorem bl_of (X : K.In h) (G : h.Ns mainGlobals mg) (c : He.SaysD fa fn K) : Bl mg := ⟨He.free_ok X G (c.fact 70 (f := .free "isinstance") rfl), He.free_ok X G (c.fact 71 (f := .free "int") rfl), He.free_ok X G (c.fact 72 (f := .free "bool") rfl), He.free_ok X G (c.fact 73 (f := .free "tuple") rfl), He.free_ok X G (c.fact 74 (f := .free "str") rfl), He.free_ok X G (c.fact 75 (f := .free "len") rfl), He.free_ok X G (c.fact 76 (f := .free "all") rfl), He.free_ok X G (c.fact 77 (f := .free "any") rfl), He.free_ok X G (c.fact 78 (f := .free "zip") rfl), He.free_ok X G (c.fact 79 (f := .free "max") rfl), He.free_ok X G (c.fact 80 (f := .free "min") rfl), He.free_ok X G (c.fact 81 (f := .free "sorted") rfl), He.free_ok X G (c.fact 82 (f := .free "range") rfl), He.free_ok X G (c.fact 83 (f := .free "enumerate") rfl), He.free_ok X G (c.fact 84 (f := .free "list") rfl), He.free_ok X G (c.fact 85 (f := .free "set") rfl)⟩
theorem co_of (X : K.In h) (G : h.Ns mainGlobals mg) (c : He.SaysD fa fn K) : Co mg := ⟨He.int_ok X G (c.fact 86 (f := .int "MOST_ROLLERS" 4) rfl), He.int_ok X G (c.fact 87 (f := .int "MOST_TURN" 60) rfl), He.int_ok X G (c.fact 88 (f := .int "MOST_TOP" 8) rfl), He.int_ok X G (c.fact 89 (f := .int "MOST_LENGTH" 400) rfl), He.int_ok X G (c.fact 90 (f := .int "MOST_LOOKS" 8) rfl), He.int_ok X G (c.fact 91 (f := .int "MOST_AHEAD" 7) rfl), He.int_ok X G (c.fact 92 (f := .int "MOST_PIECE" 20) rfl), He.int_ok X G (c.fact 93 (f := .int "MOST_END" 40) rfl), He.str_ok X G (c.fact 94 (f := .str "SOUND" "sound") rfl), He.str_ok X G (c.fact 95 (f := .str "MARKED" "marked") rfl), He.str_ok X G (c.fact 96 (f := .str "MAYBE" "maybe") rfl)⟩
theorem t__law_cell_at (X : K.In h) (G : h.Ns mainGlobals mg) (c : He.SaysD fa fn K) : DefT K mg "_law_cell_at" (topS 72) := by
  obtain ⟨fd, F⟩ := c.def_ 47 (d := d_law_cell_at) rfl
  exact ⟨_, fd, F, He.glo_ok X G (c.fact 47 (f := .glo "_law_cell_at") rfl)⟩
theorem t__law_pen (X : K.In h) (G : h.Ns mainGlobals mg) (c : He.SaysD fa fn K) : DefT K mg "_law_pen" (topS 73) := by
  obtain ⟨fd, F⟩ := c.def_ 48 (d := d_law_pen) rfl
  exact ⟨_, fd, F, He.glo_ok X G (c.fact 48 (f := .glo "_law_pen") rfl)⟩
theorem t__law_draw (X : K.In h) (G : h.Ns mainGlobals mg) (c : He.SaysD fa fn K) : DefT K mg "_law_draw" (topS 74) := by
  obtain ⟨fd, F⟩ := c.def_ 49 (d := d_law_draw) rfl
  exact ⟨_, fd, F, He.glo_ok X G (c.fact 49 (f := .glo "_law_draw") rfl)⟩
theorem t__law_lots (X : K.In h) (G : h.Ns mainGlobals mg) (c : He.SaysD fa fn K) : DefT K mg "_law_lots" (topS 76) := by
  obtain ⟨fd, F⟩ := c.def_ 51 (d := d_law_lots) rfl
  exact ⟨_, fd, F, He.glo_ok X G (c.fact 51 (f := .glo "_law_lots") rfl)⟩
theorem t__law_common (X : K.In h) (G : h.Ns mainGlobals mg) (c : He.SaysD fa fn K) : DefT K mg "_law_common" (topS 77) := by
  obtain ⟨fd, F⟩ := c.def_ 52 (d := d_law_common) rfl
  exact ⟨_, fd, F, He.glo_ok X G (c.fact 52 (f := .glo "_law_common") rfl)⟩
theorem t__law_fraction (X : K.In h) (G : h.Ns mainGlobals mg) (c : He.SaysD fa fn K) : DefT K mg "_law_fraction" (topS 78) := by
  obtain ⟨fd, F⟩ := c.def_ 53 (d := d_law_fraction) rfl
  exact ⟨_, fd, F, He.glo_ok X G (c.fact 53 (f := .glo "_law_fraction") rfl)⟩
theorem t__law_periods (X : K.In h) (G : h.Ns mainGlobals mg) (c : He.SaysD fa fn K) : DefT K mg "_law_periods" (topS 80) := by
  obtain ⟨fd, F⟩ := c.def_ 55 (d := d_law_periods) rfl
  exact ⟨_, fd, F, He.glo_ok X G (c.fact 55 (f := .glo "_law_periods") rfl)⟩
theorem t__law_tells (X : K.In h) (G : h.Ns mainGlobals mg) (c : He.SaysD fa fn K) : DefT K mg "_law_tells" (topS 85) := by
  obtain ⟨fd, F⟩ := c.def_ 60 (d := d_law_tells) rfl
  exact ⟨_, fd, F, He.glo_ok X G (c.fact 60 (f := .glo "_law_tells") rfl)⟩
theorem t__law_comes (X : K.In h) (G : h.Ns mainGlobals mg) (c : He.SaysD fa fn K) : DefT K mg "_law_comes" (topS 83) := by
  obtain ⟨fd, F⟩ := c.def_ 58 (d := d_law_comes) rfl
  exact ⟨_, fd, F, He.glo_ok X G (c.fact 58 (f := .glo "_law_comes") rfl)⟩
theorem t__law_ways (X : K.In h) (G : h.Ns mainGlobals mg) (c : He.SaysD fa fn K) : DefT K mg "_law_ways" (topS 84) := by
  obtain ⟨fd, F⟩ := c.def_ 59 (d := d_law_ways) rfl
  exact ⟨_, fd, F, He.glo_ok X G (c.fact 59 (f := .glo "_law_ways") rfl)⟩
theorem t__law_fewest (X : K.In h) (G : h.Ns mainGlobals mg) (c : He.SaysD fa fn K) : DefT K mg "_law_fewest" (topS 86) := by
  obtain ⟨fd, F⟩ := c.def_ 61 (d := d_law_fewest) rfl
  exact ⟨_, fd, F, He.glo_ok X G (c.fact 61 (f := .glo "_law_fewest") rfl)⟩
theorem t__law_near (X : K.In h) (G : h.Ns mainGlobals mg) (c : He.SaysD fa fn K) : DefT K mg "_law_near" (topS 82) := by
  obtain ⟨fd, F⟩ := c.def_ 57 (d := d_law_near) rfl
  exact ⟨_, fd, F, He.glo_ok X G (c.fact 57 (f := .glo "_law_near") rfl)⟩
theorem t__law_pick (X : K.In h) (G : h.Ns mainGlobals mg) (c : He.SaysD fa fn K) : DefT K mg "_law_pick" (topS 75) := by
  obtain ⟨fd, F⟩ := c.def_ 50 (d := d_law_pick) rfl
  exact ⟨_, fd, F, He.glo_ok X G (c.fact 50 (f := .glo "_law_pick") rfl)⟩
theorem t__law_looks (X : K.In h) (G : h.Ns mainGlobals mg) (c : He.SaysD fa fn K) : DefT K mg "_law_looks" (topS 81) := by
  obtain ⟨fd, F⟩ := c.def_ 56 (d := d_law_looks) rfl
  exact ⟨_, fd, F, He.glo_ok X G (c.fact 56 (f := .glo "_law_looks") rfl)⟩
theorem t__law_told_looks (X : K.In h) (G : h.Ns mainGlobals mg) (c : He.SaysD fa fn K) : DefT K mg "_law_told_looks" (topS 87) := by
  obtain ⟨fd, F⟩ := c.def_ 62 (d := d_law_told_looks) rfl
  exact ⟨_, fd, F, He.glo_ok X G (c.fact 62 (f := .glo "_law_told_looks") rfl)⟩
theorem t__law_train (X : K.In h) (G : h.Ns mainGlobals mg) (c : He.SaysD fa fn K) : DefT K mg "_law_train" (topS 79) := by
  obtain ⟨fd, F⟩ := c.def_ 54 (d := d_law_train) rfl
  exact ⟨_, fd, F, He.glo_ok X G (c.fact 54 (f := .glo "_law_train") rfl)⟩
theorem t_common_stretches (X : K.In h) (G : h.Ns mainGlobals mg) (c : He.SaysD fa fn K) : DefT K mg "common_stretches" (topS 40) := by
  obtain ⟨fd, F⟩ := c.def_ 24 (d := dcommon_stretches) rfl
  exact ⟨_, fd, F, He.glo_ok X G (c.fact 24 (f := .glo "common_stretches") rfl)⟩
theorem t_stretches (X : K.In h) (G : h.Ns mainGlobals mg) (c : He.SaysD fa fn K) : DefT K mg "stretches" (topS 38) := by
  obtain ⟨fd, F⟩ := c.def_ 22 (d := dstretches) rfl
  exact ⟨_, fd, F, He.glo_ok X G (c.fact 22 (f := .glo "stretches") rfl)⟩
theorem t_let_by (X : K.In h) (G : h.Ns mainGlobals mg) (c : He.SaysD fa fn K) : DefT K mg "let_by" (topS 39) := by
  obtain ⟨fd, F⟩ := c.def_ 23 (d := dlet_by) rfl
  exact ⟨_, fd, F, He.glo_ok X G (c.fact 23 (f := .glo "let_by") rfl)⟩
theorem t_let_by_all (X : K.In h) (G : h.Ns mainGlobals mg) (c : He.SaysD fa fn K) : DefT K mg "let_by_all" (topS 41) := by
  obtain ⟨fd, F⟩ := c.def_ 25 (d := dlet_by_all) rfl
  exact ⟨_, fd, F, He.glo_ok X G (c.fact 25 (f := .glo "let_by_all") rfl)⟩
theorem t_arcs_by (X : K.In h) (G : h.Ns mainGlobals mg) (c : He.SaysD fa fn K) : DefT K mg "arcs_by" (topS 42) := by
  obtain ⟨fd, F⟩ := c.def_ 26 (d := darcs_by) rfl
  exact ⟨_, fd, F, He.glo_ok X G (c.fact 26 (f := .glo "arcs_by") rfl)⟩
theorem t_common_of (X : K.In h) (G : h.Ns mainGlobals mg) (c : He.SaysD fa fn K) : DefT K mg "common_of" (topS 15) := by
  obtain ⟨fd, F⟩ := c.def_ 5 (d := dcommon_of) rfl
  exact ⟨_, fd, F, He.glo_ok X G (c.fact 5 (f := .glo "common_of") rfl)⟩
theorem t_fraction (X : K.In h) (G : h.Ns mainGlobals mg) (c : He.SaysD fa fn K) : DefT K mg "fraction" (topS 16) := by
  obtain ⟨fd, F⟩ := c.def_ 6 (d := dfraction) rfl
  exact ⟨_, fd, F, He.glo_ok X G (c.fact 6 (f := .glo "fraction") rfl)⟩
theorem t_is_whole (X : K.In h) (G : h.Ns mainGlobals mg) (c : He.SaysD fa fn K) : DefT K mg "is_whole" (topS 10) := by
  obtain ⟨fd, F⟩ := c.def_ 0 (d := dis_whole) rfl
  exact ⟨_, fd, F, He.glo_ok X G (c.fact 0 (f := .glo "is_whole") rfl)⟩
theorem t_is_within (X : K.In h) (G : h.Ns mainGlobals mg) (c : He.SaysD fa fn K) : DefT K mg "is_within" (topS 11) := by
  obtain ⟨fd, F⟩ := c.def_ 1 (d := dis_within) rfl
  exact ⟨_, fd, F, He.glo_ok X G (c.fact 1 (f := .glo "is_within") rfl)⟩
theorem t_is_long (X : K.In h) (G : h.Ns mainGlobals mg) (c : He.SaysD fa fn K) : DefT K mg "is_long" (topS 13) := by
  obtain ⟨fd, F⟩ := c.def_ 3 (d := dis_long) rfl
  exact ⟨_, fd, F, He.glo_ok X G (c.fact 3 (f := .glo "is_long") rfl)⟩
theorem t_is_look (X : K.In h) (G : h.Ns mainGlobals mg) (c : He.SaysD fa fn K) : DefT K mg "is_look" (topS 28) := by
  obtain ⟨fd, F⟩ := c.def_ 12 (d := dis_look) rfl
  exact ⟨_, fd, F, He.glo_ok X G (c.fact 12 (f := .glo "is_look") rfl)⟩
theorem t_need_looks (X : K.In h) (G : h.Ns mainGlobals mg) (c : He.SaysD fa fn K) : DefT K mg "need_looks" (topS 29) := by
  obtain ⟨fd, F⟩ := c.def_ 13 (d := dneed_looks) rfl
  exact ⟨_, fd, F, He.glo_ok X G (c.fact 13 (f := .glo "need_looks") rfl)⟩
theorem t_is_roller (X : K.In h) (G : h.Ns mainGlobals mg) (c : He.SaysD fa fn K) : DefT K mg "is_roller" (topS 25) := by
  obtain ⟨fd, F⟩ := c.def_ 9 (d := dis_roller) rfl
  exact ⟨_, fd, F, He.glo_ok X G (c.fact 9 (f := .glo "is_roller") rfl)⟩
theorem t_is_train (X : K.In h) (G : h.Ns mainGlobals mg) (c : He.SaysD fa fn K) : DefT K mg "is_train" (topS 26) := by
  obtain ⟨fd, F⟩ := c.def_ 10 (d := dis_train) rfl
  exact ⟨_, fd, F, He.glo_ok X G (c.fact 10 (f := .glo "is_train") rfl)⟩
theorem t_need_train (X : K.In h) (G : h.Ns mainGlobals mg) (c : He.SaysD fa fn K) : DefT K mg "need_train" (topS 27) := by
  obtain ⟨fd, F⟩ := c.def_ 11 (d := dneed_train) rfl
  exact ⟨_, fd, F, He.glo_ok X G (c.fact 11 (f := .glo "need_train") rfl)⟩
theorem t_need_looked (X : K.In h) (G : h.Ns mainGlobals mg) (c : He.SaysD fa fn K) : DefT K mg "need_looked" (topS 30) := by
  obtain ⟨fd, F⟩ := c.def_ 14 (d := dneed_looked) rfl
  exact ⟨_, fd, F, He.glo_ok X G (c.fact 14 (f := .glo "need_looked") rfl)⟩
theorem t_periods_by (X : K.In h) (G : h.Ns mainGlobals mg) (c : He.SaysD fa fn K) : DefT K mg "periods_by" (topS 31) := by
  obtain ⟨fd, F⟩ := c.def_ 15 (d := dperiods_by) rfl
  exact ⟨_, fd, F, He.glo_ok X G (c.fact 15 (f := .glo "periods_by") rfl)⟩
theorem t_arcs (X : K.In h) (G : h.Ns mainGlobals mg) (c : He.SaysD fa fn K) : DefT K mg "arcs" (topS 43) := by
  obtain ⟨fd, F⟩ := c.def_ 27 (d := darcs) rfl
  exact ⟨_, fd, F, He.glo_ok X G (c.fact 27 (f := .glo "arcs") rfl)⟩
theorem t_is_piece (X : K.In h) (G : h.Ns mainGlobals mg) (c : He.SaysD fa fn K) : DefT K mg "is_piece" (topS 65) := by
  obtain ⟨fd, F⟩ := c.def_ 41 (d := dis_piece) rfl
  exact ⟨_, fd, F, He.glo_ok X G (c.fact 41 (f := .glo "is_piece") rfl)⟩
theorem t_lots_of (X : K.In h) (G : h.Ns mainGlobals mg) (c : He.SaysD fa fn K) : DefT K mg "lots_of" (topS 53) := by
  obtain ⟨fd, F⟩ := c.def_ 35 (d := dlots_of) rfl
  exact ⟨_, fd, F, He.glo_ok X G (c.fact 35 (f := .glo "lots_of") rfl)⟩
theorem t_numbers_of_marks (X : K.In h) (G : h.Ns mainGlobals mg) (c : He.SaysD fa fn K) : DefT K mg "numbers_of_marks" (topS 48) := by
  obtain ⟨fd, F⟩ := c.def_ 30 (d := dnumbers_of_marks) rfl
  exact ⟨_, fd, F, He.glo_ok X G (c.fact 30 (f := .glo "numbers_of_marks") rfl)⟩
theorem t_joined (X : K.In h) (G : h.Ns mainGlobals mg) (c : He.SaysD fa fn K) : DefT K mg "joined" (topS 51) := by
  obtain ⟨fd, F⟩ := c.def_ 33 (d := djoined) rfl
  exact ⟨_, fd, F, He.glo_ok X G (c.fact 33 (f := .glo "joined") rfl)⟩
theorem t_told_by (X : K.In h) (G : h.Ns mainGlobals mg) (c : He.SaysD fa fn K) : DefT K mg "told_by" (topS 52) := by
  obtain ⟨fd, F⟩ := c.def_ 34 (d := dtold_by) rfl
  exact ⟨_, fd, F, He.glo_ok X G (c.fact 34 (f := .glo "told_by") rfl)⟩
theorem t_has_mark (X : K.In h) (G : h.Ns mainGlobals mg) (c : He.SaysD fa fn K) : DefT K mg "has_mark" (topS 35) := by
  obtain ⟨fd, F⟩ := c.def_ 19 (d := dhas_mark) rfl
  exact ⟨_, fd, F, He.glo_ok X G (c.fact 19 (f := .glo "has_mark") rfl)⟩
theorem t_is_sound (X : K.In h) (G : h.Ns mainGlobals mg) (c : He.SaysD fa fn K) : DefT K mg "is_sound" (topS 46) := by
  obtain ⟨fd, F⟩ := c.def_ 28 (d := dis_sound) rfl
  exact ⟨_, fd, F, He.glo_ok X G (c.fact 28 (f := .glo "is_sound") rfl)⟩
theorem t_phases_of (X : K.In h) (G : h.Ns mainGlobals mg) (c : He.SaysD fa fn K) : DefT K mg "phases_of" (topS 47) := by
  obtain ⟨fd, F⟩ := c.def_ 29 (d := dphases_of) rfl
  exact ⟨_, fd, F, He.glo_ok X G (c.fact 29 (f := .glo "phases_of") rfl)⟩
theorem t_shown_by (X : K.In h) (G : h.Ns mainGlobals mg) (c : He.SaysD fa fn K) : DefT K mg "shown_by" (topS 49) := by
  obtain ⟨fd, F⟩ := c.def_ 31 (d := dshown_by) rfl
  exact ⟨_, fd, F, He.glo_ok X G (c.fact 31 (f := .glo "shown_by") rfl)⟩
theorem t_ways_of (X : K.In h) (G : h.Ns mainGlobals mg) (c : He.SaysD fa fn K) : DefT K mg "ways_of" (topS 50) := by
  obtain ⟨fd, F⟩ := c.def_ 32 (d := dways_of) rfl
  exact ⟨_, fd, F, He.glo_ok X G (c.fact 32 (f := .glo "ways_of") rfl)⟩
theorem t_stories_by (X : K.In h) (G : h.Ns mainGlobals mg) (c : He.SaysD fa fn K) : DefT K mg "stories_by" (topS 54) := by
  obtain ⟨fd, F⟩ := c.def_ 36 (d := dstories_by) rfl
  exact ⟨_, fd, F, He.glo_ok X G (c.fact 36 (f := .glo "stories_by") rfl)⟩
theorem t_fewest_by (X : K.In h) (G : h.Ns mainGlobals mg) (c : He.SaysD fa fn K) : DefT K mg "fewest_by" (topS 55) := by
  obtain ⟨fd, F⟩ := c.def_ 37 (d := dfewest_by) rfl
  exact ⟨_, fd, F, He.glo_ok X G (c.fact 37 (f := .glo "fewest_by") rfl)⟩
theorem t_need_ahead (X : K.In h) (G : h.Ns mainGlobals mg) (c : He.SaysD fa fn K) : DefT K mg "need_ahead" (topS 58) := by
  obtain ⟨fd, F⟩ := c.def_ 40 (d := dneed_ahead) rfl
  exact ⟨_, fd, F, He.glo_ok X G (c.fact 40 (f := .glo "need_ahead") rfl)⟩
theorem t_need_told (X : K.In h) (G : h.Ns mainGlobals mg) (c : He.SaysD fa fn K) : DefT K mg "need_told" (topS 66) := by
  obtain ⟨fd, F⟩ := c.def_ 42 (d := dneed_told) rfl
  exact ⟨_, fd, F, He.glo_ok X G (c.fact 42 (f := .glo "need_told") rfl)⟩
theorem t_may_be (X : K.In h) (G : h.Ns mainGlobals mg) (c : He.SaysD fa fn K) : DefT K mg "may_be" (topS 67) := by
  obtain ⟨fd, F⟩ := c.def_ 43 (d := dmay_be) rfl
  exact ⟨_, fd, F, He.glo_ok X G (c.fact 43 (f := .glo "may_be") rfl)⟩
theorem t_word_by (X : K.In h) (G : h.Ns mainGlobals mg) (c : He.SaysD fa fn K) : DefT K mg "word_by" (topS 68) := by
  obtain ⟨fd, F⟩ := c.def_ 44 (d := dword_by) rfl
  exact ⟨_, fd, F, He.glo_ok X G (c.fact 44 (f := .glo "word_by") rfl)⟩
theorem t_word_of (X : K.In h) (G : h.Ns mainGlobals mg) (c : He.SaysD fa fn K) : DefT K mg "word_of" (topS 69) := by
  obtain ⟨fd, F⟩ := c.def_ 45 (d := dword_of) rfl
  exact ⟨_, fd, F, He.glo_ok X G (c.fact 45 (f := .glo "word_of") rfl)⟩
theorem t__law_alone_right (X : K.In h) (G : h.Ns mainGlobals mg) (c : He.SaysD fa fn K) : DefT K mg "_law_alone_right" (topS 92) := by
  obtain ⟨fd, F⟩ := c.def_ 67 (d := d_law_alone_right) rfl
  exact ⟨_, fd, F, He.glo_ok X G (c.fact 67 (f := .glo "_law_alone_right") rfl)⟩
theorem t_fewest (X : K.In h) (G : h.Ns mainGlobals mg) (c : He.SaysD fa fn K) : DefT K mg "fewest" (topS 56) := by
  obtain ⟨fd, F⟩ := c.def_ 38 (d := dfewest) rfl
  exact ⟨_, fd, F, He.glo_ok X G (c.fact 38 (f := .glo "fewest") rfl)⟩
theorem t__law_more_right (X : K.In h) (G : h.Ns mainGlobals mg) (c : He.SaysD fa fn K) : DefT K mg "_law_more_right" (topS 88) := by
  obtain ⟨fd, F⟩ := c.def_ 63 (d := d_law_more_right) rfl
  exact ⟨_, fd, F, He.glo_ok X G (c.fact 63 (f := .glo "_law_more_right") rfl)⟩
theorem t_marks_by (X : K.In h) (G : h.Ns mainGlobals mg) (c : He.SaysD fa fn K) : DefT K mg "marks_by" (topS 36) := by
  obtain ⟨fd, F⟩ := c.def_ 20 (d := dmarks_by) rfl
  exact ⟨_, fd, F, He.glo_ok X G (c.fact 20 (f := .glo "marks_by") rfl)⟩
theorem t_is_from (X : K.In h) (G : h.Ns mainGlobals mg) (c : He.SaysD fa fn K) : DefT K mg "is_from" (topS 12) := by
  obtain ⟨fd, F⟩ := c.def_ 2 (d := dis_from) rfl
  exact ⟨_, fd, F, He.glo_ok X G (c.fact 2 (f := .glo "is_from") rfl)⟩
theorem t_is_fraction (X : K.In h) (G : h.Ns mainGlobals mg) (c : He.SaysD fa fn K) : DefT K mg "is_fraction" (topS 17) := by
  obtain ⟨fd, F⟩ := c.def_ 7 (d := dis_fraction) rfl
  exact ⟨_, fd, F, He.glo_ok X G (c.fact 7 (f := .glo "is_fraction") rfl)⟩
theorem t_is_less (X : K.In h) (G : h.Ns mainGlobals mg) (c : He.SaysD fa fn K) : DefT K mg "is_less" (topS 18) := by
  obtain ⟨fd, F⟩ := c.def_ 8 (d := dis_less) rfl
  exact ⟨_, fd, F, He.glo_ok X G (c.fact 8 (f := .glo "is_less") rfl)⟩
theorem t_is_dent (X : K.In h) (G : h.Ns mainGlobals mg) (c : He.SaysD fa fn K) : DefT K mg "is_dent" (topS 32) := by
  obtain ⟨fd, F⟩ := c.def_ 16 (d := dis_dent) rfl
  exact ⟨_, fd, F, He.glo_ok X G (c.fact 16 (f := .glo "is_dent") rfl)⟩
theorem t_rises (X : K.In h) (G : h.Ns mainGlobals mg) (c : He.SaysD fa fn K) : DefT K mg "rises" (topS 14) := by
  obtain ⟨fd, F⟩ := c.def_ 4 (d := drises) rfl
  exact ⟨_, fd, F, He.glo_ok X G (c.fact 4 (f := .glo "rises") rfl)⟩
theorem t_is_story_by (X : K.In h) (G : h.Ns mainGlobals mg) (c : He.SaysD fa fn K) : DefT K mg "is_story_by" (topS 33) := by
  obtain ⟨fd, F⟩ := c.def_ 17 (d := dis_story_by) rfl
  exact ⟨_, fd, F, He.glo_ok X G (c.fact 17 (f := .glo "is_story_by") rfl)⟩
theorem t_need_story (X : K.In h) (G : h.Ns mainGlobals mg) (c : He.SaysD fa fn K) : DefT K mg "need_story" (topS 34) := by
  obtain ⟨fd, F⟩ := c.def_ 18 (d := dneed_story) rfl
  exact ⟨_, fd, F, He.glo_ok X G (c.fact 18 (f := .glo "need_story") rfl)⟩
theorem t_marks_of (X : K.In h) (G : h.Ns mainGlobals mg) (c : He.SaysD fa fn K) : DefT K mg "marks_of" (topS 37) := by
  obtain ⟨fd, F⟩ := c.def_ 21 (d := dmarks_of) rfl
  exact ⟨_, fd, F, He.glo_ok X G (c.fact 21 (f := .glo "marks_of") rfl)⟩
theorem t_some_story (X : K.In h) (G : h.Ns mainGlobals mg) (c : He.SaysD fa fn K) : DefT K mg "some_story" (topS 57) := by
  obtain ⟨fd, F⟩ := c.def_ 39 (d := dsome_story) rfl
  exact ⟨_, fd, F, He.glo_ok X G (c.fact 39 (f := .glo "some_story") rfl)⟩
theorem t__law_story_right (X : K.In h) (G : h.Ns mainGlobals mg) (c : He.SaysD fa fn K) : DefT K mg "_law_story_right" (topS 89) := by
  obtain ⟨fd, F⟩ := c.def_ 64 (d := d_law_story_right) rfl
  exact ⟨_, fd, F, He.glo_ok X G (c.fact 64 (f := .glo "_law_story_right") rfl)⟩
theorem t_sure_pieces (X : K.In h) (G : h.Ns mainGlobals mg) (c : He.SaysD fa fn K) : DefTK K mg "sure_pieces" (topS 70) [("length", .int 5), ("end", .int 40)] := by
  obtain ⟨fd, F⟩ := c.def_ 46 (d := dsure_pieces) rfl
  exact ⟨_, fd, F, He.glo_ok X G (c.fact 46 (f := .glo "sure_pieces") rfl)⟩
theorem t__law_sure_right (X : K.In h) (G : h.Ns mainGlobals mg) (c : He.SaysD fa fn K) : DefT K mg "_law_sure_right" (topS 91) := by
  obtain ⟨fd, F⟩ := c.def_ 66 (d := d_law_sure_right) rfl
  exact ⟨_, fd, F, He.glo_ok X G (c.fact 66 (f := .glo "_law_sure_right") rfl)⟩
theorem t__law_within_right (X : K.In h) (G : h.Ns mainGlobals mg) (c : He.SaysD fa fn K) : DefT K mg "_law_within_right" (topS 90) := by
  obtain ⟨fd, F⟩ := c.def_ 65 (d := d_law_within_right) rfl
  exact ⟨_, fd, F, He.glo_ok X G (c.fact 65 (f := .glo "_law_within_right") rfl)⟩
theorem t__law_right (X : K.In h) (G : h.Ns mainGlobals mg) (c : He.SaysD fa fn K) : DefT K mg "_law_right" (topS 93) := by
  obtain ⟨fd, F⟩ := c.def_ 68 (d := d_law_right) rfl
  exact ⟨_, fd, F, He.glo_ok X G (c.fact 68 (f := .glo "_law_right") rfl)⟩
end
theorem facts {P : Program} {w : World} {K : PySem.W.Frag} {h : Heap} {mg : Str → Option Value} {f : Addr} (X : K.In h) (G : h.Ns mainGlobals mg) (hfa : mg ("law" : Str) = some (.ref f)) (c : He.SaysD fa fn K) :
    ∃ fd : FuncData, (∀ (s : Shared) (v : Value), BindsTo s fd ⟨[v], []⟩ [("_law_script", v)]) ∧ ∀ base : Heap, K.In base → base.Ns mainGlobals mg → FnOk P w K mg base C8.CX0 12 f fd ["_law_script"] (sp_law K) := by
  obtain ⟨fd, F⟩ := c.def_ 69 (d := dlaw) rfl
  have e := hfa.symm.trans (He.glo_ok X G (c.fact 69 (f := .glo "law") rfl))
  cases e
  have b := FunD.bindsA (ps := ["_law_script"]) F fun _ _ _ _ _ _ us hl => match us, hl with | [_], _ => rfl
  refine ⟨fd, fun s v => b s [v] rfl, fun base _ _ => ?_⟩
  have B := bl_of X G c
  have C := co_of X G c
  have k__law_cell_at : C8.Cal P w K mg base 1 "_law_cell_at" (sp_cell K) [] := c__law_cell_at (t__law_cell_at X G c) B
  have k__law_pen : C8.Cal P w K mg base 2 "_law_pen" (sp_pen K) [] := c__law_pen (t__law_pen X G c) B k__law_cell_at
  have k__law_draw : C8.Cal P w K mg base 1 "_law_draw" sp__law_draw [] := c__law_draw (t__law_draw X G c) B C 
  have k__law_lots : C8.Cal P w K mg base 1 "_law_lots" sp__law_lots [] := c__law_lots (t__law_lots X G c) B C 
  have k__law_common : C8.Cal P w K mg base 1 "_law_common" sp__law_common [] := c__law_common (t__law_common X G c) B C 
  have k__law_fraction : C8.Cal P w K mg base 2 "_law_fraction" sp__law_fraction [] := c__law_fraction (t__law_fraction X G c) B C k__law_common
  have k__law_periods : C8.Cal P w K mg base 3 "_law_periods" sp__law_periods [] := c__law_periods (t__law_periods X G c) B C k__law_fraction
  have k__law_tells : C8.Cal P w K mg base 1 "_law_tells" sp__law_tells [] := c__law_tells (t__law_tells X G c) B C 
  have k__law_comes : C8.Cal P w K mg base 1 "_law_comes" sp__law_comes [] := c__law_comes (t__law_comes X G c) B C 
  have k__law_ways : C8.Cal P w K mg base 3 "_law_ways" sp__law_ways [] := c__law_ways (t__law_ways X G c) B C k__law_comes k__law_fraction
  have k__law_fewest : C8.Cal P w K mg base 4 "_law_fewest" sp__law_fewest [] := c__law_fewest (t__law_fewest X G c) B C k__law_lots k__law_periods k__law_tells k__law_ways
  have k__law_near : C8.Cal P w K mg base 1 "_law_near" sp__law_near [] := c__law_near (t__law_near X G c) B C 
  have k__law_pick : C8.Cal P w K mg base 2 "_law_pick" (sp__law_pick vI) [] := c__law_pick vI (t__law_pick X G c) B C k__law_draw
  have k__law_pickS : C8.Cal P w K mg base 2 "_law_pick" (sp__law_pick vS) [] := c__law_pick vS (t__law_pick X G c) B C k__law_draw
  have k__law_looks : C8.Cal P w K mg base 4 "_law_looks" sp__law_looks [] := c__law_looks (t__law_looks X G c) B C k__law_draw k__law_pick k__law_pickS k__law_periods k__law_fraction k__law_near
  have k__law_told_looks : C8.Cal P w K mg base 5 "_law_told_looks" sp__law_told_looks [] := c__law_told_looks (t__law_told_looks X G c) B C k__law_draw k__law_looks k__law_fewest
  have k__law_train : C8.Cal P w K mg base 3 "_law_train" sp__law_train [] := c__law_train (t__law_train X G c) B C k__law_draw k__law_pick
  have k_common_stretches : C8.Cal P w K mg base 1 "common_stretches" sp_common_stretches [] := c_common_stretches (t_common_stretches X G c) B C 
  have k_stretches : C8.Cal P w K mg base 1 "stretches" sp_stretches [] := c_stretches (t_stretches X G c) B C 
  have k_let_by : C8.Cal P w K mg base 2 "let_by" sp_let_by [] := c_let_by (t_let_by X G c) B C k_stretches
  have k_let_by_all : C8.Cal P w K mg base 3 "let_by_all" sp_let_by_all [] := c_let_by_all (t_let_by_all X G c) B C k_common_stretches k_let_by
  have k_arcs_by : C8.Cal P w K mg base 4 "arcs_by" sp_arcs_by [] := c_arcs_by (t_arcs_by X G c) B C k_let_by_all
  have k_common_of : C8.Cal P w K mg base 1 "common_of" sp_common_of [] := c_common_of (t_common_of X G c) B C 
  have k_fraction : C8.Cal P w K mg base 2 "fraction" sp_fraction [] := c_fraction (t_fraction X G c) B C k_common_of
  have k_is_whole : C8.Cal P w K mg base 1 "is_whole" sp_is_whole [] := c_is_whole (t_is_whole X G c) B C 
  have k_is_within : C8.Cal P w K mg base 2 "is_within" sp_is_within [] := c_is_within (t_is_within X G c) B C k_is_whole
  have k_is_long : C8.Cal P w K mg base 1 "is_long" sp_is_long [] := c_is_long (t_is_long X G c) B C 
  have k_is_look : C8.Cal P w K mg base 3 "is_look" sp_is_look [] := c_is_look (t_is_look X G c) B C k_is_long k_is_within
  have k_need_looks : C8.Cal P w K mg base 4 "need_looks" sp_need_looks [] := c_need_looks (t_need_looks X G c) B C k_is_long k_is_look
  have k_is_roller : C8.Cal P w K mg base 3 "is_roller" sp_is_roller [] := c_is_roller (t_is_roller X G c) B C k_is_long k_is_within
  have k_is_train : C8.Cal P w K mg base 4 "is_train" sp_is_train [] := c_is_train (t_is_train X G c) B C k_is_long k_is_roller
  have k_need_train : C8.Cal P w K mg base 5 "need_train" sp_need_train [] := c_need_train (t_need_train X G c) B C k_is_train
  have k_need_looked : C8.Cal P w K mg base 6 "need_looked" sp_need_looked [] := c_need_looked (t_need_looked X G c) B C k_need_looks k_need_train
  have k_periods_by : C8.Cal P w K mg base 3 "periods_by" sp_periods_by [] := c_periods_by (t_periods_by X G c) B C k_fraction
  have k_arcs : C8.Cal P w K mg base 7 "arcs" sp_arcs [] := c_arcs (t_arcs X G c) B C k_arcs_by k_fraction k_is_within k_need_looked k_periods_by
  have k_is_piece : C8.Cal P w K mg base 3 "is_piece" sp_is_piece [] := c_is_piece (t_is_piece X G c) B C k_is_long k_is_within
  have k_lots_of : C8.Cal P w K mg base 1 "lots_of" sp_lots_of [] := c_lots_of (t_lots_of X G c) B C 
  have k_numbers_of_marks : C8.Cal P w K mg base 1 "numbers_of_marks" sp_numbers_of_marks [] := c_numbers_of_marks (t_numbers_of_marks X G c) B C 
  have k_joined : C8.Cal P w K mg base 1 "joined" sp_joined [] := c_joined (t_joined X G c) B C 
  have k_told_by : C8.Cal P w K mg base 2 "told_by" sp_told_by [] := c_told_by (t_told_by X G c) B C k_joined
  have k_has_mark : C8.Cal P w K mg base 1 "has_mark" sp_has_mark [] := c_has_mark (t_has_mark X G c) B C 
  have k_is_sound : C8.Cal P w K mg base 2 "is_sound" sp_is_sound [] := c_is_sound (t_is_sound X G c) B C k_has_mark
  have k_phases_of : C8.Cal P w K mg base 3 "phases_of" sp_phases_of [] := c_phases_of (t_phases_of X G c) B C k_fraction k_is_sound
  have k_shown_by : C8.Cal P w K mg base 2 "shown_by" sp_shown_by [] := c_shown_by (t_shown_by X G c) B C k_has_mark k_numbers_of_marks
  have k_ways_of : C8.Cal P w K mg base 4 "ways_of" sp_ways_of [] := c_ways_of (t_ways_of X G c) B C k_periods_by k_phases_of k_shown_by
  have k_stories_by : C8.Cal P w K mg base 5 "stories_by" sp_stories_by [] := c_stories_by (t_stories_by X G c) B C k_lots_of k_numbers_of_marks k_told_by k_ways_of
  have k_fewest_by : C8.Cal P w K mg base 6 "fewest_by" sp_fewest_by [] := c_fewest_by (t_fewest_by X G c) B C k_stories_by
  have k_need_ahead : C8.Cal P w K mg base 1 "need_ahead" sp_need_ahead [] := c_need_ahead (t_need_ahead X G c) B C 
  have k_need_told : C8.Cal P w K mg base 7 "need_told" sp_need_told [] := c_need_told (t_need_told X G c) B C k_fewest_by k_need_ahead k_need_looked
  have k_may_be : C8.Cal P w K mg base 7 "may_be" sp_may_be [] := c_may_be (t_may_be X G c) B C k_fewest_by
  have k_word_by : C8.Cal P w K mg base 8 "word_by" sp_word_by [] := c_word_by (t_word_by X G c) B C k_fewest_by k_may_be
  have k_word_of : C8.Cal P w K mg base 9 "word_of" sp_word_of [] := c_word_of (t_word_of X G c) B C k_is_piece k_need_told k_word_by
  have k__law_alone_right : C8.Cal P w K mg base 10 "_law_alone_right" sp__law_alone_right [] := c__law_alone_right (t__law_alone_right X G c) B C k__law_draw k__law_train k__law_told_looks k_word_of k_arcs
  have k_fewest : C8.Cal P w K mg base 7 "fewest" sp_fewest [] := c_fewest (t_fewest X G c) B C k_fewest_by k_need_looked
  have k__law_more_right : C8.Cal P w K mg base 10 "_law_more_right" sp__law_more_right [] := c__law_more_right (t__law_more_right X G c) B C k_fewest k_word_of
  have k_marks_by : C8.Cal P w K mg base 4 "marks_by" sp_marks_by [] := c_marks_by (t_marks_by X G c) B C k_common_of k_periods_by
  have k_is_from : C8.Cal P w K mg base 2 "is_from" sp_is_from [] := c_is_from (t_is_from X G c) B C k_is_whole
  have k_is_fraction : C8.Cal P w K mg base 3 "is_fraction" sp_is_fraction [] := c_is_fraction (t_is_fraction X G c) B C k_common_of k_is_from k_is_long
  have k_is_less : C8.Cal P w K mg base 1 "is_less" sp_is_less [] := c_is_less (t_is_less X G c) B C 
  have k_is_dent : C8.Cal P w K mg base 4 "is_dent" sp_is_dent [] := c_is_dent (t_is_dent X G c) B C k_is_fraction k_is_less k_is_long k_is_within k_periods_by
  have k_rises : C8.Cal P w K mg base 1 "rises" sp_rises [] := c_rises (t_rises X G c) B C 
  have k_is_story_by : C8.Cal P w K mg base 5 "is_story_by" sp_is_story_by [] := c_is_story_by (t_is_story_by X G c) B C k_is_dent k_rises
  have k_need_story : C8.Cal P w K mg base 6 "need_story" sp_need_story [] := c_need_story (t_need_story X G c) B C k_is_story_by
  have k_marks_of : C8.Cal P w K mg base 7 "marks_of" sp_marks_of [] := c_marks_of (t_marks_of X G c) B C k_fraction k_is_within k_marks_by k_need_story k_need_train
  have k_some_story : C8.Cal P w K mg base 7 "some_story" sp_some_story [] := c_some_story (t_some_story X G c) B C k_need_looked k_stories_by
  have k__law_story_right : C8.Cal P w K mg base 10 "_law_story_right" sp__law_story_right [] := c__law_story_right (t__law_story_right X G c) B C k_marks_of k_some_story k_word_of
  have k_sure_pieces : CalK P w K mg base 8 2 "sure_pieces" ["length", "end"] sp_sure_pieces := c_sure_pieces (t_sure_pieces X G c) B C k_is_within k_need_told k_may_be
  have k__law_sure_right : C8.Cal P w K mg base 10 "_law_sure_right" sp__law_sure_right [] := c__law_sure_right (t__law_sure_right X G c) B C k__law_draw k_sure_pieces k_word_of
  have k__law_within_right : C8.Cal P w K mg base 10 "_law_within_right" sp__law_within_right [] := c__law_within_right (t__law_within_right X G c) B C k_word_of
  have k__law_right : C8.Cal P w K mg base 11 "_law_right" sp__law_right [] := c__law_right (t__law_right X G c) B C k__law_draw k__law_train k__law_told_looks k__law_more_right k__law_story_right k__law_within_right k__law_sure_right k__law_alone_right
  exact ok_law F B k__law_pen k__law_right
end W92
open PySem PySem.W PySem.Calls PyProof.Rows
theorem PySem.Challenge.cw_weftmill_k92_whole_pieces_holds : PySem.Challenge.rw_weftmill_k92_whole_pieces.Holds := by
  w_on; o_law
  refine HandSHeadRun.head_any (r := OpenLaw.row PySem.Challenge.rw_weftmill_k92_whole_pieces) (q := view (OpenLaw.row PySem.Challenge.rw_weftmill_k92_whole_pieces).prog [94]) (H := H92.hk) (ob := H92.ob) (M := 9000) (loose := H92.ls) (d := HandSHeadRun.topDef (OpenLaw.row PySem.Challenge.rw_weftmill_k92_whole_pieces).prog 94) (kwd := []) H92.ob_eq
    (by kernel_rfl) (fun s => by kernel_rfl) H92.run (by kernel_rfl) (by kernel_rfl) (by kernel_rfl) (by rfl) (by first | assumption | decide +kernel) (by decide +kernel) ⟨rfl, rfl, rfl, rfl, rfl, by decide +kernel⟩ ?hw ?hc
  case hw => w_witness2
  case hc =>
    refine L2.walk_ofE (l := PySem.Challenge.rw_weftmill_k92_whole_pieces) (n := 63) (k := 12) (x := "_law_script") (CX := C8.CX0) rfl (by decide) (by kernel_rfl) ⟨rfl, by decide, by decide⟩ ?F (fun _ _ _ _ z => z)
    intro w mg fa h Y G hmg0
    obtain ⟨K, KX, c⟩ := Y
    have hmg : mg ("law" : PySem.Str) = some (.ref fa) := by
      have e : (HandSHeadRun.topDef (OpenLaw.row PySem.Challenge.rw_weftmill_k92_whole_pieces).prog 94).name = ("law" : PySem.Str) := by kernel_rfl
      rw [← e]
      exact hmg0
    obtain ⟨fd, hb, hF⟩ := W92.facts (P := (PySem.Challenge.rw_weftmill_k92_whole_pieces).prog) (w := w) KX G hmg c
    exact ⟨K, fd, W92.sp_law K, KX, hb, fun H a ns hl _ hS => ⟨(ns, ()), ⟨_, _, rfl, ⟨a, rfl, hS⟩, rfl⟩, trivial, fun v H2 _ r _ => r⟩, hF⟩
