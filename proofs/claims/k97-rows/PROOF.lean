import PyProof.Rows.All
import Wide.All
import OpenK.AllK
import Wide.FinOn
import KE.KStateDown
import HandS.ForMost
import HandS.Exc
import HandS.IsInst
import HandS.ExcIs
import HandS.Defaults
import HandS.Head0
import HandS.Head1
import HandS.Head2
import HandS.HeadEnd
import HandS.HeadHook1
import HandS.HeadHook2
import HandS.HeadHook3
import HandS.HeadHook4
import HandS.HeadNt
import HandS.TupAny
import HandS.TupMul
import HandS.Walk
import HandS.Flow
import HandS.Deep
import HandS.ExcOwn
import HandS.WordsExc
import HandS.SortInts
import HandS.Codes
import HandS.Text
import PyProof.NeKinds
import HandS.Conv
import HandS.List
import KE.GoesZip
import KE.GoesEnum
import KE.GoesMore
import HandS.Iter
import HandS.More
import HandS.Dict
import KE.SortKeyHeap
import KE.SortUse
import HandS.SortKw
import HandS.SortOrd
import HandS.SetFor
import HandS.Strs
import PyProof.StrOps2
import HandS.HotCalls
import HandS.TryMany
import PySem.Challenge.RW_eachonce_k97_rows_that_are_none
set_option Elab.async false
set_option linter.all false
set_option maxRecDepth 100000
set_option maxHeartbeats 0
namespace Eo
open PySem PySem.Spec PyProof.Rows L2
/-! EHead -/
/-! ### the text by places -/
def top (i : Nat) : Stmt := PySem.Challenge.pw_eachonce_k97_rows_that_are_none.main.body.getD i (.Pass ⟨0, 0, 0, 0⟩)
abbrev s_is_whole : Stmt := top 4
abbrev s_is_upto : Stmt := top 5
abbrev s_is_lot : Stmt := top 6
abbrev s_is_weight : Stmt := top 7
abbrev s_mask_of : Stmt := top 8
abbrev s_Ways_init : Stmt := inClass (top 22) 0
abbrev s_Ways_next_steps : Stmt := inClass (top 22) 1
abbrev s_Ways_ways_from : Stmt := inClass (top 22) 2
abbrev s_many : Stmt := top 23
abbrev s_covering_at : Stmt := top 25
abbrev s_narrowed : Stmt := top 28
abbrev s_is_bar : Stmt := top 29
abbrev s_lot_rank : Stmt := top 30
abbrev s_lots_of : Stmt := top 31
abbrev s_lies_in : Stmt := top 32
abbrev s_has_one_of : Stmt := top 33
abbrev s_least_bars : Stmt := top 34
abbrev s_Light_init : Stmt := inClass (top 37) 0
abbrev s_Light_lightest_from : Stmt := inClass (top 37) 1
abbrev s_Light_best_of : Stmt := inClass (top 37) 2
abbrev s_lightest : Stmt := top 38
abbrev s_numbered_on : Stmt := top 41
abbrev s_Shop_init : Stmt := inClass (top 42) 0
abbrev s_Shop_turn_to : Stmt := inClass (top 42) 1
abbrev s_Shop_look_for_thing : Stmt := inClass (top 42) 2
abbrev s_Shop_put_thing : Stmt := inClass (top 42) 3
abbrev s_Shop_put_piece : Stmt := inClass (top 42) 4
abbrev s_Shop_turn_thing : Stmt := inClass (top 42) 5
abbrev s_Shop_take_piece : Stmt := inClass (top 42) 6
abbrev s_Shop_take_thing : Stmt := inClass (top 42) 7
abbrev s_Shop_undo : Stmt := inClass (top 42) 8
abbrev s_Shop_box : Stmt := inClass (top 42) 9
abbrev s_Shop_many : Stmt := inClass (top 42) 10
abbrev s_Shop_lightest : Stmt := inClass (top 42) 11
abbrev s_Shop_least_bars : Stmt := inClass (top 42) 12
abbrev s_listed : Stmt := top 46
abbrev s_written : Stmt := top 47
abbrev s_number_in : Stmt := top 48
abbrev s_signed_in : Stmt := top 49
abbrev s_numbers_in : Stmt := top 50
abbrev s_read_as : Stmt := top 53
abbrev s_told_by : Stmt := top 54
abbrev s_shown_covering : Stmt := top 55
abbrev s_Desk_init : Stmt := inClass (top 56) 0
abbrev s_Desk_say : Stmt := inClass (top 56) 1
abbrev s_Desk_done : Stmt := inClass (top 56) 2
abbrev s_Desk_answered : Stmt := inClass (top 56) 3
abbrev s_law_cell_at : Stmt := top 58
abbrev s_law_pot : Stmt := top 59
abbrev s_law_take : Stmt := top 60
abbrev s_law_lot : Stmt := top 61
abbrev s_law_number : Stmt := top 62
abbrev s_law_numbers : Stmt := top 63
abbrev s_law_row_of : Stmt := top 64
abbrev s_law_plain_deed : Stmt := top 65
abbrev s_law_shop_word : Stmt := top 66
abbrev s_law_desk_told : Stmt := top 67
abbrev s_law_signed : Stmt := top 68
abbrev s_law_is_row : Stmt := top 69
abbrev s_law_bent : Stmt := top 70
abbrev s_law : Stmt := top 71
def gD (x : Str) (s : Stmt) : He.DefD := ⟨(x, none), x, x, defArgs s, defBody s, defScope s, [], []⟩
def mD (C m qual : Str) (s : Stmt) : He.DefD := ⟨(C, some m), m, qual, defArgs s, defBody s, defScope s, [], []⟩
def fn0 : List He.DefD := [gD "is_whole" s_is_whole, gD "is_upto" s_is_upto, gD "is_lot" s_is_lot, gD "is_weight" s_is_weight, gD "mask_of" s_mask_of, mD "Ways" "__init__" "Ways.__init__" s_Ways_init, mD "Ways" "next_steps" "Ways.next_steps" s_Ways_next_steps, mD "Ways" "ways_from" "Ways.ways_from" s_Ways_ways_from, gD "many" s_many, gD "covering_at" s_covering_at, gD "narrowed" s_narrowed, gD "is_bar" s_is_bar, gD "lot_rank" s_lot_rank, gD "lots_of" s_lots_of, gD "lies_in" s_lies_in, gD "has_one_of" s_has_one_of, gD "least_bars" s_least_bars, mD "Light" "__init__" "Light.__init__" s_Light_init, mD "Light" "lightest_from" "Light.lightest_from" s_Light_lightest_from, mD "Light" "best_of" "Light.best_of" s_Light_best_of, gD "lightest" s_lightest, gD "numbered_on" s_numbered_on, mD "Shop" "__init__" "Shop.__init__" s_Shop_init, mD "Shop" "turn_to" "Shop.turn_to" s_Shop_turn_to, mD "Shop" "look_for_thing" "Shop.look_for_thing" s_Shop_look_for_thing, mD "Shop" "put_thing" "Shop.put_thing" s_Shop_put_thing, mD "Shop" "put_piece" "Shop.put_piece" s_Shop_put_piece, mD "Shop" "turn_thing" "Shop.turn_thing" s_Shop_turn_thing, mD "Shop" "take_piece" "Shop.take_piece" s_Shop_take_piece, mD "Shop" "take_thing" "Shop.take_thing" s_Shop_take_thing]
def fn1 : List He.DefD := [mD "Shop" "undo" "Shop.undo" s_Shop_undo, mD "Shop" "box" "Shop.box" s_Shop_box, mD "Shop" "many" "Shop.many" s_Shop_many, mD "Shop" "lightest" "Shop.lightest" s_Shop_lightest, mD "Shop" "least_bars" "Shop.least_bars" s_Shop_least_bars, gD "listed" s_listed, gD "written" s_written, gD "number_in" s_number_in, gD "signed_in" s_signed_in, gD "numbers_in" s_numbers_in, gD "read_as" s_read_as, gD "told_by" s_told_by, gD "shown_covering" s_shown_covering, mD "Desk" "__init__" "Desk.__init__" s_Desk_init, mD "Desk" "say" "Desk.say" s_Desk_say, mD "Desk" "done" "Desk.done" s_Desk_done, mD "Desk" "answered" "Desk.answered" s_Desk_answered, gD "_law_cell_at" s_law_cell_at, gD "_law_pot" s_law_pot, gD "_law_take" s_law_take, gD "_law_lot" s_law_lot, gD "_law_number" s_law_number, gD "_law_numbers" s_law_numbers, gD "_law_row_of" s_law_row_of, gD "_law_plain_deed" s_law_plain_deed, gD "_law_shop_word" s_law_shop_word, gD "_law_desk_told" s_law_desk_told, gD "_law_signed" s_law_signed, gD "_law_is_row" s_law_is_row, gD "_law_bent" s_law_bent]
def fn2 : List He.DefD := [gD "law" s_law]
def fn : List He.DefD := fn0 ++ fn1 ++ fn2
def fa0 : List He.Fa := [.glo "is_whole", .glo "is_upto", .glo "is_lot", .glo "is_weight", .glo "mask_of", .glo "OnceError", .glo "NoText", .glo "NoCovering", .glo "TooMany", .glo "NoThing", .glo "NoPiece", .glo "NoWeight", .glo "NoOrder", .glo "Held", .glo "NoDeed", .glo "NoRow", .glo "Ways", .glo "many", .glo "many_coverings", .glo "covering_at", .glo "narrowed", .glo "is_bar", .glo "lot_rank", .glo "lots_of", .glo "lies_in", .glo "has_one_of", .glo "least_bars", .glo "least_bars_bars", .glo "Light", .glo "lightest"]
def fa1 : List He.Fa := [.glo "lightest_lightest", .glo "numbered_on", .glo "Shop", .glo "listed", .glo "written", .glo "number_in", .glo "signed_in", .glo "numbers_in", .glo "FORMS", .glo "read_as", .glo "told_by", .glo "shown_covering", .glo "Desk", .glo "_law_cell_at", .glo "_law_pot", .glo "_law_take", .glo "_law_lot", .glo "_law_number", .glo "_law_numbers", .glo "_law_row_of", .glo "_law_plain_deed", .glo "_law_shop_word", .glo "_law_desk_told", .glo "_law_signed", .glo "_law_is_row", .glo "_law_bent", .glo "law", .int "MOST_THINGS_boxes" 16, .int "MOST_PIECES" 32, .int "MOST_WEIGHT" 1000000000000]
def fa2 : List He.Fa := [.int "MOST_THINGS_bars" 9, .int "MOST_FIGURES" 13, .str "FIGURES" "0123456789", .free "isinstance", .free "int", .free "bool", .free "tuple", .free "str", .free "len", .free "range", .free "sum", .free "sorted", .free "enumerate", .free "zip", .free "all", .free "any", .free "set", .free "min", .free "max", .free "ValueError", .cls "Ways", .mkr "Ways", .noat "Ways" "things", .noat "Ways" "mays", .noat "Ways" "begun", .noat "Ways" "known", .meth "Ways" "__init__", .meth "Ways" "next_steps", .meth "Ways" "ways_from", .cls "Light"]
def fa3 : List He.Fa := [.mkr "Light", .noat "Light" "ways", .noat "Light" "heavy", .noat "Light" "known", .meth "Light" "__init__", .meth "Light" "lightest_from", .meth "Light" "best_of", .cls "Shop", .mkr "Shop", .noat "Shop" "kept", .noat "Shop" "earlier", .meth "Shop" "__init__", .meth "Shop" "turn_to", .meth "Shop" "look_for_thing", .meth "Shop" "put_thing", .meth "Shop" "put_piece", .meth "Shop" "turn_thing", .meth "Shop" "take_piece", .meth "Shop" "take_thing", .meth "Shop" "undo", .meth "Shop" "box", .meth "Shop" "many", .meth "Shop" "lightest", .meth "Shop" "least_bars", .cls "Desk", .mkr "Desk", .noat "Desk" "shop", .meth "Desk" "__init__", .meth "Desk" "say", .meth "Desk" "done"]
def fa4 : List He.Fa := [.meth "Desk" "answered", .exc "TooMany", .exc "NoThing", .exc "NoPiece", .exc "NoWeight", .exc "Held", .exc "NoDeed", .exc "NoRow", .exc "NoCovering", .exm "TooMany" "NoRow" false, .exm "TooMany" "NoCovering" false, .exm "TooMany" "OnceError" true, .exm "NoThing" "NoRow" false, .exm "NoThing" "NoCovering" false, .exm "NoThing" "OnceError" true, .exm "NoPiece" "NoRow" false, .exm "NoPiece" "NoCovering" false, .exm "NoPiece" "OnceError" true, .exm "NoWeight" "NoRow" false, .exm "NoWeight" "NoCovering" false, .exm "NoWeight" "OnceError" true, .exm "Held" "NoRow" false, .exm "Held" "NoCovering" false, .exm "Held" "OnceError" true, .exm "NoDeed" "NoRow" false, .exm "NoDeed" "NoCovering" false, .exm "NoDeed" "OnceError" true, .exm "NoRow" "NoRow" true, .exm "NoRow" "NoCovering" false, .exm "NoRow" "OnceError" true]
def fa5 : List He.Fa := [.exm "NoCovering" "NoRow" false, .exm "NoCovering" "NoCovering" true, .exm "NoCovering" "OnceError" true, .keep "is_whole", .keep "is_upto", .keep "is_lot", .keep "is_weight", .keep "mask_of", .keep "many", .keep "covering_at", .keep "narrowed", .keep "is_bar", .keep "lot_rank", .keep "lots_of", .keep "lies_in", .keep "has_one_of", .keep "least_bars", .keep "lightest", .keep "numbered_on", .keep "listed", .keep "written", .keep "number_in", .keep "signed_in", .keep "numbers_in", .keep "read_as", .keep "told_by", .keep "shown_covering", .keep "_law_cell_at", .keep "_law_pot", .keep "_law_take"]
def fa6 : List He.Fa := [.keep "_law_lot", .keep "_law_number", .keep "_law_numbers", .keep "_law_row_of", .keep "_law_plain_deed", .keep "_law_shop_word", .keep "_law_desk_told", .keep "_law_signed", .keep "_law_is_row", .keep "_law_bent", .keep "law"]
def fa : List He.Fa := fa0 ++ fa1 ++ fa2 ++ fa3 ++ fa4 ++ fa5 ++ fa6
def loose0 : List PySem.Str := ["MOST_THINGS_boxes", "MOST_PIECES", "MOST_WEIGHT", "is_whole", "is_upto", "is_lot", "is_weight", "mask_of", "OnceError", "NoText", "NoCovering", "TooMany", "NoThing", "NoPiece", "NoWeight", "NoOrder", "Held", "NoDeed", "NoRow", "Ways", "many", "many_coverings", "covering_at", "MOST_THINGS_bars", "narrowed", "is_bar", "lot_rank", "lots_of", "lies_in", "has_one_of"]
def loose1 : List PySem.Str := ["least_bars", "least_bars_bars", "Light", "lightest", "lightest_lightest", "numbered_on", "Shop", "FIGURES", "MOST_FIGURES", "listed", "written", "number_in", "signed_in", "numbers_in", "FORMS", "read_as", "told_by", "shown_covering", "Desk", "_law_cell_at", "_law_pot", "_law_take", "_law_lot", "_law_number", "_law_numbers", "_law_row_of", "_law_plain_deed", "_law_shop_word", "_law_desk_told", "_law_signed"]
def loose2 : List PySem.Str := ["_law_is_row", "_law_bent"]
def loose : List PySem.Str := loose0 ++ loose1 ++ loose2
/-! ### what isinstance asks of the refusals -/
def errs : List Str := ["TooMany", "NoThing", "NoPiece", "NoWeight", "Held", "NoDeed", "NoRow", "NoCovering"]
def asked : List Str := ["TooMany", "NoThing", "NoPiece", "NoWeight", "Held", "NoDeed", "NoRow", "NoCovering", "NoOrder", "NoText"]
def isB (K : PySem.W.Frag) (e c : Str) : Bool := decide (PySem.W.kitOne K (.ref (He.ga K e)) (.ref (He.ga K c)) = some (decide (e = c)))
def isVE (K : PySem.W.Frag) (e : Str) : Bool := decide (PySem.W.kitOne K (.ref (He.ga K e)) (.type "ValueError") = some true)
def excC (K : PySem.W.Frag) (D : Addr) : Bool :=
  He.eqO (PySem.W.findIn K (.ref D) "__getattribute__") (some (some (.builtin "BaseException.__getattribute__"))) && (He.eqO (PySem.W.findIn K (.ref D) "__getattr__") (some none) && (decide (PySem.W.subIn K (.ref D) (.type "BaseException") = some true) &&
  (PySem.W.hasDictIn K D && (He.eqO (PySem.W.findIn K (.ref D) "__class__") (some (some (.builtin "object.__class__"))) && (He.eqO (PySem.W.specialIn K (.builtin "object.__class__") "__get__") (some (some (.builtin "getset_descriptor.__get__"))) &&
  (decide (PySem.W.takesIn K (.builtin "object.__class__") = some true) && decide (PySem.W.mroIn K D (.type "object") = some true)))))))
def exAll (K : PySem.W.Frag) : Bool := (errs.all fun e => excC K (He.ga K e) && (isVE K e && asked.all fun c => isB K e c)) &&
  (decide (He.ga K "many_coverings" = He.ga K "many") && (decide (He.ga K "least_bars_bars" = He.ga K "least_bars") && (decide (He.ga K "lightest_lightest" = He.ga K "lightest") &&
  He.valsB K (He.ga K "FORMS") [("must", .str ""), ("may", .str ""), ("piece", .str "lw"), ("turn", .str "n"), ("undo", .str ""), ("box", .str ""), ("many", .str ""), ("at", .str "n"), ("lightest", .str ""), ("bars", .str "")])))
def tabs : List He.Tab := [((fun K => He.ga K "FORMS"), ["must", "may", "piece", "turn", "undo", "box", "many", "at", "lightest", "bars"])]
abbrev R : PySem.W.OpenRow := PySem.W.OpenLaw.row PySem.Challenge.rw_eachonce_k97_rows_that_are_none
abbrev hk : PySem.W.Hook := He.hookX 5 fa fn tabs [] exAll
def ob (s : PySem.W.SharedT) : He.AlX := He.obsX 5 fa fn tabs [] exAll (HandSHeadRun.getT s)
theorem ob_eq (s : PySem.W.SharedT) : ob s = hk.obs s.abs := He.obsX_eq (HandSHeadRun.getT_eq s)
theorem run0 (w : World) : HandSHeadRun.RunEq R (PySem.W.view R.prog [71]) hk ob 6000 loose (w.withFollow "special-get-raises" false) := by
  intro os
  kernel_rfl
theorem run1 (w : World) : HandSHeadRun.RunEq R (PySem.W.view R.prog [71]) hk ob 6000 loose (w.withFollow "special-get-raises" true) := by
  intro os
  kernel_rfl
theorem run (w : World) : HandSHeadRun.RunEq R (PySem.W.view R.prog [71]) hk ob 6000 loose w := PySem.W.byRow2 "special-get-raises" (P := fun w => HandSHeadRun.RunEq R (PySem.W.view R.prog [71]) hk ob 6000 loose w) run0 run1 w
/-! ETx -/
/-! ### what is known of the top, by names -/
def fdO (K : PySem.W.Frag) (p : Str × Option Str) : FuncData := match K.lookup (He.fAd K p) with
  | some ⟨_, _, .func fd, _⟩ => fd
  | _ => default
structure Tx (K : PySem.W.Frag) (w : World) (mg : Str → Option Value) : Prop where
  ex : ∃ h : Heap, K.In h ∧ h.Ns mainGlobals mg ∧ He.SaysT fa fn tabs w K ∧ exAll K = true
section
variable {K : PySem.W.Frag} {w : World} {mg : Str → Option Value}
theorem Tx.fact (T : Tx K w mg) (i : Nat) {f : He.Fa} (h : fa[i]? = some f := by rfl) : f.ok K = true := by
  obtain ⟨_, _, _, c, _⟩ := T.ex
  exact c.d.fact i h
theorem Tx.more (T : Tx K w mg) : exAll K = true := by
  obtain ⟨_, _, _, _, c⟩ := T.ex
  exact c
theorem Tx.glo (T : Tx K w mg) {x : Str} (c : (He.Fa.glo x).ok K = true) : mg x = some (.ref (He.ga K x)) := by
  obtain ⟨_, X, G, _, _⟩ := T.ex
  exact He.glo_ok X G c
theorem Tx.free (T : Tx K w mg) {x : Str} (c : (He.Fa.free x).ok K = true) : mg x = none := by
  obtain ⟨_, X, G, _, _⟩ := T.ex
  exact He.free_ok X G c
theorem Tx.int (T : Tx K w mg) {x : Str} {i : Int} (c : (He.Fa.int x i).ok K = true) : ∃ u, mg x = some u ∧ RelV (.int i) u := by
  obtain ⟨_, X, G, _, _⟩ := T.ex
  obtain ⟨t, e⟩ := He.int_ok X G c
  exact ⟨_, e, t, rfl⟩
theorem Tx.str (T : Tx K w mg) {x z : Str} (c : (He.Fa.str x z).ok K = true) : ∃ u, mg x = some u ∧ RelV (.str z) u := by
  obtain ⟨_, X, G, _, _⟩ := T.ex
  obtain ⟨t, e⟩ := He.str_ok X G c
  exact ⟨_, e, t, rfl⟩
/-- a def of the text, no defaults -/
structure DefG (K : PySem.W.Frag) (at_ : Str × Option Str) (x q : Str) (st : Stmt) (ps : List Str) : Prop where
  fn : Fun K x q st (He.fAd K at_) (fdO K at_)
  bd : Binds K (fdO K at_) ps []
theorem Tx.def_ (T : Tx K w mg) (i : Nat) {d : He.DefD} {st : Stmt} {ps : List Str} (h : fn[i]? = some d) (hd : d = ⟨d.at_, d.name, d.qual, defArgs st, defBody st, defScope st, [], []⟩)
    (hb : ∀ (kV doc pm : Value) (an : Option Addr) (cdv ct : Value) (us : List Value), us.length = ps.length → bindArgs (PySem.W.fnOf d.name d.qual (defArgs st) (defBody st) (defScope st) .none kV doc pm an cdv ct) ⟨us, []⟩ = pure (ps.zip us)) : DefG K d.at_ d.name d.qual st ps := by
  obtain ⟨_, _, _, c, _⟩ := T.ex
  obtain ⟨fd, F⟩ := c.d.def_ i h
  rw [hd] at F
  have F2 : Fun K d.name d.qual st (He.fAd K d.at_) fd := He5.fun_of F
  have e : fdO K d.at_ = fd := by
    obtain ⟨oc, od, kV, doc, pm, an, cdv, ct, osl, _, l, _⟩ := F2.ex
    unfold fdO
    rw [l]
  rw [← e] at F2
  exact ⟨F2, F2.binds hb⟩

theorem Tx.g_is_whole (T : Tx K w mg) : mg "is_whole" = some (.ref (He.ga K "is_whole")) := T.glo (T.fact 0)
theorem Tx.g_is_upto (T : Tx K w mg) : mg "is_upto" = some (.ref (He.ga K "is_upto")) := T.glo (T.fact 1)
theorem Tx.g_is_lot (T : Tx K w mg) : mg "is_lot" = some (.ref (He.ga K "is_lot")) := T.glo (T.fact 2)
theorem Tx.g_is_weight (T : Tx K w mg) : mg "is_weight" = some (.ref (He.ga K "is_weight")) := T.glo (T.fact 3)
theorem Tx.g_mask_of (T : Tx K w mg) : mg "mask_of" = some (.ref (He.ga K "mask_of")) := T.glo (T.fact 4)
theorem Tx.g_OnceError (T : Tx K w mg) : mg "OnceError" = some (.ref (He.ga K "OnceError")) := T.glo (T.fact 5)
theorem Tx.g_NoText (T : Tx K w mg) : mg "NoText" = some (.ref (He.ga K "NoText")) := T.glo (T.fact 6)
theorem Tx.g_NoCovering (T : Tx K w mg) : mg "NoCovering" = some (.ref (He.ga K "NoCovering")) := T.glo (T.fact 7)
theorem Tx.g_TooMany (T : Tx K w mg) : mg "TooMany" = some (.ref (He.ga K "TooMany")) := T.glo (T.fact 8)
theorem Tx.g_NoThing (T : Tx K w mg) : mg "NoThing" = some (.ref (He.ga K "NoThing")) := T.glo (T.fact 9)
theorem Tx.g_NoPiece (T : Tx K w mg) : mg "NoPiece" = some (.ref (He.ga K "NoPiece")) := T.glo (T.fact 10)
theorem Tx.g_NoWeight (T : Tx K w mg) : mg "NoWeight" = some (.ref (He.ga K "NoWeight")) := T.glo (T.fact 11)
theorem Tx.g_NoOrder (T : Tx K w mg) : mg "NoOrder" = some (.ref (He.ga K "NoOrder")) := T.glo (T.fact 12)
theorem Tx.g_Held (T : Tx K w mg) : mg "Held" = some (.ref (He.ga K "Held")) := T.glo (T.fact 13)
theorem Tx.g_NoDeed (T : Tx K w mg) : mg "NoDeed" = some (.ref (He.ga K "NoDeed")) := T.glo (T.fact 14)
theorem Tx.g_NoRow (T : Tx K w mg) : mg "NoRow" = some (.ref (He.ga K "NoRow")) := T.glo (T.fact 15)
theorem Tx.g_Ways (T : Tx K w mg) : mg "Ways" = some (.ref (He.ga K "Ways")) := T.glo (T.fact 16)
theorem Tx.g_many (T : Tx K w mg) : mg "many" = some (.ref (He.ga K "many")) := T.glo (T.fact 17)
theorem Tx.g_many_coverings (T : Tx K w mg) : mg "many_coverings" = some (.ref (He.ga K "many_coverings")) := T.glo (T.fact 18)
theorem Tx.g_covering_at (T : Tx K w mg) : mg "covering_at" = some (.ref (He.ga K "covering_at")) := T.glo (T.fact 19)
theorem Tx.g_narrowed (T : Tx K w mg) : mg "narrowed" = some (.ref (He.ga K "narrowed")) := T.glo (T.fact 20)
theorem Tx.g_is_bar (T : Tx K w mg) : mg "is_bar" = some (.ref (He.ga K "is_bar")) := T.glo (T.fact 21)
theorem Tx.g_lot_rank (T : Tx K w mg) : mg "lot_rank" = some (.ref (He.ga K "lot_rank")) := T.glo (T.fact 22)
theorem Tx.g_lots_of (T : Tx K w mg) : mg "lots_of" = some (.ref (He.ga K "lots_of")) := T.glo (T.fact 23)
theorem Tx.g_lies_in (T : Tx K w mg) : mg "lies_in" = some (.ref (He.ga K "lies_in")) := T.glo (T.fact 24)
theorem Tx.g_has_one_of (T : Tx K w mg) : mg "has_one_of" = some (.ref (He.ga K "has_one_of")) := T.glo (T.fact 25)
theorem Tx.g_least_bars (T : Tx K w mg) : mg "least_bars" = some (.ref (He.ga K "least_bars")) := T.glo (T.fact 26)
theorem Tx.g_least_bars_bars (T : Tx K w mg) : mg "least_bars_bars" = some (.ref (He.ga K "least_bars_bars")) := T.glo (T.fact 27)
theorem Tx.g_Light (T : Tx K w mg) : mg "Light" = some (.ref (He.ga K "Light")) := T.glo (T.fact 28)
theorem Tx.g_lightest (T : Tx K w mg) : mg "lightest" = some (.ref (He.ga K "lightest")) := T.glo (T.fact 29)
theorem Tx.g_lightest_lightest (T : Tx K w mg) : mg "lightest_lightest" = some (.ref (He.ga K "lightest_lightest")) := T.glo (T.fact 30)
theorem Tx.g_numbered_on (T : Tx K w mg) : mg "numbered_on" = some (.ref (He.ga K "numbered_on")) := T.glo (T.fact 31)
theorem Tx.g_Shop (T : Tx K w mg) : mg "Shop" = some (.ref (He.ga K "Shop")) := T.glo (T.fact 32)
theorem Tx.g_listed (T : Tx K w mg) : mg "listed" = some (.ref (He.ga K "listed")) := T.glo (T.fact 33)
theorem Tx.g_written (T : Tx K w mg) : mg "written" = some (.ref (He.ga K "written")) := T.glo (T.fact 34)
theorem Tx.g_number_in (T : Tx K w mg) : mg "number_in" = some (.ref (He.ga K "number_in")) := T.glo (T.fact 35)
theorem Tx.g_signed_in (T : Tx K w mg) : mg "signed_in" = some (.ref (He.ga K "signed_in")) := T.glo (T.fact 36)
theorem Tx.g_numbers_in (T : Tx K w mg) : mg "numbers_in" = some (.ref (He.ga K "numbers_in")) := T.glo (T.fact 37)
theorem Tx.g_FORMS (T : Tx K w mg) : mg "FORMS" = some (.ref (He.ga K "FORMS")) := T.glo (T.fact 38)
theorem Tx.g_read_as (T : Tx K w mg) : mg "read_as" = some (.ref (He.ga K "read_as")) := T.glo (T.fact 39)
theorem Tx.g_told_by (T : Tx K w mg) : mg "told_by" = some (.ref (He.ga K "told_by")) := T.glo (T.fact 40)
theorem Tx.g_shown_covering (T : Tx K w mg) : mg "shown_covering" = some (.ref (He.ga K "shown_covering")) := T.glo (T.fact 41)
theorem Tx.g_Desk (T : Tx K w mg) : mg "Desk" = some (.ref (He.ga K "Desk")) := T.glo (T.fact 42)
theorem Tx.g_law_cell_at (T : Tx K w mg) : mg "_law_cell_at" = some (.ref (He.ga K "_law_cell_at")) := T.glo (T.fact 43)
theorem Tx.g_law_pot (T : Tx K w mg) : mg "_law_pot" = some (.ref (He.ga K "_law_pot")) := T.glo (T.fact 44)
theorem Tx.g_law_take (T : Tx K w mg) : mg "_law_take" = some (.ref (He.ga K "_law_take")) := T.glo (T.fact 45)
theorem Tx.g_law_lot (T : Tx K w mg) : mg "_law_lot" = some (.ref (He.ga K "_law_lot")) := T.glo (T.fact 46)
theorem Tx.g_law_number (T : Tx K w mg) : mg "_law_number" = some (.ref (He.ga K "_law_number")) := T.glo (T.fact 47)
theorem Tx.g_law_numbers (T : Tx K w mg) : mg "_law_numbers" = some (.ref (He.ga K "_law_numbers")) := T.glo (T.fact 48)
theorem Tx.g_law_row_of (T : Tx K w mg) : mg "_law_row_of" = some (.ref (He.ga K "_law_row_of")) := T.glo (T.fact 49)
theorem Tx.g_law_plain_deed (T : Tx K w mg) : mg "_law_plain_deed" = some (.ref (He.ga K "_law_plain_deed")) := T.glo (T.fact 50)
theorem Tx.g_law_shop_word (T : Tx K w mg) : mg "_law_shop_word" = some (.ref (He.ga K "_law_shop_word")) := T.glo (T.fact 51)
theorem Tx.g_law_desk_told (T : Tx K w mg) : mg "_law_desk_told" = some (.ref (He.ga K "_law_desk_told")) := T.glo (T.fact 52)
theorem Tx.g_law_signed (T : Tx K w mg) : mg "_law_signed" = some (.ref (He.ga K "_law_signed")) := T.glo (T.fact 53)
theorem Tx.g_law_is_row (T : Tx K w mg) : mg "_law_is_row" = some (.ref (He.ga K "_law_is_row")) := T.glo (T.fact 54)
theorem Tx.g_law_bent (T : Tx K w mg) : mg "_law_bent" = some (.ref (He.ga K "_law_bent")) := T.glo (T.fact 55)
theorem Tx.g_law (T : Tx K w mg) : mg "law" = some (.ref (He.ga K "law")) := T.glo (T.fact 56)
theorem Tx.i_MOST_THINGS_boxes (T : Tx K w mg) : ∃ u, mg "MOST_THINGS_boxes" = some u ∧ RelV (.int 16) u := T.int (T.fact 57)
theorem Tx.i_MOST_PIECES (T : Tx K w mg) : ∃ u, mg "MOST_PIECES" = some u ∧ RelV (.int 32) u := T.int (T.fact 58)
theorem Tx.i_MOST_WEIGHT (T : Tx K w mg) : ∃ u, mg "MOST_WEIGHT" = some u ∧ RelV (.int 1000000000000) u := T.int (T.fact 59)
theorem Tx.i_MOST_THINGS_bars (T : Tx K w mg) : ∃ u, mg "MOST_THINGS_bars" = some u ∧ RelV (.int 9) u := T.int (T.fact 60)
theorem Tx.i_MOST_FIGURES (T : Tx K w mg) : ∃ u, mg "MOST_FIGURES" = some u ∧ RelV (.int 13) u := T.int (T.fact 61)
theorem Tx.s_FIGURES (T : Tx K w mg) : ∃ u, mg "FIGURES" = some u ∧ RelV (.str "0123456789") u := T.str (T.fact 62)
theorem Tx.z_isinstance (T : Tx K w mg) : mg "isinstance" = none := T.free (T.fact 63)
theorem Tx.z_int (T : Tx K w mg) : mg "int" = none := T.free (T.fact 64)
theorem Tx.z_bool (T : Tx K w mg) : mg "bool" = none := T.free (T.fact 65)
theorem Tx.z_tuple (T : Tx K w mg) : mg "tuple" = none := T.free (T.fact 66)
theorem Tx.z_str (T : Tx K w mg) : mg "str" = none := T.free (T.fact 67)
theorem Tx.z_len (T : Tx K w mg) : mg "len" = none := T.free (T.fact 68)
theorem Tx.z_range (T : Tx K w mg) : mg "range" = none := T.free (T.fact 69)
theorem Tx.z_sum (T : Tx K w mg) : mg "sum" = none := T.free (T.fact 70)
theorem Tx.z_sorted (T : Tx K w mg) : mg "sorted" = none := T.free (T.fact 71)
theorem Tx.z_enumerate (T : Tx K w mg) : mg "enumerate" = none := T.free (T.fact 72)
theorem Tx.z_zip (T : Tx K w mg) : mg "zip" = none := T.free (T.fact 73)
theorem Tx.z_all (T : Tx K w mg) : mg "all" = none := T.free (T.fact 74)
theorem Tx.z_any (T : Tx K w mg) : mg "any" = none := T.free (T.fact 75)
theorem Tx.z_set (T : Tx K w mg) : mg "set" = none := T.free (T.fact 76)
theorem Tx.z_min (T : Tx K w mg) : mg "min" = none := T.free (T.fact 77)
theorem Tx.z_max (T : Tx K w mg) : mg "max" = none := T.free (T.fact 78)
theorem Tx.z_ValueError (T : Tx K w mg) : mg "ValueError" = none := T.free (T.fact 79)
theorem Tx.cl_Ways (T : Tx K w mg) : Cls K (He.ga K "Ways") := He.cls_ok (T.fact 80)
theorem Tx.mk_Ways (T : Tx K w mg) : Mk K (He.ga K "Ways") (He.fAd K ("Ways", some "__init__")) := He.mkr_ok (T.fact 81)
theorem Tx.na_Ways_things (T : Tx K w mg) : NoAttr K (He.ga K "Ways") "things" := He.noat_ok (T.fact 82)
theorem Tx.na_Ways_mays (T : Tx K w mg) : NoAttr K (He.ga K "Ways") "mays" := He.noat_ok (T.fact 83)
theorem Tx.na_Ways_begun (T : Tx K w mg) : NoAttr K (He.ga K "Ways") "begun" := He.noat_ok (T.fact 84)
theorem Tx.na_Ways_known (T : Tx K w mg) : NoAttr K (He.ga K "Ways") "known" := He.noat_ok (T.fact 85)
theorem Tx.me_Ways_init (T : Tx K w mg) : Meth K (He.ga K "Ways") "__init__" (He.fAd K ("Ways", some "__init__")) := He.meth_ok (T.fact 86)
theorem Tx.me_Ways_next_steps (T : Tx K w mg) : Meth K (He.ga K "Ways") "next_steps" (He.fAd K ("Ways", some "next_steps")) := He.meth_ok (T.fact 87)
theorem Tx.me_Ways_ways_from (T : Tx K w mg) : Meth K (He.ga K "Ways") "ways_from" (He.fAd K ("Ways", some "ways_from")) := He.meth_ok (T.fact 88)
theorem Tx.cl_Light (T : Tx K w mg) : Cls K (He.ga K "Light") := He.cls_ok (T.fact 89)
theorem Tx.mk_Light (T : Tx K w mg) : Mk K (He.ga K "Light") (He.fAd K ("Light", some "__init__")) := He.mkr_ok (T.fact 90)
theorem Tx.na_Light_ways (T : Tx K w mg) : NoAttr K (He.ga K "Light") "ways" := He.noat_ok (T.fact 91)
theorem Tx.na_Light_heavy (T : Tx K w mg) : NoAttr K (He.ga K "Light") "heavy" := He.noat_ok (T.fact 92)
theorem Tx.na_Light_known (T : Tx K w mg) : NoAttr K (He.ga K "Light") "known" := He.noat_ok (T.fact 93)
theorem Tx.me_Light_init (T : Tx K w mg) : Meth K (He.ga K "Light") "__init__" (He.fAd K ("Light", some "__init__")) := He.meth_ok (T.fact 94)
theorem Tx.me_Light_lightest_from (T : Tx K w mg) : Meth K (He.ga K "Light") "lightest_from" (He.fAd K ("Light", some "lightest_from")) := He.meth_ok (T.fact 95)
theorem Tx.me_Light_best_of (T : Tx K w mg) : Meth K (He.ga K "Light") "best_of" (He.fAd K ("Light", some "best_of")) := He.meth_ok (T.fact 96)
theorem Tx.cl_Shop (T : Tx K w mg) : Cls K (He.ga K "Shop") := He.cls_ok (T.fact 97)
theorem Tx.mk_Shop (T : Tx K w mg) : Mk K (He.ga K "Shop") (He.fAd K ("Shop", some "__init__")) := He.mkr_ok (T.fact 98)
theorem Tx.na_Shop_kept (T : Tx K w mg) : NoAttr K (He.ga K "Shop") "kept" := He.noat_ok (T.fact 99)
theorem Tx.na_Shop_earlier (T : Tx K w mg) : NoAttr K (He.ga K "Shop") "earlier" := He.noat_ok (T.fact 100)
theorem Tx.me_Shop_init (T : Tx K w mg) : Meth K (He.ga K "Shop") "__init__" (He.fAd K ("Shop", some "__init__")) := He.meth_ok (T.fact 101)
theorem Tx.me_Shop_turn_to (T : Tx K w mg) : Meth K (He.ga K "Shop") "turn_to" (He.fAd K ("Shop", some "turn_to")) := He.meth_ok (T.fact 102)
theorem Tx.me_Shop_look_for_thing (T : Tx K w mg) : Meth K (He.ga K "Shop") "look_for_thing" (He.fAd K ("Shop", some "look_for_thing")) := He.meth_ok (T.fact 103)
theorem Tx.me_Shop_put_thing (T : Tx K w mg) : Meth K (He.ga K "Shop") "put_thing" (He.fAd K ("Shop", some "put_thing")) := He.meth_ok (T.fact 104)
theorem Tx.me_Shop_put_piece (T : Tx K w mg) : Meth K (He.ga K "Shop") "put_piece" (He.fAd K ("Shop", some "put_piece")) := He.meth_ok (T.fact 105)
theorem Tx.me_Shop_turn_thing (T : Tx K w mg) : Meth K (He.ga K "Shop") "turn_thing" (He.fAd K ("Shop", some "turn_thing")) := He.meth_ok (T.fact 106)
theorem Tx.me_Shop_take_piece (T : Tx K w mg) : Meth K (He.ga K "Shop") "take_piece" (He.fAd K ("Shop", some "take_piece")) := He.meth_ok (T.fact 107)
theorem Tx.me_Shop_take_thing (T : Tx K w mg) : Meth K (He.ga K "Shop") "take_thing" (He.fAd K ("Shop", some "take_thing")) := He.meth_ok (T.fact 108)
theorem Tx.me_Shop_undo (T : Tx K w mg) : Meth K (He.ga K "Shop") "undo" (He.fAd K ("Shop", some "undo")) := He.meth_ok (T.fact 109)
theorem Tx.me_Shop_box (T : Tx K w mg) : Meth K (He.ga K "Shop") "box" (He.fAd K ("Shop", some "box")) := He.meth_ok (T.fact 110)
theorem Tx.me_Shop_many (T : Tx K w mg) : Meth K (He.ga K "Shop") "many" (He.fAd K ("Shop", some "many")) := He.meth_ok (T.fact 111)
theorem Tx.me_Shop_lightest (T : Tx K w mg) : Meth K (He.ga K "Shop") "lightest" (He.fAd K ("Shop", some "lightest")) := He.meth_ok (T.fact 112)
theorem Tx.me_Shop_least_bars (T : Tx K w mg) : Meth K (He.ga K "Shop") "least_bars" (He.fAd K ("Shop", some "least_bars")) := He.meth_ok (T.fact 113)
theorem Tx.cl_Desk (T : Tx K w mg) : Cls K (He.ga K "Desk") := He.cls_ok (T.fact 114)
theorem Tx.mk_Desk (T : Tx K w mg) : Mk K (He.ga K "Desk") (He.fAd K ("Desk", some "__init__")) := He.mkr_ok (T.fact 115)
theorem Tx.na_Desk_shop (T : Tx K w mg) : NoAttr K (He.ga K "Desk") "shop" := He.noat_ok (T.fact 116)
theorem Tx.me_Desk_init (T : Tx K w mg) : Meth K (He.ga K "Desk") "__init__" (He.fAd K ("Desk", some "__init__")) := He.meth_ok (T.fact 117)
theorem Tx.me_Desk_say (T : Tx K w mg) : Meth K (He.ga K "Desk") "say" (He.fAd K ("Desk", some "say")) := He.meth_ok (T.fact 118)
theorem Tx.me_Desk_done (T : Tx K w mg) : Meth K (He.ga K "Desk") "done" (He.fAd K ("Desk", some "done")) := He.meth_ok (T.fact 119)
theorem Tx.me_Desk_answered (T : Tx K w mg) : Meth K (He.ga K "Desk") "answered" (He.fAd K ("Desk", some "answered")) := He.meth_ok (T.fact 120)
theorem Tx.ex_TooMany (T : Tx K w mg) : PySem.W.excIn K (He.ga K "TooMany") He.veBase "ValueError.__new__" = true ∧ PySem.W.keepIn K (.ref (He.ga K "TooMany")) = true ∧ PySem.W.subIn K (.ref (He.ga K "TooMany")) (.type "BaseException") = some true ∧ PySem.W.typeIn K (.ref (He.ga K "TooMany")) = some (.type "type") := He.exc_ok (T.fact 121)
theorem Tx.ex_NoThing (T : Tx K w mg) : PySem.W.excIn K (He.ga K "NoThing") He.veBase "ValueError.__new__" = true ∧ PySem.W.keepIn K (.ref (He.ga K "NoThing")) = true ∧ PySem.W.subIn K (.ref (He.ga K "NoThing")) (.type "BaseException") = some true ∧ PySem.W.typeIn K (.ref (He.ga K "NoThing")) = some (.type "type") := He.exc_ok (T.fact 122)
theorem Tx.ex_NoPiece (T : Tx K w mg) : PySem.W.excIn K (He.ga K "NoPiece") He.veBase "ValueError.__new__" = true ∧ PySem.W.keepIn K (.ref (He.ga K "NoPiece")) = true ∧ PySem.W.subIn K (.ref (He.ga K "NoPiece")) (.type "BaseException") = some true ∧ PySem.W.typeIn K (.ref (He.ga K "NoPiece")) = some (.type "type") := He.exc_ok (T.fact 123)
theorem Tx.ex_NoWeight (T : Tx K w mg) : PySem.W.excIn K (He.ga K "NoWeight") He.veBase "ValueError.__new__" = true ∧ PySem.W.keepIn K (.ref (He.ga K "NoWeight")) = true ∧ PySem.W.subIn K (.ref (He.ga K "NoWeight")) (.type "BaseException") = some true ∧ PySem.W.typeIn K (.ref (He.ga K "NoWeight")) = some (.type "type") := He.exc_ok (T.fact 124)
theorem Tx.ex_Held (T : Tx K w mg) : PySem.W.excIn K (He.ga K "Held") He.veBase "ValueError.__new__" = true ∧ PySem.W.keepIn K (.ref (He.ga K "Held")) = true ∧ PySem.W.subIn K (.ref (He.ga K "Held")) (.type "BaseException") = some true ∧ PySem.W.typeIn K (.ref (He.ga K "Held")) = some (.type "type") := He.exc_ok (T.fact 125)
theorem Tx.ex_NoDeed (T : Tx K w mg) : PySem.W.excIn K (He.ga K "NoDeed") He.veBase "ValueError.__new__" = true ∧ PySem.W.keepIn K (.ref (He.ga K "NoDeed")) = true ∧ PySem.W.subIn K (.ref (He.ga K "NoDeed")) (.type "BaseException") = some true ∧ PySem.W.typeIn K (.ref (He.ga K "NoDeed")) = some (.type "type") := He.exc_ok (T.fact 126)
theorem Tx.ex_NoRow (T : Tx K w mg) : PySem.W.excIn K (He.ga K "NoRow") He.veBase "ValueError.__new__" = true ∧ PySem.W.keepIn K (.ref (He.ga K "NoRow")) = true ∧ PySem.W.subIn K (.ref (He.ga K "NoRow")) (.type "BaseException") = some true ∧ PySem.W.typeIn K (.ref (He.ga K "NoRow")) = some (.type "type") := He.exc_ok (T.fact 127)
theorem Tx.ex_NoCovering (T : Tx K w mg) : PySem.W.excIn K (He.ga K "NoCovering") He.veBase "ValueError.__new__" = true ∧ PySem.W.keepIn K (.ref (He.ga K "NoCovering")) = true ∧ PySem.W.subIn K (.ref (He.ga K "NoCovering")) (.type "BaseException") = some true ∧ PySem.W.typeIn K (.ref (He.ga K "NoCovering")) = some (.type "type") := He.exc_ok (T.fact 128)
theorem Tx.xm_TooMany_NoRow (T : Tx K w mg) : PySem.W.exmOne K (.ref (He.ga K "TooMany")) (.ref (He.ga K "NoRow")) = some false := He.exm_ok (T.fact 129)
theorem Tx.xm_TooMany_NoCovering (T : Tx K w mg) : PySem.W.exmOne K (.ref (He.ga K "TooMany")) (.ref (He.ga K "NoCovering")) = some false := He.exm_ok (T.fact 130)
theorem Tx.xm_TooMany_OnceError (T : Tx K w mg) : PySem.W.exmOne K (.ref (He.ga K "TooMany")) (.ref (He.ga K "OnceError")) = some true := He.exm_ok (T.fact 131)
theorem Tx.xm_NoThing_NoRow (T : Tx K w mg) : PySem.W.exmOne K (.ref (He.ga K "NoThing")) (.ref (He.ga K "NoRow")) = some false := He.exm_ok (T.fact 132)
theorem Tx.xm_NoThing_NoCovering (T : Tx K w mg) : PySem.W.exmOne K (.ref (He.ga K "NoThing")) (.ref (He.ga K "NoCovering")) = some false := He.exm_ok (T.fact 133)
theorem Tx.xm_NoThing_OnceError (T : Tx K w mg) : PySem.W.exmOne K (.ref (He.ga K "NoThing")) (.ref (He.ga K "OnceError")) = some true := He.exm_ok (T.fact 134)
theorem Tx.xm_NoPiece_NoRow (T : Tx K w mg) : PySem.W.exmOne K (.ref (He.ga K "NoPiece")) (.ref (He.ga K "NoRow")) = some false := He.exm_ok (T.fact 135)
theorem Tx.xm_NoPiece_NoCovering (T : Tx K w mg) : PySem.W.exmOne K (.ref (He.ga K "NoPiece")) (.ref (He.ga K "NoCovering")) = some false := He.exm_ok (T.fact 136)
theorem Tx.xm_NoPiece_OnceError (T : Tx K w mg) : PySem.W.exmOne K (.ref (He.ga K "NoPiece")) (.ref (He.ga K "OnceError")) = some true := He.exm_ok (T.fact 137)
theorem Tx.xm_NoWeight_NoRow (T : Tx K w mg) : PySem.W.exmOne K (.ref (He.ga K "NoWeight")) (.ref (He.ga K "NoRow")) = some false := He.exm_ok (T.fact 138)
theorem Tx.xm_NoWeight_NoCovering (T : Tx K w mg) : PySem.W.exmOne K (.ref (He.ga K "NoWeight")) (.ref (He.ga K "NoCovering")) = some false := He.exm_ok (T.fact 139)
theorem Tx.xm_NoWeight_OnceError (T : Tx K w mg) : PySem.W.exmOne K (.ref (He.ga K "NoWeight")) (.ref (He.ga K "OnceError")) = some true := He.exm_ok (T.fact 140)
theorem Tx.xm_Held_NoRow (T : Tx K w mg) : PySem.W.exmOne K (.ref (He.ga K "Held")) (.ref (He.ga K "NoRow")) = some false := He.exm_ok (T.fact 141)
theorem Tx.xm_Held_NoCovering (T : Tx K w mg) : PySem.W.exmOne K (.ref (He.ga K "Held")) (.ref (He.ga K "NoCovering")) = some false := He.exm_ok (T.fact 142)
theorem Tx.xm_Held_OnceError (T : Tx K w mg) : PySem.W.exmOne K (.ref (He.ga K "Held")) (.ref (He.ga K "OnceError")) = some true := He.exm_ok (T.fact 143)
theorem Tx.xm_NoDeed_NoRow (T : Tx K w mg) : PySem.W.exmOne K (.ref (He.ga K "NoDeed")) (.ref (He.ga K "NoRow")) = some false := He.exm_ok (T.fact 144)
theorem Tx.xm_NoDeed_NoCovering (T : Tx K w mg) : PySem.W.exmOne K (.ref (He.ga K "NoDeed")) (.ref (He.ga K "NoCovering")) = some false := He.exm_ok (T.fact 145)
theorem Tx.xm_NoDeed_OnceError (T : Tx K w mg) : PySem.W.exmOne K (.ref (He.ga K "NoDeed")) (.ref (He.ga K "OnceError")) = some true := He.exm_ok (T.fact 146)
theorem Tx.xm_NoRow_NoRow (T : Tx K w mg) : PySem.W.exmOne K (.ref (He.ga K "NoRow")) (.ref (He.ga K "NoRow")) = some true := He.exm_ok (T.fact 147)
theorem Tx.xm_NoRow_NoCovering (T : Tx K w mg) : PySem.W.exmOne K (.ref (He.ga K "NoRow")) (.ref (He.ga K "NoCovering")) = some false := He.exm_ok (T.fact 148)
theorem Tx.xm_NoRow_OnceError (T : Tx K w mg) : PySem.W.exmOne K (.ref (He.ga K "NoRow")) (.ref (He.ga K "OnceError")) = some true := He.exm_ok (T.fact 149)
theorem Tx.xm_NoCovering_NoRow (T : Tx K w mg) : PySem.W.exmOne K (.ref (He.ga K "NoCovering")) (.ref (He.ga K "NoRow")) = some false := He.exm_ok (T.fact 150)
theorem Tx.xm_NoCovering_NoCovering (T : Tx K w mg) : PySem.W.exmOne K (.ref (He.ga K "NoCovering")) (.ref (He.ga K "NoCovering")) = some true := He.exm_ok (T.fact 151)
theorem Tx.xm_NoCovering_OnceError (T : Tx K w mg) : PySem.W.exmOne K (.ref (He.ga K "NoCovering")) (.ref (He.ga K "OnceError")) = some true := He.exm_ok (T.fact 152)
theorem Tx.kp_is_whole (T : Tx K w mg) : PySem.W.keepIn K (.ref (He.ga K "is_whole")) = true := He.keep_ok (T.fact 153)
theorem Tx.kp_is_upto (T : Tx K w mg) : PySem.W.keepIn K (.ref (He.ga K "is_upto")) = true := He.keep_ok (T.fact 154)
theorem Tx.kp_is_lot (T : Tx K w mg) : PySem.W.keepIn K (.ref (He.ga K "is_lot")) = true := He.keep_ok (T.fact 155)
theorem Tx.kp_is_weight (T : Tx K w mg) : PySem.W.keepIn K (.ref (He.ga K "is_weight")) = true := He.keep_ok (T.fact 156)
theorem Tx.kp_mask_of (T : Tx K w mg) : PySem.W.keepIn K (.ref (He.ga K "mask_of")) = true := He.keep_ok (T.fact 157)
theorem Tx.kp_many (T : Tx K w mg) : PySem.W.keepIn K (.ref (He.ga K "many")) = true := He.keep_ok (T.fact 158)
theorem Tx.kp_covering_at (T : Tx K w mg) : PySem.W.keepIn K (.ref (He.ga K "covering_at")) = true := He.keep_ok (T.fact 159)
theorem Tx.kp_narrowed (T : Tx K w mg) : PySem.W.keepIn K (.ref (He.ga K "narrowed")) = true := He.keep_ok (T.fact 160)
theorem Tx.kp_is_bar (T : Tx K w mg) : PySem.W.keepIn K (.ref (He.ga K "is_bar")) = true := He.keep_ok (T.fact 161)
theorem Tx.kp_lot_rank (T : Tx K w mg) : PySem.W.keepIn K (.ref (He.ga K "lot_rank")) = true := He.keep_ok (T.fact 162)
theorem Tx.kp_lots_of (T : Tx K w mg) : PySem.W.keepIn K (.ref (He.ga K "lots_of")) = true := He.keep_ok (T.fact 163)
theorem Tx.kp_lies_in (T : Tx K w mg) : PySem.W.keepIn K (.ref (He.ga K "lies_in")) = true := He.keep_ok (T.fact 164)
theorem Tx.kp_has_one_of (T : Tx K w mg) : PySem.W.keepIn K (.ref (He.ga K "has_one_of")) = true := He.keep_ok (T.fact 165)
theorem Tx.kp_least_bars (T : Tx K w mg) : PySem.W.keepIn K (.ref (He.ga K "least_bars")) = true := He.keep_ok (T.fact 166)
theorem Tx.kp_lightest (T : Tx K w mg) : PySem.W.keepIn K (.ref (He.ga K "lightest")) = true := He.keep_ok (T.fact 167)
theorem Tx.kp_numbered_on (T : Tx K w mg) : PySem.W.keepIn K (.ref (He.ga K "numbered_on")) = true := He.keep_ok (T.fact 168)
theorem Tx.kp_listed (T : Tx K w mg) : PySem.W.keepIn K (.ref (He.ga K "listed")) = true := He.keep_ok (T.fact 169)
theorem Tx.kp_written (T : Tx K w mg) : PySem.W.keepIn K (.ref (He.ga K "written")) = true := He.keep_ok (T.fact 170)
theorem Tx.kp_number_in (T : Tx K w mg) : PySem.W.keepIn K (.ref (He.ga K "number_in")) = true := He.keep_ok (T.fact 171)
theorem Tx.kp_signed_in (T : Tx K w mg) : PySem.W.keepIn K (.ref (He.ga K "signed_in")) = true := He.keep_ok (T.fact 172)
theorem Tx.kp_numbers_in (T : Tx K w mg) : PySem.W.keepIn K (.ref (He.ga K "numbers_in")) = true := He.keep_ok (T.fact 173)
theorem Tx.kp_read_as (T : Tx K w mg) : PySem.W.keepIn K (.ref (He.ga K "read_as")) = true := He.keep_ok (T.fact 174)
theorem Tx.kp_told_by (T : Tx K w mg) : PySem.W.keepIn K (.ref (He.ga K "told_by")) = true := He.keep_ok (T.fact 175)
theorem Tx.kp_shown_covering (T : Tx K w mg) : PySem.W.keepIn K (.ref (He.ga K "shown_covering")) = true := He.keep_ok (T.fact 176)
theorem Tx.kp_law_cell_at (T : Tx K w mg) : PySem.W.keepIn K (.ref (He.ga K "_law_cell_at")) = true := He.keep_ok (T.fact 177)
theorem Tx.kp_law_pot (T : Tx K w mg) : PySem.W.keepIn K (.ref (He.ga K "_law_pot")) = true := He.keep_ok (T.fact 178)
theorem Tx.kp_law_take (T : Tx K w mg) : PySem.W.keepIn K (.ref (He.ga K "_law_take")) = true := He.keep_ok (T.fact 179)
theorem Tx.kp_law_lot (T : Tx K w mg) : PySem.W.keepIn K (.ref (He.ga K "_law_lot")) = true := He.keep_ok (T.fact 180)
theorem Tx.kp_law_number (T : Tx K w mg) : PySem.W.keepIn K (.ref (He.ga K "_law_number")) = true := He.keep_ok (T.fact 181)
theorem Tx.kp_law_numbers (T : Tx K w mg) : PySem.W.keepIn K (.ref (He.ga K "_law_numbers")) = true := He.keep_ok (T.fact 182)
theorem Tx.kp_law_row_of (T : Tx K w mg) : PySem.W.keepIn K (.ref (He.ga K "_law_row_of")) = true := He.keep_ok (T.fact 183)
theorem Tx.kp_law_plain_deed (T : Tx K w mg) : PySem.W.keepIn K (.ref (He.ga K "_law_plain_deed")) = true := He.keep_ok (T.fact 184)
theorem Tx.kp_law_shop_word (T : Tx K w mg) : PySem.W.keepIn K (.ref (He.ga K "_law_shop_word")) = true := He.keep_ok (T.fact 185)
theorem Tx.kp_law_desk_told (T : Tx K w mg) : PySem.W.keepIn K (.ref (He.ga K "_law_desk_told")) = true := He.keep_ok (T.fact 186)
theorem Tx.kp_law_signed (T : Tx K w mg) : PySem.W.keepIn K (.ref (He.ga K "_law_signed")) = true := He.keep_ok (T.fact 187)
theorem Tx.kp_law_is_row (T : Tx K w mg) : PySem.W.keepIn K (.ref (He.ga K "_law_is_row")) = true := He.keep_ok (T.fact 188)
theorem Tx.kp_law_bent (T : Tx K w mg) : PySem.W.keepIn K (.ref (He.ga K "_law_bent")) = true := He.keep_ok (T.fact 189)
theorem Tx.kp_law (T : Tx K w mg) : PySem.W.keepIn K (.ref (He.ga K "law")) = true := He.keep_ok (T.fact 190)
theorem Tx.d_is_whole (T : Tx K w mg) : DefG K ("is_whole", none) "is_whole" "is_whole" s_is_whole ["thing"] := T.def_ 0 rfl rfl fun _ _ _ _ _ _ us hl => match us, hl with | [_], _ => rfl
theorem Tx.d_is_upto (T : Tx K w mg) : DefG K ("is_upto", none) "is_upto" "is_upto" s_is_upto ["thing", "least", "most"] := T.def_ 1 rfl rfl fun _ _ _ _ _ _ us hl => match us, hl with | [_, _, _], _ => rfl
theorem Tx.d_is_lot (T : Tx K w mg) : DefG K ("is_lot", none) "is_lot" "is_lot" s_is_lot ["thing", "many"] := T.def_ 2 rfl rfl fun _ _ _ _ _ _ us hl => match us, hl with | [_, _], _ => rfl
theorem Tx.d_is_weight (T : Tx K w mg) : DefG K ("is_weight", none) "is_weight" "is_weight" s_is_weight ["thing"] := T.def_ 3 rfl rfl fun _ _ _ _ _ _ us hl => match us, hl with | [_], _ => rfl
theorem Tx.d_mask_of (T : Tx K w mg) : DefG K ("mask_of", none) "mask_of" "mask_of" s_mask_of ["things"] := T.def_ 4 rfl rfl fun _ _ _ _ _ _ us hl => match us, hl with | [_], _ => rfl
theorem Tx.d_Ways_init (T : Tx K w mg) : DefG K ("Ways", some "__init__") "__init__" "Ways.__init__" s_Ways_init ["self", "box"] := T.def_ 5 rfl rfl fun _ _ _ _ _ _ us hl => match us, hl with | [_, _], _ => rfl
theorem Tx.d_Ways_next_steps (T : Tx K w mg) : DefG K ("Ways", some "next_steps") "next_steps" "Ways.next_steps" s_Ways_next_steps ["self", "thing", "covered"] := T.def_ 6 rfl rfl fun _ _ _ _ _ _ us hl => match us, hl with | [_, _, _], _ => rfl
theorem Tx.d_Ways_ways_from (T : Tx K w mg) : DefG K ("Ways", some "ways_from") "ways_from" "Ways.ways_from" s_Ways_ways_from ["self", "thing", "covered"] := T.def_ 7 rfl rfl fun _ _ _ _ _ _ us hl => match us, hl with | [_, _, _], _ => rfl
theorem Tx.d_many (T : Tx K w mg) : DefG K ("many", none) "many" "many" s_many ["box"] := T.def_ 8 rfl rfl fun _ _ _ _ _ _ us hl => match us, hl with | [_], _ => rfl
theorem Tx.d_covering_at (T : Tx K w mg) : DefG K ("covering_at", none) "covering_at" "covering_at" s_covering_at ["box", "number"] := T.def_ 9 rfl rfl fun _ _ _ _ _ _ us hl => match us, hl with | [_, _], _ => rfl
theorem Tx.d_narrowed (T : Tx K w mg) : DefG K ("narrowed", none) "narrowed" "narrowed" s_narrowed ["box", "lot"] := T.def_ 10 rfl rfl fun _ _ _ _ _ _ us hl => match us, hl with | [_, _], _ => rfl
theorem Tx.d_is_bar (T : Tx K w mg) : DefG K ("is_bar", none) "is_bar" "is_bar" s_is_bar ["box", "lot"] := T.def_ 11 rfl rfl fun _ _ _ _ _ _ us hl => match us, hl with | [_, _], _ => rfl
theorem Tx.d_lot_rank (T : Tx K w mg) : DefG K ("lot_rank", none) "lot_rank" "lot_rank" s_lot_rank ["lot"] := T.def_ 12 rfl rfl fun _ _ _ _ _ _ us hl => match us, hl with | [_], _ => rfl
theorem Tx.d_lots_of (T : Tx K w mg) : DefG K ("lots_of", none) "lots_of" "lots_of" s_lots_of ["box"] := T.def_ 13 rfl rfl fun _ _ _ _ _ _ us hl => match us, hl with | [_], _ => rfl
theorem Tx.d_lies_in (T : Tx K w mg) : DefG K ("lies_in", none) "lies_in" "lies_in" s_lies_in ["one", "other"] := T.def_ 14 rfl rfl fun _ _ _ _ _ _ us hl => match us, hl with | [_, _], _ => rfl
theorem Tx.d_has_one_of (T : Tx K w mg) : DefG K ("has_one_of", none) "has_one_of" "has_one_of" s_has_one_of ["lot", "others"] := T.def_ 15 rfl rfl fun _ _ _ _ _ _ us hl => match us, hl with | [_, _], _ => rfl
theorem Tx.d_least_bars (T : Tx K w mg) : DefG K ("least_bars", none) "least_bars" "least_bars" s_least_bars ["box"] := T.def_ 16 rfl rfl fun _ _ _ _ _ _ us hl => match us, hl with | [_], _ => rfl
theorem Tx.d_Light_init (T : Tx K w mg) : DefG K ("Light", some "__init__") "__init__" "Light.__init__" s_Light_init ["self", "box"] := T.def_ 17 rfl rfl fun _ _ _ _ _ _ us hl => match us, hl with | [_, _], _ => rfl
theorem Tx.d_Light_lightest_from (T : Tx K w mg) : DefG K ("Light", some "lightest_from") "lightest_from" "Light.lightest_from" s_Light_lightest_from ["self", "thing", "covered"] := T.def_ 18 rfl rfl fun _ _ _ _ _ _ us hl => match us, hl with | [_, _, _], _ => rfl
theorem Tx.d_Light_best_of (T : Tx K w mg) : DefG K ("Light", some "best_of") "best_of" "Light.best_of" s_Light_best_of ["self", "thing", "covered"] := T.def_ 19 rfl rfl fun _ _ _ _ _ _ us hl => match us, hl with | [_, _, _], _ => rfl
theorem Tx.d_lightest (T : Tx K w mg) : DefG K ("lightest", none) "lightest" "lightest" s_lightest ["box"] := T.def_ 20 rfl rfl fun _ _ _ _ _ _ us hl => match us, hl with | [_], _ => rfl
theorem Tx.d_numbered_on (T : Tx K w mg) : DefG K ("numbered_on", none) "numbered_on" "numbered_on" s_numbered_on ["lot", "gone"] := T.def_ 21 rfl rfl fun _ _ _ _ _ _ us hl => match us, hl with | [_, _], _ => rfl
theorem Tx.d_Shop_init (T : Tx K w mg) : DefG K ("Shop", some "__init__") "__init__" "Shop.__init__" s_Shop_init ["self"] := T.def_ 22 rfl rfl fun _ _ _ _ _ _ us hl => match us, hl with | [_], _ => rfl
theorem Tx.d_Shop_turn_to (T : Tx K w mg) : DefG K ("Shop", some "turn_to") "turn_to" "Shop.turn_to" s_Shop_turn_to ["self", "later"] := T.def_ 23 rfl rfl fun _ _ _ _ _ _ us hl => match us, hl with | [_, _], _ => rfl
theorem Tx.d_Shop_look_for_thing (T : Tx K w mg) : DefG K ("Shop", some "look_for_thing") "look_for_thing" "Shop.look_for_thing" s_Shop_look_for_thing ["self", "thing"] := T.def_ 24 rfl rfl fun _ _ _ _ _ _ us hl => match us, hl with | [_, _], _ => rfl
theorem Tx.d_Shop_put_thing (T : Tx K w mg) : DefG K ("Shop", some "put_thing") "put_thing" "Shop.put_thing" s_Shop_put_thing ["self", "must"] := T.def_ 25 rfl rfl fun _ _ _ _ _ _ us hl => match us, hl with | [_, _], _ => rfl
theorem Tx.d_Shop_put_piece (T : Tx K w mg) : DefG K ("Shop", some "put_piece") "put_piece" "Shop.put_piece" s_Shop_put_piece ["self", "held", "weight"] := T.def_ 26 rfl rfl fun _ _ _ _ _ _ us hl => match us, hl with | [_, _, _], _ => rfl
theorem Tx.d_Shop_turn_thing (T : Tx K w mg) : DefG K ("Shop", some "turn_thing") "turn_thing" "Shop.turn_thing" s_Shop_turn_thing ["self", "thing"] := T.def_ 27 rfl rfl fun _ _ _ _ _ _ us hl => match us, hl with | [_, _], _ => rfl
theorem Tx.d_Shop_take_piece (T : Tx K w mg) : DefG K ("Shop", some "take_piece") "take_piece" "Shop.take_piece" s_Shop_take_piece ["self", "piece"] := T.def_ 28 rfl rfl fun _ _ _ _ _ _ us hl => match us, hl with | [_, _], _ => rfl
theorem Tx.d_Shop_take_thing (T : Tx K w mg) : DefG K ("Shop", some "take_thing") "take_thing" "Shop.take_thing" s_Shop_take_thing ["self", "thing"] := T.def_ 29 rfl rfl fun _ _ _ _ _ _ us hl => match us, hl with | [_, _], _ => rfl
theorem Tx.d_Shop_undo (T : Tx K w mg) : DefG K ("Shop", some "undo") "undo" "Shop.undo" s_Shop_undo ["self"] := T.def_ 30 rfl rfl fun _ _ _ _ _ _ us hl => match us, hl with | [_], _ => rfl
theorem Tx.d_Shop_box (T : Tx K w mg) : DefG K ("Shop", some "box") "box" "Shop.box" s_Shop_box ["self"] := T.def_ 31 rfl rfl fun _ _ _ _ _ _ us hl => match us, hl with | [_], _ => rfl
theorem Tx.d_Shop_many (T : Tx K w mg) : DefG K ("Shop", some "many") "many" "Shop.many" s_Shop_many ["self"] := T.def_ 32 rfl rfl fun _ _ _ _ _ _ us hl => match us, hl with | [_], _ => rfl
theorem Tx.d_Shop_lightest (T : Tx K w mg) : DefG K ("Shop", some "lightest") "lightest" "Shop.lightest" s_Shop_lightest ["self"] := T.def_ 33 rfl rfl fun _ _ _ _ _ _ us hl => match us, hl with | [_], _ => rfl
theorem Tx.d_Shop_least_bars (T : Tx K w mg) : DefG K ("Shop", some "least_bars") "least_bars" "Shop.least_bars" s_Shop_least_bars ["self"] := T.def_ 34 rfl rfl fun _ _ _ _ _ _ us hl => match us, hl with | [_], _ => rfl
theorem Tx.d_listed (T : Tx K w mg) : DefG K ("listed", none) "listed" "listed" s_listed ["numbers"] := T.def_ 35 rfl rfl fun _ _ _ _ _ _ us hl => match us, hl with | [_], _ => rfl
theorem Tx.d_written (T : Tx K w mg) : DefG K ("written", none) "written" "written" s_written ["box"] := T.def_ 36 rfl rfl fun _ _ _ _ _ _ us hl => match us, hl with | [_], _ => rfl
theorem Tx.d_number_in (T : Tx K w mg) : DefG K ("number_in", none) "number_in" "number_in" s_number_in ["word"] := T.def_ 37 rfl rfl fun _ _ _ _ _ _ us hl => match us, hl with | [_], _ => rfl
theorem Tx.d_signed_in (T : Tx K w mg) : DefG K ("signed_in", none) "signed_in" "signed_in" s_signed_in ["word"] := T.def_ 38 rfl rfl fun _ _ _ _ _ _ us hl => match us, hl with | [_], _ => rfl
theorem Tx.d_numbers_in (T : Tx K w mg) : DefG K ("numbers_in", none) "numbers_in" "numbers_in" s_numbers_in ["word"] := T.def_ 39 rfl rfl fun _ _ _ _ _ _ us hl => match us, hl with | [_], _ => rfl
theorem Tx.d_read_as (T : Tx K w mg) : DefG K ("read_as", none) "read_as" "read_as" s_read_as ["form", "word"] := T.def_ 40 rfl rfl fun _ _ _ _ _ _ us hl => match us, hl with | [_, _], _ => rfl
theorem Tx.d_told_by (T : Tx K w mg) : DefG K ("told_by", none) "told_by" "told_by" s_told_by ["row"] := T.def_ 41 rfl rfl fun _ _ _ _ _ _ us hl => match us, hl with | [_], _ => rfl
theorem Tx.d_shown_covering (T : Tx K w mg) : DefG K ("shown_covering", none) "shown_covering" "shown_covering" s_shown_covering ["covering"] := T.def_ 42 rfl rfl fun _ _ _ _ _ _ us hl => match us, hl with | [_], _ => rfl
theorem Tx.d_Desk_init (T : Tx K w mg) : DefG K ("Desk", some "__init__") "__init__" "Desk.__init__" s_Desk_init ["self"] := T.def_ 43 rfl rfl fun _ _ _ _ _ _ us hl => match us, hl with | [_], _ => rfl
theorem Tx.d_Desk_say (T : Tx K w mg) : DefG K ("Desk", some "say") "say" "Desk.say" s_Desk_say ["self", "row"] := T.def_ 44 rfl rfl fun _ _ _ _ _ _ us hl => match us, hl with | [_, _], _ => rfl
theorem Tx.d_Desk_done (T : Tx K w mg) : DefG K ("Desk", some "done") "done" "Desk.done" s_Desk_done ["self", "told"] := T.def_ 45 rfl rfl fun _ _ _ _ _ _ us hl => match us, hl with | [_, _], _ => rfl
theorem Tx.d_Desk_answered (T : Tx K w mg) : DefG K ("Desk", some "answered") "answered" "Desk.answered" s_Desk_answered ["self", "told"] := T.def_ 46 rfl rfl fun _ _ _ _ _ _ us hl => match us, hl with | [_, _], _ => rfl
theorem Tx.d_law_cell_at (T : Tx K w mg) : DefG K ("_law_cell_at", none) "_law_cell_at" "_law_cell_at" s_law_cell_at ["script", "k"] := T.def_ 47 rfl rfl fun _ _ _ _ _ _ us hl => match us, hl with | [_, _], _ => rfl
theorem Tx.d_law_pot (T : Tx K w mg) : DefG K ("_law_pot", none) "_law_pot" "_law_pot" s_law_pot ["cell"] := T.def_ 48 rfl rfl fun _ _ _ _ _ _ us hl => match us, hl with | [_], _ => rfl
theorem Tx.d_law_take (T : Tx K w mg) : DefG K ("_law_take", none) "_law_take" "_law_take" s_law_take ["pot", "wide"] := T.def_ 49 rfl rfl fun _ _ _ _ _ _ us hl => match us, hl with | [_, _], _ => rfl
theorem Tx.d_law_lot (T : Tx K w mg) : DefG K ("_law_lot", none) "_law_lot" "_law_lot" s_law_lot ["pot", "wide"] := T.def_ 50 rfl rfl fun _ _ _ _ _ _ us hl => match us, hl with | [_, _], _ => rfl
theorem Tx.d_law_number (T : Tx K w mg) : DefG K ("_law_number", none) "_law_number" "_law_number" s_law_number ["word"] := T.def_ 51 rfl rfl fun _ _ _ _ _ _ us hl => match us, hl with | [_], _ => rfl
theorem Tx.d_law_numbers (T : Tx K w mg) : DefG K ("_law_numbers", none) "_law_numbers" "_law_numbers" s_law_numbers ["word"] := T.def_ 52 rfl rfl fun _ _ _ _ _ _ us hl => match us, hl with | [_], _ => rfl
theorem Tx.d_law_row_of (T : Tx K w mg) : DefG K ("_law_row_of", none) "_law_row_of" "_law_row_of" s_law_row_of ["deed"] := T.def_ 53 rfl rfl fun _ _ _ _ _ _ us hl => match us, hl with | [_], _ => rfl
theorem Tx.d_law_plain_deed (T : Tx K w mg) : DefG K ("_law_plain_deed", none) "_law_plain_deed" "_law_plain_deed" s_law_plain_deed ["pot", "box", "most"] := T.def_ 54 rfl rfl fun _ _ _ _ _ _ us hl => match us, hl with | [_, _, _], _ => rfl
theorem Tx.d_law_shop_word (T : Tx K w mg) : DefG K ("_law_shop_word", none) "_law_shop_word" "_law_shop_word" s_law_shop_word ["e"] := T.def_ 55 rfl rfl fun _ _ _ _ _ _ us hl => match us, hl with | [_], _ => rfl
theorem Tx.d_law_desk_told (T : Tx K w mg) : DefG K ("_law_desk_told", none) "_law_desk_told" "_law_desk_told" s_law_desk_told ["desk", "row"] := T.def_ 56 rfl rfl fun _ _ _ _ _ _ us hl => match us, hl with | [_, _], _ => rfl
theorem Tx.d_law_signed (T : Tx K w mg) : DefG K ("_law_signed", none) "_law_signed" "_law_signed" s_law_signed ["word"] := T.def_ 57 rfl rfl fun _ _ _ _ _ _ us hl => match us, hl with | [_], _ => rfl
theorem Tx.d_law_is_row (T : Tx K w mg) : DefG K ("_law_is_row", none) "_law_is_row" "_law_is_row" s_law_is_row ["row"] := T.def_ 58 rfl rfl fun _ _ _ _ _ _ us hl => match us, hl with | [_], _ => rfl
theorem Tx.d_law_bent (T : Tx K w mg) : DefG K ("_law_bent", none) "_law_bent" "_law_bent" s_law_bent ["pot", "row"] := T.def_ 59 rfl rfl fun _ _ _ _ _ _ us hl => match us, hl with | [_, _], _ => rfl
theorem Tx.d_law (T : Tx K w mg) : DefG K ("law", none) "law" "law" s_law ["script"] := T.def_ 60 rfl rfl fun _ _ _ _ _ _ us hl => match us, hl with | [_], _ => rfl
end
/-! ELib -/
/-! ### defs by their promises, callable -/
section
variable (P : Program) (w : World) (K : PySem.W.Frag) (mg : Str → Option Value) (base : Heap) (CX : CXT)
/-- a def that may be called by its name -/
structure Cal (k : Nat) (x : Str) (sp : Sp) : Prop where
  ex : ∃ (f : Addr) (fd : FuncData) (ps : List Str), FnOk P w K mg base CX k f fd ps sp ∧ mg x = some (.ref f) ∧ PySem.W.keepIn K (.ref f) = true ∧ Binds K fd ps []
/-- a method of the class at C -/
structure Met (k : Nat) (C : Addr) (m : Str) (sp : Sp) : Prop where
  ex : ∃ (f : Addr) (fd : FuncData) (ps : List Str), Cls K C ∧ Meth K C m f ∧ FnOk P w K mg base CX k f fd ps sp ∧ Binds K fd ps []
/-- a class that may be made by its name; sp: its __init__ -/
structure Mak (k : Nat) (x : Str) (C : Addr) (sp : Sp) : Prop where
  ex : ∃ (f : Addr) (fd : FuncData) (ps : List Str), Mk K C f ∧ FnOk P w K mg base CX k f fd ps sp ∧ mg x = some (.ref C) ∧ Binds K fd ps []
end
section
variable {P : Program} {w : World} {K : PySem.W.Frag} {mg : Str → Option Value} {base : Heap} {CX : CXT} {at_ : Str × Option Str} {x y q : Str} {st : Stmt} {ps N : List Str} {k : Nat} {sp : Sp} {C : Addr}
theorem DefG.ok0 (D : DefG K at_ x q st ps) (S : FnScope N ps (defScope st)) (len : ∀ vs H Q E, sp vs H Q E → vs.length = ps.length)
    (hbody : ∀ (cdv : Value) (A : Around) (outer : List Env) (s : Shared) (H : Hp) (vs : List V) (Q : VK) (E : XK), Room k (A.deeper (envOfC q (defScope st) s.heap.objs.size (He.fAd K at_) cdv)) → sp vs H Q E →
      ∃ t, PSs (cxOf CX0 P w K mg base N q (defScope st) (He.fAd K at_) cdv A outer s H E).nox (defBody st) t ∧ t { nx := fun _ H' => Q .non H', rt := Q } (start N vs) H) : FnOk P w K mg base CX0 (k + 1) (He.fAd K at_) (fdO K at_) ps sp := D.fn.ok S len hbody
theorem DefG.ok1 (D : DefG K at_ x q st ps) (S : FnScope N ps (defScope st)) (len : ∀ vs H Q E, sp vs H Q E → vs.length = ps.length)
    (hbody : ∀ (cdv : Value) (A : Around) (outer : List Env) (s : Shared) (H : Hp) (vs : List V) (Q : VK) (E : XK), Room k (A.deeper (envOfC q (defScope st) s.heap.objs.size (He.fAd K at_) cdv)) → sp vs H Q E →
      ∃ t, PSs (cxOf (L2.CX P w) P w K mg base N q (defScope st) (He.fAd K at_) cdv A outer s H E) (defBody st) t ∧ t { nx := fun _ H' => Q .non H', rt := Q } (start N vs) H) : FnOk P w K mg base (L2.CX P w) (k + 1) (He.fAd K at_) (fdO K at_) ps sp := D.fn.okX S len hbody
theorem DefG.cal (D : DefG K (x, none) x q st ps) (F : FnOk P w K mg base CX k (He.fAd K (x, none)) (fdO K (x, none)) ps sp) (g : mg y = some (.ref (He.ga K x))) (kp : PySem.W.keepIn K (.ref (He.ga K x)) = true) : Cal P w K mg base CX k y sp :=
  ⟨_, _, _, F, g, kp, D.bd⟩
theorem DefG.met (D : DefG K (x, some y) y q st ps) (F : FnOk P w K mg base CX k (He.fAd K (x, some y)) (fdO K (x, some y)) ps sp) (c : Cls K (He.ga K x)) (m : Meth K (He.ga K x) y (He.fAd K (x, some y))) : Met P w K mg base CX k (He.ga K x) y sp :=
  ⟨_, _, _, c, m, F, D.bd⟩
theorem DefG.mak (D : DefG K (x, some "__init__") "__init__" q st ps) (F : FnOk P w K mg base CX k (He.fAd K (x, some "__init__")) (fdO K (x, some "__init__")) ps sp) (M : Mk K (He.ga K x) (He.fAd K (x, some "__init__"))) (g : mg x = some (.ref (He.ga K x))) : Mak P w K mg base CX k x (He.ga K x) sp :=
  ⟨_, _, _, M, F, g, D.bd⟩
theorem Cal.imp {sp' : Sp} (c : Cal P w K mg base CX k x sp) (h : ∀ vs H Q E, sp' vs H Q E → sp vs H Q E) : Cal P w K mg base CX k x sp' := by
  obtain ⟨f, fd, ps, F, a⟩ := c.ex
  exact ⟨f, fd, ps, F.imp h, a⟩
theorem Met.imp {sp' : Sp} {m : Str} (c : Met P w K mg base CX k C m sp) (h : ∀ vs H Q E, sp' vs H Q E → sp vs H Q E) : Met P w K mg base CX k C m sp' := by
  obtain ⟨f, fd, ps, a, b, F, d⟩ := c.ex
  exact ⟨f, fd, ps, a, b, F.imp h, d⟩
end
/-! ### calls -/
section
variable {X : Cx} {k j : Nat} {C : Addr} {x m : Str} {sp : Sp} {p pos apos : Pos} {e o : Expr} {es : List Expr} {ta : TE} {t : TA} {E : XK} {CX : CXT}
theorem pe_cX (c : Cal X.prog X.w X.K X.mg X.base CX k x sp) (hr : Room j X.A) (hk : k ≤ j) (hg : Gl X x) (hx : Passes CX X E) (ha : PA X (e :: es) t)
    (hdb : (x == ("__debug__" : Str)) = false := by decide) (he : starEach (e :: es) X.env = (false, eval e X.env) :: starEach es X.env := by rfl) (hpl : (backTo pos (starEach es X.env)).any (·.1) = false := by rfl) :
    PE X (.Call (.Name x p) (e :: es) [] pos) (tCall sp [] E t) := by
  obtain ⟨f, fd, ps, F, hm, kp, b⟩ := c.ex
  exact pe_call F (hr.mono hk) hg hm kp b .nil hx ha hdb he hpl
theorem pe_c (c : Cal X.prog X.w X.K X.mg X.base CX0 k x sp) (hr : Room j X.A) (hk : k ≤ j) (hg : Gl X x) (ha : PA X (e :: es) t)
    (hdb : (x == ("__debug__" : Str)) = false := by decide) (he : starEach (e :: es) X.env = (false, eval e X.env) :: starEach es X.env := by rfl) (hpl : (backTo pos (starEach es X.env)).any (·.1) = false := by rfl) :
    PE X (.Call (.Name x p) (e :: es) [] pos) (tCall sp [] E0 t) := pe_cX c hr hk hg pass0 ha hdb he hpl
theorem pe_n (c : Mak X.prog X.w X.K X.mg X.base CX0 k x C sp) (hr : Room j X.A) (hk : k + 1 ≤ j) (hg : Gl X x) (ha : PA X (e :: es) t)
    (hdb : (x == ("__debug__" : Str)) = false := by decide) (he : starEach (e :: es) X.env = (false, eval e X.env) :: starEach es X.env := by rfl) (hpl : (backTo pos (starEach es X.env)).any (·.1) = false := by rfl) :
    PE X (.Call (.Name x p) (e :: es) [] pos) (tMake C sp [] E0 t) := by
  obtain ⟨f, fd, ps, M, F, hm, b⟩ := c.ex
  exact pe_make M F (hr.mono hk) hg hm b .nil pass0 ha hdb he hpl
theorem pe_n0 (c : Mak X.prog X.w X.K X.mg X.base CX0 k x C sp) (hr : Room j X.A) (hk : k + 1 ≤ j) (hg : Gl X x)
    (hdb : (x == ("__debug__" : Str)) = false := by decide) (hpl : (backTo pos (starEach [] X.env)).any (·.1) = false := by rfl) :
    PE X (.Call (.Name x p) [] [] pos) (tMake C sp [] E0 tNil) := by
  obtain ⟨f, fd, ps, M, F, hm, b⟩ := c.ex
  exact pe_make0 M F (hr.mono hk) hg hm b .nil pass0 hdb
theorem pe_mX {pl : Sem Bool} (c : Met X.prog X.w X.K X.mg X.base CX k C m sp) (hr : Room j X.A) (hk : k ≤ j) (hx : Passes CX X E) (he : PE X o ta) (ha : PA X (e :: es) t)
    (hst : starEach (e :: es) X.env = (false, eval e X.env) :: starEach es X.env := by rfl) (hpl : (backTo pos (starEach es X.env)).any (·.1) = false := by rfl)
    (ht : eval (.Call (.Attribute o m apos) (e :: es) [] pos) X.env = (do
      let ov ← eval o X.env
      standAt apos.atName
      let (f, first) ← holding [ov] (getMethod ov m pl)
      callWith pos f first (backTo pos (starEach (e :: es) X.env)) (backToKw pos (keywordEach [] X.env))) := by rfl) :
    PE X (.Call (.Attribute o m apos) (e :: es) [] pos) (tMeth C m sp [] E ta t) := by
  obtain ⟨f, fd, ps, hc, hm, F, b⟩ := c.ex
  exact pe_meth (pl := pl) he hc hm F (hr.mono hk) b .nil hx ha hst hpl ht
theorem pe_mX0 {pl : Sem Bool} (c : Met X.prog X.w X.K X.mg X.base CX k C m sp) (hr : Room j X.A) (hk : k ≤ j) (hx : Passes CX X E) (he : PE X o ta)
    (ht : eval (.Call (.Attribute o m apos) [] [] pos) X.env = (do
      let ov ← eval o X.env
      standAt apos.atName
      let (f, first) ← holding [ov] (getMethod ov m pl)
      callWith pos f first (backTo pos (starEach [] X.env)) (backToKw pos (keywordEach [] X.env))) := by rfl) :
    PE X (.Call (.Attribute o m apos) [] [] pos) (tMeth C m sp [] E ta tNil) := by
  obtain ⟨f, fd, ps, hc, hm, F, b⟩ := c.ex
  exact pe_meth0 (pl := pl) he hc hm F (hr.mono hk) b .nil hx ht
theorem pe_m {pl : Sem Bool} (c : Met X.prog X.w X.K X.mg X.base CX0 k C m sp) (hr : Room j X.A) (hk : k ≤ j) (he : PE X o ta) (ha : PA X (e :: es) t)
    (hst : starEach (e :: es) X.env = (false, eval e X.env) :: starEach es X.env := by rfl) (hpl : (backTo pos (starEach es X.env)).any (·.1) = false := by rfl)
    (ht : eval (.Call (.Attribute o m apos) (e :: es) [] pos) X.env = (do
      let ov ← eval o X.env
      standAt apos.atName
      let (f, first) ← holding [ov] (getMethod ov m pl)
      callWith pos f first (backTo pos (starEach (e :: es) X.env)) (backToKw pos (keywordEach [] X.env))) := by rfl) :
    PE X (.Call (.Attribute o m apos) (e :: es) [] pos) (tMeth C m sp [] E0 ta t) := pe_mX (pl := pl) c hr hk pass0 he ha hst hpl ht
theorem pe_m0 {pl : Sem Bool} (c : Met X.prog X.w X.K X.mg X.base CX0 k C m sp) (hr : Room j X.A) (hk : k ≤ j) (he : PE X o ta)
    (ht : eval (.Call (.Attribute o m apos) [] [] pos) X.env = (do
      let ov ← eval o X.env
      standAt apos.atName
      let (f, first) ← holding [ov] (getMethod ov m pl)
      callWith pos f first (backTo pos (starEach [] X.env)) (backToKw pos (keywordEach [] X.env))) := by rfl) :
    PE X (.Call (.Attribute o m apos) [] [] pos) (tMeth C m sp [] E0 ta tNil) := pe_mX0 (pl := pl) c hr hk pass0 he ht
/-- a name of the module, by its value -/
theorem pe_gc {v : V} (hg : Gl X x) (h : ∃ u, X.mg x = some u ∧ RelV v u) (hd : (x == ("__debug__" : Str)) = false := by decide) : PE X (.Name x pos) (tC v) := by
  obtain ⟨u, hm, r⟩ := h
  exact pe_glob hg hm r hd
end
/-! ### readings, step by step -/
section
variable {σ : L2.St} {H : Hp} {Q : VK} {ta tb tc te : TE} {t u : TT} {x y v : V} {D : Ends} {ts tu tw : TS} {i j : Int} {al ar : TA} {R : Bool → Hp → Prop} {L : List V → Hp → Prop}
theorem g_var {n : Nat} (h : σ[n]? = some (some v)) (q : Q v H) : tVar n σ H Q := ⟨v, h, q⟩
theorem g_c (q : Q v H) : tC v σ H Q := q
theorem g_op {r : R2} (q : ta σ H fun x H1 => tb σ H1 fun y H2 => r x y H2 Q) : tOp r ta tb σ H Q := q
theorem g_un {r : V → Hp → VK → Prop} (q : ta σ H fun x H1 => r x H1 Q) : tUn r ta σ H Q := q
theorem g_I0 {g : Int → Int → V} (q : Q (g i j) H) : rI0 g (.int i) (.int j) H Q := ⟨i, j, rfl, rfl, q⟩
theorem g_I {C : Int → Int → Prop} {g : Int → Int → V} (c : C i j) (q : Q (g i j) H) : rI C g (.int i) (.int j) H Q := ⟨i, j, rfl, rfl, c, q⟩
theorem g_U {g : Int → V} (q : Q (g i) H) : rU g (.int i) H Q := ⟨i, rfl, q⟩
theorem g_eq (c : scal x y = true) (q : Q (.bl (decide (x = y))) H) : rEq x y H Q := ⟨c, q⟩
theorem g_ne (c : scal x y = true) (q : Q (.bl (!decide (x = y))) H) : rNe x y H Q := ⟨c, q⟩
theorem g_test (q : te σ H fun x H' => ∃ k, x = .bl k ∧ R k H') : tTest te σ H R := q
theorem g_B (q : te σ H fun x H' => ∃ k, x = .bl k ∧ R k H') : tB te σ H R := q
theorem g_bl {R : Bool → Prop} {b : Bool} (q : R b) : ∃ k, V.bl b = .bl k ∧ R k := ⟨b, rfl, q⟩
theorem g_not (q : t σ H fun c H1 => R (!c) H1) : tNot t σ H R := q
theorem g_and (q : t σ H fun c H1 => if c = true then u σ H1 R else R false H1) : tAnd t u σ H R := q
theorem g_or (q : t σ H fun c H1 => if c = true then R true H1 else u σ H1 R) : tOr t u σ H R := q
theorem g_andV (q : ta σ H fun x H1 => ∃ c, x = .bl c ∧ if c = true then tb σ H1 Q else Q (.bl false) H1) : tAndV ta tb σ H Q := q
theorem g_orV (q : ta σ H fun x H1 => ∃ c, x = .bl c ∧ if c = true then Q (.bl true) H1 else tb σ H1 Q) : tOrV ta tb σ H Q := q
theorem g_notV (q : ta σ H fun x H1 => ∃ c, x = .bl c ∧ Q (.bl (!c)) H1) : tNotV ta σ H Q := q
theorem g_ifE (q : t σ H fun c H1 => if c = true then ta σ H1 Q else tb σ H1 Q) : tIf t ta tb σ H Q := q
theorem g_seq {n b c : L2.St → Hp → Prop} {r : VK} (q : ts ⟨tu ⟨n, r, b, c⟩, r, b, c⟩ σ H) : tSeq ts tu ⟨n, r, b, c⟩ σ H := q
theorem g_next {n b c : L2.St → Hp → Prop} {r : VK} (q : n σ H) : tNext ⟨n, r, b, c⟩ σ H := q
theorem g_ret {n b c : L2.St → Hp → Prop} {r : VK} (q : te σ H r) : tRet te ⟨n, r, b, c⟩ σ H := q
theorem g_asg {n b c : L2.St → Hp → Prop} {r : VK} {g : TG} (q : te σ H fun x H1 => g x σ H1 n) : tAsg te g ⟨n, r, b, c⟩ σ H := q
theorem g_drop {n b c : L2.St → Hp → Prop} {r : VK} (q : te σ H fun _ H1 => n σ H1) : tDrop te ⟨n, r, b, c⟩ σ H := q
theorem g_ifS (q : t σ H fun b H1 => if b = true then ts D σ H1 else tu D σ H1) : tIfS t ts tu D σ H := q
theorem g_name {n : Nat} {k : L2.St → Hp → Prop} (q : k (σ.set n (some v)) H) : gName n v σ H k := q
theorem g_nil (q : L [] H) : tNil σ H L := q
theorem g_cons (q : ta σ H fun x H1 => ar σ H1 fun xs H2 => L (x :: xs) H2) : tCons ta ar σ H L := q
theorem g_CB {r : List V → Hp → VK → Prop} (q : al σ H fun vs H1 => r vs H1 Q) : tCB r al σ H Q := q
theorem g_call {sp : Sp} {E : XK} (q : al σ H fun vs H1 => sp (vs ++ []) H1 Q E) : tCall sp [] E al σ H Q := q
theorem g_tup (q : al σ H fun xs H1 => xs.length ≤ sizeLine ∧ ∀ p, H1 p = none → Q (.ref p) (upd H1 p (.tup xs))) : tTup al σ H Q := q
theorem g_lst (q : al σ H fun xs H1 => xs.length ≤ sizeLine ∧ ∀ p, H1 p = none → Q (.ref p) (upd H1 p (.lst xs))) : tLst al σ H Q := q
theorem g_chain {r r' : R2} (q : ta σ H fun x H1 => tb σ H1 fun y H2 => r x y H2 fun z H3 => ∃ k, z = .bl k ∧ (if k = true then tc σ H3 fun w' H4 => r' y w' H4 Q else Q (.bl false) H3)) : tChain r r' ta tb tc σ H Q := q
theorem g_fld {K : PySem.W.Frag} {f : Str} (q : ta σ H fun x H1 => ∃ a C dx fs v, x = .ref a ∧ H1 a = some (.ins C dx fs) ∧ Cls K C ∧ NoAttr K C f ∧ fs.lookup f = some v ∧ Q v H1) : tFld K ta f σ H Q := q
theorem g_break {n b c : L2.St → Hp → Prop} {r : VK} (q : b σ H) : tBreak ⟨n, r, b, c⟩ σ H := q
theorem g_nx {f b c : L2.St → Hp → Prop} {r : VK} (q : f σ H) : Ends.nx ⟨f, r, b, c⟩ σ H := q
theorem g_rt {f b c : L2.St → Hp → Prop} {r : VK} (q : r v H) : Ends.rt ⟨f, r, b, c⟩ v H := q
theorem g_bk {f b c : L2.St → Hp → Prop} {r : VK} (q : b σ H) : Ends.bk ⟨f, r, b, c⟩ σ H := q
theorem g_slice {r : V → Option Int → Option Int → Hp → VK → Prop} {tl th : TO} (q : te σ H fun x H1 => tl σ H1 fun lo H2 => th σ H2 fun hi H3 => r x lo hi H3 Q) : tSl r te tl th σ H Q := q
theorem g_part {R : Option Int → Hp → Prop} (q : te σ H fun x H1 => ∃ i, x = .int i ∧ R (some i) H1) : tPart te σ H R := q
theorem g_nopart {R : Option Int → Hp → Prop} (q : R none H) : tNoPart σ H R := q
theorem g_dec {p : Prop} [Decidable p] {A B : Prop} (h1 : p → A) (h2 : ¬ p → B) : if decide p = true then A else B := by
  by_cases h : p
  · rw [if_pos (decide_eq_true h)]
    exact h1 h
  · rw [if_neg (by rw [decide_eq_false h]; exact Bool.false_ne_true)]
    exact h2 h
theorem g_ndec {p : Prop} [Decidable p] {A B : Prop} (h1 : ¬ p → A) (h2 : p → B) : if (!decide p) = true then A else B := by
  by_cases h : p
  · rw [decide_eq_true h]
    exact iteF (h2 h)
  · rw [decide_eq_false h]
    exact iteT (h1 h)
theorem g_nt {A B : Prop} (h : B) : if (!true) = true then A else B := iteF h
theorem g_nf {A B : Prop} (h : A) : if (!false) = true then A else B := iteT h
theorem g_b {b : Bool} {A B : Prop} (h1 : b = true → A) (h2 : b = false → B) : if b = true then A else B := by
  cases b with
  | true => exact iteT (h1 rfl)
  | false => exact iteF (h2 rfl)
theorem g_nb {b : Bool} {A B : Prop} (h1 : b = false → A) (h2 : b = true → B) : if (!b) = true then A else B := by
  cases b with
  | true => exact iteF (h2 rfl)
  | false => exact iteT (h1 rfl)
end
/-! ### attributes of an instance -/
theorem lk_here {k : Str} {v : V} {r : List (Str × V)} : List.lookup k ((k, v) :: r) = some v := by
  have e : (k == k) = true := beq_self_eq_true k
  simp only [List.lookup, e]
theorem lk_past {k g : Str} {v : V} {r : List (Str × V)} (h : (k == g) = false) : List.lookup k ((g, v) :: r) = List.lookup k r := by
  simp only [List.lookup, h]
theorem put_here {f : Str} {v x : V} {r : List (Str × V)} : putF f v ((f, x) :: r) = (f, v) :: r := if_pos rfl
theorem put_past {f g : Str} {v x : V} {r : List (Str × V)} (h : ¬ g = f) : putF f v ((g, x) :: r) = (g, x) :: putF f v r := if_neg h
/-! ### the tuples stand, whatever is done -/
def TupEx (H H' : Hp) : Prop := ∀ a xs, H a = some (.tup xs) → H' a = some (.tup xs)
theorem TupEx.refl (H : Hp) : TupEx H H := fun _ _ h => h
theorem TupEx.trans {H H1 H2 : Hp} (a : TupEx H H1) (b : TupEx H1 H2) : TupEx H H2 := fun c o h => b c o (a c o h)
theorem Same.tups {H H' : Hp} (s : Same H H') : TupEx H H' := fun a _ h => s a _ h
theorem Same.new {H : Hp} {p : Addr} {o : HO} (h : H p = none) : Same H (upd H p o) := fun a u e => by
  rw [upd_ne (ne_of_none e h)]
  exact e
theorem Same.mut {H H' : Hp} {p : Addr} {o : HO} (e : Same H H') (h : H p = none) : Same H (upd H' p o) := fun a u ha => by
  rw [upd_ne (ne_of_none ha h)]
  exact e a u ha
theorem Same.newer {H H' : Hp} {p : Addr} {o : HO} (e : Same H H') (h : H' p = none) : Same H (upd H' p o) := e.trans (Same.new h)
theorem TupEx.new {H : Hp} {p : Addr} {o : HO} (h : H p = none) : TupEx H (upd H p o) := Same.tups (Same.new h)
theorem sz_of {n : Nat} (h : n ≤ 100000) : n ≤ sizeLine := Nat.le_trans h (by decide)
theorem sz_lt {n : Nat} (h : n < 100000) : n < sizeLine := Nat.lt_of_lt_of_le h (by decide)
local macro_rules | `(tactic| walk_at "g1") => `(tactic| first
  | with_reducible refine Eo.g_seq ?_
  | with_reducible refine Eo.g_asg ?_
  | with_reducible refine Eo.g_name ?_
  | with_reducible refine Eo.g_ret ?_
  | with_reducible refine Eo.g_ifS ?_
  | with_reducible refine Eo.g_drop ?_
  | with_reducible refine Eo.g_next ?_
  | with_reducible refine Eo.g_break ?_
  | ((with_reducible refine' Eo.g_var ?gh ?_); (case gh => rfl))
  | with_reducible refine Eo.g_c ?_
  | with_reducible refine Eo.g_op ?_
  | with_reducible refine Eo.g_un ?_
  | with_reducible refine Eo.g_I0 ?_
  | with_reducible refine Eo.g_U ?_
  | ((with_reducible refine' Eo.g_eq ?gh ?_); (case gh => rfl))
  | ((with_reducible refine' Eo.g_ne ?gh ?_); (case gh => rfl))
  | with_reducible refine Eo.g_test ?_
  | with_reducible refine Eo.g_B ?_
  | with_reducible refine Eo.g_bl ?_
  | with_reducible refine Eo.g_not ?_
  | with_reducible refine Eo.g_and ?_
  | with_reducible refine Eo.g_or ?_
  | with_reducible refine Eo.g_andV ?_
  | with_reducible refine Eo.g_orV ?_
  | with_reducible refine Eo.g_notV ?_
  | with_reducible refine Eo.g_ifE ?_
  | with_reducible refine L2.iteT ?_
  | with_reducible refine Eo.g_nt ?_
  | with_reducible refine Eo.g_nf ?_
  | with_reducible refine L2.iteF ?_
  | with_reducible refine Eo.g_nil ?_
  | with_reducible refine Eo.g_cons ?_
  | with_reducible refine Eo.g_CB ?_
  | with_reducible refine Eo.g_call ?_
  | with_reducible refine Eo.g_tup ?_
  | with_reducible refine Eo.g_lst ?_
  | with_reducible refine Eo.g_fld ?_
  | with_reducible refine Eo.g_chain ?_
  | with_reducible refine Eo.g_slice ?_
  | with_reducible refine Eo.g_part ?_
  | with_reducible refine Eo.g_nopart ?_
  | with_reducible refine Eo.g_nx ?_
  | with_reducible refine Eo.g_rt ?_
  | with_reducible refine Eo.g_bk ?_)
local macro_rules | `(tactic| walk_at "g") => `(tactic| repeat (walk_at "g1"))
/-! EBox -/
/-! ### lots -/
def Lot (n : Int) (l : List Int) : Prop := l.Pairwise (· < ·) ∧ ∀ x ∈ l, 0 ≤ x ∧ x < n
/-- is_lot's loop -/
def lotB (n : Int) : Int → List Int → Bool
  | _, [] => true
  | last, x :: r => if x ≤ last ∨ n ≤ x then false else lotB n x r
theorem lotB_cons (n last x : Int) (r : List Int) : lotB n last (x :: r) = if x ≤ last ∨ n ≤ x then false else lotB n x r := rfl
theorem lotB_iff (n : Int) : ∀ (l : List Int) (last : Int), lotB n last l = true ↔ l.Pairwise (· < ·) ∧ ∀ x ∈ l, last < x ∧ x < n
  | [], last => by simp [lotB]
  | x :: r, last => by
    unfold lotB
    by_cases c : x ≤ last ∨ n ≤ x
    · rw [if_pos c]
      constructor
      · intro h; cases h
      · rintro ⟨_, h⟩
        have := h x (List.mem_cons_self)
        omega
    · rw [if_neg c, lotB_iff n r x, List.pairwise_cons]
      constructor
      · rintro ⟨h1, h2⟩
        refine ⟨⟨fun y hy => (h2 y hy).1, h1⟩, fun y hy => ?_⟩
        rcases List.mem_cons.mp hy with rfl | hy
        · omega
        · have := h2 y hy; omega
      · rintro ⟨⟨h1, h2⟩, h3⟩
        exact ⟨h2, fun y hy => ⟨h1 y hy, (h3 y (List.mem_cons_of_mem _ hy)).2⟩⟩
theorem lotB_lot {n : Int} {l : List Int} : lotB n (-1) l = true ↔ Lot n l := by
  rw [lotB_iff]
  refine ⟨fun h => ⟨h.1, fun x hx => ?_⟩, fun h => ⟨h.1, fun x hx => ?_⟩⟩
  · have := h.2 x hx; omega
  · have := h.2 x hx; omega
/-! ### promises -/
def spWhole : Sp := fun vs H Q _ => ∃ i, vs = [.int i] ∧ Q (.bl true) H
def spUpto : Sp := fun vs H Q _ => ∃ i a b, vs = [.int i, .int a, .int b] ∧ Q (.bl (decide (a ≤ i) && decide (i ≤ b))) H
def spLot : Sp := fun vs H Q _ => ∃ (p : Addr) (l : List Int) (n : Int), vs = [.ref p, .int n] ∧ H p = some (.tup (l.map V.int)) ∧ Q (.bl (lotB n (-1) l)) H
def spWeight : Sp := fun vs H Q _ => ∃ i, vs = [.int i] ∧ Q (.bl (decide (-1000000000000 ≤ i) && decide (i ≤ 1000000000000))) H
section
variable {P : Program} {w : World} {K : PySem.W.Frag} {mg : Str → Option Value} {base : Heap}
theorem boot_isi : bootBuiltins "isinstance" = some (.builtin "isinstance") := by decide +kernel
theorem kit_int_int : PySem.W.kitOne K (.type "int") (.type "int") = some true := kit_ty (by decide +kernel)
theorem kit_int_bool : PySem.W.kitOne K (.type "int") (.type "bool") = some false := kit_ty (by decide +kernel)
theorem kit_tup_tup : PySem.W.kitOne K (.type "tuple") (.type "tuple") = some true := kit_ty (by decide +kernel)
theorem sc_is_whole : FnScope ["thing"] ["thing"] (defScope s_is_whole) := ⟨rfl, rfl, rfl, by decide +kernel, rfl, by decide +kernel, by decide +kernel⟩
theorem c_is_whole (T : Tx K w mg) : Cal P w K mg base CX0 1 "is_whole" spWhole := by
  refine T.d_is_whole.cal (T.d_is_whole.ok0 sc_is_whole ?_ fun cdv A outer s H vs Q E hr h => ?_) T.g_is_whole T.kp_is_whole
  · rintro vs H Q E ⟨i, rfl, _⟩
    rfl
  · obtain ⟨i, rfl, q⟩ := h
    refine ⟨_, pss_one (ps_ret (pe_and (pe_callB call_isi (by rfl) T.z_isinstance boot_isi (pa_cons (pv 0) (pa_cons (pe_bltn (v := .ty "int") (by rfl) T.z_int (by decide +kernel) rfl) pa_nil)))
      (pe_one (pe_not (pe_callB call_isi (by rfl) T.z_isinstance boot_isi (pa_cons (pv 0) (pa_cons (pe_bltn (v := .ty "bool") (by rfl) T.z_bool (by decide +kernel) rfl) pa_nil))))))), ?_⟩
    walk_at "g"
    refine ⟨_, _, _, _, _, rfl, .ty _, .base (.int i), kit_int_int, ?_⟩
    walk_at "g"
    refine ⟨_, _, _, _, _, rfl, .ty _, .base (.int i), kit_int_bool, ?_⟩
    walk_at "g"
    exact q
theorem sc_is_upto : FnScope ["thing", "least", "most"] ["thing", "least", "most"] (defScope s_is_upto) := ⟨rfl, rfl, rfl, by decide +kernel, rfl, by decide +kernel, by decide +kernel⟩
theorem c_is_upto (T : Tx K w mg) : Cal P w K mg base CX0 2 "is_upto" spUpto := by
  have c1 : Cal P w K mg base CX0 1 "is_whole" spWhole := c_is_whole T
  refine T.d_is_upto.cal (T.d_is_upto.ok0 sc_is_upto ?_ fun cdv A outer s H vs Q E hr h => ?_) T.g_is_upto T.kp_is_upto
  · rintro vs H Q E ⟨i, a, b, rfl, _⟩
    rfl
  · obtain ⟨i, a, b, rfl, q⟩ := h
    refine ⟨_, pss_one (ps_ret (pe_and (pe_c c1 hr (by decide) (by rfl) (pa_cons (pv 0) pa_nil)) (pe_one (pe_chain op_le op_le (pv 1) (pv 0) (pv 2))))), ?_⟩
    walk_at "g"
    refine ⟨_, rfl, ?_⟩
    walk_at "g"
    refine g_dec (fun h => ?_) (fun h => ?_)
    · rw [decide_eq_true h] at q
      walk_at "g"
      exact q
    · rw [decide_eq_false h] at q
      exact q
theorem sc_is_lot : FnScope ["thing", "many", "last", "one"] ["thing", "many"] (defScope s_is_lot) := ⟨rfl, rfl, rfl, by decide +kernel, rfl, by decide +kernel, by decide +kernel⟩
theorem c_is_lot (T : Tx K w mg) : Cal P w K mg base CX0 2 "is_lot" spLot := by
  have c1 : Cal P w K mg base CX0 1 "is_whole" spWhole := c_is_whole T
  refine T.d_is_lot.cal (T.d_is_lot.ok0 sc_is_lot ?_ fun cdv A outer s H vs Q E hr h => ?_) T.g_is_lot T.kp_is_lot
  · rintro vs H Q E ⟨p, l, n, rfl, _⟩
    rfl
  · obtain ⟨p, l, n, rfl, hp, q⟩ := h
    refine ⟨_, pss_cons (ps_if (pt_not (pt_val (pe_callB call_isi (by rfl) T.z_isinstance boot_isi (pa_cons (pv 0) (pa_cons (pe_bltn (v := .ty "tuple") (by rfl) T.z_tuple (by decide +kernel) rfl) pa_nil))))) (pss_one (ps_ret pe_bl)) pss_nil)
      (pss_cons (ps_set (i := 2) sc_is_lot.nd rfl (.inl rfl) (pe_un un_neg pe_int))
      (pss_cons (ps_for PassesOwn.never rfl (pi_tup (pv 0)) (pg_name (i := 3) sc_is_lot.nd rfl (.inl rfl))
        (pss_cons (ps_if (PW.pt (pw_or (pt_not (pt_val (pe_c c1 hr (by decide) (by rfl) (pa_cons (pv 3) pa_nil)))) (pw_or (pt_cmpR op_le (pv 3) (pv 2) (nomark _)) (pw_or1 (pt_cmpR op_ge (pv 3) (pv 1) (nomark _)))))) (pss_one (ps_ret pe_bl)) pss_nil)
          (pss_one (ps_set (i := 2) sc_is_lot.nd rfl (.inl rfl) (pv 3)))))
      (pss_one (ps_ret pe_bl)))), ?_⟩
    walk_at "g"
    refine ⟨_, _, _, _, _, rfl, .ty _, .base (.tup hp), kit_tup_tup, ?_⟩
    walk_at "g"
    refine ⟨_, rfl, p, rfl, ⟨_, SqT.of hp⟩, for_tup (K := K) (a := p) (xs := l.map V.int) (fun i σ H' => ∃ (z : Int) (v : Option V), σ = [some (.ref p), some (.int n), some (.int z), v] ∧ H' = H ∧ lotB n z (l.drop i) = lotB n (-1) l)
      ⟨-1, none, rfl, rfl, rfl⟩ (fun i σ H' _ ⟨_, _, _, e, _⟩ => by rw [e]; exact SqT.of hp) ?_ ?_⟩
    · rintro i y σ H' hi ⟨z, v, rfl, rfl, e⟩
      obtain ⟨x, hx, rfl⟩ : ∃ x, l[i]? = some x ∧ y = V.int x := by
        rw [List.getElem?_map] at hi
        cases e : l[i]? with
        | none => rw [e] at hi; cases hi
        | some x => rw [e] at hi; exact ⟨x, rfl, (Option.some.inj hi).symm⟩
      obtain ⟨hlt, hx2⟩ := List.getElem?_eq_some_iff.mp hx
      have ed : l.drop i = x :: l.drop (i + 1) := by rw [← hx2]; exact List.drop_eq_getElem_cons hlt
      rw [ed, lotB_cons] at e
      walk_at "g"
      refine ⟨_, rfl, ?_⟩
      walk_at "g"
      refine g_dec (fun h => ?_) (fun h => ?_)
      · walk_at "g"
        rw [if_pos (.inl h)] at e
        rw [← e] at q
        exact q
      · walk_at "g"
        refine g_dec (fun h2 => ?_) (fun h2 => ?_)
        · walk_at "g"
          rw [if_pos (.inr h2)] at e
          rw [← e] at q
          exact q
        · walk_at "g"
          rw [if_neg (by omega)] at e
          exact ⟨x, _, rfl, rfl, e⟩
    · rintro σ H' ⟨z, v, rfl, rfl, e⟩
      rw [List.length_map, List.drop_length] at e
      walk_at "g"
      rw [← e] at q
      exact q
theorem sc_is_weight : FnScope ["thing"] ["thing"] (defScope s_is_weight) := ⟨rfl, rfl, rfl, by decide +kernel, rfl, by decide +kernel, by decide +kernel⟩
theorem c_is_weight (T : Tx K w mg) : Cal P w K mg base CX0 3 "is_weight" spWeight := by
  have c1 : Cal P w K mg base CX0 2 "is_upto" spUpto := c_is_upto T
  refine T.d_is_weight.cal (T.d_is_weight.ok0 sc_is_weight ?_ fun cdv A outer s H vs Q E hr h => ?_) T.g_is_weight T.kp_is_weight
  · rintro vs H Q E ⟨i, rfl, _⟩
    rfl
  · obtain ⟨i, rfl, q⟩ := h
    refine ⟨_, pss_one (ps_ret (pe_c c1 hr (by decide) (by rfl) (pa_cons (pv 0) (pa_cons (pe_op op_sub pe_int (pe_gc (by rfl) T.i_MOST_WEIGHT)) (pa_cons (pe_gc (by rfl) T.i_MOST_WEIGHT) pa_nil))))), ?_⟩
    walk_at "g"
    exact ⟨_, _, _, rfl, q⟩
end
/-! EMath -/
/-! ### lists -/
theorem map_at {α β : Type} {f : α → β} {l : List α} {i : Nat} {y : β} (h : (l.map f)[i]? = some y) : ∃ x, l[i]? = some x ∧ y = f x := by
  rw [List.getElem?_map] at h
  cases e : l[i]? with
  | none => rw [e] at h; cases h
  | some x => rw [e] at h; exact ⟨x, rfl, (Option.some.inj h).symm⟩
theorem drop_at {α : Type} {l : List α} {i : Nat} {x : α} (h : l[i]? = some x) : l.drop i = x :: l.drop (i + 1) := by
  obtain ⟨hlt, e⟩ := List.getElem?_eq_some_iff.mp h
  rw [← e]
  exact List.drop_eq_getElem_cons hlt
theorem take_at {α : Type} {l : List α} {i : Nat} {x : α} (h : l[i]? = some x) : l.take (i + 1) = l.take i ++ [x] := by
  rw [List.take_add_one, h]
  rfl
theorem at_lt {α : Type} {l : List α} {i : Nat} {x : α} (h : l[i]? = some x) : i < l.length := (List.getElem?_eq_some_iff.mp h).1
theorem ati {α : Type} {xs : List α} {i : Int} {v : α} (h0 : 0 ≤ i) (h : xs[i.toNat]? = some v) : atI xs i = some v := by
  have e := atI_nat h
  rwa [Int.toNat_of_nonneg h0] at e
theorem at0 {α : Type} {xs : List α} {v : α} (h : xs[0]? = some v) : atI xs 0 = some v := ati (i := 0) (by decide) h
theorem at1 {α : Type} {xs : List α} {v : α} (h : xs[1]? = some v) : atI xs 1 = some v := ati (i := 1) (by decide) h
theorem at2 {α : Type} {xs : List α} {v : α} (h : xs[2]? = some v) : atI xs 2 = some v := ati (i := 2) (by decide) h
/-- a comprehension that only makes new things -/
theorem lc_gen {J : It} {n : Nat} {G : Hp → Prop} {Y : Nat → Hp → V → Hp → Prop} (w : Walk J n G Y) {g : TG} {tt : TT} {te : TE} {vs : List Nat} {σ : L2.St} {H1 : Hp} {D : Addr} {Qd : Hp → Prop} (hD : H1 D = none) (hn : n ≤ 100000)
    (R : Nat → List V → Hp → Prop) (h0 : R 0 [] (upd H1 D (.lst []))) (hG : ∀ H, Same H1 H → G H)
    (hs : ∀ i x acc H H', i < n → Same H1 H → H D = some (.lst acc) → R i acc H → Y i H x H' → ∀ (Qc : V → Hp → Prop) (Qn : Hp → Prop), (∀ y H4, Same H H4 → R (i + 1) (acc ++ [y]) (upd H4 D (.lst (acc ++ [y]))) → Qc y H4) → (∀ H4, Same H H4 → R (i + 1) acc H4 → Qn H4) →
      g x (wipe σ vs) H' fun σ2 H2 => wipe σ2 vs = wipe σ vs ∧ tt σ2 H2 fun b H3 => if b = true then te σ2 H3 Qc else Qn H3)
    (hd : ∀ acc H, Same H1 H → H D = some (.lst acc) → R n acc H → Qd H) :
    ∃ W : Nat → Nat → Hp → Prop, (∃ m, W 0 m (upd H1 D (.lst []))) ∧ ∀ i m H, W i m H →
      (J.stop i H ∧ Qd H) ∨ (J.go i H ∧ ∃ Nx : Hp → Prop, (∀ H', Nx H' → ∃ m', m' < m ∧ W (i + 1) m' H') ∧ ∀ x H', J.yld i H x H' → g x (wipe σ vs) H' fun σ2 H2 => wipe σ2 vs = wipe σ vs ∧ tt σ2 H2 fun b H3 =>
        if b = true then te σ2 H3 fun y H4 => ∃ acc, H4 D = some (.lst acc) ∧ acc.length < sizeLine ∧ Nx (upd H4 D (.lst (acc ++ [y]))) else Nx H3) := by
  refine lc_it w (fun i H => ∃ acc, Same H1 H ∧ H D = some (.lst acc) ∧ acc.length ≤ i ∧ R i acc H) ⟨[], fun b o e => by rw [upd_ne (ne_of_none e hD)]; exact e, upd_same, Nat.le_refl _, h0⟩ (fun i H _ ⟨_, s, _⟩ => hG H s) ?_ ?_
  · rintro i x H H' hi ⟨acc, s, d, hl, r⟩ y
    refine hs i x acc H H' hi s d r y _ _ (fun z H4 s4 r4 => ⟨acc, s4 D _ d, Nat.lt_of_le_of_lt (Nat.le_trans hl (Nat.le_trans (Nat.le_of_lt hi) hn)) (by decide), acc ++ [z], fun b o e => ?_, upd_same, ?_, r4⟩) (fun H4 s4 r4 => ⟨acc, s.trans s4, s4 D _ d, Nat.le_succ_of_le hl, r4⟩)
    · rw [upd_ne (ne_of_none e hD)]
      exact s4 b o (s b o e)
    · rw [List.length_append]
      exact Nat.add_le_add_right hl 1
  · rintro H ⟨acc, s, d, _, r⟩
    exact hd acc H s d r
/-- a comprehension without an if, all of whose items are known ahead -/
theorem lc_map {J : It} {n : Nat} {G : Hp → Prop} {Y : Nat → Hp → V → Hp → Prop} (w : Walk J n G Y) {g : TG} {te : TE} {vs : List Nat} {σ : L2.St} {H1 : Hp} {D : Addr} {Qd : Hp → Prop} (hD : H1 D = none) (hn : n ≤ 100000)
    (os : List V) (hl : os.length = n) (hG : ∀ H, Same H1 H → G H)
    (hs : ∀ i x o H H', i < n → Same H1 H → os[i]? = some o → Y i H x H' → ∀ Qc : V → Hp → Prop, (∀ H4, Same H H4 → Qc o H4) → g x (wipe σ vs) H' fun σ2 H2 => wipe σ2 vs = wipe σ vs ∧ te σ2 H2 Qc)
    (hd : ∀ H, Same H1 H → H D = some (.lst os) → Qd H) :
    ∃ W : Nat → Nat → Hp → Prop, (∃ m, W 0 m (upd H1 D (.lst []))) ∧ ∀ i m H, W i m H →
      (J.stop i H ∧ Qd H) ∨ (J.go i H ∧ ∃ Nx : Hp → Prop, (∀ H', Nx H' → ∃ m', m' < m ∧ W (i + 1) m' H') ∧ ∀ x H', J.yld i H x H' → g x (wipe σ vs) H' fun σ2 H2 => wipe σ2 vs = wipe σ vs ∧ tYes σ2 H2 fun b H3 =>
        if b = true then te σ2 H3 fun y H4 => ∃ acc, H4 D = some (.lst acc) ∧ acc.length < sizeLine ∧ Nx (upd H4 D (.lst (acc ++ [y]))) else Nx H3) := by
  refine lc_gen w hD hn (fun i acc _ => acc = os.take i) (by simp) hG (fun i x acc H H' hi s d r y Qc Qn kc kn => ?_) (fun acc H s d r => ?_)
  · have hi2 : i < os.length := by omega
    have ho : os[i]? = some os[i] := by simp [hi2]
    have e : (fun (σ2 : L2.St) (H2 : Hp) => wipe σ2 vs = wipe σ vs ∧ tYes σ2 H2 fun b H3 => if b = true then te σ2 H3 Qc else Qn H3) = fun σ2 H2 => wipe σ2 vs = wipe σ vs ∧ te σ2 H2 Qc := by
      funext σ2 H2
      exact congrArg (fun p => wipe σ2 vs = wipe σ vs ∧ p) (show (if true = true then te σ2 H2 Qc else Qn H2) = te σ2 H2 Qc from if_pos rfl)
    rw [e]
    exact hs i x _ H H' hi s ho y Qc fun H4 s4 => kc _ H4 s4 (by rw [r]; exact (take_at ho).symm)
  · refine hd H s ?_
    rw [d, r, ← hl, List.take_length]
/-! ### numbers as texts -/
abbrev sg (x : Str) : List Nat := x.cps.toList
def isDig (c : Nat) : Bool := decide (48 ≤ c) && decide (c ≤ 57)
/-- the figures of a number from 0 on, at most thirteen, without a nought ahead -/
def numOk (a : List Nat) : Bool := decide (1 ≤ a.length ∧ a.length ≤ 13) && (!(decide (a.head? = some 48 ∧ a ≠ [48])) && a.all isDig)
def numberIn (x : Str) : Option Int := if numOk (sg x) = true then some ((NumText.digitsVal (sg x) : Nat) : Int) else none
def optI : Option Int → V
  | none => .non
  | some i => .int i
theorem optI_none {o : Option Int} : decide (optI o = V.non) = !o.isSome := by
  cases o with
  | none => rfl
  | some i => rfl
def strI (i : Int) : Str := Str.ofString (toString i)
theorem all_dig {a : List Nat} (h : a.all isDig = true) : NumText.AllDigits a := fun c hc => by
  have z := List.all_eq_true.mp h c hc
  unfold isDig at z
  rw [Bool.and_eq_true, decide_eq_true_eq, decide_eq_true_eq] at z
  exact z
theorem digitsVal_lt : ∀ (a : List Nat) (k : Nat), NumText.AllDigits a → a.foldl (fun acc c => acc * 10 + (c - 48)) k < (k + 1) * 10 ^ a.length
  | [], k, _ => by simp
  | c :: r, k, h => by
    have hc := h.head
    have ih := digitsVal_lt r (k * 10 + (c - 48)) h.tail
    rw [List.foldl_cons, List.length_cons]
    refine Nat.lt_of_lt_of_le ih ?_
    rw [Nat.pow_succ, Nat.mul_comm (10 ^ r.length) 10, ← Nat.mul_assoc]
    refine Nat.mul_le_mul_right _ ?_
    omega
theorem numberIn_bd {x : Str} {i : Int} (h : numberIn x = some i) : 0 ≤ i ∧ i < 10000000000000 := by
  unfold numberIn at h
  split at h
  · rename_i hk
    have e := Option.some.inj h
    unfold numOk at hk
    rw [Bool.and_eq_true, Bool.and_eq_true, decide_eq_true_eq] at hk
    have hd := all_dig hk.2.2
    have b := digitsVal_lt (sg x) 0 hd
    have b2 : 10 ^ (sg x).length ≤ 10 ^ 13 := Nat.pow_le_pow_right (by decide) hk.1.2
    rw [Nat.zero_add, Nat.one_mul] at b
    have b3 : NumText.digitsVal (sg x) < 10 ^ 13 := Nat.lt_of_lt_of_le b b2
    rw [← e]
    omega
  · cases h
theorem strI_len {i : Int} (h : -100000000000000000000 < i ∧ i < 100000000000000000000) : (strI i).length ≤ 21 := by
  unfold strI
  by_cases c : 0 ≤ i
  · obtain ⟨n, rfl⟩ : ∃ n : Nat, i = n := ⟨i.toNat, by omega⟩
    rw [SX.num_S, SX.S_len]
    refine Nat.le_succ_of_le (TL.numL_len (by decide) ?_)
    have : (10 : Nat) ^ 20 = 100000000000000000000 := by decide
    omega
  · obtain ⟨n, rfl⟩ : ∃ n : Nat, i = -((n + 1 : Nat) : Int) := ⟨(-i - 1).toNat, by omega⟩
    have e : toString (-((n + 1 : Nat) : Int)) = "-" ++ toString ((n + 1 : Nat)) := rfl
    have e2 : toString ((n + 1 : Nat)) = toString (((n + 1 : Nat) : Int)) := rfl
    rw [e, e2]
    have l1 := TL.len_tl (Str.ofString ("-" ++ toString (((n + 1 : Nat) : Int))))
    rw [TL.tl_ofString, String.toList_append, List.map_append, List.length_append, ← TL.tl_ofString, ← TL.tl_ofString, TL.tl_num] at l1
    have l2 : (TL.numL (n + 1)).length ≤ 20 := TL.numL_len (by decide) (by
      have : (10 : Nat) ^ 20 = 100000000000000000000 := by decide
      omega)
    have l3 : (TL.tl (Str.ofString "-")).length = 1 := by decide +kernel
    rw [l1, l3]
    omega
/-- str(int(word)) == word just where no nought stands ahead -/
theorem str_back {x : Str} (hd : (sg x).all isDig = true) (hne : sg x ≠ []) : strI ((NumText.digitsVal (sg x) : Nat) : Int) = x ↔ ¬ ((sg x).head? = some 48 ∧ sg x ≠ [48]) := by
  have had := all_dig hd
  have e0 : sg (strI ((NumText.digitsVal (sg x) : Nat) : Int)) = TL.numL (NumText.digitsVal (sg x)) := TL.tl_num _
  obtain ⟨n, hn⟩ : ∃ n, (sg x).length = n + 1 := ⟨(sg x).length - 1, by have := List.length_pos_iff.mpr hne; omega⟩
  have nat_of : ∀ l : List Nat, NumText.AllDigits l → (l.map Char.ofNat).map Char.toNat = l := by
    intro l hl
    rw [List.map_map]
    refine (List.map_congr_left fun c hc => ?_).trans (List.map_id _)
    have := hl c hc
    show (Char.ofNat c).toNat = c
    have hh : ∀ c : Nat, c < 58 → (Char.ofNat c).toNat = c := by decide
    exact hh c (by omega)
  constructor
  · intro h hh
    rw [h] at e0
    obtain ⟨h1, h2⟩ := hh
    cases hx : sg x with
    | nil => exact hne hx
    | cons c r =>
      rw [hx] at h1 h2 e0 hn
      have ec : c = 48 := Option.some.inj h1
      subst ec
      have hr : r ≠ [] := fun z => h2 (by rw [z])
      have lr : 0 < r.length := List.length_pos_iff.mpr hr
      have b := digitsVal_lt r 0 (by rw [hx] at had; exact had.tail)
      have e1 : NumText.digitsVal (48 :: r) = NumText.digitsVal r := rfl
      rw [e1] at e0
      have l := TL.numL_len (n := NumText.digitsVal r) (k := r.length) lr (by
        have : NumText.digitsVal r < (0 + 1) * 10 ^ r.length := b
        omega)
      have l2 := congrArg List.length e0
      rw [List.length_cons] at l2
      omega
  · intro h
    refine TL.ext_tl ?_
    show sg (strI _) = sg x
    rw [e0]
    have key : n = 0 ∨ ∃ c r, sg x = c :: r ∧ 49 ≤ c := by
      cases hx : sg x with
      | nil => exact absurd hx hne
      | cons c r =>
        rw [hx] at h had hn
        by_cases hc : c = 48
        · subst hc
          have : r = [] := by
            cases r with
            | nil => rfl
            | cons d r2 => exact absurd ⟨rfl, by simp⟩ h
          subst this
          left
          simpa using hn.symm
        · right
          have := had.head
          exact ⟨c, r, rfl, by omega⟩
    have t := PySem.NumText.toDigits_digitsVal n (sg x) hn had key
    unfold TL.numL
    rw [t]
    exact nat_of _ had
theorem intText_of {x : Str} (hd : (sg x).all isDig = true) (hne : sg x ≠ []) (hl : (sg x).length ≤ 640) : PySem.intText? x = some ((NumText.digitsVal (sg x) : Nat) : Int) := by
  have e := SX.int_S (a := sg x) (List.all_eq_true.mpr fun c hc => List.all_eq_true.mp hd c hc) hne (by omega)
  rw [SX.S_tl] at e
  exact e
/-! ### signed numbers, lists of them -/
def signedIn (x : Str) : Option Int := if (sg x).take 1 = [45] then
    (match numberIn (SX.S ((sg x).drop 1)) with
    | some n => if n = 0 then none else some (0 - n)
    | none => none)
  else numberIn x
theorem signedIn_bd {x : Str} {i : Int} (h : signedIn x = some i) : -10000000000000 < i ∧ i < 10000000000000 := by
  unfold signedIn at h
  split at h
  · split at h
    · rename_i n hn
      have := numberIn_bd hn
      split at h
      · cases h
      · have e := Option.some.inj h
        omega
    · cases h
  · have := numberIn_bd h
    omega
def allSome : List (Option Int) → Option (List Int)
  | [] => some []
  | none :: _ => none
  | some i :: r => (allSome r).map (i :: ·)
theorem allSome_none {l : List (Option Int)} : allSome l = none ↔ none ∈ l := by
  induction l with
  | nil => simp [allSome]
  | cons o r ih =>
    cases o with
    | none => simp [allSome]
    | some i =>
      simp only [allSome, Option.map_eq_none_iff, ih, List.mem_cons, reduceCtorEq, false_or]
theorem allSome_some {l : List (Option Int)} {is : List Int} (h : allSome l = some is) : l = is.map some := by
  induction l generalizing is with
  | nil => simp [allSome] at h; subst h; rfl
  | cons o r ih =>
    cases o with
    | none => simp [allSome] at h
    | some i =>
      simp only [allSome, Option.map_eq_some_iff] at h
      obtain ⟨js, h1, rfl⟩ := h
      rw [ih h1]
      rfl
def comma : Str := ","
def blank : Str := " "
def numbersIn (x : Str) : Option (List Int) := allSome ((Txt.split x comma).map numberIn)
/-! ### split -/
theorem spl_ne (S : List Nat) : ∀ (l : List Nat) (k : Nat) (acc : List Nat), TL.spl S k acc l ≠ []
  | [], k, acc => by rw [TL.spl_nil]; simp
  | c :: r, 0, acc => by
    cases h : TL.pre S (c :: r) with
    | true => rw [TL.spl_hit h]; simp
    | false => rw [TL.spl_miss h]; exact spl_ne S r 0 _
  | c :: r, k + 1, acc => spl_ne S r k acc
theorem spl_part_len (S : List Nat) : ∀ (l : List Nat) (k : Nat) (acc p : List Nat), p ∈ TL.spl S k acc l → p.length ≤ acc.length + l.length
  | [], k, acc, p, h => by
    rw [TL.spl_nil, List.mem_singleton] at h
    rw [h]
    exact Nat.le_add_right _ _
  | c :: r, 0, acc, p, h => by
    cases e : TL.pre S (c :: r) with
    | true =>
      rw [TL.spl_hit e] at h
      rcases List.mem_cons.mp h with rfl | h
      · exact Nat.le_add_right _ _
      · have := spl_part_len S r _ [] p h
        simp only [List.length_nil, List.length_cons] at this ⊢
        omega
    | false =>
      rw [TL.spl_miss e] at h
      have := spl_part_len S r 0 _ p h
      simp only [List.length_append, List.length_cons, List.length_nil] at this ⊢
      omega
  | c :: r, k + 1, acc, p, h => by
    have := spl_part_len S r k acc p h
    simp only [List.length_cons] at this ⊢
    omega
theorem spl_count (S : List Nat) : ∀ (l : List Nat) (k : Nat) (acc : List Nat), (TL.spl S k acc l).length ≤ l.length + 1
  | [], k, acc => by rw [TL.spl_nil]; simp
  | c :: r, 0, acc => by
    cases e : TL.pre S (c :: r) with
    | true =>
      rw [TL.spl_hit e]
      have := spl_count S r (S.length - 1) []
      simp only [List.length_cons]
      omega
    | false =>
      rw [TL.spl_miss e]
      have := spl_count S r 0 (acc ++ [c])
      simp only [List.length_cons]
      omega
  | c :: r, k + 1, acc => by
    have := spl_count S r k acc
    show (TL.spl S k acc r).length ≤ _
    simp only [List.length_cons]
    omega
theorem split_eq {x : Str} {b : List Nat} (hb : b ≠ []) (hk : b.all (· < 256) = true) : Txt.split x (SX.S b) = (TL.spl b 0 [] (sg x)).map SX.S := by
  have e := SX.split_S (a := sg x) hb hk
  rw [SX.S_tl] at e
  exact e
theorem comma_S : comma = SX.S [44] := by decide +kernel
theorem blank_S : blank = SX.S [32] := by decide +kernel
theorem splitC (x : Str) : Txt.split x comma = (TL.spl [44] 0 [] (sg x)).map SX.S := by
  rw [comma_S]
  exact split_eq (by simp) (by decide)
theorem splitB (x : Str) : Txt.split x blank = (TL.spl [32] 0 [] (sg x)).map SX.S := by
  rw [blank_S]
  exact split_eq (by simp) (by decide)
theorem splitB_ne (x : Str) : Txt.split x blank ≠ [] := by
  rw [splitB]
  intro h
  exact spl_ne _ _ _ _ (List.map_eq_nil_iff.mp h)
theorem splitC_ne (x : Str) : Txt.split x comma ≠ [] := by
  rw [splitC]
  intro h
  exact spl_ne _ _ _ _ (List.map_eq_nil_iff.mp h)
theorem splitB_len {x y : Str} (h : y ∈ Txt.split x blank) : y.length ≤ x.length := by
  rw [splitB] at h
  obtain ⟨p, hp, rfl⟩ := List.mem_map.mp h
  have := spl_part_len _ _ _ _ p hp
  rw [SX.S_len, TL.len_tl]
  simpa using this
theorem splitC_len {x y : Str} (h : y ∈ Txt.split x comma) : y.length ≤ x.length := by
  rw [splitC] at h
  obtain ⟨p, hp, rfl⟩ := List.mem_map.mp h
  have := spl_part_len _ _ _ _ p hp
  rw [SX.S_len, TL.len_tl]
  simpa using this
theorem splitB_count (x : Str) : (Txt.split x blank).length ≤ x.length + 1 := by
  rw [splitB, List.length_map, TL.len_tl]
  exact spl_count _ _ _ _
theorem splitC_count (x : Str) : (Txt.split x comma).length ≤ x.length + 1 := by
  rw [splitC, List.length_map, TL.len_tl]
  exact spl_count _ _ _ _
/-! ### join -/
theorem join_len (a : Str) : ∀ (ys : List Str) (k : Nat), (∀ y ∈ ys, y.length ≤ k) → (Txt.join a ys).length ≤ ys.length * (k + a.length)
  | ys, k, h => by
    rw [TL.join_eq, TL.len_tl, TL.tl_join]
    have key : ∀ ls : List (List Nat), (∀ l ∈ ls, l.length ≤ k) → (TL.joinL (TL.tl a) ls).length ≤ ls.length * (k + a.length) := by
      intro ls
      induction ls with
      | nil => intro _; simp [TL.joinL]
      | cons l r ih =>
        intro hl
        have h1 := hl l List.mem_cons_self
        have h2 := ih fun z hz => hl z (List.mem_cons_of_mem _ hz)
        have ha := TL.len_tl a
        cases r with
        | nil =>
          show l.length ≤ _
          simp only [List.length_cons, List.length_nil]
          omega
        | cons m r =>
          show (l ++ (TL.tl a ++ TL.joinL (TL.tl a) (m :: r))).length ≤ _
          rw [List.length_append, List.length_append, List.length_cons (a := l), Nat.add_mul]
          omega
    have e : ys.length = (ys.map TL.tl).length := by rw [List.length_map]
    rw [e]
    refine key _ fun l hl => ?_
    obtain ⟨y, hy, rfl⟩ := List.mem_map.mp hl
    rw [← TL.len_tl]
    exact h y hy
theorem sum_len : ∀ (ys : List Str) (k : Nat), (∀ y ∈ ys, y.length ≤ k) → (ys.map (·.length)).sum ≤ ys.length * k
  | [], _, _ => by simp
  | y :: r, k, h => by
    have h1 := h y List.mem_cons_self
    have h2 := sum_len r k fun z hz => h z (List.mem_cons_of_mem _ hz)
    rw [List.map_cons, List.sum_cons, List.length_cons, Nat.add_mul]
    omega
theorem cat_len (x y : Str) : (x ++ y).length = x.length + y.length := by
  rw [TL.len_tl, TL.tl_append, List.length_append, ← TL.len_tl, ← TL.len_tl]
/-! ### rows -/
inductive Row where
  | pl (h : Str)
  | nu (h : Str) (n : Int)
  | pc (l : List Int) (w : Int)
def plains : List Str := ["must", "may", "undo", "box", "many", "lightest", "bars"]
def toldW : List Str → Option Row
  | [a] => if a ∈ plains then some (.pl a) else none
  | [a, b] => if a = "turn" ∨ a = "at" then (numberIn b).map (.nu a) else none
  | [a, b, c] => if a = "piece" then (match numbersIn b, signedIn c with
      | some l, some w => some (.pc l w)
      | _, _ => none)
    else if a = "drop" ∧ (b = "thing" ∨ b = "piece") then (numberIn c).map (.nu ((Str.ofString "drop ") ++ b)) else none
  | _ => none
def toldV : V → Option Row
  | .str x => toldW (Txt.split x blank)
  | _ => none
/-! ETxt1 -/
theorem str_one {c : Nat} {z : Str} {d : Nat} (hz : sg z = [d]) : (⟨#[c]⟩ : Str) = z ↔ c = d := by
  constructor
  · intro h
    rw [← h] at hz
    exact (List.cons.inj hz).1
  · intro h
    refine TL.ext_tl ?_
    show [c] = sg z
    rw [hz, h]
theorem str_is {x z : Str} {l : List Nat} (hz : sg z = l) : x = z ↔ sg x = l := by
  constructor
  · intro h
    rw [h, hz]
  · intro h
    refine TL.ext_tl ?_
    show sg x = sg z
    rw [h, hz]
theorem sg_0 : sg ("0" : Str) = [48] := by decide +kernel
theorem sg_figs : sg ("0123456789" : Str) = [48, 49, 50, 51, 52, 53, 54, 55, 56, 57] := by decide +kernel
theorem fig_iff (c : Nat) : c ∈ sg ("0123456789" : Str) ↔ isDig c = true := by
  rw [sg_figs]
  unfold isDig
  rw [Bool.and_eq_true, decide_eq_true_eq, decide_eq_true_eq]
  simp only [List.mem_cons, List.not_mem_nil, or_false]
  omega
theorem numberIn_no {x : Str} (h : ¬ numOk (sg x) = true) : numberIn x = none := if_neg h
theorem numberIn_yes {x : Str} (h : numOk (sg x) = true) : numberIn x = some ((NumText.digitsVal (sg x) : Nat) : Int) := if_pos h
theorem numOk_iff (a : List Nat) : numOk a = true ↔ (1 ≤ a.length ∧ a.length ≤ 13) ∧ ¬ (a.head? = some 48 ∧ a ≠ [48]) ∧ a.all isDig = true := by
  unfold numOk
  rw [Bool.and_eq_true, Bool.and_eq_true, decide_eq_true_eq, Bool.not_eq_true', decide_eq_false_iff_not]
def spNumber : Sp := fun vs H Q _ => ∃ x, vs = [.str x] ∧ x.length ≤ 100000 ∧ Q (optI (numberIn x)) H
section
variable {P : Program} {w : World} {K : PySem.W.Frag} {mg : Str → Option Value} {base : Heap}
theorem boot_str : bootBuiltins "str" = some (.type "str") := by decide +kernel
theorem boot_int : bootBuiltins "int" = some (.type "int") := by decide +kernel
theorem sc_number_in : FnScope ["word", "sign"] ["word"] (defScope s_number_in) := ⟨rfl, rfl, rfl, by decide +kernel, rfl, by decide +kernel, by decide +kernel⟩
theorem c_number_in (T : Tx K w mg) : Cal P w K mg base CX0 1 "number_in" spNumber := by
  refine T.d_number_in.cal (T.d_number_in.ok0 sc_number_in ?_ fun cdv A outer s H vs Q E hr h => ?_) T.g_number_in T.kp_number_in
  · rintro vs H Q E ⟨x, rfl, _⟩
    rfl
  · obtain ⟨x, rfl, hx, q⟩ := h
    have hl : x.length = (sg x).length := TL.len_tl x
    refine ⟨_, pss_cons (ps_if (PW.pt (pw_or (pt_not (pt_chain op_le op_le pe_int (pe_callB call_len_str (by rfl) T.z_len PySem.boot_len (pa_cons (pv 0) pa_nil)) (pe_gc (by rfl) T.i_MOST_FIGURES)))
        (pw_or1 (PW.pt (pw_and (pt_cmpR op_eq (pe_ix ix_str (pv 0) pe_int (fun _ _ => rfl)) pe_str (nomark _)) (pw_and1 (pt_cmpR op_ne (pv 0) pe_str (nomark _)))))))) (pss_one (ps_ret pe_non)) pss_nil)
      (pss_cons (ps_for PassesOwn.never rfl (pi_str (pv 0)) (pg_name (i := 1) sc_number_in.nd rfl (.inl rfl))
        (pss_one (ps_if (pt_cmpR op_notIn_sign (pv 1) (pe_gc (by rfl) T.s_FIGURES) rfl) (pss_one (ps_ret pe_non)) pss_nil)))
      (pss_one (ps_ret (pe_callTy call_int_str (by rfl) T.z_int boot_int (pa_cons (pv 0) pa_nil))))), ?_⟩
    have no : ¬ numOk (sg x) = true → Q .non H := fun h => by
      rw [numberIn_no h] at q
      exact q
    walk_at "g"
    refine ⟨x, rfl, sz_of hx, ?_⟩
    walk_at "g"
    have rest : (1 ≤ (sg x).length ∧ (sg x).length ≤ 13) → ¬ ((sg x).head? = some 48 ∧ sg x ≠ [48]) → tSeq
        (tFor (iStr (tVar 0)) (gName 1) (tIfS (tTest (tOp (fun x y H Q => ∃ (c : Nat) (z : Str), x = .str ⟨#[c]⟩ ∧ y = .str z ∧ Q (.bl (!decide (c ∈ z.cps.toList))) H) (tVar 1) (tC (V.str "0123456789")))) (tRet (tC V.non)) tNext))
        (tRet (tCB (fun xs H Q => ∃ a n, xs = [V.str a] ∧ PySem.intText? a = some n ∧ a.length ≤ 640 ∧ Q (V.int n) H) (tCons (tVar 0) tNil))) { nx := fun _ H' => Q .non H', rt := Q } (L2.start ["word", "sign"] [V.str x]) H := by
      intro h1 h2
      walk_at "g"
      refine ⟨_, rfl, x, rfl, for_it walk_str (fun i σ H' => ∃ v, σ = [some (.str x), v] ∧ H' = H ∧ ∀ c ∈ (sg x).take i, isDig c = true) ⟨_, rfl, rfl, by simp⟩ (fun _ _ _ _ _ => trivial) ?_ ?_⟩
      · rintro i y σ H1 H2 hi ⟨v, rfl, rfl, hd⟩ ⟨rfl, c, hc, rfl⟩
        walk_at "g"
        refine ⟨c, _, rfl, rfl, ?_⟩
        walk_at "g"
        have hc2 : (sg x)[i]? = some c := by rw [Array.getElem?_toList]; exact hc
        refine g_ndec (fun h => ?_) (fun h => ?_)
        · walk_at "g"
          refine no fun hn => h ((fig_iff c).mpr ?_)
          rw [numOk_iff] at hn
          exact List.all_eq_true.mp hn.2.2 c (List.mem_of_getElem? hc2)
        · walk_at "g"
          refine ⟨_, rfl, rfl, fun d hd2 => ?_⟩
          rw [take_at hc2] at hd2
          rcases List.mem_append.mp hd2 with hd2 | hd2
          · exact hd d hd2
          · rw [List.mem_singleton.mp hd2]
            exact (fig_iff c).mp h
      · rintro σ H1 ⟨v, rfl, rfl, hd⟩
        have hall : (sg x).all isDig = true := List.all_eq_true.mpr fun c hc => hd c (by rw [show x.cps.size = (sg x).length by simp, List.take_length]; exact hc)
        walk_at "g"
        refine ⟨x, _, rfl, intText_of hall (fun e => by rw [e] at h1; simp at h1) (by omega), by omega, ?_⟩
        rw [numberIn_yes ((numOk_iff _).mpr ⟨h1, h2, hall⟩)] at q
        exact q
    refine g_dec (fun h1 => ?_) (fun h1 => ?_)
    · walk_at "g"
      refine g_ndec (fun h2 => ?_) (fun h2 => ?_)
      · walk_at "g"
        exact no fun hn => h2 (by rw [numOk_iff] at hn; omega)
      · walk_at "g"
        have hne : ∃ c r, sg x = c :: r := by
          cases e : sg x with
          | nil => rw [e] at hl; simp at hl; omega
          | cons c r => exact ⟨c, r, rfl⟩
        obtain ⟨c, r, ex⟩ := hne
        have h0 : (sg x)[0]? = some c := by rw [ex]; rfl
        refine ⟨x, 0, c, rfl, rfl, sz_of hx, ati (Int.le_refl 0) h0, ?_⟩
        walk_at "g"
        refine g_dec (fun h3 => ?_) (fun h3 => ?_)
        · walk_at "g"
          refine g_ndec (fun h4 => ?_) (fun h4 => ?_)
          · walk_at "g"
            refine no fun hn => ?_
            rw [numOk_iff] at hn
            refine hn.2.1 ⟨?_, fun e => h4 (congrArg V.str ((str_is sg_0).mpr e))⟩
            rw [ex, (str_one sg_0).mp (V.str.inj h3)]
            rfl
          · walk_at "g"
            refine rest (by omega) fun hh => hh.2 ((str_is sg_0).mp (V.str.inj h4))
        · walk_at "g"
          refine rest (by omega) fun hh => h3 (congrArg V.str ((str_one sg_0).mpr ?_))
          rw [ex] at hh
          exact Option.some.inj hh.1
    · walk_at "g"
      exact no fun hn => h1 (by rw [numOk_iff] at hn; omega)
end
/-! ERul1 -/
section
variable {X : Cx}
/-! ### == and != with one of no items -/
def rEmp (K : PySem.W.Frag) (neg : Bool) : R2 := fun x y H Q => ∃ a b xs ys, x = .ref a ∧ y = .ref b ∧ ((SqL K H a xs ∧ SqL K H b ys) ∨ (SqT K H a xs ∧ SqT K H b ys)) ∧ (xs = [] ∨ ys = []) ∧ Q (.bl (if neg then !decide (xs = ys) else decide (xs = ys))) H
theorem emp_dec {α : Type} [DecidableEq α] {xs ys : List α} (h : xs = [] ∨ ys = []) : decide (xs = ys) = (xs.length == ys.length) := by
  rw [Bool.eq_iff_iff, decide_eq_true_eq, beq_iff_eq]
  constructor
  · intro e
    rw [e]
  · intro e
    rcases h with rfl | rfl
    · exact (List.length_eq_zero_iff.mp e.symm).symm
    · exact List.length_eq_zero_iff.mp e
theorem emp_all {n m : Nat} {e : Nat → Bool} (h : n = 0 ∨ m = 0) : ((List.range (min n m)).all e && n == m) = (n == m) := by
  have : min n m = 0 := by omega
  rw [this]
  rfl
theorem emp_len {xs ys : List V} {us ws : List Value} (r : Vals xs us) (r2 : Vals ys ws) (h : xs = [] ∨ ys = []) : us.length = 0 ∨ ws.length = 0 := by
  rcases h with rfl | rfl
  · cases r
    exact .inl rfl
  · cases r2
    exact .inr rfl
theorem op_eqE (hu : X.A.units < cLine) : OpR X (compareOp .Eq) (rEmp X.K false) := by
  intro pins s σ H x y v u Q I rx ry h
  obtain ⟨a, b, xs, ys, rfl, rfl, hq, he, q⟩ := h
  cases rx
  cases ry
  have q' : Q (.bl (xs.length == ys.length)) H := by
    rw [← emp_dec he]
    exact q
  rcases hq with ⟨h1, h2⟩ | ⟨h1, h2⟩
  · obtain ⟨its, r, pl, _⟩ := I.list h1
    obtain ⟨its2, r2, pl2, _⟩ := I.list h2
    have l1 := r.length
    have l2 := r2.length
    have hz := emp_len r r2 he
    by_cases c : xs.length = ys.length
    · have z1 : its.length = 0 := by omega
      have z2 : its2.length = 0 := by omega
      refine SeqAt.eq_listAt (e := fun _ => true) pl.isList pl2.isList (by rw [List.size_toArray, List.size_toArray]; omega) hu (fun j h _ => absurd h (by rw [List.size_toArray]; omega)) ?_
      refine fin_bl I q' ?_
      rw [c, beq_self_eq_true, List.size_toArray, z1]
      rfl
    · refine SeqAt.eq_list_lengthsAt pl.isList pl2.isList ?_ hu ?_
      · rw [bne_iff_ne]
        rw [List.size_toArray, List.size_toArray]
        omega
      · refine fin_bl I q' ?_
        rw [beq_eq_false_iff_ne]
        exact c
  · obtain ⟨its, r, pl, _⟩ := I.tuple h1
    obtain ⟨its2, r2, pl2, _⟩ := I.tuple h2
    have l1 := r.length
    have l2 := r2.length
    have hz := emp_len r r2 he
    refine SeqAt.eq_tupleAt (e := fun _ => true) pl pl2 hu (fun j h1 h2 => absurd h1 (by rw [List.size_toArray] at h1 h2 ⊢; omega)) ?_
    rw [emp_all (by rw [List.size_toArray, List.size_toArray]; exact hz)]
    refine fin_bl I q' ?_
    rw [List.size_toArray, List.size_toArray, l1, l2]
theorem op_neE (hu : X.A.units < cLine) : OpR X (compareOp .NotEq) (rEmp X.K true) := by
  intro pins s σ H x y v u Q I rx ry h
  obtain ⟨a, b, xs, ys, rfl, rfl, hq, he, q⟩ := h
  cases rx
  cases ry
  have q' : Q (.bl (!(xs.length == ys.length))) H := by
    rw [← emp_dec he]
    exact q
  rcases hq with ⟨h1, h2⟩ | ⟨h1, h2⟩
  · obtain ⟨its, r, pl, _⟩ := I.list h1
    obtain ⟨its2, r2, pl2, _⟩ := I.list h2
    have l1 := r.length
    have l2 := r2.length
    have hz := emp_len r r2 he
    by_cases c : xs.length = ys.length
    · have z1 : its.length = 0 := by omega
      have z2 : its2.length = 0 := by omega
      refine SeqAt.RcNeAt.lists (e := fun _ => true) pl.isList pl2.isList (by rw [List.size_toArray, List.size_toArray]; omega) hu (fun j h _ => absurd h (by rw [List.size_toArray]; omega)) _ _ _ _ ?_
      refine fin_bl I q' ?_
      rw [c, beq_self_eq_true, List.size_toArray, z1]
      rfl
    · refine SeqAt.RcNeAt.lists_lengths pl.isList pl2.isList ?_ hu _ _ _ _ ?_
      · rw [bne_iff_ne]
        rw [List.size_toArray, List.size_toArray]
        omega
      · refine fin_bl I q' ?_
        rw [Bool.not_eq_true', beq_eq_false_iff_ne]
        exact c
  · obtain ⟨its, r, pl, _⟩ := I.tuple h1
    obtain ⟨its2, r2, pl2, _⟩ := I.tuple h2
    have l1 := r.length
    have l2 := r2.length
    have hz := emp_len r r2 he
    refine SeqAt.RcNeAt.tuples (e := fun _ => true) pl pl2 hu (fun j h1 h2 => absurd h1 (by rw [List.size_toArray] at h1 h2 ⊢; omega)) _ _ _ _ ?_
    rw [emp_all (by rw [List.size_toArray, List.size_toArray]; exact hz)]
    refine fin_bl I q' ?_
    rw [List.size_toArray, List.size_toArray, l1, l2]
/-! ### a list is no text -/
def rEqLS (K : PySem.W.Frag) : R2 := fun x y H Q => ∃ a xs z, x = .ref a ∧ y = .str z ∧ SqL K H a xs ∧ Q (.bl false) H
theorem op_eqLS0 (hu : X.A.units < cLine) : OpR X (compareOp .Eq) (rEqLS X.K) := by
  intro pins s σ H x y v u Q I rx ry h
  obtain ⟨a, xs, z, rfl, rfl, h1, q⟩ := h
  cases rx
  obtain ⟨t, rfl⟩ := ry
  obtain ⟨its, r, pl, _⟩ := I.list h1
  exact SeqAt.RcAt.list_str z t pl.isList hu _ _ _ _ (fin_bl I q rfl)
theorem op_eqLS (hu : X.A.units < cLine) : OpR X (compareOp .Eq) (fun x y H Q => rEq x y H Q ∨ rEqLS X.K x y H Q) := op_eq.or (op_eqLS0 hu)
/-! ### None in a list of numbers, texts and tuples -/
def itN (K : PySem.W.Frag) (H : Hp) (y : V) : Prop := flatV y = true ∨ ∃ a xs, y = .ref a ∧ SqT K H a xs
def rInN (K : PySem.W.Frag) : R2 := fun x y H Q => ∃ p ys, x = .non ∧ y = .ref p ∧ SqL K H p ys ∧ (∀ z ∈ ys, itN K H z) ∧ Q (.bl (decide (V.non ∈ ys))) H
def isNoneU : Value → Bool
  | .none => true
  | _ => false
theorem any_none : ∀ {xs : List V} {us : List Value}, Vals xs us → us.any isNoneU = decide (V.non ∈ xs)
  | _, _, .nil => by simp
  | y :: xs, u :: us, .cons r t => by
    rw [List.any_cons, any_none t]
    cases y with
    | non => cases r; simp [isNoneU]
    | bl b => cases r; simp [isNoneU]
    | int i => obtain ⟨t, rfl⟩ := r; simp [isNoneU]
    | str i => obtain ⟨t, rfl⟩ := r; simp [isNoneU]
    | byt i => obtain ⟨t, rfl⟩ := r; simp [isNoneU]
    | flt i => obtain ⟨t, rfl⟩ := r; simp [isNoneU]
    | ref i => cases r; simp [isNoneU]
    | ty i => cases r; simp [isNoneU]
theorem none_at {pins : List (Addr × Obj)} {σ : L2.St} {H : Hp} {s : Shared} {A : Around} (I : Inv X pins σ H s) (hu : A.units < cLine) : ∀ {xs : List V} {us : List Value}, Vals xs us → (∀ z ∈ xs, itN X.K H z) → ∀ u ∈ us, SeqAt.EqAt A s u .none (isNoneU u)
  | _, _, .nil, _ => fun u hu => by cases hu
  | y :: xs, u :: us, .cons r t, h => fun u' hu' => by
    rcases List.mem_cons.mp hu' with rfl | h2
    · rcases h y List.mem_cons_self with f | ⟨a, ys, rfl, hs⟩
      · have e := eqAt_V (A := A) (s := s) r (show RelV .non Value.none from rfl) f rfl
        cases y with
        | non => cases r; exact e
        | bl b => cases r; exact e
        | int i => obtain ⟨t, rfl⟩ := r; exact e
        | str i => obtain ⟨t, rfl⟩ := r; exact e
        | _ => exact absurd (show false = true from f) Bool.false_ne_true
      · cases r
        obtain ⟨its, _, pl, _⟩ := I.tuple hs
        exact SeqAt.EqAt.tuple_none pl hu
    · exact none_at I hu t (fun z hz => h z (List.mem_cons_of_mem _ hz)) u' h2
theorem op_inN (hu : X.A.in1.units < cLine) : OpR X (compareOp .In) (rInN X.K) := by
  intro pins s σ H x y v u Q I rx ry h
  obtain ⟨p, ys, rfl, rfl, h1, h2, q⟩ := h
  cases rx
  cases ry
  obtain ⟨its, r, pl, _⟩ := I.list h1
  refine SeqAt.in_listAt isNoneU pl.isList (fun w hw => none_at I hu r h2 w (by simpa using hw)) (fin_bl I q ?_)
  rw [show its.toArray.any isNoneU = its.any isNoneU by simp, any_none r]
/-! ### flat items -/
def rInS (K : PySem.W.Frag) : R2 := fun x y H Q => ∃ p xs, y = .ref p ∧ (SqL K H p xs ∨ SqT K H p xs) ∧ flatV x = true ∧ xs.all flatV = true ∧ Q (.bl (inV x xs)) H
def rNinS (K : PySem.W.Frag) : R2 := fun x y H Q => ∃ p xs, y = .ref p ∧ (SqL K H p xs ∨ SqT K H p xs) ∧ flatV x = true ∧ xs.all flatV = true ∧ Q (.bl (!inV x xs)) H
theorem op_in : OpR X (compareOp .In) (rInS X.K) := fun pins s σ H x y v u Q I rx ry h => op_in_seq pins s σ H x y v u Q I rx ry h
theorem op_nin : OpR X (compareOp .NotIn) (rNinS X.K) := fun pins s σ H x y v u Q I rx ry h => op_notIn_seq pins s σ H x y v u Q I rx ry h
end
/-! ETxt2 -/
/-! ### more readings -/
section
variable {σ : L2.St} {H : Hp} {Q : VK} {ta te to : TE} {al : TA}
theorem g_isN (q : ta σ H fun x H1 => Q (.bl (decide (x = .non))) H1) : tIsN ta σ H Q := q
theorem g_notN (q : ta σ H fun x H1 => Q (.bl (!decide (x = .non))) H1) : tNotN ta σ H Q := q
theorem g_m0 {r : V → List V → Hp → VK → Prop} (q : to σ H fun x H1 => (∃ a, x = .str a) ∧ r x [] H1 Q) : tM0 r to σ H Q := q
theorem g_m1 {r : V → List V → Hp → VK → Prop} (q : to σ H fun x H1 => (∃ a, x = .str a) ∧ te σ H1 fun y H2 => r x [y] H2 Q) : tM1 r to te σ H Q := q
theorem g_then {k : V → Hp → VK → Prop} (q : ta σ H fun x H1 => k x H1 Q) : tThen ta k σ H Q := q
theorem g_sx {x : V} {z : Str} {P : Prop} (q : P) : (∃ a, V.str z = .str a) ∧ P := ⟨⟨z, rfl⟩, q⟩
end
local macro_rules | `(tactic| walk_at "h1") => `(tactic| first
  | walk_at "g1"
  | with_reducible refine Eo.g_isN ?_
  | with_reducible refine Eo.g_notN ?_
  | with_reducible refine Eo.g_m0 ?_
  | with_reducible refine Eo.g_m1 ?_
  | with_reducible refine Eo.g_then ?_)
local macro_rules | `(tactic| walk_at "h") => `(tactic| repeat (walk_at "h1"))
/-! ### promises -/
def NumsR (H : Hp) : V → Option (List Int) → Prop
  | v, none => v = .non
  | v, some l => ∃ p, v = .ref p ∧ H p = some (.tup (l.map V.int))
def spSigned : Sp := fun vs H Q _ => ∃ x, vs = [.str x] ∧ x.length ≤ 90000 ∧ Q (optI (signedIn x)) H
def spNumbers : Sp := fun vs H Q _ => ∃ x, vs = [.str x] ∧ x.length ≤ 90000 ∧ ∀ H' r, Same H H' → NumsR H' r (numbersIn x) → Q r H'
def RdV (H : Hp) (f x : Str) (r : V) : Prop := if f = "n" then r = optI (numberIn x) else if f = "l" then NumsR H r (numbersIn x) else r = optI (signedIn x)
def spRead : Sp := fun vs H Q _ => ∃ f x, vs = [.str f, .str x] ∧ x.length ≤ 90000 ∧ ∀ H' r, Same H H' → RdV H' f x r → Q r H'
def small (l : List Int) : Prop := l.length ≤ 1000 ∧ ∀ x ∈ l, -100000000000000000000 < x ∧ x < 100000000000000000000
def listedS (l : List Int) : Str := Txt.join comma (l.map strI)
def spListed : Sp := fun vs H Q _ => ∃ p l, vs = [.ref p] ∧ H p = some (.tup (l.map V.int)) ∧ small l ∧ ∀ H', Same H H' → Q (.str (listedS l)) H'
def spShown : Sp := fun vs H Q _ => ∃ p l, vs = [.ref p] ∧ H p = some (.tup (l.map V.int)) ∧ small l ∧ ∀ H' z, Same H H' → z.length ≤ 30000 → Q (.str z) H'
section
variable {P : Program} {w : World} {K : PySem.W.Frag} {mg : Str → Option Value} {base : Heap}
theorem sc_signed_in : FnScope ["word", "number"] ["word"] (defScope s_signed_in) := ⟨rfl, rfl, rfl, by decide +kernel, rfl, by decide +kernel, by decide +kernel⟩
theorem sl_1 (x : Str) : Txt.slice x none (some 1) = SX.S ((sg x).take 1) := by
  have e := SX.slice_to (a := sg x) (i := 1) (by decide)
  rw [SX.S_tl] at e
  exact e
theorem sl_f1 (x : Str) : Txt.slice x (some 1) none = SX.S ((sg x).drop 1) := by
  have e := SX.slice_from (a := sg x) (i := 1) (by decide)
  rw [SX.S_tl] at e
  exact e
theorem sg_minus : sg ("-" : Str) = [45] := by decide +kernel
theorem minus_iff (x : Str) : SX.S ((sg x).take 1) = "-" ↔ (sg x).take 1 = [45] := str_is sg_minus
theorem c_signed_in (T : Tx K w mg) : Cal P w K mg base CX0 2 "signed_in" spSigned := by
  have c1 : Cal P w K mg base CX0 1 "number_in" spNumber := c_number_in T
  refine T.d_signed_in.cal (T.d_signed_in.ok0 sc_signed_in ?_ fun cdv A outer s H vs Q E hr h => ?_) T.g_signed_in T.kp_signed_in
  · rintro vs H Q E ⟨x, rfl, _⟩
    rfl
  · obtain ⟨x, rfl, hx, q⟩ := h
    refine ⟨_, pss_cons (ps_if (pt_cmpR op_ne (pe_slice C8.sl_txt (pv 0) po_none (po_some pe_int)) pe_str (nomark _)) (pss_one (ps_ret (pe_c c1 hr (by decide) (by rfl) (pa_cons (pv 0) pa_nil)))) pss_nil)
      (pss_cons (ps_set (i := 1) sc_signed_in.nd rfl (.inl rfl) (pe_c c1 hr (by decide) (by rfl) (pa_cons (pe_slice C8.sl_txt (pv 0) (po_some pe_int) po_none) pa_nil)))
      (pss_cons (ps_if (PW.pt (pw_or (pt_cmp (pc_isN (pv 1))) (pw_or1 (pt_cmpR op_eq (pv 1) pe_int (nomark _))))) (pss_one (ps_ret pe_non)) pss_nil)
      (pss_one (ps_ret (pe_op op_sub pe_int (pv 1)))))), ?_⟩
    walk_at "h"
    refine ⟨_, rfl, ?_⟩
    walk_at "h"
    refine ⟨x, rfl, sz_of (by omega), ?_⟩
    walk_at "h"
    rw [sl_1]
    refine g_ndec (fun h => ?_) (fun h => ?_)
    · have hn : ¬ (sg x).take 1 = [45] := fun e => h (congrArg V.str ((minus_iff x).mpr e))
      walk_at "h"
      refine ⟨x, rfl, by omega, ?_⟩
      unfold signedIn at q
      rw [if_neg hn] at q
      exact q
    · have hn : (sg x).take 1 = [45] := (minus_iff x).mp (V.str.inj h)
      unfold signedIn at q
      rw [if_pos hn] at q
      walk_at "h"
      refine ⟨_, rfl, ?_⟩
      walk_at "h"
      refine ⟨x, rfl, sz_of (by omega), ?_⟩
      walk_at "h"
      rw [sl_f1]
      refine ⟨_, rfl, by rw [SX.S_len, List.length_drop, ← TL.len_tl]; omega, ?_⟩
      walk_at "h"
      cases e : numberIn (SX.S ((sg x).drop 1)) with
      | none =>
        rw [e] at q
        refine g_dec (fun _ => ?_) (fun h => absurd rfl h)
        walk_at "h"
        exact q
      | some n =>
        rw [e] at q
        have q : Q (optI (if n = 0 then none else some (0 - n))) H := q
        refine g_dec (fun h => nomatch h) (fun _ => ?_)
        walk_at "h"
        refine g_dec (fun h => ?_) (fun h => ?_)
        · walk_at "h"
          rw [if_pos (V.int.inj h)] at q
          exact q
        · walk_at "h"
          rw [if_neg (fun e => h (congrArg V.int e))] at q
          exact g_I0 q
theorem sc_numbers_in : FnScope ["word", "found", "part"] ["word"] (defScope s_numbers_in) := ⟨rfl, rfl, rfl, by decide +kernel, rfl, by decide +kernel, by decide +kernel⟩
theorem none_mem (l : List (Option Int)) : V.non ∈ l.map optI ↔ allSome l = none := by
  rw [allSome_none, List.mem_map]
  constructor
  · rintro ⟨o, h1, h2⟩
    cases o with
    | none => exact h1
    | some i => cases h2
  · intro h
    exact ⟨none, h, rfl⟩
theorem inV_none (l : List (Option Int)) : inV .non (l.map optI) = (allSome l).isNone := by
  unfold inV
  rw [Bool.eq_iff_iff, List.any_eq_true, Option.isNone_iff_eq_none, ← none_mem]
  constructor
  · rintro ⟨y, h1, h2⟩
    cases y with
    | non => exact h1
    | _ => cases h2
  · intro h
    exact ⟨.non, h, rfl⟩
theorem flat_opt (l : List (Option Int)) : (l.map optI).all flatV = true := by
  rw [List.all_eq_true]
  intro v hv
  obtain ⟨o, _, rfl⟩ := List.mem_map.mp hv
  cases o <;> rfl
theorem map_opt {l : List (Option Int)} {is : List Int} (h : allSome l = some is) : l.map optI = is.map V.int := by
  rw [allSome_some h, List.map_map]
  rfl
theorem c_numbers_in (T : Tx K w mg) : Cal P w K mg base CX0 2 "numbers_in" spNumbers := by
  have c1 : Cal P w K mg base CX0 1 "number_in" spNumber := c_number_in T
  refine T.d_numbers_in.cal (T.d_numbers_in.ok0 sc_numbers_in ?_ fun cdv A outer s H vs Q E hr h => ?_) T.g_numbers_in T.kp_numbers_in
  · rintro vs H Q E ⟨x, rfl, _⟩
    rfl
  · obtain ⟨x, rfl, hx, q⟩ := h
    refine ⟨_, pss_cons (ps_setLc (i := 1) (own := [("part", 2)]) (g := gName 2) (tt := tYes) (by rfl) sc_numbers_in.nd rfl rfl (sw_true rfl rfl rfl (by decide +kernel)) (pi_list (pe_split (pv 0) pe_str)) (blkOk_by (N := ["word", "found", "part"]) (sc := defScope s_numbers_in) (by decide +kernel))
        (fun _ _ _ _ _ => pg_name sc_numbers_in.nd rfl (.inl rfl)) (fun _ _ _ _ _ => pts_nil) (fun s1 H1 C1 cl1 fp1 => pe_c c1 hr (by decide) (by rfl) (pa_cons (pv 2) pa_nil)))
      (pss_cons (ps_if (pt_cmpR op_in pe_non (pv 1) (by rfl)) (pss_one (ps_ret pe_non)) pss_nil)
      (pss_one (ps_ret (pe_tupleOf (by rfl) T.z_tuple (pv 1))))), ?_⟩
    walk_at "h"
    refine ⟨_, rfl, ⟨x, rfl⟩, x, comma, rfl, rfl, by decide +kernel, sz_lt (by omega), fun p hp => ?_⟩
    have hlen : (Txt.split x comma).length ≤ 90001 := by
      have := splitC_count x
      omega
    have hpp : upd H p (.lst ((Txt.split x comma).map V.str)) p = some (.lst ((Txt.split x comma).map V.str)) := upd_same
    refine ⟨p, rfl, ⟨_, .inl (.inl hpp)⟩, fun D hD => lc_map walk_list hD (by rw [List.length_map]; omega) (((Txt.split x comma).map numberIn).map optI) (by simp) (fun H2 s2 => .inl (.inl (s2 _ _ hpp))) (fun i y o H2 H3 hi s2 ho y1 Qc kc => ?_) (fun H2 s2 d2 => ?_)⟩
    · obtain ⟨rfl, hy⟩ := y1
      obtain ⟨z, hz, rfl⟩ := map_at hy
      obtain ⟨o1, ho1, rfl⟩ := map_at ho
      obtain ⟨z1, hz1, rfl⟩ := map_at ho1
      rw [hz] at hz1
      cases hz1
      have hzl := splitC_len (List.mem_of_getElem? hz)
      walk_at "h"
      refine ⟨rfl, ?_⟩
      walk_at "h"
      exact ⟨_, rfl, by omega, kc _ (Same.refl _)⟩
    · walk_at "h"
      have hS : Same H H2 := (Same.new hp).trans s2
      refine ⟨D, _, rfl, .inl (.inl (.inl d2)), rfl, flat_opt _, ?_⟩
      walk_at "h"
      refine g_b (fun h => ?_) (fun h => ?_)
      · rw [inV_none, Option.isNone_iff_eq_none] at h
        walk_at "h"
        refine q _ _ hS ?_
        unfold numbersIn
        rw [h]
        rfl
      · rw [inV_none] at h
        walk_at "h"
        refine .inl ⟨D, _, rfl, .inl (.inl d2), fun p2 hp2 => ?_⟩
        refine q _ _ (hS.trans (Same.new hp2)) ?_
        unfold numbersIn
        cases e : allSome ((Txt.split x comma).map numberIn) with
        | none => rw [e] at h; cases h
        | some l =>
          exact ⟨p2, rfl, by rw [upd_same, map_opt e]⟩
end
/-! ETxt3 -/
/-! ### boxes -/
structure Bx where
  n : Nat
  mays : List Int
  pcs : List (List Int × Int)
def PcOk (n : Nat) (x : List Int × Int) : Prop := Lot n x.1 ∧ x.1 ≠ [] ∧ -1000000000000 ≤ x.2 ∧ x.2 ≤ 1000000000000
structure BxOk (B : Bx) : Prop where
  n : B.n ≤ 16
  mays : Lot B.n B.mays
  len : B.pcs.length ≤ 32
  pcs : ∀ x ∈ B.pcs, PcOk B.n x
def PcAt (H : Hp) (v : V) (x : List Int × Int) : Prop := ∃ q h, v = .ref q ∧ H q = some (.tup [.ref h, .int x.2]) ∧ H h = some (.tup (x.1.map V.int))
def PcsAt (H : Hp) (vs : List V) (xs : List (List Int × Int)) : Prop := vs.length = xs.length ∧ ∀ (i : Nat) (v : V) (x : List Int × Int), vs[i]? = some v → xs[i]? = some x → PcAt H v x
def BoxAt (H : Hp) (v : V) (B : Bx) : Prop := ∃ b m p ps, v = .ref b ∧ H b = some (.tup [.int B.n, .ref m, .ref p]) ∧ H m = some (.tup (B.mays.map V.int)) ∧ H p = some (.tup ps) ∧ PcsAt H ps B.pcs
theorem PcAt.ex {H H' : Hp} {v : V} {x : List Int × Int} (h : PcAt H v x) (e : TupEx H H') : PcAt H' v x := by
  obtain ⟨q, a, h1, h2, h3⟩ := h
  exact ⟨q, a, h1, e _ _ h2, e _ _ h3⟩
theorem PcsAt.ex {H H' : Hp} {vs : List V} {xs : List (List Int × Int)} (h : PcsAt H vs xs) (e : TupEx H H') : PcsAt H' vs xs := ⟨h.1, fun i v x h1 h2 => (h.2 i v x h1 h2).ex e⟩
theorem BoxAt.ex {H H' : Hp} {v : V} {B : Bx} (h : BoxAt H v B) (e : TupEx H H') : BoxAt H' v B := by
  obtain ⟨b, m, p, ps, h1, h2, h3, h4, h5⟩ := h
  exact ⟨b, m, p, ps, h1, e _ _ h2, e _ _ h3, e _ _ h4, h5.ex e⟩
theorem PcsAt.nil (H : Hp) : PcsAt H [] [] := ⟨rfl, fun i v x h => by simp at h⟩
theorem PcsAt.get {H : Hp} {vs : List V} {xs : List (List Int × Int)} (h : PcsAt H vs xs) {i : Nat} {v : V} (hv : vs[i]? = some v) : ∃ x, xs[i]? = some x ∧ PcAt H v x := by
  have hlt := at_lt hv
  rw [h.1] at hlt
  exact ⟨xs[i], List.getElem?_eq_getElem hlt, h.2 i v _ hv (List.getElem?_eq_getElem hlt)⟩
theorem PcsAt.snoc {H : Hp} {vs : List V} {xs : List (List Int × Int)} (h : PcsAt H vs xs) {v : V} {x : List Int × Int} (hv : PcAt H v x) : PcsAt H (vs ++ [v]) (xs ++ [x]) := by
  refine ⟨by rw [List.length_append, List.length_append, h.1]; rfl, fun i v' x' h1 h2 => ?_⟩
  by_cases c : i < vs.length
  · rw [List.getElem?_append_left c] at h1
    rw [List.getElem?_append_left (by rw [← h.1]; exact c)] at h2
    exact h.2 i _ _ h1 h2
  · rw [List.getElem?_append_right (by omega)] at h1
    rw [List.getElem?_append_right (by rw [← h.1]; omega), ← h.1] at h2
    cases e : i - vs.length with
    | zero => rw [e] at h1 h2; simp at h1 h2; subst h1 h2; exact hv
    | succ k => rw [e] at h1; simp at h1
theorem PcsAt.eraseIdx {H : Hp} {vs : List V} {xs : List (List Int × Int)} (h : PcsAt H vs xs) (k : Nat) : PcsAt H (vs.take k ++ vs.drop (k + 1)) (xs.take k ++ xs.drop (k + 1)) := by
  rw [← List.eraseIdx_eq_take_drop_succ, ← List.eraseIdx_eq_take_drop_succ]
  refine ⟨by rw [List.length_eraseIdx, List.length_eraseIdx, h.1], fun i v x h1 h2 => ?_⟩
  rw [List.getElem?_eraseIdx] at h1 h2
  by_cases c : i < k
  · rw [if_pos c] at h1 h2
    exact h.2 _ _ _ h1 h2
  · rw [if_neg c] at h1 h2
    exact h.2 _ _ _ h1 h2
/-! ### the text of a box -/
def pieceS (x : List Int × Int) : Str := (listedS x.1 ++ (" " : Str)) ++ strI x.2
def headS (B : Bx) : Str := if B.mays = [] then ("things " : Str) ++ strI B.n else (("things " : Str) ++ strI B.n ++ (" may " : Str)) ++ listedS B.mays
def writtenS (B : Bx) : Str := Txt.join ("\n" : Str) (headS B :: B.pcs.map pieceS)
def spWritten : Sp := fun vs H Q _ => ∃ v B, vs = [v] ∧ BoxAt H v B ∧ BxOk B ∧ ∀ H', Same H H' → Q (.str (writtenS B)) H'
theorem Lot.len {n : Nat} {l : List Int} (h : Lot n l) : l.length ≤ n := by
  have key : ∀ (m : List Int) (lo : Int), m.Pairwise (· < ·) → (∀ x ∈ m, lo ≤ x ∧ x < n) → (m.length : Int) ≤ max 0 (n - lo) := by
    intro m
    induction m with
    | nil => intro lo _ _; simp; omega
    | cons x r ih =>
      intro lo hp hb
      rw [List.pairwise_cons] at hp
      have hx := hb x List.mem_cons_self
      have := ih (x + 1) hp.2 (fun y hy => ⟨by have := hp.1 y hy; omega, (hb y (List.mem_cons_of_mem _ hy)).2⟩)
      rw [List.length_cons]
      omega
  have := key l 0 h.1 h.2
  omega
theorem Lot.small {n : Nat} {l : List Int} (h : Lot n l) (hn : n ≤ 16) : small l := ⟨by have := h.len; omega, fun x hx => by have := h.2 x hx; omega⟩
theorem listed_len {l : List Int} (h : small l) : (listedS l).length ≤ l.length * 22 := by
  have e := join_len comma (l.map strI) 21 (fun y hy => by
    obtain ⟨i, hi, rfl⟩ := List.mem_map.mp hy
    exact strI_len (h.2 i hi))
  rw [List.length_map, show comma.length = 1 by decide +kernel] at e
  exact e
theorem piece_len {n : Nat} {x : List Int × Int} (h : PcOk n x) (hn : n ≤ 16) : (pieceS x).length ≤ 400 := by
  unfold pieceS
  rw [cat_len, cat_len]
  have h1 := listed_len (h.1.small hn)
  have h2 := h.1.len
  have h3 := strI_len (i := x.2) (by have := h.2.2; omega)
  have h4 : (" " : Str).length = 1 := by decide +kernel
  omega
theorem head_len {B : Bx} (h : BxOk B) : (headS B).length ≤ 500 := by
  have h3 := strI_len (i := (B.n : Int)) (by have := h.n; omega)
  have h4 : ("things " : Str).length = 7 := by decide +kernel
  have h5 : (" may " : Str).length = 5 := by decide +kernel
  have h1 := listed_len (h.mays.small h.n)
  have h2 := h.mays.len
  have h6 := h.n
  unfold headS
  split
  · rw [cat_len]
    omega
  · rw [cat_len, cat_len, cat_len]
    omega
theorem strI_log {i : Int} (h : -100000000000000000000 < i ∧ i < 100000000000000000000) : i.natAbs.log2 < 1920 := by
  by_cases c : i.natAbs = 0
  · rw [c]; decide
  · rw [Nat.log2_lt c]
    exact Nat.lt_of_lt_of_le (show i.natAbs < 2 ^ 67 by omega) (Nat.pow_le_pow_right (by decide) (by decide))
section
variable {P : Program} {w : World} {K : PySem.W.Frag} {mg : Str → Option Value} {base : Heap}
theorem sc_read_as : FnScope ["form", "word"] ["form", "word"] (defScope s_read_as) := ⟨rfl, rfl, rfl, by decide +kernel, rfl, by decide +kernel, by decide +kernel⟩
theorem c_read_as (T : Tx K w mg) : Cal P w K mg base CX0 3 "read_as" spRead := by
  have c1 : Cal P w K mg base CX0 1 "number_in" spNumber := c_number_in T
  have c2 : Cal P w K mg base CX0 2 "numbers_in" spNumbers := c_numbers_in T
  have c3 : Cal P w K mg base CX0 2 "signed_in" spSigned := c_signed_in T
  refine T.d_read_as.cal (T.d_read_as.ok0 sc_read_as ?_ fun cdv A outer s H vs Q E hr h => ?_) T.g_read_as T.kp_read_as
  · rintro vs H Q E ⟨f, x, rfl, _⟩
    rfl
  · obtain ⟨f, x, rfl, hx, q⟩ := h
    refine ⟨_, pss_cons (ps_if (pt_cmpR op_eq (pv 0) pe_str (nomark _)) (pss_one (ps_ret (pe_c c1 hr (by decide) (by rfl) (pa_cons (pv 1) pa_nil)))) pss_nil)
      (pss_cons (ps_if (pt_cmpR op_eq (pv 0) pe_str (nomark _)) (pss_one (ps_ret (pe_c c2 hr (by decide) (by rfl) (pa_cons (pv 1) pa_nil)))) pss_nil)
      (pss_one (ps_ret (pe_c c3 hr (by decide) (by rfl) (pa_cons (pv 1) pa_nil))))), ?_⟩
    unfold RdV at q
    walk_at "h"
    refine g_dec (fun h => ?_) (fun h => ?_)
    · walk_at "h"
      refine ⟨x, rfl, by omega, q _ _ (Same.refl _) ?_⟩
      rw [if_pos (V.str.inj h)]
    · walk_at "h"
      refine g_dec (fun h2 => ?_) (fun h2 => ?_)
      · walk_at "h"
        refine ⟨x, rfl, hx, fun H' r hs hr => q _ _ hs ?_⟩
        rw [if_neg (fun e => h (congrArg V.str e)), if_pos (V.str.inj h2)]
        exact hr
      · walk_at "h"
        refine ⟨x, rfl, hx, q _ _ (Same.refl _) ?_⟩
        rw [if_neg (fun e => h (congrArg V.str e)), if_neg (fun e => h2 (congrArg V.str e))]
theorem sc_listed : FnScope ["numbers", "number"] ["numbers"] (defScope s_listed) := ⟨rfl, rfl, rfl, by decide +kernel, rfl, by decide +kernel, by decide +kernel⟩
theorem strs_sum {l : List Int} (h : small l) (k : Nat) : ((l.map strI).map (·.length)).sum + (l.map strI).length * k ≤ 1000 * (21 + k) := by
  have e := sum_len (l.map strI) 21 (fun y hy => by
    obtain ⟨i, hi, rfl⟩ := List.mem_map.mp hy
    exact strI_len (h.2 i hi))
  have h1 := h.1
  rw [List.length_map] at e ⊢
  have : l.length * k ≤ 1000 * k := Nat.mul_le_mul_right _ h1
  omega
theorem c_listed (T : Tx K w mg) : Cal P w K mg base CX0 1 "listed" spListed := by
  refine T.d_listed.cal (T.d_listed.ok0 sc_listed ?_ fun cdv A outer s H vs Q E hr h => ?_) T.g_listed T.kp_listed
  · rintro vs H Q E ⟨p, l, rfl, _⟩
    rfl
  · obtain ⟨p, l, rfl, hp, hl, q⟩ := h
    refine ⟨_, pss_one (ps_ret (pe_join pe_str (pe_lc (own := [("number", 1)]) (g := gName 1) (tt := tYes) (by rfl) sc_listed.nd (pi_tup (pv 0)) (blkOk_by (N := ["numbers", "number"]) (sc := defScope s_listed) (by decide +kernel))
        (fun _ _ _ _ _ => pg_name sc_listed.nd rfl (.inl rfl)) (fun _ _ _ _ _ => pts_nil) (fun s1 H1 C1 cl1 fp1 => pe_callTy call_str_int (by rfl) T.z_str boot_str (pa_cons (pv 1) pa_nil))))), ?_⟩
    walk_at "h"
    refine ⟨⟨_, rfl⟩, _, rfl, p, rfl, ⟨_, SqT.of hp⟩, fun D hD => lc_map walk_tup hD (by rw [List.length_map]; have := hl.1; omega) ((l.map strI).map V.str) (by simp) (fun H2 s2 => SqT.of (s2 _ _ hp)) (fun i y o H2 H3 hi s2 ho y1 Qc kc => ?_) (fun H2 s2 d2 => ?_)⟩
    · obtain ⟨rfl, hy⟩ := y1
      obtain ⟨z, hz, rfl⟩ := map_at hy
      obtain ⟨o1, ho1, rfl⟩ := map_at ho
      obtain ⟨z1, hz1, rfl⟩ := map_at ho1
      rw [hz] at hz1
      cases hz1
      walk_at "h"
      refine ⟨rfl, ?_⟩
      walk_at "h"
      exact ⟨z, rfl, strI_log (hl.2 z (List.mem_of_getElem? hz)), kc _ (Same.refl _)⟩
    · refine ⟨_, D, l.map strI, rfl, rfl, .inl (.inl (.inl d2)), ?_, q _ s2⟩
      have := strs_sum hl (Str.length ",")
      have e : Str.length "," = 1 := by decide +kernel
      rw [e] at this ⊢
      omega
theorem sc_shown_covering : FnScope ["covering", "piece"] ["covering"] (defScope s_shown_covering) := ⟨rfl, rfl, rfl, by decide +kernel, rfl, by decide +kernel, by decide +kernel⟩
theorem c_shown_covering (T : Tx K w mg) : Cal P w K mg base CX0 1 "shown_covering" spShown := by
  refine T.d_shown_covering.cal (T.d_shown_covering.ok0 sc_shown_covering ?_ fun cdv A outer s H vs Q E hr h => ?_) T.g_shown_covering T.kp_shown_covering
  · rintro vs H Q E ⟨p, l, rfl, _⟩
    rfl
  · obtain ⟨p, l, rfl, hp, hl, q⟩ := h
    refine ⟨_, pss_cons (ps_if (pt_cmpR (op_eqE hr.units0) (pv 0) (pe_tup pa_nil) (nomark _)) (pss_one (ps_ret pe_str)) pss_nil) (pss_one (ps_ret (pe_join pe_str (pe_lc (own := [("piece", 1)]) (g := gName 1) (tt := tYes) (by rfl) sc_shown_covering.nd (pi_tup (pv 0)) (blkOk_by (N := ["covering", "piece"]) (sc := defScope s_shown_covering) (by decide +kernel))
        (fun _ _ _ _ _ => pg_name sc_shown_covering.nd rfl (.inl rfl)) (fun _ _ _ _ _ => pts_nil) (fun s1 H1 C1 cl1 fp1 => pe_callTy call_str_int (by rfl) T.z_str boot_str (pa_cons (pv 1) pa_nil)))))), ?_⟩
    walk_at "h"
    refine ⟨sz_of (by simp), fun p0 hp0 => ?_⟩
    have hpp : upd H p0 (.tup []) p = some (.tup (l.map V.int)) := Same.new hp0 _ _ hp
    walk_at "h"
    refine ⟨p, p0, _, _, rfl, rfl, .inr ⟨SqT.of hpp, SqT.of upd_same⟩, .inr rfl, ?_⟩
    walk_at "h"
    refine g_b (fun h => ?_) (fun h => ?_)
    · walk_at "h"
      exact q _ _ (Same.new hp0) (by decide +kernel)
    · walk_at "h"
      refine ⟨⟨_, rfl⟩, _, rfl, p, rfl, ⟨_, SqT.of hpp⟩, fun D hD => lc_map walk_tup hD (by rw [List.length_map]; have := hl.1; omega) ((l.map strI).map V.str) (by simp) (fun H2 s2 => SqT.of (s2 _ _ hpp)) (fun i y o H2 H3 hi s2 ho y1 Qc kc => ?_) (fun H2 s2 d2 => ?_)⟩
      · obtain ⟨rfl, hy⟩ := y1
        obtain ⟨z, hz, rfl⟩ := map_at hy
        obtain ⟨o1, ho1, rfl⟩ := map_at ho
        obtain ⟨z1, hz1, rfl⟩ := map_at ho1
        rw [hz] at hz1
        cases hz1
        walk_at "h"
        refine ⟨rfl, ?_⟩
        walk_at "h"
        exact ⟨z, rfl, strI_log (hl.2 z (List.mem_of_getElem? hz)), kc _ (Same.refl _)⟩
      · have this := strs_sum hl 1
        have e : Str.length " " = 1 := by decide +kernel
        refine ⟨_, D, l.map strI, rfl, rfl, .inl (.inl (.inl d2)), ?_, q _ _ ((Same.new hp0).trans s2) ?_⟩
        · rw [e]
          omega
        · have e2 := join_len " " (l.map strI) 21 (fun y hy => by
            obtain ⟨i, hi, rfl⟩ := List.mem_map.mp hy
            exact strI_len (hl.2 i hi))
          rw [e, List.length_map] at e2
          have := hl.1
          omega
end
/-! ETxt4 -/
section
variable {K : PySem.W.Frag} {σ : L2.St} {H : Hp} {Q : L2.St → Hp → Prop} {a : Addr} {x y z : V} {i j k : Nat}
theorem g_un2 (h : SqT K H a [x, y]) (q : Q ((σ.set i (some x)).set j (some y)) H) : gTup K 2 (gCons (gName i) (gCons (gName j) gNil)) (.ref a) σ H Q := ⟨a, _, rfl, h, rfl, x, _, rfl, y, _, rfl, rfl, q⟩
theorem g_un3 (h : SqT K H a [x, y, z]) (q : Q (((σ.set i (some x)).set j (some y)).set k (some z)) H) : gTup K 3 (gCons (gName i) (gCons (gName j) (gCons (gName k) gNil))) (.ref a) σ H Q := ⟨a, _, rfl, h, rfl, x, _, rfl, y, _, rfl, z, _, rfl, rfl, q⟩
theorem TupEx.mutL {o : HO} {p : Addr} {xs : List V} (h : H p = some (.lst xs)) : TupEx H (upd H p o) := fun b u e => by
  rw [upd_ne (ne_of e h (fun e => by cases e))]
  exact e
end
theorem len_nl : ("\n" : Str).length = 1 := by decide +kernel
theorem len_sp : (" " : Str).length = 1 := by decide +kernel
section
variable {P : Program} {w : World} {K : PySem.W.Frag} {mg : Str → Option Value} {base : Heap}
theorem sc_written : FnScope ["box", "many", "mays", "pieces", "head", "things", "weight"] ["box"] (defScope s_written) := ⟨rfl, rfl, rfl, by decide +kernel, rfl, by decide +kernel, by decide +kernel⟩
theorem c_written (T : Tx K w mg) : Cal P w K mg base CX0 2 "written" spWritten := by
  have c1 : Cal P w K mg base CX0 1 "listed" spListed := c_listed T
  refine T.d_written.cal (T.d_written.ok0 sc_written ?_ fun cdv A outer s H vs Q E hr h => ?_) T.g_written T.kp_written
  · rintro vs H Q E ⟨v, B, rfl, _⟩
    rfl
  · obtain ⟨v, B, rfl, hB, hok, q⟩ := h
    obtain ⟨b, m, p, ps, rfl, hb, hm, hp, hps⟩ := hB
    refine ⟨_, pss_cons (ps_asg (pv 0) (pg_tup (by rfl) (pgs_cons (pg_name (i := 1) sc_written.nd rfl (.inl rfl)) (pgs_cons (pg_name (i := 2) sc_written.nd rfl (.inl rfl)) (pgs_cons (pg_name (i := 3) sc_written.nd rfl (.inl rfl)) pgs_nil)))))
      (pss_cons (ps_set (i := 4) sc_written.nd rfl (.inl rfl) (pe_op op_add_str pe_str (pe_callTy call_str_int (by rfl) T.z_str boot_str (pa_cons (pv 1) pa_nil))))
      (pss_cons (ps_if (pt_cmpR (op_neE hr.units0) (pv 2) (pe_tup pa_nil) (nomark _)) (pss_one (ps_set (i := 4) sc_written.nd rfl (.inl rfl) (pe_op op_add_str (pe_op op_add_str (pv 4) pe_str) (pe_c c1 hr (by decide) (by rfl) (pa_cons (pv 2) pa_nil))))) pss_nil)
      (pss_one (ps_ret (pe_join pe_str (pe_op op_cat (pe_lst (pa_cons (pv 4) pa_nil)) (pe_lc (own := [("things", 5), ("weight", 6)]) (g := gTup K 2 (gCons (gName 5) (gCons (gName 6) gNil))) (tt := tYes) (by rfl) sc_written.nd (pi_tup (pv 3)) (blkOk_by (N := ["box", "many", "mays", "pieces", "head", "things", "weight"]) (sc := defScope s_written) (by decide +kernel))
        (fun _ _ _ _ _ => pg_tup (by rfl) (pgs_cons (pg_name (i := 5) sc_written.nd rfl (.inl rfl)) (pgs_cons (pg_name (i := 6) sc_written.nd rfl (.inl rfl)) pgs_nil))) (fun _ _ _ _ _ => pts_nil)
        (fun s1 H1 C1 cl1 fp1 => pe_op op_add_str (pe_op op_add_str (pe_c c1 hr (by decide) (by rfl) (pa_cons (pv 5) pa_nil)) pe_str) (pe_callTy call_str_int (by rfl) T.z_str boot_str (pa_cons (pv 6) pa_nil)))))))))), ?_⟩
    have hn := hok.n
    have nlog : ((B.n : Int)).natAbs.log2 < 1920 := strI_log (by omega)
    have hd3 := strI_len (i := (B.n : Int)) (by omega)
    have h7 : ("things " : Str).length = 7 := by decide +kernel
    have h5 : (" may " : Str).length = 5 := by decide +kernel
    have hmay := listed_len (hok.mays.small hn)
    have hml := hok.mays.len
    have hsl : sizeLine = 16777216 := rfl
    walk_at "h"
    refine g_un3 (SqT.of hb) ?_
    walk_at "h"
    refine ⟨_, rfl, nlog, _, _, rfl, rfl, ?_, ?_⟩
    · show ("things " : Str).length + (strI B.n).length ≤ sizeLine
      omega
    walk_at "h"
    refine ⟨sz_of (by simp), fun p0 hp0 => ?_⟩
    have hS0 : Same H (upd H p0 (.tup [])) := Same.new hp0
    have rest : ∀ H1, Same H H1 → tRet (tM1 (fun x xs H Q => ∃ a p, ∃ ys : List Str, x = .str a ∧ xs = [.ref p] ∧ (SqL K H p (ys.map V.str) ∨ SqT K H p (ys.map V.str)) ∧ (ys.map (·.length)).sum + ys.length * a.length ≤ 16777216 ∧ Q (.str (Txt.join a ys)) H) (tC (V.str "\n"))
        (tOp rCat (tLst (tCons (tVar 4) tNil)) (tLc (iTup K (tVar 3)) (gTup K 2 (gCons (gName 5) (gCons (gName 6) gNil))) tYes
          (tOp (fun x y H Q => ∃ i j, x = .str i ∧ y = .str j ∧ i.length + j.length ≤ sizeLine ∧ Q (.str (i ++ j)) H)
            (tOp (fun x y H Q => ∃ i j, x = .str i ∧ y = .str j ∧ i.length + j.length ≤ sizeLine ∧ Q (.str (i ++ j)) H) (tCall spListed [] E0 (tCons (tVar 5) tNil)) (tC (V.str " ")))
            (tCB (fun xs H Q => ∃ i, xs = [.int i] ∧ i.natAbs.log2 < 1920 ∧ Q (.str (toString i)) H) (tCons (tVar 6) tNil))) [5, 6])))
        { nx := fun _ H' => Q .non H', rt := Q } [some (.ref b), some (.int B.n), some (.ref m), some (.ref p), some (.str (headS B)), none, none] H1 := by
      intro H1 hS1
      walk_at "h"
      refine ⟨⟨_, rfl⟩, ?_⟩
      walk_at "h"
      refine ⟨sz_of (by simp), fun p1 hp1 => ?_⟩
      have hS2 : Same H (upd H1 p1 (.lst [V.str (headS B)])) := Same.newer hS1 hp1
      have hh : upd H1 p1 (.lst [V.str (headS B)]) p1 = some (.lst [V.str (headS B)]) := upd_same
      refine ⟨_, rfl, p, rfl, ⟨_, SqT.of (hS2 _ _ hp)⟩, fun D hD => lc_map walk_tup hD (by have := hok.len; have := hps.1; omega) ((B.pcs.map pieceS).map V.str) (by simp [hps.1]) (fun H2 s2 => SqT.of ((hS2.trans s2) _ _ hp)) (fun i y o H2 H3 hi s2 ho y1 Qc kc => ?_) (fun H2 s2 d2 => ?_)⟩
      · obtain ⟨rfl, hy⟩ := y1
        obtain ⟨o1, ho1, rfl⟩ := map_at ho
        obtain ⟨z1, hz1, rfl⟩ := map_at ho1
        obtain ⟨q1, h1, rfl, hq1, hh1⟩ := hps.2 _ _ _ hy hz1
        have hpk := hok.pcs z1 (List.mem_of_getElem? hz1)
        have hS3 := hS2.trans s2
        have hl1 := listed_len (hpk.1.small hn)
        have hl2 := hpk.1.len
        have hl3 := strI_len (i := z1.2) (by have := hpk.2.2; omega)
        refine g_un2 (SqT.of (hS3 _ _ hq1)) ⟨rfl, ?_⟩
        walk_at "h"
        refine ⟨h1, z1.1, rfl, hS3 _ _ hh1, hpk.1.small hn, fun H4 s4 => ?_⟩
        walk_at "h"
        refine ⟨_, _, rfl, rfl, by rw [len_sp]; omega, ?_⟩
        walk_at "h"
        refine ⟨z1.2, rfl, strI_log (by have := hpk.2.2; omega), _, _, rfl, rfl, ?_, ?_⟩
        · show (listedS z1.1 ++ (" " : Str)).length + (strI z1.2).length ≤ sizeLine
          rw [cat_len, len_sp]
          omega
        · exact kc _ s4
      · refine ⟨p1, D, _, _, rfl, rfl, s2 _ _ hh, d2, by simp; have := hok.len; omega, fun p2 hp2 => ?_⟩
        refine ⟨_, p2, headS B :: B.pcs.map pieceS, rfl, rfl, .inl (.inl (.inl ?_)), ?_, q _ (Same.newer (hS2.trans s2) hp2)⟩
        · rw [upd_same]
          rfl
        · have e1 := head_len hok
          have e2 := sum_len (B.pcs.map pieceS) 400 (fun y hy => by
            obtain ⟨i, hi, rfl⟩ := List.mem_map.mp hy
            exact piece_len (hok.pcs i hi) hn)
          have e3 := hok.len
          rw [List.length_map] at e2
          rw [List.map_cons, List.sum_cons, len_nl, List.length_cons, List.length_map]
          have : B.pcs.length * 400 ≤ 32 * 400 := Nat.mul_le_mul_right _ e3
          omega
    walk_at "h"
    refine ⟨m, p0, _, _, rfl, rfl, .inr ⟨SqT.of (hS0 _ _ hm), SqT.of upd_same⟩, .inr rfl, ?_⟩
    walk_at "h"
    have hd : (if (true : Bool) = true then !decide (B.mays.map V.int = []) else decide (B.mays.map V.int = [])) = !decide (B.mays = []) := by
      simp
    rw [hd]
    refine g_ndec (fun h => ?_) (fun h => ?_)
    · walk_at "h"
      refine ⟨_, _, rfl, rfl, ?_, ?_⟩
      · show (("things " : Str) ++ strI B.n).length + (" may " : Str).length ≤ sizeLine
        rw [cat_len]
        omega
      walk_at "h"
      refine ⟨m, B.mays, rfl, hS0 _ _ hm, hok.mays.small hn, fun H1 s1 => ?_⟩
      walk_at "h"
      refine ⟨_, _, rfl, rfl, ?_, ?_⟩
      · show (("things " : Str) ++ strI B.n ++ (" may " : Str)).length + (listedS B.mays).length ≤ sizeLine
        rw [cat_len, cat_len]
        omega
      have e : headS B = (("things " : Str) ++ strI B.n ++ (" may " : Str)) ++ listedS B.mays := if_neg h
      walk_at "h"
      have r := rest H1 (hS0.trans s1)
      rw [e] at r
      exact r
    · walk_at "h"
      have e : headS B = ("things " : Str) ++ strI B.n := if_pos h
      have r := rest _ hS0
      rw [e] at r
      exact r
end
/-! ECut -/
/-! ### cuts: what holds after a step, told once for all ways through it -/
section
variable {X : Cx}
def tCut (t : TS) : TS := fun ⟨n, r, b, c⟩ σ H => ∃ Mid : L2.St → Hp → Prop, t ⟨Mid, r, b, c⟩ σ H ∧ ∀ σ' H', Mid σ' H' → n σ' H'
theorem ps_cut {st : Stmt} {t : TS} (h : PS X st t) : PS X st (tCut t) := by
  refine ⟨fun pins s σ H D I q => ?_⟩
  obtain ⟨n, r, b, c⟩ := D
  obtain ⟨Mid, q1, q2⟩ := q
  refine thn (h.run pins s σ H ⟨Mid, r, b, c⟩ I q1) fun f s' z => ?_
  cases f with
  | next =>
    obtain ⟨σ', H', I', m⟩ := z
    exact ⟨σ', H', I', q2 _ _ m⟩
  | ret u => exact z
  | brk => exact z
  | cont => exact z
theorem pss_cut {st : List Stmt} {t : TS} (h : PSs X st t) : PSs X st (tCut t) := by
  refine ⟨fun pins s σ H D I q => ?_⟩
  obtain ⟨n, r, b, c⟩ := D
  obtain ⟨Mid, q1, q2⟩ := q
  refine thn (h.run pins s σ H ⟨Mid, r, b, c⟩ I q1) fun f s' z => ?_
  cases f with
  | next =>
    obtain ⟨σ', H', I', m⟩ := z
    exact ⟨σ', H', I', q2 _ _ m⟩
  | ret u => exact z
  | brk => exact z
  | cont => exact z
def tECut (t : TE) : TE := fun σ H Q => ∃ Mid : VK, t σ H Mid ∧ ∀ v H', Mid v H' → Q v H'
theorem pe_cut {e : Expr} {t : TE} (h : PE X e t) : PE X e (tECut t) := by
  refine ⟨fun pins s σ H Q I q => ?_⟩
  obtain ⟨Mid, q1, q2⟩ := q
  refine thn (h.run pins s σ H Mid I q1) fun f s' z => ?_
  obtain ⟨v, H', I', r, m⟩ := z
  exact ⟨v, H', I', r, q2 _ _ m⟩
def tTCut (t : TT) : TT := fun σ H Q => ∃ Mid : Bool → Hp → Prop, t σ H Mid ∧ ∀ v H', Mid v H' → Q v H'
theorem pt_cut {e : Expr} {t : TT} (h : PT X e t) : PT X e (tTCut t) := by
  refine ⟨fun pins s σ H Q I q => ?_⟩
  obtain ⟨Mid, q1, q2⟩ := q
  refine thn (h.run pins s σ H Mid I q1) fun f s' z => ?_
  obtain ⟨H', I', m⟩ := z
  exact ⟨H', I', q2 _ _ m⟩
end
section
variable {σ : L2.St} {H : Hp} {n b c : L2.St → Hp → Prop} {r : VK} {t : TS} {Q : VK} {te : TE} {tt : TT} {R : Bool → Hp → Prop}
theorem g_cut (Mid : L2.St → Hp → Prop) (q1 : t ⟨Mid, r, b, c⟩ σ H) (q2 : ∀ σ' H', Mid σ' H' → n σ' H') : tCut t ⟨n, r, b, c⟩ σ H := ⟨Mid, q1, q2⟩
theorem g_ecut (Mid : VK) (q1 : te σ H Mid) (q2 : ∀ v H', Mid v H' → Q v H') : tECut te σ H Q := ⟨Mid, q1, q2⟩
theorem g_tcut (Mid : Bool → Hp → Prop) (q1 : tt σ H Mid) (q2 : ∀ v H', Mid v H' → R v H') : tTCut tt σ H R := ⟨Mid, q1, q2⟩
end
/-! ERul2 -/
/-! ### enumerate of a tuple -/
set_option maxHeartbeats 4000000 in
theorem meets_enum_tup (l : Addr) (items : Array Value) :
    Meets (Builtin.«enumerate.__new__» ⟨[.type "enumerate", .ref l], []⟩) (fun _ R s => s.heap.IsTuple l items ∧
      R (.ok (.ret (.ref (s.heap.push { cls := .type "tuple_iterator", data := .fields #[.ref l, .int 0 0] }).objs.size)))
        { s with heap := (s.heap.push { cls := .type "tuple_iterator", data := .fields #[.ref l, .int 0 0] }).push { cls := .type "enumerate", data := .fields #[.none, .bool false, .ref s.heap.objs.size, rawInt 0, .none, .none] } }) :=
  .of_wp fun prog w A R s h => by
    obtain ⟨hp, g, d, tk, os⟩ := s; obtain ⟨hl, h⟩ := h
    have hsub := sub_enumerate
    have hL : Heap.IsTuple (Shared.heap ⟨hp, g, d, tk, os⟩) l items := hl
    wp_walk
    refine wpAny_stack_any fun st => wpAny_pure ?_
    split
    · rename_i c _ _ _ _ _
      cases (c == Value.type "enumerate")
      · wp_walk using wpAny_pyIter_tuple hL
        exact ⟨_, rfl, h⟩
      · wp_walk using wpAny_pyIter_tuple hL
        exact ⟨_, rfl, h⟩
    · wp_walk using wpAny_pyIter_tuple hL
      exact ⟨_, rfl, h⟩
section
variable {prog : Program} {w : World} {A : Around} {E : Value → Shared → Prop} {s : Shared}
theorem call_enum_tup {l : Addr} {items : Array Value} {Q : Value → Shared → Prop} (hL : s.heap.IsTuple l items)
    (h : ∀ h', IsEnum h' (s.heap.objs.size + 1) s.heap.objs.size 0 .none → h'.IsTupleIter s.heap.objs.size l 0 → h'.objs.size = s.heap.objs.size + 2 →
      (∀ b o, s.heap.get? b = some o → h'.get? b = some o) → Q (.ref (s.heap.objs.size + 1)) { s with heap := h' }) :
    wpAny (model prog w) A (call (.type "enumerate") [.ref l]) Q E s := by
  refine callType_new F.called_enumerate (by decide) (F.typeCall_enumerate_1 _) (F.newCall_enumerate_1 _) (fun obj => F.args_object_init_2 obj _) F.entry_enumerate_new
    (meets_enum_tup l items) ⟨hL, ?_⟩
  have hz : (s.heap.push { cls := .type "tuple_iterator", data := .fields #[.ref l, .int 0 0] }).objs.size = s.heap.objs.size + 1 := Heap.size_push ..
  show _ ∧ _
  rw [hz]
  have he : IsEnum ((s.heap.push { cls := .type "tuple_iterator", data := .fields #[.ref l, .int 0 0] }).push
      { cls := .type "enumerate", data := .fields #[.none, .bool false, .ref s.heap.objs.size, rawInt 0, .none, .none] }) (s.heap.objs.size + 1) s.heap.objs.size 0 .none := by
    have := Heap.get?_push_size (s.heap.push { cls := .type "tuple_iterator", data := .fields #[.ref l, .int 0 0] })
      (o := { cls := .type "enumerate", data := .fields #[.none, .bool false, .ref s.heap.objs.size, rawInt 0, .none, .none] }) rfl
    rw [hz] at this; exact this
  refine ⟨⟨_, he, rfl⟩, h _ he ⟨_, Heap.get?_push_of_some _ (Heap.get?_push_size _ rfl), rfl, rfl⟩ (by rw [Heap.size_push, hz]) fun b o x => Heap.get?_push_of_some _ (Heap.get?_push_of_some _ x)⟩
end
def IteT (K : PySem.W.Frag) (a : Addr) : It :=
  ⟨fun i H => ∃ (xs : List V) (x : V), SqT K H a xs ∧ xs[i]? = some x,
    fun i H v H' => ∃ T x, v = .ref T ∧ H T = none ∧ H' = upd H T (.tup [.int (i : Nat), x]) ∧ ∀ xs, SqT K H a xs → xs[i]? = some x,
    fun i H => ∃ xs : List V, SqT K H a xs ∧ xs.length = i⟩
theorem walk_enumT {K : PySem.W.Frag} {a : Addr} {xs : List V} : Walk (IteT K a) xs.length (fun H => SqT K H a xs) (YPair (fun i => some (.int (i : Nat))) (fun i => xs[i]?)) := by
  refine ⟨fun i _ hi q => ⟨xs, xs[i], q, by simp [hi]⟩, fun _ q => ⟨xs, q, rfl⟩, fun i H v H' _ q y => ?_⟩
  obtain ⟨T, x, h1, h2, h3, h4⟩ := y
  exact ⟨T, .int (i : Nat), x, h1, h2, h3, rfl, h4 xs q⟩
theorem turn_enumT {P : Program} {w : World} {K : PySem.W.Frag} {elts : List Expr} {kk : Nat} {tpos : Pos} (a e it : Addr) :
    Turn P w K (.Tuple elts kk tpos) (IteT K a) [e, it] e (fun i h => (∃ old, IsEnum h e it ((i : Nat) : Int) old) ∧ h.IsTupleIter it a i ∧ e ≠ it ∧ a ≠ it ∧ a ≠ e) where
  mem := by simp
  obj := fun i h st b hb => by
    obtain ⟨⟨old, he⟩, ⟨o, ho, hc, hd⟩, _⟩ := st
    have e' : b = e ∨ b = it := by simpa using hb
    rcases e' with z | z
    · rw [z]; exact ⟨_, he, fun v q => nomatch q⟩
    · rw [z]; exact ⟨o, ho, fun v q => by rw [hd] at q; cases q⟩
  keep := fun i h h' st k => let ⟨⟨old, he⟩, hi, hne⟩ := st; ⟨⟨old, k e (by simp) _ he⟩, hi.at fun o q => k it (by simp) o q, hne⟩
  item := by
    intro X hP hw hK hc i pins s σ H E I hf st hg
    subst hP hw hK
    obtain ⟨⟨old, he⟩, hit, hne, hae, ha2⟩ := st
    obtain ⟨xs, x, hq, hx⟩ := hg
    obtain ⟨its, rv, p, hz⟩ := I.tuple hq
    obtain ⟨u, hu, ru⟩ := rv.get hx
    have hel : e < s.heap.objs.size := Heap.lt_size he
    have hil : it < s.heap.objs.size := by obtain ⟨_, q, _⟩ := hit; exact Heap.lt_size q
    have hlt : i < its.toArray.size := by
      have := rv.length
      have := at_lt hx
      rw [List.size_toArray]
      omega
    refine wpAny_pyNext_enum_itemC (Draws.tuple (show X.A.in1.handled = none from I.ok.hd hc) it a hae its.toArray) he ⟨hit, p⟩ hlt hne (by simp; exact ⟨hne, Ne.symm ha2⟩) fun x' h' tk hx' ho hit' hT hsz hk => ?_
    have ex : x' = u := by
      have h1 : its.toArray[i]? = some u := by simpa using hu
      rw [h1] at hx'
      exact (Option.some.inj hx').symm
    subst ex
    refine ⟨_, rfl, wpAny_letOwnedTupleGo_enum (s := { s with heap := h', toks := tk + 1 }) ho fun h'' he' sb => ?_⟩
    have hT2 : h''.get? s.heap.objs.size = some { cls := .type "tuple", data := .seq #[.int i tk, x'] } := (sb.2 _ (Nat.ne_of_gt hel)).trans hT
    have new : ObjOk X.prog X.w (upd H s.heap.objs.size (.tup [.int (i : Nat), x])) h'' s.heap.objs.size (.tup [.int (i : Nat), x]) :=
      ⟨by show 2 ≤ sizeLine; decide, [.int i tk, x'], .cons ⟨_, rfl⟩ (.cons ru .nil), ⟨_, hT2, rfl, _, rfl⟩⟩
    have I1 : Inv X pins σ (upd H s.heap.objs.size (.tup [.int (i : Nat), x])) { s with heap := h'', toks := tk + 1 } :=
      I.turnedNew (ch := [e, it]) (fun b ob hb q => (sb.2 b (fun z => hb (by simp [z]))).trans (hk b ob (fun z => hb (by simp [z])) (fun z => hb (by simp [z])) q)) hf (Nat.le_refl _) new
    refine ⟨.ref s.heap.objs.size, _, I1, rfl, ⟨_, x, rfl, I.hok.fresh (Nat.le_refl _), rfl, fun ys hy => by rw [I.tuple_inj hy hq]; exact hx⟩, ⟨⟨x', ?_⟩, hit'.1.at fun o q => (sb.2 it (Ne.symm hne)).trans q, hne, hae, ha2⟩, fun b hb => ?_⟩
    · have e1 : ((i + 1 : Nat) : Int) = (i : Int) + 1 := by omega
      rw [e1]; exact he'
    · have hb' : b < s.heap.objs.size := by
        have e' : b = e ∨ b = it := by simpa using hb
        rcases e' with z | z
        · rw [z]; exact hel
        · rw [z]; exact hil
      rw [upd_ne (Nat.ne_of_lt hb')]
      exact (hf b hb).1
  done := by
    intro X hP hw hK hc i pins s σ H E I hf st hg
    subst hP hw hK
    obtain ⟨⟨old, he⟩, hit, hne, hae, ha2⟩ := st
    obtain ⟨xs, hq, hx⟩ := hg
    obtain ⟨its, rv, p, hz⟩ := I.tuple hq
    obtain ⟨f0, f1, f2, f3, f4, f5⟩ := hf it (by simp)
    have hl := rv.length
    have hn : its.toArray.size = i := by rw [List.size_toArray]; omega
    exact wpAny_pyNext_enum_endD (Draws.tuple (show X.A.in1.handled = none from I.ok.hd hc) it a hae its.toArray) he ⟨by rw [hn]; exact hit, p⟩ fun h' eb => ⟨rfl, I.turned (t' := s.toks) (fun b o hb q => eb b o hb q) f0 f1 f3 f4 f5⟩
  self := fun A i s Q E st h => let ⟨⟨_, he⟩, _⟩ := st; wpAny_pyIter_enum he h
def iEnumT (K : PySem.W.Frag) (ta : TA) : TI := fun σ H R => ta σ H fun vs H1 => ∃ a xs, vs = [.ref a] ∧ SqT K H1 a xs ∧ R (IteT K a) H1
theorem pi_enumT {X : Cx} {e : Expr} {ta : TA} {p pos tpos : Pos} {elts : List Expr} {kk : Nat} (hg : Gl X "enumerate") (hm : X.mg "enumerate" = none) (ha : PA X [e] ta) (hs : starEach [e] X.env = [(false, eval e X.env)] := by rfl) :
    PI X (.Tuple elts kk tpos) (.Call (.Name "enumerate" p) [e] [] pos) (iEnumT X.K ta) := by
  refine ⟨fun pins s σ H R I h => ?_⟩
  refine Call_ (ld_blt I hg hm boot_enumerate (PyProof.Rows.callWith_type1 (thn (ha.run pos pins s σ H _ I h) fun us s1 ⟨vs, H1, I1, r1, q1⟩ => ?_) hs rfl))
  obtain ⟨a, xs, ex, hq, q⟩ := q1
  subst ex
  cases r1 with
  | cons r rr =>
    cases rr
    cases r
    obtain ⟨its, rv, p', hz⟩ := I1.tuple hq
    refine call_enum_tup p' fun h' he hit hsz hk => wpAny_pyIter_enum he ?_
    have I2 : Inv X pins σ H1 { s1 with heap := h' } := I1.kept (t' := s1.toks) hk
    have hal : a < s1.heap.objs.size := by obtain ⟨_, q, _⟩ := p'; exact Heap.lt_size q
    have l1 : a ≠ s1.heap.objs.size := Nat.ne_of_lt hal
    have l2 : a ≠ s1.heap.objs.size + 1 := Nat.ne_of_lt (Nat.lt_succ_of_lt hal)
    refine ⟨s1.heap.objs.size + 1, [s1.heap.objs.size + 1, s1.heap.objs.size], _, _, H1, rfl, I2, turn_enumT a (s1.heap.objs.size + 1) s1.heap.objs.size, ⟨⟨.none, he⟩, hit, Nat.succ_ne_self _, l1, l2⟩, fun b hb => ?_, q⟩
    have e' : b = s1.heap.objs.size + 1 ∨ b = s1.heap.objs.size := by simpa using hb
    have hle : s1.heap.objs.size ≤ b := by
      rcases e' with z | z
      · rw [z]; exact Nat.le_add_right _ _
      · rw [z]; exact Nat.le_refl _
    exact I1.fpOk hle (I1.hok.fresh hle)

/-! ### zip of a text and a list -/
def ItzX (K : PySem.W.Frag) (x : Str) (b : Addr) : It :=
  ⟨fun i H => ∃ (c : Nat) (ys : List V) (y : V), SqL K H b ys ∧ x.cps[i]? = some c ∧ ys[i]? = some y,
    fun i H v H' => ∃ T c y, v = .ref T ∧ H T = none ∧ H' = upd H T (.tup [.str ⟨#[c]⟩, y]) ∧ x.cps[i]? = some c ∧ ∀ ys, SqL K H b ys → ys[i]? = some y,
    fun i H => ∃ ys : List V, SqL K H b ys ∧ i ≤ x.cps.size ∧ i ≤ ys.length ∧ (x.cps.size = i ∨ ys.length = i)⟩
theorem walk_zipX {K : PySem.W.Frag} {x : Str} {b : Addr} {ys : List V} {n : Nat} (hn : x.cps.size = n) (hy : ys.length = n) : Walk (ItzX K x b) n (fun H => SqL K H b ys) (YPair (fun i => x.cps[i]?.map fun c => .str ⟨#[c]⟩) (fun i => ys[i]?)) := by
  refine ⟨fun i _ hi q => ?_, fun _ q => ⟨ys, q, by omega, by omega, .inl hn⟩, fun i H v H' _ q y => ?_⟩
  · have h1 : i < x.cps.size := by omega
    have h2 : i < ys.length := by omega
    exact ⟨x.cps[i], ys, ys[i], q, by simp [h1], by simp [h2]⟩
  · obtain ⟨T, c, y, h1, h2, h3, h4, h5⟩ := y
    exact ⟨T, _, y, h1, h2, h3, by simp [h4], h5 ys q⟩
theorem turn_zipX {P : Program} {w : World} {K : PySem.W.Frag} {elts : List Expr} {kk : Nat} {tpos : Pos} {x : Str} {t : Tok} {b z TI TO i1 i2 : Addr} (D : ZipSep2 z TI TO i1 i2 [i1] [i2, b]) (hbi : b ≠ i2) :
    Turn P w K (.Tuple elts kk tpos) (ItzX K x b) [z, TI, TO, i1, i2] z (fun i h => IsZip h z TI TO .none ∧ IsTupOf2 h TI (.ref i1) (.ref i2) ∧ (∃ x y, IsTupOf2 h TO x y) ∧ h.IsStrIter i1 (strIterType x) x t i ∧ h.IsListIter i2 b i) where
  mem := by simp
  obj := fun i h st c hc => by
    obtain ⟨hz, hTI, ⟨u, v, hTO⟩, ⟨o1, e1, _, d1⟩, ⟨o2, e2, _, d2⟩⟩ := st
    have e' : c = z ∨ c = TI ∨ c = TO ∨ c = i1 ∨ c = i2 := by simpa using hc
    rcases e' with q | q | q | q | q
    · rw [q]; exact ⟨_, hz, fun v q => nomatch q⟩
    · rw [q]; exact ⟨_, hTI, fun v q => nomatch q⟩
    · rw [q]; exact ⟨_, hTO, fun v q => nomatch q⟩
    · rw [q]; exact ⟨o1, e1, fun v q => by rw [d1] at q; cases q⟩
    · rw [q]; exact ⟨o2, e2, fun v q => by rw [d2] at q; cases q⟩
  keep := fun i h h' st k => by
    obtain ⟨hz, hTI, ⟨u, v, hTO⟩, ⟨o, h1, h1'⟩, h2⟩ := st
    exact ⟨k z (by simp) _ hz, k TI (by simp) _ hTI, ⟨u, v, k TO (by simp) _ hTO⟩, ⟨o, k i1 (by simp) o h1, h1'⟩, h2.at fun o q => k i2 (by simp) o q⟩
  item := by
    intro X hP hw hK hc i pins s σ H E I hf st hg
    subst hP hw hK
    obtain ⟨hz, hTI, ⟨x0, y0, hTO⟩, h1, h2⟩ := st
    obtain ⟨c, ys, y, hqy, hx, hy⟩ := hg
    obtain ⟨its2, rv2, p2, _⟩ := I.list hqy
    obtain ⟨u2, hu2, ru2⟩ := rv2.get hy
    have hh : X.A.in1.handled = none := I.ok.hd hc
    have hlt1 : i < x.cps.size := (Array.getElem?_eq_some_iff.mp hx).1
    have hlt2 : i < its2.toArray.size := by
      have := at_lt hu2
      rw [List.size_toArray]
      exact this
    have hzl : z < s.heap.objs.size := Heap.lt_size hz
    refine wpAny_pyNext_zipD2_item D (Draws.text hh i1 x t) (Draws.list hh i2 b hbi its2.toArray) hz hTI hTO h1 ⟨h2, p2.isList⟩ hlt1 hlt2 fun x1 x2 h' tk hx1 hx2 z' TO' h1' h2' hT hsz hk => ?_
    have ex : x2 = u2 := by
      have h1 : its2.toArray[i]? = some u2 := by simpa using hu2
      rw [h1] at hx2
      exact (Option.some.inj hx2).symm
    subst ex
    obtain ⟨c', tt, hc', rfl⟩ := hx1
    rw [hx] at hc'
    obtain rfl := Option.some.inj hc'
    refine ⟨_, rfl, wpAny_letOwnedTupleGo_zip (s := { s with heap := h', toks := tk }) z' fun h'' z'' sb => ?_⟩
    have hT2 : h''.get? s.heap.objs.size = some { cls := .type "tuple", data := .seq #[.str ⟨#[c]⟩ tt, x2] } := (sb.2 _ (Nat.ne_of_gt hzl)).trans hT
    have new : ObjOk X.prog X.w (upd H s.heap.objs.size (.tup [.str ⟨#[c]⟩, y])) h'' s.heap.objs.size (.tup [.str ⟨#[c]⟩, y]) :=
      ⟨by show 2 ≤ sizeLine; decide, [.str ⟨#[c]⟩ tt, x2], .cons ⟨_, rfl⟩ (.cons ru2 .nil), ⟨_, hT2, rfl, _, rfl⟩⟩
    have I1 : Inv X pins σ (upd H s.heap.objs.size (.tup [.str ⟨#[c]⟩, y])) { s with heap := h'', toks := tk } :=
      I.turnedNew (t' := tk) (ch := [z, TI, TO, i1, i2]) (fun c o hb q => (sb.2 c (fun q' => hb (by simp [q']))).trans (hk c o (fun q' => hb (by simp [q'])) (fun q' => hb (by simp [q'])) (fun q' => hb (by simp [q'])) (fun q' => hb (by simp [q'])) q)) hf (Nat.le_refl _) new
    refine ⟨.ref s.heap.objs.size, _, I1, rfl, ⟨_, c, y, rfl, I.hok.fresh (Nat.le_refl _), rfl, hx, fun l hl => by rw [I.list_inj hl hqy]; exact hy⟩, ⟨z'', ?_, ⟨.str ⟨#[c]⟩ tt, x2, ?_⟩, ?_, ?_⟩, fun c hcm => ?_⟩
    · exact (sb.2 _ D.TIz).trans (hk _ _ D.TIz D.TITO D.TIi1 D.TIi2 hTI)
    · exact (sb.2 _ D.TOz).trans TO'
    · obtain ⟨o, q1, q2⟩ := h1'
      exact ⟨o, (sb.2 _ D.zi1.symm).trans q1, q2⟩
    · exact h2'.1.at fun o q => (sb.2 _ D.zi2.symm).trans q
    · have hlt : c < s.heap.objs.size := by
        have e' : c = z ∨ c = TI ∨ c = TO ∨ c = i1 ∨ c = i2 := by simpa using hcm
        rcases e' with q | q | q | q | q
        · rw [q]; exact hzl
        · rw [q]; exact Heap.lt_size hTI
        · rw [q]; exact Heap.lt_size hTO
        · rw [q]; obtain ⟨_, e1, _⟩ := h1; exact Heap.lt_size e1
        · rw [q]; obtain ⟨_, e2, _⟩ := h2; exact Heap.lt_size e2
      rw [upd_ne (Nat.ne_of_lt hlt)]
      exact (hf c hcm).1
  done := by
    intro X hP hw hK hc i pins s σ H E I hf st hg
    subst hP hw hK
    obtain ⟨hz, hTI, ⟨x0, y0, hTO⟩, h1, h2⟩ := st
    obtain ⟨ys, hqy, hl1, hl2, hend⟩ := hg
    obtain ⟨its2, rv2, p2, _⟩ := I.list hqy
    have l2 := rv2.length
    have hh : X.A.in1.handled = none := I.ok.hd hc
    exact wpAny_pyNext_zipD2_end D (Draws.text hh i1 x t) (Draws.list hh i2 b hbi its2.toArray) hz hTI hTO h1 ⟨h2, p2.isList⟩ hl1 (by rw [List.size_toArray, ← l2]; exact hl2) (hend.imp Eq.symm fun e => by rw [← e, l2]; simp) fun h' tk hk => ⟨rfl, I.turnedL (t' := tk) (ch := [z, TI, TO, i1, i2]) (fun c o hb q =>
      hk c o (fun q' => hb (by simp [q'])) (fun q' => hb (by simp [q'])) (fun q' => hb (by simp [q'])) (fun q' => hb (by simp [q'])) q) hf⟩
  self := fun A i s Q E st h => wpAny_pyIter_zip st.1 h
def iZipX (K : PySem.W.Frag) (ta : TA) : TI := fun σ H R => ta σ H fun vs H1 => ∃ x b ys, vs = [.str x, .ref b] ∧ SqL K H1 b ys ∧ R (ItzX K x b) H1
theorem pi_zipX {X : Cx} {e e2 : Expr} {ta : TA} {p pos tpos : Pos} {elts : List Expr} {kk : Nat} (hg : Gl X "zip") (hm : X.mg "zip" = none) (ha : PA X [e, e2] ta)
    (hs : starEach [e, e2] X.env = (false, eval e X.env) :: starEach [e2] X.env := by rfl) (hpl : (backTo pos (starEach [e2] X.env)).any (·.1) = false := by rfl) :
    PI X (.Tuple elts kk tpos) (.Call (.Name "zip" p) [e, e2] [] pos) (iZipX X.K ta) := by
  refine ⟨fun pins s σ H R I h => ?_⟩
  refine Call_ (ld_blt I hg hm PyProof.Rows.boot_zip (PyProof.Rows.callWith_type1 (thn (ha.run pos pins s σ H _ I h) fun us s1 ⟨vs, H1, I1, r1, q1⟩ => ?_) hs hpl))
  obtain ⟨x, b, ys, ex, hqy, q⟩ := q1
  subst ex
  cases r1 with
  | cons r rr =>
    cases rr with
    | cons r' rr =>
      cases rr
      obtain ⟨t, rfl⟩ := r
      cases r'
      have fresh5 : ∀ c, c ∈ [s1.heap.objs.size + 4, s1.heap.objs.size + 2, s1.heap.objs.size + 3, s1.heap.objs.size, s1.heap.objs.size + 1] → FpOk X pins H1 c := fun c hcm => by
        have e' : c = s1.heap.objs.size + 4 ∨ c = s1.heap.objs.size + 2 ∨ c = s1.heap.objs.size + 3 ∨ c = s1.heap.objs.size ∨ c = s1.heap.objs.size + 1 := by simpa using hcm
        have hle : s1.heap.objs.size ≤ c := by
          rcases e' with z | z | z | z | z
          · rw [z]; exact Nat.le_add_right _ _
          · rw [z]; exact Nat.le_add_right _ _
          · rw [z]; exact Nat.le_add_right _ _
          · rw [z]; exact Nat.le_refl _
          · rw [z]; exact Nat.le_add_right _ _
        exact I1.fpOk hle (I1.hok.fresh hle)
      obtain ⟨its2, rv2, p2, _⟩ := I1.list hqy
      refine zip_begins2 (begins_text x t) (begins_list b its2.toArray) trivial p2.isList fun h' hz hTI hTO h1 h2 hsz hk => wpAny_pyIter_zip hz ?_
      have I2 : Inv X pins σ H1 { s1 with heap := h' } := I1.kept (t' := s1.toks) hk
      exact ⟨s1.heap.objs.size + 4, [s1.heap.objs.size + 4, s1.heap.objs.size + 2, s1.heap.objs.size + 3, s1.heap.objs.size, s1.heap.objs.size + 1], _, _, H1, rfl, I2,
        turn_zipX (t := t) (zip_sep2 (fp1 := []) (fp2 := [b]) (by simp) (by simp; exact p2.lt)) (Nat.ne_of_lt (Nat.lt_succ_of_lt p2.lt)), ⟨hz, hTI, ⟨_, _, hTO⟩, ⟨_, h1, rfl, rfl⟩, ⟨_, h2, rfl, rfl⟩⟩, fresh5, q⟩
/-! ERul3 -/
section
variable {X : Cx}
/-! ### a list of texts in a list of lists of texts -/
theorem all_eq (d : Str) : ∀ (zs xs : List Str), zs.length = xs.length → ((List.range zs.length).all fun j => zs.getD j d == xs.getD j d) = decide (zs = xs) := by
  intro zs xs hl
  rw [Bool.eq_iff_iff, List.all_eq_true, decide_eq_true_eq]
  constructor
  · intro h
    refine List.ext_getElem hl fun j h1 h2 => ?_
    have := h j (List.mem_range.mpr h1)
    rw [beq_iff_eq, List.getD_eq_getElem?_getD, List.getD_eq_getElem?_getD, List.getElem?_eq_getElem h1, List.getElem?_eq_getElem h2] at this
    exact this
  · intro h j _
    rw [h]
    exact beq_self_eq_true _
theorem strs_get {zs : List Str} {its : List Value} (r : Vals (zs.map V.str) its) (d : Str) {j : Nat} (h : j < its.length) : ∃ t, its[j] = .str (zs.getD j d) t := by
  have hl := r.length
  rw [List.length_map] at hl
  have hz : j < zs.length := by omega
  obtain ⟨u, hu, ru⟩ := r.get (i := j) (x := V.str zs[j]) (by rw [List.getElem?_map, List.getElem?_eq_getElem hz]; rfl)
  obtain ⟨t, rfl⟩ := ru
  rw [List.getElem?_eq_getElem h] at hu
  refine ⟨t, ?_⟩
  rw [List.getD_eq_getElem?_getD, List.getElem?_eq_getElem hz]
  exact Option.some.inj hu
theorem eqAt_strs {pins : List (Addr × Obj)} {σ : L2.St} {H : Hp} {s : Shared} {A : Around} (I : Inv X pins σ H s) (hu : A.units < cLine) {a b : Addr} {zs xs : List Str} (h1 : SqL X.K H b (zs.map V.str)) (h2 : SqL X.K H a (xs.map V.str)) :
    SeqAt.EqAt A s (.ref b) (.ref a) (decide (zs = xs)) := by
  by_cases e : b = a
  · subst e
    have := I.list_inj h1 h2
    have e2 : zs = xs := by
      have := congrArg (List.map fun v => match v with | V.str z => z | _ => ("" : Str)) this
      simpa [List.map_map, Function.comp_def] using this
    rw [decide_eq_true e2]
    exact SeqAt.EqAt.same _
  · refine SeqAt.EqAt.of_refs e ?_
    obtain ⟨its, r, pl, _⟩ := I.list h1
    obtain ⟨its2, r2, pl2, _⟩ := I.list h2
    have l1 := r.length
    have l2 := r2.length
    rw [List.length_map] at l1 l2
    by_cases c : zs.length = xs.length
    · have q := SeqAt.RcAt.lists (A := A) (s := s) (e := fun j => zs.getD j "" == xs.getD j "") pl.isList pl2.isList (by rw [List.size_toArray, List.size_toArray]; omega) hu (fun j q1 q2 => by
        obtain ⟨t1, e1⟩ := strs_get r "" (j := j) (by simpa using q1)
        obtain ⟨t2, e2⟩ := strs_get r2 "" (j := j) (by simpa using q2)
        have e1' : its.toArray[j] = .str (zs.getD j "") t1 := by simpa using e1
        have e2' : its2.toArray[j] = .str (xs.getD j "") t2 := by simpa using e2
        rw [e1', e2']
        exact SeqAt.EqAt.str_str _ _ _ _)
      rw [List.size_toArray, ← l1, all_eq "" zs xs c] at q
      exact q
    · rw [decide_eq_false (fun e => c (by rw [e]))]
      exact SeqAt.RcAt.lists_lengths pl.isList pl2.isList (by rw [bne_iff_ne, List.size_toArray, List.size_toArray]; omega) hu
def rInLL (K : PySem.W.Frag) : R2 := fun x y H Q => ∃ (a p b1 b2 : Addr) (xs z1 z2 : List Str), x = .ref a ∧ y = .ref p ∧ SqL K H a (xs.map V.str) ∧ SqL K H p [.ref b1, .ref b2] ∧ SqL K H b1 (z1.map V.str) ∧ SqL K H b2 (z2.map V.str) ∧ b1 ≠ b2 ∧ Q (.bl (decide (z1 = xs) || decide (z2 = xs))) H
theorem op_inLL (hu : X.A.in1.units < cLine) : OpR X (compareOp .In) (rInLL X.K) := by
  intro pins s σ H x y v u Q I rx ry h
  obtain ⟨a, p, b1, b2, xs, z1, z2, rfl, rfl, ha, hp, h1, h2, hne, q⟩ := h
  cases rx
  cases ry
  obtain ⟨its, r, pl, _⟩ := I.list hp
  cases r with
  | cons r1 r =>
    cases r with
    | cons r2 r =>
      cases r
      cases r1
      cases r2
      refine SeqAt.in_listAt (fun u => if u = .ref b1 then decide (z1 = xs) else decide (z2 = xs)) pl.isList (fun w hw => ?_) (fin_bl I q ?_)
      · have : w = .ref b1 ∨ w = .ref b2 := by simpa using hw
        rcases this with rfl | rfl
        · rw [if_pos rfl]
          exact eqAt_strs I hu h1 ha
        · rw [if_neg (fun e => hne (Value.ref.inj e).symm)]
          exact eqAt_strs I hu h2 ha
      · have e : ¬ Value.ref b2 = Value.ref b1 := fun e => hne (Value.ref.inj e).symm
        simp [e]
end
/-! ### the forms of the rows -/
def forms : List (Str × Str) := [("must", ""), ("may", ""), ("piece", "lw"), ("turn", "n"), ("undo", ""), ("box", ""), ("many", ""), ("at", "n"), ("lightest", ""), ("bars", "")]
def formOf (x : Str) : Option Str := forms.lookup x
/-- a written dict's value at a text, if any -/
def KFind (K : PySem.W.Frag) (w : World) (d : Addr) (z : Str) (o : Option V) : Prop := ∃ es n r, KDict K w d es n ∧ PySem.W.nsIn K d z = some r ∧ RelO o r
theorem keyOf_find {es : List DictEntry} {P : Params} {ks : List Str} (h : es.map He.keyOf = He.keysIn P ks) {x : Str} (hx : x ∉ ks) : es.find? (fun e => e.key.isStr x) = none ∧ es.any (fun e => e.refKey) = false := by
  induction es generalizing ks with
  | nil => exact ⟨rfl, rfl⟩
  | cons e r ih =>
    cases ks with
    | nil => cases h
    | cons k ks =>
      have h1 : He.keyOf e :: r.map He.keyOf = some (k, PyData.keyHash P k) :: He.keysIn P ks := h
      injection h1 with h2 h3
      obtain ⟨i1, i2⟩ := ih h3 (fun hm => hx (List.mem_cons_of_mem _ hm))
      obtain ⟨eh, ek, ev⟩ := e
      unfold He.keyOf at h2
      simp only at h2
      split at h2
      · rename_i y t
        obtain ⟨h5, h6⟩ := Prod.mk.inj (Option.some.inj h2)
        subst h5
        have hne : (y == x) = false := by
          rw [beq_eq_false_iff_ne]
          intro e
          exact hx (by rw [e]; exact List.mem_cons_self)
        constructor
        · rw [List.find?_cons]
          have : Value.isStr (Value.str y t) x = false := hne
          simp only [this]
          exact i1
        · rw [List.any_cons, i2]
          rfl
      · cases h2
theorem dicW_none {K : PySem.W.Frag} {P : Params} {a : Addr} {ks : List Str} (h : He.dicW K a = some (He.keysIn P ks)) {es : Array DictEntry} {n : Nat} (hl : K.lookup a = some ⟨.type "dict", none, .dict es n, #[]⟩) {x : Str} (hx : x ∉ ks) : PySem.W.nsIn K a x = some none := by
  have e : es.toList.map He.keyOf = He.keysIn P ks := by
    unfold He.dicW at h
    rw [hl] at h
    simp only at h
    split at h
    · exact Option.some.inj h
    · cases h
  obtain ⟨h1, h2⟩ := keyOf_find e hx
  unfold PySem.W.nsIn
  rw [hl]
  simp only [h1, h2]
  rfl
theorem forms_mem {x : Str} {f : Str} (h : formOf x = some f) : (x, f) ∈ forms := by
  have key : ∀ l : List (Str × Str), l.lookup x = some f → (x, f) ∈ l := by
    intro l
    induction l with
    | nil => intro h; cases h
    | cons p r ih =>
      obtain ⟨k, g⟩ := p
      intro h
      rw [List.lookup_cons] at h
      split at h
      · rename_i e
        rw [beq_iff_eq] at e
        rw [e, Option.some.inj h]
        exact List.mem_cons_self
      · exact List.mem_cons_of_mem _ (ih h)
  exact key _ h
theorem forms_none {x : Str} (h : formOf x = none) : x ∉ forms.map (·.1) := by
  have key : ∀ l : List (Str × Str), l.lookup x = none → x ∉ l.map (·.1) := by
    intro l
    induction l with
    | nil => intro _ h; cases h
    | cons p r ih =>
      obtain ⟨k, g⟩ := p
      intro h hm
      rw [List.lookup_cons] at h
      split at h
      · cases h
      · rename_i e
        rw [List.map_cons] at hm
        rcases List.mem_cons.mp hm with e2 | hm
        · rw [e2, beq_self_eq_true] at e
          cases e
        · exact ih h hm
  exact key _ h
section
variable {K : PySem.W.Frag} {w : World} {mg : Str → Option Value}
theorem Tx.forms (T : Tx K w mg) (x : Str) : KFind K w (He.ga K "FORMS") x ((formOf x).map V.str) := by
  obtain ⟨_, _, _, c, m⟩ := T.ex
  obtain ⟨es, n, D⟩ := c.tab 0 (t := ((fun K => He.ga K "FORMS"), ["must", "may", "piece", "turn", "undo", "box", "many", "at", "lightest", "bars"]))
  have e : He.dicW K (He.ga K "FORMS") = some (He.keysIn w.params ["must", "may", "piece", "turn", "undo", "box", "many", "at", "lightest", "bars"]) := by
    have e : tabs.map (fun t => He.dicW K (t.1 K)) = tabs.map fun t => some (He.keysIn w.params t.2) := congrArg (fun z : He.AlT => z.2) c
    exact (List.cons.inj e).1
  unfold exAll at m
  simp only [Bool.and_eq_true] at m
  have v := m.2.2.2.2
  cases h : formOf x with
  | none => exact ⟨es, n, none, D, dicW_none e D.at_ (forms_none h), trivial⟩
  | some f =>
    have hm := forms_mem h
    obtain ⟨u, h1, h2⟩ := He.valsB_ok v (q := (x, .str f)) (by
      have : ∀ p ∈ Eo.forms, (p.1, He.Dv.str p.2) ∈ ([("must", .str ""), ("may", .str ""), ("piece", .str "lw"), ("turn", .str "n"), ("undo", .str ""), ("box", .str ""), ("many", .str ""), ("at", .str "n"), ("lightest", .str ""), ("bars", .str "")] : List (Str × He.Dv)) := by
        intro p hp
        simp only [Eo.forms, List.mem_cons, List.not_mem_nil, or_false] at hp
        rcases hp with rfl | rfl | rfl | rfl | rfl | rfl | rfl | rfl | rfl | rfl <;> simp
      exact this _ hm)
    exact ⟨es, n, some u, D, h1, h2⟩
end
section
variable {X : Cx} {o e : Expr} {apos cpos : Pos} {td ty : TE}
def tKGet (K : PySem.W.Frag) (w : World) (td ty : TE) : TE := fun σ H Q => td σ H fun x H1 => ∃ d, x = .ref d ∧ (∃ es n, KDict K w d es n) ∧ ty σ H1 fun y H2 => ∃ z o, y = .str z ∧ KFind K w d z o ∧ Q (o.getD .non) H2
theorem g_kget {K : PySem.W.Frag} {w : World} {σ : L2.St} {H : Hp} {Q : VK} (q : td σ H fun x H1 => ∃ d, x = .ref d ∧ (∃ es n, KDict K w d es n) ∧ ty σ H1 fun y H2 => ∃ z o, y = .str z ∧ KFind K w d z o ∧ Q (o.getD .non) H2) : tKGet K w td ty σ H Q := q
theorem pe_kget (ho : PE X o td) (he : PE X e ty) (m : M1 X o "get" apos e cpos) : PE X (.Call (.Attribute o "get" apos) [e] [] cpos) (tKGet X.K X.w td ty) := by
  refine ⟨fun pins s σ H Q I h => ?_⟩
  refine wpAny_Call_method m.base m.few m.line PySem.F.plainAttrs_dict PySem.F.slot_dict_get PySem.F.type_dict_get (thn (ho.run pins s σ H _ I h) fun u s1 ⟨x, H1, I1, rx, a, ex, ⟨es, n, D⟩, q1⟩ => ?_)
  subst ex
  obtain rfl : u = Value.ref a := rx
  have m1 := PySem.W.mapOf_K (prog := X.prog) (w := X.w) I1.kIn D.at_ D.lit
  refine ⟨m1.typeIs, (fun b q => by
    cases q
    exact ⟨_, I1.kIn _ _ D.at_, rfl⟩), ?_⟩
  rw [m.trees]
  refine Calls.callWith_builtin rfl (Calls.evalArgs_plain (Calls.spliced_cons (thn (he.run pins s1 σ H1 _ I1 q1) fun iv s2 ⟨y, H2, I2, ry, z, ov, ey, ⟨es', n', r, D', hn, ro⟩, q2⟩ => Calls.spliced_nil ?_)))
  subst ey
  obtain ⟨t, rfl⟩ := ry
  have m2 := PySem.W.mapOf_K (prog := X.prog) (w := X.w) I2.kIn D'.at_ D'.lit
  refine call_meetsIn PySem.F.slot_dict_get m2.typeIs PySem.F.entry_dict_get (PySem.F.args_dict_get_2 _ _) (meets_dict_get (strKind X.prog X.w) a (strKind_is X.prog X.w z t) D'.low) ⟨_, m2, ⟨ov.getD .non, H2, I2.tok _, ?_, q2⟩⟩
  rw [PySem.W.find_K D'.at_ hn]
  cases ov with
  | none => cases r with
    | none => rfl
    | some u => exact ro.elim
  | some v => cases r with
    | none => exact ro.elim
    | some u => exact ro
end
/-! ETxt5 -/
/-! ### what a row tells -/
def tPl (h : Str) : List Str → Option Row
  | [] => some (.pl h)
  | _ => none
def tNu (h : Str) : List Str → Option Row
  | [b] => (numberIn b).map (.nu h)
  | _ => none
def tPr : Option (List Int) → Option Int → Option Row
  | some l, some w => some (.pc l w)
  | _, _ => none
def tPc : List Str → Option Row
  | [b, c] => tPr (numbersIn b) (signedIn c)
  | _ => none
def toldF (f : Option Str) (h : Str) (rest : List Str) : Option Row :=
  match f with
  | none => none
  | some f => if f = "" then tPl h rest else if f = "n" then tNu h rest else tPc rest
theorem toldF_e (h : Str) (rest : List Str) : toldF (some ("" : Str)) h rest = tPl h rest := by simp [toldF]
theorem s_ne1 : ¬ ("n" : Str) = "" := by decide +kernel
theorem s_ne2 : ¬ ("lw" : Str) = "" := by decide +kernel
theorem s_ne3 : ¬ ("lw" : Str) = "n" := by decide +kernel
theorem toldF_n (h : Str) (rest : List Str) : toldF (some ("n" : Str)) h rest = tNu h rest := by simp [toldF, s_ne1]
theorem toldF_lw (h : Str) (rest : List Str) : toldF (some ("lw" : Str)) h rest = tPc rest := by simp [toldF, s_ne2, s_ne3]
theorem toldW_1 (a : Str) : toldW [a] = if a ∈ plains then some (.pl a) else none := rfl
theorem toldW_2 (a b : Str) : toldW [a, b] = if a = "turn" ∨ a = "at" then (numberIn b).map (.nu a) else none := rfl
theorem toldW_3 (a b c : Str) : toldW [a, b, c] = if a = "piece" then tPr (numbersIn b) (signedIn c) else if a = "drop" ∧ (b = "thing" ∨ b = "piece") then (numberIn c).map (.nu ((Str.ofString "drop ") ++ b)) else none := by
  show (if a = "piece" then _ else _) = _
  by_cases h : a = "piece"
  · rw [if_pos h, if_pos h]
    cases numbersIn b <;> cases signedIn c <;> rfl
  · rw [if_neg h, if_neg h]
theorem formOf_cases {h f : Str} (e : formOf h = some f) : (f = "" ∧ h ∈ plains) ∨ (f = "n" ∧ (h = "turn" ∨ h = "at")) ∨ (f = "lw" ∧ h = "piece") := by
  have hm := forms_mem e
  simp only [forms, List.mem_cons, List.not_mem_nil, or_false, Prod.mk.injEq] at hm
  rcases hm with ⟨rfl, rfl⟩ | ⟨rfl, rfl⟩ | ⟨rfl, rfl⟩ | ⟨rfl, rfl⟩ | ⟨rfl, rfl⟩ | ⟨rfl, rfl⟩ | ⟨rfl, rfl⟩ | ⟨rfl, rfl⟩ | ⟨rfl, rfl⟩ | ⟨rfl, rfl⟩
  · exact .inl ⟨rfl, by decide +kernel⟩
  · exact .inl ⟨rfl, by decide +kernel⟩
  · exact .inr (.inr ⟨rfl, rfl⟩)
  · exact .inr (.inl ⟨rfl, .inl rfl⟩)
  · exact .inl ⟨rfl, by decide +kernel⟩
  · exact .inl ⟨rfl, by decide +kernel⟩
  · exact .inl ⟨rfl, by decide +kernel⟩
  · exact .inr (.inl ⟨rfl, .inr rfl⟩)
  · exact .inl ⟨rfl, by decide +kernel⟩
  · exact .inl ⟨rfl, by decide +kernel⟩
theorem plains_not {h : Str} (hp : h ∈ plains) : ¬ (h = "turn" ∨ h = "at") ∧ ¬ h = "piece" ∧ ¬ h = "drop" := by
  have key : ∀ x ∈ plains, ¬ (x = "turn" ∨ x = "at") ∧ ¬ x = "piece" ∧ ¬ x = "drop" := by decide +kernel
  exact key h hp
theorem nums_not {h : Str} (hp : h = "turn" ∨ h = "at") : ¬ h ∈ plains ∧ ¬ h = "piece" ∧ ¬ h = "drop" := by
  rcases hp with rfl | rfl
  · decide +kernel
  · decide +kernel
theorem piece_not : ¬ ("piece" : Str) ∈ plains ∧ ¬ (("piece" : Str) = "turn" ∨ ("piece" : Str) = "at") ∧ ¬ ("piece" : Str) = "drop" := by decide +kernel
theorem drop_not : ¬ ("drop" : Str) ∈ plains ∧ ¬ (("drop" : Str) = "turn" ∨ ("drop" : Str) = "at") ∧ ¬ ("drop" : Str) = "piece" := by decide +kernel
theorem forms_keys : forms.map (·.1) = (["must", "may", "piece", "turn", "undo", "box", "many", "at", "lightest", "bars"] : List Str) := rfl
theorem form_none {h : Str} (e : formOf h = none) : ¬ h ∈ plains ∧ ¬ (h = "turn" ∨ h = "at") ∧ ¬ h = "piece" := by
  have hn := forms_none e
  rw [forms_keys] at hn
  refine ⟨fun hp => hn ?_, fun hp => hn ?_, fun hp => hn ?_⟩
  · have key : ∀ x ∈ plains, x ∈ (["must", "may", "piece", "turn", "undo", "box", "many", "at", "lightest", "bars"] : List Str) := by decide +kernel
    exact key h hp
  · rcases hp with rfl | rfl <;> decide +kernel
  · rw [hp]; decide +kernel
theorem toldW_pl {h : Str} (hp : h ∈ plains) (rest : List Str) : toldW (h :: rest) = toldF (some ("" : Str)) h rest := by
  obtain ⟨h1, h2, h3⟩ := plains_not hp
  have e := toldF_e h rest
  rw [e]
  match rest with
  | [] => exact if_pos hp
  | [b] => exact if_neg h1
  | [b, c] =>
    rw [toldW_3, if_neg h2, if_neg (fun e => h3 e.1)]
    rfl
  | _ :: _ :: _ :: _ => rfl
theorem toldW_nu {h : Str} (hp : h = "turn" ∨ h = "at") (rest : List Str) : toldW (h :: rest) = toldF (some ("n" : Str)) h rest := by
  obtain ⟨h1, h2, h3⟩ := nums_not hp
  have e := toldF_n h rest
  rw [e]
  match rest with
  | [] => exact if_neg h1
  | [b] => exact if_pos hp
  | [b, c] =>
    rw [toldW_3, if_neg h2, if_neg (fun e => h3 e.1)]
    rfl
  | _ :: _ :: _ :: _ => rfl
theorem toldW_pc (rest : List Str) : toldW ("piece" :: rest) = toldF (some ("lw" : Str)) "piece" rest := by
  obtain ⟨h1, h2, h3⟩ := piece_not
  have e := toldF_lw "piece" rest
  rw [e]
  match rest with
  | [] =>
    rw [toldW_1, if_neg h1]
    rfl
  | [b] =>
    rw [toldW_2, if_neg h2]
    rfl
  | [b, c] => exact (toldW_3 _ _ _).trans (if_pos rfl)
  | _ :: _ :: _ :: _ => rfl
theorem toldW_dr {b : Str} (hb : b = "thing" ∨ b = "piece") (rest : List Str) : toldW ("drop" :: b :: rest) = toldF (some ("n" : Str)) ((Str.ofString "drop ") ++ b) rest := by
  obtain ⟨h1, h2, h3⟩ := drop_not
  have e := toldF_n ((Str.ofString "drop ") ++ b) rest
  rw [e]
  match rest with
  | [] =>
    rw [toldW_2, if_neg h2]
    try rfl
  | [c] =>
    rw [toldW_3, if_neg h3, if_pos ⟨rfl, hb⟩]
    rfl
  | _ :: _ :: _ => rfl
theorem toldW_dn {rest : List Str} (hb : ∀ b r, rest = b :: r → ¬ (b = "thing" ∨ b = "piece")) : toldW ("drop" :: rest) = none := by
  obtain ⟨h1, h2, h3⟩ := drop_not
  match rest with
  | [] =>
    rw [toldW_1, if_neg h1]
  | [b] =>
    rw [toldW_2, if_neg h2]
    try rfl
  | [b, c] =>
    rw [toldW_3, if_neg h3, if_neg (fun e => hb b _ rfl e.2)]
  | _ :: _ :: _ :: _ => rfl
theorem toldW_form {h : Str} (hd : h ≠ "drop") (rest : List Str) : toldF (formOf h) h rest = toldW (h :: rest) := by
  cases e : formOf h with
  | none =>
    obtain ⟨h1, h2, h3⟩ := form_none e
    show none = _
    match rest with
    | [] => exact (if_neg h1).symm
    | [b] => exact (if_neg h2).symm
    | [b, c] =>
      rw [toldW_3, if_neg h3, if_neg (fun e => hd e.1)]
    | _ :: _ :: _ :: _ => rfl
  | some f =>
    rcases formOf_cases e with ⟨rfl, hp⟩ | ⟨rfl, hp⟩ | ⟨rfl, rfl⟩
    · exact (toldW_pl hp rest).symm
    · exact (toldW_nu hp rest).symm
    · exact (toldW_pc rest).symm
theorem formOf_drop : formOf "drop" = none := by decide +kernel
/-- the forms that a row may come to, with the first word -/
def FormOk (f : Option Str) (h : Str) : Prop := f = none ∨ f = some ("" : Str) ∨ f = some ("n" : Str) ∨ (f = some ("lw" : Str) ∧ h = "piece")
theorem formOk_of (h : Str) : FormOk (formOf h) h := by
  cases e : formOf h with
  | none => exact .inl rfl
  | some f =>
    rcases formOf_cases e with ⟨rfl, _⟩ | ⟨rfl, _⟩ | ⟨rfl, rfl⟩
    · exact .inr (.inl rfl)
    · exact .inr (.inr (.inl rfl))
    · exact .inr (.inr (.inr ⟨rfl, rfl⟩))
/-! ### promises -/
def ToldR (H : Hp) (v : V) : Option Row → Prop
  | none => v = .non
  | some (.pl h) => ∃ p, v = .ref p ∧ H p = some (.lst [.str h])
  | some (.nu h n) => ∃ p, v = .ref p ∧ H p = some (.lst [.str h, .int n])
  | some (.pc l w) => ∃ p q, v = .ref p ∧ H p = some (.lst [.str "piece", .ref q, .int w]) ∧ H q = some (.tup (l.map V.int))
def KindV (K : PySem.W.Frag) (H : Hp) (v : V) : Prop := (∃ x, v = .str x ∧ x.length ≤ 80000) ∨ ((∀ x, v ≠ .str x) ∧ ∃ t, TyOf K H v (.type t) ∧ t ∈ ["NoneType", "int", "bool", "list", "tuple", "dict"])
def spTold (K : PySem.W.Frag) : Sp := fun vs H Q _ => ∃ v, vs = [v] ∧ KindV K H v ∧ ∀ H' r, Same H H' → ToldR H' r (toldV v) → Q r H'
theorem NumsR.ex {H H' : Hp} {v : V} {o : Option (List Int)} (h : NumsR H v o) (e : TupEx H H') : NumsR H' v o := by
  cases o with
  | none => exact h
  | some l =>
    obtain ⟨p, h1, h2⟩ := h
    exact ⟨p, h1, e _ _ h2⟩
theorem RdV.ex {H H' : Hp} {f x : Str} {v : V} (h : RdV H f x v) (e : TupEx H H') : RdV H' f x v := by
  unfold RdV at h ⊢
  split
  · rename_i c
    rw [if_pos c] at h
    exact h
  · rename_i c
    rw [if_neg c] at h
    split
    · rename_i c2
      rw [if_pos c2] at h
      exact h.ex e
    · rename_i c2
      rw [if_neg c2] at h
      exact h
theorem RdV.it {K : PySem.W.Frag} {H : Hp} {f x : Str} {v : V} (h : RdV H f x v) : itN K H v := by
  unfold RdV at h
  have opt : ∀ o : Option Int, itN K H (optI o) := fun o => .inl (by cases o <;> rfl)
  split at h
  · rw [h]; exact opt _
  · split at h
    · cases e : numbersIn x with
      | none => rw [e] at h; rw [show v = .non from h]; exact .inl rfl
      | some l =>
        rw [e] at h
        obtain ⟨p, h1, h2⟩ := h
        exact .inr ⟨p, _, h1, SqT.of h2⟩
    · rw [h]; exact opt _
/-- the items that the form's signs make of the words -/
def ItsR (H : Hp) (f : Str) (rest : List Str) (acc : List V) : Prop := ∀ (j : Nat) (r : V), acc[j]? = some r → ∃ (c : Nat) (x : Str), (sg f)[j]? = some c ∧ rest[j]? = some x ∧ RdV H ⟨#[c]⟩ x r
theorem ItsR.ex {H H' : Hp} {f : Str} {rest : List Str} {acc : List V} (h : ItsR H f rest acc) (e : TupEx H H') : ItsR H' f rest acc := fun j r hj => by
  obtain ⟨c, x, h1, h2, h3⟩ := h j r hj
  exact ⟨c, x, h1, h2, h3.ex e⟩
theorem ItsR.snoc {H : Hp} {f : Str} {rest : List Str} {acc : List V} (h : ItsR H f rest acc) {v : V} {c : Nat} {x : Str} (h1 : (sg f)[acc.length]? = some c) (h2 : rest[acc.length]? = some x) (h3 : RdV H ⟨#[c]⟩ x v) : ItsR H f rest (acc ++ [v]) := fun j r hj => by
  by_cases q : j < acc.length
  · rw [List.getElem?_append_left q] at hj
    exact h j r hj
  · rw [List.getElem?_append_right (by omega)] at hj
    cases e : j - acc.length with
    | zero =>
      rw [e] at hj
      have : j = acc.length := by omega
      subst this
      simp at hj
      subst hj
      exact ⟨c, x, h1, h2, h3⟩
    | succ k => rw [e] at hj; simp at hj
theorem sg_lw : sg ("lw" : Str) = [108, 119] := by decide +kernel
theorem sg_n : sg ("n" : Str) = [110] := by decide +kernel
theorem sg_e : sg ("" : Str) = [] := by decide +kernel
theorem RdV.n {H : Hp} {x : Str} {v : V} (h : RdV H ⟨#[110]⟩ x v) : v = optI (numberIn x) := by
  have e : (⟨#[110]⟩ : Str) = "n" := (str_one sg_n).mpr rfl
  unfold RdV at h
  rw [if_pos e] at h
  exact h
theorem RdV.l {H : Hp} {x : Str} {v : V} (h : RdV H ⟨#[108]⟩ x v) : NumsR H v (numbersIn x) := by
  unfold RdV at h
  rw [if_neg (by decide +kernel), if_pos (by decide +kernel)] at h
  exact h
theorem RdV.w {H : Hp} {x : Str} {v : V} (h : RdV H ⟨#[119]⟩ x v) : v = optI (signedIn x) := by
  unfold RdV at h
  rw [if_neg (by decide +kernel), if_neg (by decide +kernel)] at h
  exact h
/-- what is made of the items, with the first word ahead, is what the row tells -/
theorem len_two {α : Type} {l : List α} (h : l.length = 2) : ∃ a b, l = [a, b] := by
  match l, h with
  | [a, b], _ => exact ⟨a, b, rfl⟩
/-- -/
theorem told_of {H : Hp} {f : Option Str} {h : Str} {rest : List Str} {g : Str} (fo : FormOk f h) (hf : f = some g) (hl : rest.length = g.length) {acc : List V} (hal : acc.length = g.length) (hi : ItsR H g rest acc) :
    (V.non ∈ acc → toldF f h rest = none) ∧ (V.non ∉ acc → ∀ p, H p = some (.lst (.str h :: acc)) → ToldR H (.ref p) (toldF f h rest)) := by
  subst hf
  rcases fo with fo | fo | fo | ⟨fo, fh⟩
  · cases fo
  · cases fo
    have e0 : acc = [] := List.length_eq_zero_iff.mp (by rw [hal]; decide +kernel)
    have e1 : rest = [] := List.length_eq_zero_iff.mp (by rw [hl]; decide +kernel)
    subst e0 e1
    have e : toldF (some ("" : Str)) h [] = some (.pl h) := toldF_e h []
    rw [e]
    exact ⟨fun h => by simp at h, fun _ p hp => ⟨p, rfl, hp⟩⟩
  · cases fo
    have z : ("n" : Str).length = 1 := by decide +kernel
    rw [z] at hal hl
    obtain ⟨b, rfl⟩ := List.length_eq_one_iff.mp hl
    obtain ⟨r, rfl⟩ := List.length_eq_one_iff.mp hal
    obtain ⟨c, x, h1, h2, h3⟩ := hi 0 r rfl
    rw [sg_n] at h1
    cases h1
    obtain rfl : b = x := Option.some.inj h2
    have e : toldF (some ("n" : Str)) h [b] = (numberIn b).map (.nu h) := toldF_n h [b]
    rw [e, h3.n]
    cases numberIn b with
    | none => exact ⟨fun _ => rfl, fun hn => absurd (List.mem_cons_self) hn⟩
    | some i => exact ⟨fun hm => (by rcases List.mem_cons.mp hm with hm | hm <;> cases hm), fun _ p hp => ⟨p, rfl, hp⟩⟩
  · cases fo
    subst fh
    have z : ("lw" : Str).length = 2 := by decide +kernel
    rw [z] at hal hl
    obtain ⟨b, c, rfl⟩ := len_two hl
    obtain ⟨r1, r2, rfl⟩ := len_two hal
    obtain ⟨c1, x1, h1, h2, h3⟩ := hi 0 r1 rfl
    rw [sg_lw] at h1
    cases h1
    obtain rfl : b = x1 := Option.some.inj h2
    obtain ⟨c2, x2, g1, g2, g3⟩ := hi 1 r2 rfl
    rw [sg_lw] at g1
    cases g1
    obtain rfl : c = x2 := Option.some.inj g2
    have e : toldF (some ("lw" : Str)) "piece" [b, c] = tPr (numbersIn b) (signedIn c) := toldF_lw "piece" [b, c]
    rw [e]
    have h4 := h3.l
    have g4 := g3.w
    subst g4
    cases e1 : numbersIn b with
    | none =>
      rw [e1] at h4
      cases h4
      exact ⟨fun _ => rfl, fun hn => absurd (List.mem_cons_self) hn⟩
    | some l =>
      rw [e1] at h4
      obtain ⟨q, rfl, hq⟩ := h4
      cases e2 : signedIn c with
      | none => exact ⟨fun _ => rfl, fun hn => absurd (List.mem_cons_of_mem _ (List.mem_cons_self)) hn⟩
      | some w => exact ⟨fun hm => (by simp [optI] at hm), fun _ p hp => ⟨p, q, rfl, hp, hq⟩⟩
theorem toldF_len {f : Option Str} {h : Str} {rest : List Str} (fo : FormOk f h) (hn : ∀ g, f = some g → rest.length ≠ g.length) : toldF f h rest = none := by
  rcases fo with rfl | rfl | rfl | ⟨rfl, _⟩
  · rfl
  · have e := toldF_e h rest
    rw [e]
    have := hn _ rfl
    cases rest with
    | nil => exact absurd (by decide +kernel) this
    | cons b r => rfl
  · have e := toldF_n h rest
    rw [e]
    have := hn _ rfl
    match rest with
    | [] => rfl
    | [b] => exact absurd (show 1 = _ by decide +kernel) this
    | _ :: _ :: _ => rfl
  · have e := toldF_lw h rest
    rw [e]
    have := hn _ rfl
    match rest with
    | [] => rfl
    | [b] => rfl
    | [b, c] => exact absurd (show 2 = _ by decide +kernel) this
    | _ :: _ :: _ :: _ => rfl
/-! ETxt6 -/
section
variable {K : PySem.W.Frag} {σ : L2.St} {H : Hp} {R : It → Hp → Prop} {ta : TA} {tl : TE}
theorem g_yes {T : Bool → Hp → Prop} (q : T true H) : tYes σ H T := q
theorem g_zx (q : ta σ H fun vs H1 => ∃ x b ys, vs = [.str x, .ref b] ∧ SqL K H1 b ys ∧ R (ItzX K x b) H1) : iZipX K ta σ H R := q
theorem g_en (q : ta σ H fun vs H1 => ∃ a xs, vs = [.ref a] ∧ SqT K H1 a xs ∧ R (IteT K a) H1) : iEnumT K ta σ H R := q
theorem g_ls (q : tl σ H fun x H1 => ∃ a, x = .ref a ∧ (∃ xs, SqL K H1 a xs) ∧ R (Itl K a) H1) : iList K tl σ H R := q
theorem g_tp (q : tl σ H fun x H1 => ∃ a, x = .ref a ∧ (∃ xs, SqT K H1 a xs) ∧ R (Itt K a) H1) : iTup K tl σ H R := q
theorem g_r1 (q : ta σ H fun vs H1 => ∃ j : Int, vs = [.int j] ∧ -(2 ^ 62) ≤ j ∧ j < 2 ^ 62 ∧ R (Itr 0 j.toNat) H1) : iRng1 ta σ H R := q
end
theorem split_words {x : Str} (hx : x.length ≤ 80000) : ∃ h rest, Txt.split x blank = h :: rest ∧ (h :: rest).length ≤ 80001 ∧ ∀ y ∈ h :: rest, y.length ≤ 80000 := by
  have h1 := splitB_ne x
  have h2 := splitB_count x
  cases e : Txt.split x blank with
  | nil => exact absurd e h1
  | cons h rest =>
    rw [e] at h2
    refine ⟨h, rest, rfl, by omega, fun y hy => ?_⟩
    have := splitB_len (x := x) (y := y) (by rw [e]; exact hy)
    omega
theorem cut_12 (xs : List V) : cutV xs (some 1) (some 2) = (xs.drop 1).take 1 := by
  unfold cutV
  cases xs with
  | nil => rfl
  | cons a r =>
    cases r with
    | nil => rfl
    | cons b r =>
      have h1 : HT.sIx (a :: b :: r).length 0 (some 1) = 1 := by
        simp only [HT.sIx, List.length_cons]
        first | omega | (simp; omega) | simp
      have h2 : HT.sIx (a :: b :: r).length (a :: b :: r).length (some 2) = 2 := by
        simp only [HT.sIx, List.length_cons]
        first | omega | (simp; omega) | simp
      rw [h1, h2]
theorem cut_from (xs : List V) (k : Nat) : cutV xs (some (k : Int)) none = xs.drop k := by
  unfold cutV
  have h2 : HT.sIx xs.length xs.length none = xs.length := rfl
  rw [h2]
  rw [HT.sIx_nat]
  by_cases c : k ≤ xs.length
  · rw [Nat.min_eq_left c]
    exact List.take_of_length_le (by rw [List.length_drop]; omega)
  · rw [Nat.min_eq_right (by omega), List.drop_length, List.drop_eq_nil_of_le (show xs.length ≤ k by omega), List.take_nil]

section
variable {P : Program} {w : World} {K : PySem.W.Frag} {mg : Str → Option Value} {base : Heap}
theorem sc_told_by : FnScope ["row", "words", "form", "found", "kind", "word"] ["row"] (defScope s_told_by) := ⟨rfl, rfl, rfl, by decide +kernel, rfl, by decide +kernel, by decide +kernel⟩
theorem kit_str {t : String} (h : t ∈ ["NoneType", "int", "bool", "list", "tuple", "dict"]) : PySem.W.kitOne K (.type t) (.type "str") = some false := by
  simp only [List.mem_cons, List.not_mem_nil, or_false] at h
  rcases h with rfl | rfl | rfl | rfl | rfl | rfl
  · exact kit_ty (by decide +kernel)
  · exact kit_ty (by decide +kernel)
  · exact kit_ty (by decide +kernel)
  · exact kit_ty (by decide +kernel)
  · exact kit_ty (by decide +kernel)
  · exact kit_ty (by decide +kernel)
theorem kit_str_str : PySem.W.kitOne K (.type "str") (.type "str") = some true := kit_ty (by decide +kernel)
def optS : Option Str → V
  | none => .non
  | some f => .str f
theorem optS_get (o : Option Str) : (o.map V.str).getD .non = optS o := by cases o <;> rfl
theorem toldV_no {v : V} (h : ∀ x, v ≠ .str x) : toldV v = none := by
  cases v with
  | str x => exact absurd rfl (h x)
  | _ => rfl
theorem c_told_by (T : Tx K w mg) : Cal P w K mg base CX0 4 "told_by" (spTold K) := by
  have c1 : Cal P w K mg base CX0 3 "read_as" spRead := c_read_as T
  refine T.d_told_by.cal (T.d_told_by.ok0 sc_told_by ?_ fun cdv A outer s H vs Q E hr h => ?_) T.g_told_by T.kp_told_by
  · rintro vs H Q E ⟨v, rfl, _⟩
    rfl
  · obtain ⟨v, rfl, hk, q⟩ := h
    refine ⟨_, pss_cons (ps_if (pt_not (pt_val (pe_callB call_isi (by rfl) T.z_isinstance boot_isi (pa_cons (pv 0) (pa_cons (pe_bltn (v := .ty "str") (by rfl) T.z_str (by decide +kernel) rfl) pa_nil))))) (pss_one (ps_ret pe_non)) pss_nil)
      (pss_cons (ps_set (i := 1) sc_told_by.nd rfl (.inl rfl) (pe_split (pv 0) pe_str))
      (pss_cons (ps_set (i := 2) sc_told_by.nd rfl (.inl rfl) (pe_kget (pe_gc (v := .ref (He.ga K "FORMS")) (by rfl) ⟨_, T.g_FORMS, rfl⟩) (pe_ix ix_list (pv 1) pe_int (fun _ _ => rfl)) ⟨rfl, rfl, rfl, rfl⟩))
      (pss_cons (ps_cut (ps_if (PW.pt (pw_and (pt_cmpR op_eq (pe_ix ix_list (pv 1) pe_int (fun _ _ => rfl)) pe_str (nomark _)) (pw_and1 (pt_cmpR (op_inLL hr.in1.units0) (pe_slice sl_list (pv 1) (po_some pe_int) (po_some pe_int)) (pe_lst (pa_cons (pe_lst (pa_cons pe_str pa_nil)) (pa_cons (pe_lst (pa_cons pe_str pa_nil)) pa_nil))) (by rfl)))))
          (pss_cons (ps_set (i := 1) sc_told_by.nd rfl (.inl rfl) (pe_op op_cat (pe_lst (pa_cons (pe_op op_add_str pe_str (pe_ix ix_list (pv 1) pe_int (fun _ _ => rfl))) pa_nil)) (pe_slice sl_list (pv 1) (po_some pe_int) po_none)))
            (pss_one (ps_set (i := 2) sc_told_by.nd rfl (.inl rfl) pe_str))) pss_nil))
      (pss_cons (ps_if (PW.pt (pw_or (pt_cmp (pc_isN (pv 2))) (pw_or1 (pt_cmpR op_ne (pe_callB call_len (by rfl) T.z_len PySem.boot_len (pa_cons (pv 1) pa_nil)) (pe_op op_add (pe_callB call_len (by rfl) T.z_len PySem.boot_len (pa_cons (pv 2) pa_nil)) pe_int) (nomark _))))) (pss_one (ps_ret pe_non)) pss_nil)
      (pss_cons (ps_setLc (i := 3) (own := [("kind", 4), ("word", 5)]) (g := gTup K 2 (gCons (gName 4) (gCons (gName 5) gNil))) (tt := tYes) (by rfl) sc_told_by.nd rfl rfl (sw_true rfl rfl rfl (by decide +kernel)) (pi_zipX (by rfl) T.z_zip (pa_cons (pv 2) (pa_cons (pe_slice sl_list (pv 1) (po_some pe_int) po_none) pa_nil)))
          (blkOk_by (N := ["row", "words", "form", "found", "kind", "word"]) (sc := defScope s_told_by) (by decide +kernel))
          (fun _ _ _ _ _ => pg_tup (by rfl) (pgs_cons (pg_name (i := 4) sc_told_by.nd rfl (.inl rfl)) (pgs_cons (pg_name (i := 5) sc_told_by.nd rfl (.inl rfl)) pgs_nil))) (fun _ _ _ _ _ => pts_nil) (fun s1 H1 C1 cl1 fp1 => pe_c c1 hr (by decide) (by rfl) (pa_cons (pv 4) (pa_cons (pv 5) pa_nil))))
      (pss_cons (ps_if (pt_cmpR (op_inN hr.in1.units0) pe_non (pv 3) (by rfl)) (pss_one (ps_ret pe_non)) pss_nil)
      (pss_one (ps_ret (pe_op op_cat (pe_lst (pa_cons (pe_ix ix_list (pv 1) pe_int (fun _ _ => rfl)) pa_nil)) (pv 3)))))))))), ?_⟩
    walk_at "h"
    rcases hk with ⟨x, rfl, hx⟩ | ⟨hno, t, ty, ht⟩
    · obtain ⟨h0, rest0, hW, hlen, hlens⟩ := split_words hx
      have hlen0 : rest0.length ≤ 80000 := by rw [List.length_cons] at hlen; omega
      refine ⟨_, _, _, _, _, rfl, .ty _, .base (.str x), kit_str_str, ?_⟩
      walk_at "h"
      refine ⟨⟨x, rfl⟩, x, blank, rfl, rfl, by decide +kernel, sz_lt (by omega), fun p hp => ?_⟩
      rw [hW]
      have hpp : upd H p (.lst ((h0 :: rest0).map V.str)) p = some (.lst ((h0 :: rest0).map V.str)) := upd_same
      have hS : Same H (upd H p (.lst ((h0 :: rest0).map V.str))) := Same.new hp
      obtain ⟨es, n, r, D, hn, ro⟩ := T.forms h0
      walk_at "h"
      refine g_kget ?_
      walk_at "h"
      refine ⟨_, rfl, ⟨es, n, D⟩, ?_⟩
      walk_at "h"
      refine ⟨p, _, 0, .str h0, rfl, rfl, .inl (.inl hpp), at0 rfl, h0, _, rfl, ⟨es, n, r, D, hn, ro⟩, ?_⟩
      rw [optS_get]
      walk_at "h"
      refine g_cut (fun σ' H' => ∃ (p' : Addr) (h : Str) (rest : List Str) (f : Option Str), σ' = [some (.str x), some (.ref p'), some (optS f), none, none, none] ∧ H' p' = some (.lst ((h :: rest).map V.str)) ∧ Same H H' ∧ toldF f h rest = toldW (h0 :: rest0) ∧ FormOk f h ∧ rest.length ≤ 80000 ∧ ∀ y ∈ rest, y.length ≤ 80000) ?_ ?_
      · have plain : h0 ≠ "drop" ∨ (toldW (h0 :: rest0) = none ∧ h0 = "drop") → ∀ H', Same (upd H p (.lst ((h0 :: rest0).map V.str))) H' → ∃ (p' : Addr) (h : Str) (rest : List Str) (f : Option Str), ([some (.str x), some (.ref p), some (optS (formOf h0)), none, none, none] : L2.St) = [some (.str x), some (.ref p'), some (optS f), none, none, none] ∧ H' p' = some (.lst ((h :: rest).map V.str)) ∧ Same H H' ∧ toldF f h rest = toldW (h0 :: rest0) ∧ FormOk f h ∧ rest.length ≤ 80000 ∧ ∀ y ∈ rest, y.length ≤ 80000 := by
          intro hd H' s'
          refine ⟨p, h0, rest0, formOf h0, rfl, s' _ _ hpp, hS.trans s', ?_, formOk_of h0, hlen0, fun y hy => hlens y (List.mem_cons_of_mem _ hy)⟩
          rcases hd with hd | ⟨hd, e⟩
          · exact toldW_form hd rest0
          · rw [hd, e, formOf_drop]
            rfl
        walk_at "h"
        refine ⟨p, _, 0, .str h0, rfl, rfl, .inl (.inl hpp), at0 rfl, ?_⟩
        walk_at "h"
        refine g_dec (fun hd => ?_) (fun hd => ?_)
        · have hd : h0 = "drop" := V.str.inj hd
          walk_at "h"
          refine ⟨1, rfl, ?_⟩
          walk_at "h"
          refine ⟨2, rfl, ?_⟩
          walk_at "h"
          refine ⟨p, _, rfl, .inl (.inl hpp), fun p1 hp1 => ?_⟩
          have s1 := Same.new (o := .lst (cutV ((h0 :: rest0).map V.str) (some 1) (some 2))) hp1
          walk_at "h"
          refine ⟨sz_of (by simp), fun b1 hb1 => ?_⟩
          walk_at "h"
          refine ⟨sz_of (by simp), fun b2 hb2 => ?_⟩
          walk_at "h"
          refine ⟨sz_of (by simp), fun p3 hp3 => ?_⟩
          have s2 := Same.new (o := .lst [V.str "thing"]) hb1
          have s3 := Same.new (o := .lst [V.str "piece"]) hb2
          have s4 := Same.new (o := .lst [V.ref b1, V.ref b2]) hp3
          have e1 : cutV ((h0 :: rest0).map V.str) (some 1) (some 2) = (rest0.take 1).map V.str := by
            rw [cut_12, List.map_cons, List.drop_one, List.tail_cons, List.map_take]
          walk_at "h"
          refine ⟨p1, p3, b1, b2, rest0.take 1, ["thing"], ["piece"], rfl, rfl, .inl (.inl ?_), .inl (.inl upd_same), .inl (.inl ?_), .inl (.inl ?_), ?_, ?_⟩
          · rw [← e1]
            exact s4 _ _ (s3 _ _ (s2 _ _ upd_same))
          · exact s4 _ _ (s3 _ _ upd_same)
          · exact s4 _ _ upd_same
          · exact ne_of_none upd_same hb2
          have sAll := s1.trans (s2.trans (s3.trans s4))
          walk_at "h"
          refine g_b (fun hb => ?_) (fun hb => ?_)
          · rw [Bool.or_eq_true, decide_eq_true_eq, decide_eq_true_eq] at hb
            obtain ⟨b, rest, er, hbb⟩ : ∃ b rest, rest0 = b :: rest ∧ (b = "thing" ∨ b = "piece") := by
              cases rest0 with
              | nil => rcases hb with hb | hb <;> cases hb
              | cons b rest =>
                refine ⟨b, rest, rfl, ?_⟩
                rcases hb with hb | hb
                · exact .inl (List.cons.inj hb).1.symm
                · exact .inr (List.cons.inj hb).1.symm
            subst er
            have hp4 := sAll _ _ hpp
            generalize upd (upd (upd (upd (upd H p (HO.lst (List.map V.str (h0 :: b :: rest)))) p1 (HO.lst (cutV (List.map V.str (h0 :: b :: rest)) (some 1) (some 2)))) b1 (HO.lst [V.str "thing"])) b2 (HO.lst [V.str "piece"])) p3 (HO.lst [V.ref b1, V.ref b2]) = H4 at sAll hp4 ⊢
            walk_at "h"
            refine ⟨p, _, 1, .str b, rfl, rfl, .inl (.inl hp4), at1 rfl, ?_⟩
            have hbl := hlens b (List.mem_cons_of_mem _ List.mem_cons_self)
            have h5 : ("drop " : Str).length = 5 := by decide +kernel
            walk_at "h"
            refine ⟨_, _, rfl, rfl, by rw [h5]; have e : sizeLine = 16777216 := rfl; omega, ?_⟩
            walk_at "h"
            refine ⟨sz_of (by simp), fun p5 hp5 => ?_⟩
            walk_at "h"
            refine ⟨2, rfl, ?_⟩
            walk_at "h"
            refine ⟨p, _, rfl, .inl (.inl (Same.new hp5 _ _ hp4)), fun p6 hp6 => ?_⟩
            have e2 : cutV (List.map V.str (h0 :: b :: rest)) (some 2) none = rest.map V.str := cut_from _ 2
            have sz := rest.length
            refine ⟨p5, p6, _, _, rfl, rfl, Same.new hp6 _ _ upd_same, upd_same, ?_, fun p7 hp7 => ?_⟩
            · rw [e2, List.length_map, List.length_singleton]
              rw [List.length_cons] at hlen0
              have e : sizeLine = 16777216 := rfl
              omega
            · walk_at "h"
              rw [e2] at hp7 ⊢
              rw [List.length_cons] at hlen0
              refine ⟨p7, (Str.ofString "drop ") ++ b, rest, some ("n" : Str), rfl, upd_same, ?_, ?_, .inr (.inr (.inl rfl)), by omega, fun y hy => hlens y (List.mem_cons_of_mem _ (List.mem_cons_of_mem _ hy))⟩
              · exact hS.trans (sAll.trans ((Same.new hp5).trans ((Same.new hp6).trans (Same.new hp7))))
              · rw [hd, toldW_dr hbb]
          · walk_at "h"
            refine plain (.inr ⟨?_, hd⟩) _ sAll
            rw [hd]
            refine toldW_dn fun b rest er hbb => ?_
            subst er
            rw [Bool.or_eq_false_iff, decide_eq_false_iff_not, decide_eq_false_iff_not] at hb
            rcases hbb with rfl | rfl
            · exact hb.1 rfl
            · exact hb.2 rfl
        · walk_at "h"
          exact plain (.inl fun e => hd (congrArg V.str e)) _ (Same.refl _)
      · rintro σ' H1 ⟨p', h, rest, f, rfl, hp1, hS1, hT, fo, hrl, hrs⟩
        have hpair := SqL.of (K := K) hp1
        have no : toldF f h rest = none → Q .non H1 := fun e => q _ _ hS1 (by
          show ToldR H1 .non (toldW (Txt.split x blank))
          rw [hW, ← hT, e]
          rfl)
        walk_at "h"
        cases f with
        | none =>
          refine g_dec (fun _ => ?_) (fun h => absurd rfl h)
          walk_at "h"
          exact no rfl
        | some g =>
          refine g_dec (fun h => nomatch h) (fun _ => ?_)
          have hg : g.length ≤ 2 := by
            rcases fo with fo | fo | fo | ⟨fo, _⟩
            · cases fo
            · cases fo; decide +kernel
            · cases fo; decide +kernel
            · cases fo; decide +kernel
          walk_at "h"
          refine ⟨.ref p', _, rfl, .inl ⟨_, hpair, rfl⟩, ?_⟩
          walk_at "h"
          refine ⟨.str g, _, rfl, ⟨sz_of (by omega), rfl⟩, ?_⟩
          walk_at "h"
          refine g_ndec (fun hl => ?_) (fun hl => ?_)
          · walk_at "h"
            refine no (toldF_len fo fun g' e hl' => hl ?_)
            cases e
            rw [List.length_map, List.length_cons, hl']
            rfl
          · have hl : rest.length = g.length := by
              have := V.int.inj hl
              rw [List.length_map, List.length_cons] at this
              omega
            have hsz : g.cps.size = g.length := rfl
            walk_at "h"
            refine g_zx ?_
            walk_at "h"
            refine ⟨1, rfl, ?_⟩
            walk_at "h"
            refine ⟨p', _, rfl, hpair, fun p2 hp2 => ?_⟩
            have e1 : cutV (List.map V.str (h :: rest)) (some 1) none = rest.map V.str := cut_from _ 1
            rw [e1]
            have hS2 := Same.newer hS1 (o := .lst (rest.map V.str)) hp2
            have hp1' : upd H1 p2 (.lst (rest.map V.str)) p' = some (.lst ((h :: rest).map V.str)) := Same.new hp2 _ _ hp1
            have hp2' : upd H1 p2 (.lst (rest.map V.str)) p2 = some (.lst (rest.map V.str)) := upd_same
            refine ⟨g, p2, _, rfl, SqL.of hp2', fun D hD => lc_gen (walk_zipX (n := g.length) hsz (by rw [List.length_map]; exact hl)) hD (by omega) (fun i acc H' => acc.length = i ∧ ItsR H' g rest acc) ⟨rfl, fun j r hj => by simp at hj⟩ (fun H2 s2 => SqL.of (s2 _ _ hp2')) (fun i y acc H2 H3 hi s2 hd hR y1 Qc Qn kc kn => ?_) (fun acc H2 s2 d2 hR => ?_)⟩
            · obtain ⟨T0, k1, w1, rfl, hT0, rfl, hk1, hw1⟩ := y1
              obtain ⟨c, hc, rfl⟩ := Option.map_eq_some_iff.mp hk1
              obtain ⟨wd, hwd, rfl⟩ := map_at hw1
              have hwl := hrs wd (List.mem_of_getElem? hwd)
              refine g_un2 (SqT.of upd_same) ⟨rfl, g_yes ?_⟩
              walk_at "h"
              refine ⟨_, wd, rfl, by omega, fun H4 r hs4 hr4 => kc _ _ ((Same.new hT0).trans hs4) ?_⟩
              have hD4 : H4 D = some (.lst acc) := hs4 _ _ ((Same.new hT0) _ _ hd)
              have te : TupEx H2 H4 := Same.tups ((Same.new hT0).trans hs4)
              have tm : TupEx H4 (upd H4 D (.lst (acc ++ [r]))) := TupEx.mutL hD4
              have hc2 : (sg g)[acc.length]? = some c := by rw [Array.getElem?_toList, hR.1]; exact hc
              exact ⟨by rw [List.length_append, hR.1]; rfl, (hR.2.ex (te.trans tm)).snoc hc2 (by rw [hR.1]; exact hwd) (hr4.ex tm)⟩
            · have hS3 := hS2.trans s2
              walk_at "h"
              have hits : ∀ z ∈ acc, itN K H2 z := fun z hz => by
                obtain ⟨j, hj, e⟩ := List.mem_iff_getElem.mp hz
                obtain ⟨_, _, _, _, h3⟩ := hR.2 j z (by rw [List.getElem?_eq_getElem hj, e])
                exact h3.it
              refine ⟨D, _, rfl, rfl, SqL.of d2, hits, ?_⟩
              obtain ⟨t1, t2⟩ := told_of fo rfl hl hR.1 hR.2
              walk_at "h"
              refine g_dec (fun hm => ?_) (fun hm => ?_)
              · walk_at "h"
                refine q _ _ hS3 ?_
                show ToldR H2 .non (toldW (Txt.split x blank))
                rw [hW, ← hT, t1 hm]
                rfl
              · walk_at "h"
                refine ⟨p', _, 0, .str h, rfl, rfl, SqL.of (s2 _ _ hp1'), at0 rfl, ?_⟩
                walk_at "h"
                refine ⟨sz_of (by simp), fun p4 hp4 => ?_⟩
                walk_at "h"
                refine ⟨p4, D, _, _, rfl, rfl, upd_same, Same.new hp4 _ _ d2, ?_, fun p5 hp5 => ?_⟩
                · rw [hR.1, List.length_singleton]
                  exact sz_of (by omega)
                · have e5 := Same.newer (Same.newer hS3 (o := .lst [V.str h]) hp4) (o := .lst ([V.str h] ++ acc)) hp5
                  refine q _ _ e5 ?_
                  show ToldR _ (.ref p5) (toldW (Txt.split x blank))
                  rw [hW, ← hT]
                  have t3 := told_of fo rfl hl hR.1 (hR.2.ex ((Same.tups (Same.new hp4)).trans (Same.tups (Same.new (o := .lst ([V.str h] ++ acc)) hp5))))
                  exact t3.2 hm p5 upd_same
    · refine ⟨_, _, _, _, _, rfl, .ty _, .base ty, kit_str ht, ?_⟩
      walk_at "h"
      exact q _ _ (Same.refl _) (by rw [toldV_no hno]; rfl)
end
/-! EMemo -/
/-! ### small numbers of bits; memos -/
def cov (c : Int) : Prop := 0 ≤ c ∧ c < 65536
theorem cov_or {a b : Int} (h : cov a) (g : cov b) : cov (Builtin.bitOr a b) := by
  rw [Bits.bitOr_pp h.1 g.1]
  have h1 : a.toNat < 2 ^ 16 := by have := h.2; have := h.1; omega
  have h2 : b.toNat < 2 ^ 16 := by have := g.2; have := g.1; omega
  have h3 : a.toNat ||| b.toNat < 2 ^ 16 := Nat.or_lt_two_pow h1 h2
  have e : (2 : Nat) ^ 16 = 65536 := by decide
  rw [e] at h3
  exact ⟨by omega, by omega⟩
theorem cov_shr {c : Int} (h : cov c) (k : Nat) : cov (c / 2 ^ k) := by
  obtain ⟨h1, h2⟩ := h
  refine ⟨Int.ediv_nonneg h1 (by exact Int.le_of_lt (Int.pow_pos (by decide))), Int.lt_of_le_of_lt (Int.ediv_le_self _ h1) h2⟩
theorem cov_bit {x : Int} (h : 0 ≤ x ∧ x < 16) : cov (1 * 2 ^ x.toNat) := by
  have h1 : x.toNat < 16 := by omega
  have key : ∀ k : Nat, k < 16 → (0 : Int) ≤ 1 * 2 ^ k ∧ (1 : Int) * 2 ^ k < 65536 := by decide
  exact key _ h1
theorem pigeon : ∀ (N : Nat) (l : List Nat), l.Nodup → (∀ x ∈ l, x < N) → l.length ≤ N
  | 0, l, _, h => by
    cases l with
    | nil => exact Nat.le_refl 0
    | cons x r => exact absurd (h x List.mem_cons_self) (Nat.not_lt_zero _)
  | N + 1, l, nd, h => by
    by_cases c : N ∈ l
    · have ih := pigeon N (l.erase N) (nd.erase N) (fun x hx => by
        have h1 := h x (List.mem_of_mem_erase hx)
        have h2 : x ≠ N := fun e => by
          rw [e] at hx
          exact (List.Nodup.not_mem_erase nd) hx
        omega)
      rw [List.length_erase_of_mem c] at ih
      omega
    · have ih := pigeon N l nd (fun x hx => by
        have h1 := h x hx
        have h2 : x ≠ N := fun e => c (by rw [← e]; exact hx)
        omega)
      omega
structure Memo (VP : Int → V → Prop) (kvs : List (List Key × V)) : Prop where
  nd : kvs.Pairwise fun a b => a.1 ≠ b.1
  ok : ∀ kv ∈ kvs, ∃ t c : Int, kv.1 = [.inl t, .inl c] ∧ (0 ≤ t ∧ t ≤ 16) ∧ cov c ∧ VP t kv.2
theorem Memo.nil (VP : Int → V → Prop) : Memo VP [] := ⟨.nil, fun _ h => by cases h⟩
theorem Memo.imp {VP VP' : Int → V → Prop} {kvs : List (List Key × V)} (m : Memo VP kvs) (h : ∀ t v, VP t v → VP' t v) : Memo VP' kvs := ⟨m.nd, fun kv hk => by
  obtain ⟨t, c, h1, h2, h3, h4⟩ := m.ok kv hk
  exact ⟨t, c, h1, h2, h3, h _ _ h4⟩⟩
def codeK : List Key → Nat
  | [.inl t, .inl c] => t.toNat * 65536 + c.toNat
  | _ => 0
theorem Memo.len {VP : Int → V → Prop} {kvs : List (List Key × V)} (m : Memo VP kvs) : kvs.length ≤ 1200000 := by
  have h := pigeon 1200000 (kvs.map fun kv => codeK kv.1) (by
    unfold List.Nodup
    rw [List.pairwise_map]
    refine List.Pairwise.imp_of_mem (fun {a b} ha hb hne e => ?_) m.nd
    obtain ⟨t, c, h1, h2, h3, _⟩ := m.ok a ha
    obtain ⟨t', c', g1, g2, g3, _⟩ := m.ok b hb
    rw [h1, g1] at e hne
    have e : t.toNat * 65536 + c.toNat = t'.toNat * 65536 + c'.toNat := e
    have h4 := h3.1
    have h5 := h3.2
    have g4 := g3.1
    have g5 := g3.2
    have e1 : t = t' := by omega
    have e2 : c = c' := by omega
    exact hne (by rw [e1, e2])) (fun x hx => by
    obtain ⟨kv, hk, rfl⟩ := List.mem_map.mp hx
    obtain ⟨t, c, h1, h2, h3, _⟩ := m.ok kv hk
    rw [h1]
    show t.toNat * 65536 + c.toNat < 1200000
    have h4 := h3.1
    have h5 := h3.2
    omega)
  rw [List.length_map] at h
  exact h
theorem valV_mem {κ : Type} [DecidableEq κ] {kvs : List (κ × V)} {k : κ} {v : V} (h : valV kvs k = some v) : (k, v) ∈ kvs := by
  unfold valV at h
  obtain ⟨kv, h1, h2⟩ := Option.map_eq_some_iff.mp h
  have h3 := List.find?_some h1
  have h4 := List.mem_of_find?_eq_some h1
  have h5 : kv.1 = k := of_decide_eq_true h3
  rw [← h5, ← h2]
  exact h4
theorem valV_not {κ : Type} [DecidableEq κ] {kvs : List (κ × V)} {k : κ} (h : valV kvs k = none) : ∀ kv ∈ kvs, kv.1 ≠ k := by
  intro kv hk e
  unfold valV at h
  rw [Option.map_eq_none_iff, List.find?_eq_none] at h
  exact h kv hk (decide_eq_true e)
theorem Memo.get {VP : Int → V → Prop} {kvs : List (List Key × V)} (m : Memo VP kvs) {t c : Int} {v : V} (h : valV kvs [.inl t, .inl c] = some v) : VP t v := by
  obtain ⟨t', c', h1, _, _, h4⟩ := m.ok _ (valV_mem h)
  have e := List.cons.inj h1
  have e2 : t = t' := Sum.inl.inj e.1
  rw [e2]
  exact h4
theorem Memo.put {VP : Int → V → Prop} {kvs : List (List Key × V)} (m : Memo VP kvs) {t c : Int} {v : V} (ht : 0 ≤ t ∧ t ≤ 16) (hc : cov c) (hv : VP t v) : Memo VP (putK kvs [.inl t, .inl c] v) := by
  cases h : valV kvs ([.inl t, .inl c] : List Key) with
  | none =>
    rw [putK_new v h]
    refine ⟨?_, fun kv hk => ?_⟩
    · rw [List.pairwise_append]
      exact ⟨m.nd, by simp, fun a ha b hb => by rw [List.mem_singleton.mp hb]; exact valV_not h a ha⟩
    · rcases List.mem_append.mp hk with hk | hk
      · exact m.ok kv hk
      · rw [List.mem_singleton.mp hk]
        exact ⟨t, c, rfl, ht, hc, hv⟩
  | some u =>
    have e : putK kvs ([.inl t, .inl c] : List Key) v = kvs.map (fun kv => if kv.1 = [.inl t, .inl c] then (kv.1, v) else kv) := by
      unfold putK
      rw [valV_any, h]
      exact if_pos rfl
    rw [e]
    refine ⟨?_, fun kv hk => ?_⟩
    · rw [List.pairwise_map]
      refine m.nd.imp fun {a b} hne => ?_
      have f : ∀ kv : List Key × V, (if kv.1 = [.inl t, .inl c] then (kv.1, v) else kv).1 = kv.1 := fun kv => by split <;> rfl
      rw [f, f]
      exact hne
    · obtain ⟨kv', hk', rfl⟩ := List.mem_map.mp hk
      obtain ⟨t', c', h1, h2, h3, h4⟩ := m.ok kv' hk'
      split
      · rename_i e2
        exact ⟨t, c, e2, ht, hc, hv⟩
      · exact ⟨t', c', h1, h2, h3, h4⟩
/-- all stands but what is at these -/
def SameX (L : List Addr) (H H' : Hp) : Prop := ∀ a ∉ L, ∀ o, H a = some o → H' a = some o
theorem SameX.refl (L : List Addr) (H : Hp) : SameX L H H := fun _ _ _ h => h
theorem SameX.trans {L : List Addr} {H H1 H2 : Hp} (a : SameX L H H1) (b : SameX L H1 H2) : SameX L H H2 := fun c hc o h => b c hc o (a c hc o h)
theorem SameX.of {L : List Addr} {H H' : Hp} (s : Same H H') : SameX L H H' := fun a _ o h => s a o h
theorem SameX.sub {L L' : List Addr} {H H' : Hp} (s : SameX L H H') (h : ∀ a ∈ L, a ∈ L') : SameX L' H H' := fun a ha o e => s a (fun hm => ha (h a hm)) o e
theorem SameX.put {L : List Addr} {H H' : Hp} (s : SameX L H H') {p : Addr} (hp : p ∈ L) (o : HO) : SameX L H (upd H' p o) := fun a ha u e => by
  rw [upd_ne (fun h => ha (by rw [h]; exact hp))]
  exact s a ha u e
theorem SameX.new {L : List Addr} {H H' : Hp} (s : SameX L H H') {p : Addr} (hp : H p = none) (o : HO) : SameX L H (upd H' p o) := fun a ha u e => by
  rw [upd_ne (ne_of_none e hp)]
  exact s a ha u e
/-! EWays -/
/-! ### readings -/
section
variable {K : PySem.W.Frag} {T : String} {r : V → List V → Hp → VK → Prop} {to td ty tv ta : TE} {t : TA} {σ : L2.St} {H : Hp} {Q : VK} {n b c : L2.St → Hp → Prop} {rt : VK}
theorem g_bm (q : to σ H fun x H1 => tyV K T x H1 ∧ t σ H1 fun xs H2 => r x xs H2 Q) : tBM K T r to t σ H Q := q
theorem g_bm0 (q : to σ H fun x H1 => tyV K T x H1 ∧ r x [] H1 Q) : tBM0 K T r to σ H Q := q
theorem g_dget (q : td σ H fun x H1 => ty σ H1 fun y H2 => ∃ a v, x = .ref a ∧ DGet H2 a y (some v) ∧ Q v H2) : tDGet td ty σ H Q := q
theorem g_din (q : ty σ H fun y H1 => td σ H1 fun x H2 => ∃ a o, x = .ref a ∧ DGet H2 a y o ∧ Q (.bl o.isSome) H2) : tDIn ty td σ H Q := q
theorem g_dnin (q : ty σ H fun y H1 => td σ H1 fun x H2 => ∃ a o, x = .ref a ∧ DGet H2 a y o ∧ Q (.bl (!o.isSome)) H2) : tDNotIn ty td σ H Q := q
theorem g_dput (q : tv σ H fun v H1 => td σ H1 fun x H2 => ty σ H2 fun y H3 => ∃ a H4, x = .ref a ∧ DPut H3 a y v H4 ∧ n σ H4) : sDPut td ty tv ⟨n, rt, b, c⟩ σ H := q
theorem g_sfld {f : Str} (q : tv σ H fun y H1 => ta σ H1 fun x H2 => ∃ a C dx fs, x = .ref a ∧ H2 a = some (.ins C dx fs) ∧ Cls K C ∧ NoAttr K C f ∧ fs.length < 1000 ∧ n σ (upd H2 a (.ins C dx (putF f y fs)))) : sFld K ta tv f ⟨n, rt, b, c⟩ σ H := q
theorem g_meth {C : Addr} {m : Str} {sp : Sp} {E : XK} (q : ta σ H fun x H1 => ∃ a dx fs, x = .ref a ∧ H1 a = some (.ins C dx fs) ∧ fs.lookup m = none ∧ t σ H1 fun vs H2 => sp (x :: (vs ++ [])) H2 Q E) : tMeth C m sp [] E ta t σ H Q := q
theorem g_make {C : Addr} {sp : Sp} {E : XK} (q : t σ H fun vs H1 => ∀ x dx, H1 x = none → H1 dx = none → dx ≠ x →
  sp (.ref x :: (vs ++ [])) (upd (upd H1 dx (.own x)) x (.ins C dx [])) (fun v H2 => v = .non ∧ Q (.ref x) H2) E) : tMake C sp [] E t σ H Q := q
end
local macro_rules | `(tactic| walk_at "i1") => `(tactic| first
  | walk_at "h1"
  | with_reducible refine Eo.g_bm ?_
  | with_reducible refine Eo.g_bm0 ?_
  | with_reducible refine Eo.g_dget ?_
  | with_reducible refine Eo.g_din ?_
  | with_reducible refine Eo.g_dnin ?_
  | with_reducible refine Eo.g_dput ?_
  | with_reducible refine Eo.g_sfld ?_
  | with_reducible refine Eo.g_meth ?_
  | with_reducible refine Eo.g_make ?_
  | with_reducible refine Eo.g_yes ?_
  | with_reducible refine Eo.g_kget ?_)
local macro_rules | `(tactic| walk_at "i") => `(tactic| repeat (walk_at "i1"))
/-! ### masks -/
def spMask : Sp := fun vs H Q _ => ∃ (p : Addr) (l : List Int), vs = [.ref p] ∧ H p = some (.tup (l.map V.int)) ∧ (∀ x ∈ l, 0 ≤ x ∧ x < 16) ∧ ∀ z : Int, cov z → Q (.int z) H
section
variable {P : Program} {w : World} {K : PySem.W.Frag} {mg : Str → Option Value} {base : Heap}
theorem sc_mask_of : FnScope ["things", "found", "thing"] ["things"] (defScope s_mask_of) := ⟨rfl, rfl, rfl, by decide +kernel, rfl, by decide +kernel, by decide +kernel⟩
theorem c_mask_of (T : Tx K w mg) : Cal P w K mg base CX0 1 "mask_of" spMask := by
  refine T.d_mask_of.cal (T.d_mask_of.ok0 sc_mask_of ?_ fun cdv A outer s H vs Q E hr h => ?_) T.g_mask_of T.kp_mask_of
  · rintro vs H Q E ⟨p, l, rfl, _⟩
    rfl
  · obtain ⟨p, l, rfl, hp, hb, q⟩ := h
    refine ⟨_, pss_cons (ps_set (i := 1) sc_mask_of.nd rfl (.inl rfl) pe_int)
      (pss_cons (ps_for PassesOwn.never rfl (pi_tup (pv 0)) (pg_name (i := 2) sc_mask_of.nd rfl (.inl rfl))
        (pss_one (ps_set (i := 1) sc_mask_of.nd rfl (.inl rfl) (pe_op op_or (pv 1) (pe_op op_shl pe_int (pv 2))))))
      (pss_one (ps_ret (pv 1)))), ?_⟩
    walk_at "g"
    refine ⟨_, rfl, p, rfl, ⟨_, SqT.of hp⟩, for_tup (K := K) (a := p) (xs := l.map V.int) (fun i σ H' => ∃ (z : Int) (v : Option V), σ = [some (.ref p), some (.int z), v] ∧ cov z ∧ H' = H)
      ⟨0, none, rfl, ⟨by decide, by decide⟩, rfl⟩ (fun i σ H' _ ⟨_, _, _, _, e⟩ => by rw [e]; exact SqT.of hp) ?_ ?_⟩
    · rintro i y σ H' hi ⟨z, v, rfl, hz, rfl⟩
      obtain ⟨x, hx, rfl⟩ : ∃ x, x ∈ l ∧ y = V.int x := by
        obtain ⟨x, h1, h2⟩ := List.mem_map.mp (List.mem_of_getElem? hi)
        exact ⟨x, h1, h2.symm⟩
      have := hb x hx
      walk_at "g"
      refine g_I ⟨this.1, by omega, by decide⟩ ?_
      walk_at "g"
      exact ⟨_, _, rfl, cov_or hz (cov_bit this), rfl⟩
    · rintro σ H' ⟨z, v, rfl, hz, rfl⟩
      walk_at "g"
      exact q z hz
end
/-! EWay1 -/
/-! ### the ways of a box -/
def StepsAt (H : Hp) (np : Nat) (ls : List V) : Prop := ∀ v ∈ ls, ∃ (q : Addr) (i c : Int), v = .ref q ∧ H q = some (.tup [.int i, .int c]) ∧ (-1 ≤ i ∧ i < np) ∧ cov c
def BegAt (H : Hp) (np L : Nat) (bs : List V) : Prop := ∀ v ∈ bs, ∃ (p : Addr) (ls : List V), v = .ref p ∧ H p = some (.lst ls) ∧ ls.length ≤ L ∧ StepsAt H np ls
theorem StepsAt.ex {H H' : Hp} {np : Nat} {ls : List V} (h : StepsAt H np ls) (e : TupEx H H') : StepsAt H' np ls := fun v hv => by
  obtain ⟨q, i, c, h1, h2, h3⟩ := h v hv
  exact ⟨q, i, c, h1, e _ _ h2, h3⟩
/-- all that is no memo stands -/
def Keeps (H H' : Hp) : Prop := ∀ a o, H a = some o → (∀ kvs, o ≠ .dT kvs) → H' a = some o
theorem Keeps.tups {H H' : Hp} (k : Keeps H H') : TupEx H H' := fun a xs h => k a _ h (fun _ e => by cases e)
theorem Keeps.refl (H : Hp) : Keeps H H := fun _ _ h _ => h
theorem Keeps.trans {H H1 H2 : Hp} (a : Keeps H H1) (b : Keeps H1 H2) : Keeps H H2 := fun c o h g => b c o (a c o h g) g
theorem Keeps.of {H H' : Hp} (s : Same H H') : Keeps H H' := fun a o h _ => s a o h
theorem Keeps.ofX {L : List Addr} {H H' : Hp} (s : SameX L H H') (hL : ∀ x ∈ L, ∃ kvs, H x = some (.dT kvs)) : Keeps H H' := fun a o h g => s a (fun hm => by
  obtain ⟨kvs, e⟩ := hL a hm
  rw [h] at e
  exact g kvs (Option.some.inj e)) o h
theorem StepsAt.keep {H H' : Hp} {np : Nat} {ls : List V} (h : StepsAt H np ls) (e : Keeps H H') : StepsAt H' np ls := h.ex e.tups
/-- the lists and the tuples stand -/
def KeepLT (H H' : Hp) : Prop := ∀ a xs, (H a = some (.lst xs) → H' a = some (.lst xs)) ∧ (H a = some (.tup xs) → H' a = some (.tup xs))
theorem KeepLT.of {H H' : Hp} (s : Same H H') : KeepLT H H' := fun a xs => ⟨s a _, s a _⟩
theorem KeepLT.trans {H H1 H2 : Hp} (a : KeepLT H H1) (b : KeepLT H1 H2) : KeepLT H H2 := fun c xs => ⟨fun h => (b c xs).1 ((a c xs).1 h), fun h => (b c xs).2 ((a c xs).2 h)⟩
theorem KeepLT.ins {H : Hp} {x C dx : Addr} {fs : List (Str × V)} (h : H x = some (.ins C dx fs)) (o : HO) : KeepLT H (upd H x o) := fun a xs => ⟨fun e => by
  rw [upd_ne (ne_of e h (fun e => by cases e))]
  exact e, fun e => by
  rw [upd_ne (ne_of e h (fun e => by cases e))]
  exact e⟩
theorem BegAt.lt {H H' : Hp} {np L : Nat} {bs : List V} (h : BegAt H np L bs) (e : KeepLT H H') : BegAt H' np L bs := fun v hv => by
  obtain ⟨p, ls, h1, h2, h3, h4⟩ := h v hv
  exact ⟨p, ls, h1, (e _ _).1 h2, h3, h4.ex fun a xs => (e a xs).2⟩
theorem BegAt.keep {H H' : Hp} {np L : Nat} {bs : List V} (h : BegAt H np L bs) (e : Keeps H H') : BegAt H' np L bs := fun v hv => by
  obtain ⟨p, ls, h1, h2, h3, h4⟩ := h v hv
  exact ⟨p, ls, h1, e _ _ h2 (fun _ e => by cases e), h3, h4.keep e⟩
theorem len1 {α : Type} {a : α} : [a].length < 1000 := by show 1 < 1000; decide
theorem len2 {α : Type} {a b : α} : [a, b].length < 1000 := by show 2 < 1000; decide
theorem len3 {α : Type} {a b c : α} : [a, b, c].length < 1000 := by show 3 < 1000; decide
theorem len4 {α : Type} {a b c d : α} : [a, b, c, d].length < 1000 := by show 4 < 1000; decide
def wf2 (n : Nat) (m : Addr) : List (Str × V) := [("things", .int n), ("mays", .ref m)]
def wf3 (n : Nat) (m D : Addr) : List (Str × V) := [("things", .int n), ("mays", .ref m), ("begun", .ref D)]
def wf4 (n : Nat) (m D gk : Addr) : List (Str × V) := [("things", .int n), ("mays", .ref m), ("begun", .ref D), ("known", .ref gk)]
theorem put2 (n : Nat) (m : Addr) : putF "mays" (.ref m) [("things", .int n)] = wf2 n m := by
  rw [put_past (by decide +kernel)]
  rfl
theorem put3 (n : Nat) (m D : Addr) : putF "begun" (.ref D) (wf2 n m) = wf3 n m D := by
  unfold wf2
  rw [put_past (by decide +kernel), put_past (by decide +kernel)]
  rfl
theorem put4 (n : Nat) (m D gk : Addr) : putF "known" (.ref gk) (wf3 n m D) = wf4 n m D gk := by
  unfold wf3
  rw [put_past (by decide +kernel), put_past (by decide +kernel), put_past (by decide +kernel)]
  rfl
theorem lk3 {n : Nat} {m D : Addr} : List.lookup ("begun" : Str) (wf3 n m D) = some (.ref D) := by
  unfold wf3
  rw [lk_past (by decide +kernel), lk_past (by decide +kernel)]
  exact lk_here
def VW (n : Nat) (t : Int) (v : V) : Prop := ∃ z : Int, v = .int z ∧ 0 ≤ z ∧ z ≤ 33 ^ (n - t.toNat)
structure WaysAt (C : Addr) (H : Hp) (a : Addr) (n np : Nat) (gk : Addr) : Prop where
  ex : ∃ (dx m gb : Addr) (bs : List V) (mays : List Int) (memo : List (List Key × V)), H a = some (.ins C dx (wf4 n m gb gk)) ∧ H m = some (.tup (mays.map V.int)) ∧ H gb = some (.lst bs) ∧ bs.length = n ∧
    BegAt H np 32 bs ∧ H gk = some (.dT memo) ∧ Memo (VW n) memo
theorem WaysAt.keep {C : Addr} {H H' : Hp} {a : Addr} {n np : Nat} {gk : Addr} (h : WaysAt C H a n np gk) (k : Keeps H H') (hk : ∃ memo, H' gk = some (.dT memo) ∧ Memo (VW n) memo) : WaysAt C H' a n np gk := by
  obtain ⟨dx, m, gb, bs, mays, memo, h1, h2, h3, h4, h5, h6, h7⟩ := h.ex
  obtain ⟨memo', g1, g2⟩ := hk
  exact ⟨dx, m, gb, bs, mays, memo', k _ _ h1 (fun _ e => by cases e), k _ _ h2 (fun _ e => by cases e), k _ _ h3 (fun _ e => by cases e), h4, h5.keep k, g1, g2⟩
theorem WaysAt.same {C : Addr} {H H' : Hp} {a : Addr} {n np : Nat} {gk : Addr} (h : WaysAt C H a n np gk) (k : Same H H') : WaysAt C H' a n np gk := by
  have h' := h
  obtain ⟨dx, m, gb, bs, mays, memo, h1, h2, h3, h4, h5, h6, h7⟩ := h'.ex
  exact h.keep (Keeps.of k) ⟨memo, k _ _ h6, h7⟩
def spWaysInit (C : Addr) : Sp := fun vs H Q _ => ∃ (x dx : Addr) (v : V) (B : Bx), vs = [.ref x, v] ∧ H x = some (.ins C dx []) ∧ BoxAt H v B ∧ BxOk B ∧ ∀ H' gk, SameX [x] H H' → WaysAt C H' x B.n B.pcs.length gk → H gk = none → Q .non H'
section
variable {P : Program} {w : World} {K : PySem.W.Frag} {mg : Str → Option Value} {base : Heap}
theorem sc_Ways_init : FnScope ["self", "box", "number", "piece", "thing"] ["self", "box"] (defScope s_Ways_init) := ⟨rfl, rfl, rfl, by decide +kernel, rfl, by decide +kernel, by decide +kernel⟩
theorem m_Ways_init (T : Tx K w mg) : Mak P w K mg base CX0 2 "Ways" (He.ga K "Ways") (spWaysInit (He.ga K "Ways")) := by
  have c1 : Cal P w K mg base CX0 1 "mask_of" spMask := c_mask_of T
  refine T.d_Ways_init.mak (T.d_Ways_init.ok0 sc_Ways_init ?_ fun cdv A outer s H vs Q E hr h => ?_) T.mk_Ways T.g_Ways
  · rintro vs H Q E ⟨x, dx, v, B, rfl, _⟩
    rfl
  · obtain ⟨x, dx, v, B, rfl, hx, hB, hok, q⟩ := h
    obtain ⟨b, m, p, ps, rfl, hb, hm, hp, hps⟩ := hB
    refine ⟨_, pss_cons (ps_fld (pv 0) (pe_ix ix_tup (pv 1) pe_int (fun _ _ => rfl)) rfl)
      (pss_cons (ps_fld (pv 0) (pe_ix ix_tup (pv 1) pe_int (fun _ _ => rfl)) rfl)
      (pss_cons (ps_fld (pv 0) (pe_lc (own := [("thing", 4)]) (g := gName 4) (tt := tYes) (by rfl) sc_Ways_init.nd (pi_range1 (by rfl) T.z_range (pa_cons (pe_ix ix_tup (pv 1) pe_int (fun _ _ => rfl)) pa_nil)) (blkOk_by (N := ["self", "box", "number", "piece", "thing"]) (sc := defScope s_Ways_init) (by decide +kernel))
          (fun _ _ _ _ _ => pg_name sc_Ways_init.nd rfl (.inl rfl)) (fun _ _ _ _ _ => pts_nil) (fun s1 H1 C1 cl1 fp1 => pe_lst pa_nil)) rfl)
      (pss_cons (ps_for PassesOwn.never rfl (pi_enumT (by rfl) T.z_enumerate (pa_cons (pe_ix ix_tup (pv 1) pe_int (fun _ _ => rfl)) pa_nil)) (pg_tup (by rfl) (pgs_cons (pg_name (i := 2) sc_Ways_init.nd rfl (.inl rfl)) (pgs_cons (pg_name (i := 3) sc_Ways_init.nd rfl (.inl rfl)) pgs_nil)))
          (pss_one (ps_expr (pe_bm PySem.F.plainAttrs_list PySem.F.slot_list_append PySem.F.type_list_append mt_append (pe_ix ix_list (pe_fld (pv 0) rfl) (pe_ix ix_tup (pe_ix ix_tup (pv 3) pe_int (fun _ _ => rfl)) pe_int (fun _ _ => rfl)) (fun _ _ => rfl))
            (pa_cons (pe_tup (pa_cons (pv 2) (pa_cons (pe_c c1 hr (by decide) (by rfl) (pa_cons (pe_ix ix_tup (pv 3) pe_int (fun _ _ => rfl)) pa_nil)) pa_nil))) pa_nil)))))
      (pss_one (ps_fld (pv 0) pe_dnewT rfl))))), ?_⟩
    walk_at "i"
    have hn := hok.n
    have eqs := hps.1
    have cl := T.cl_Ways
    refine ⟨b, _, 0, _, rfl, rfl, SqT.of hb, at0 rfl, ?_⟩
    walk_at "i"
    refine ⟨x, _, dx, _, rfl, hx, cl, T.na_Ways_things, by decide, ?_⟩
    have hbx : b ≠ x := ne_of hb hx (fun e => by cases e)
    walk_at "i"
    refine ⟨b, _, 1, _, rfl, rfl, SqT.of (by rw [upd_ne hbx]; exact hb), at1 rfl, ?_⟩
    walk_at "i"
    refine ⟨x, _, dx, _, rfl, upd_same, cl, T.na_Ways_mays, len1, ?_⟩
    rw [upd_upd]
    have e1 : putF "mays" (.ref m) (putF "things" (.int B.n) []) = wf2 B.n m := put2 _ _
    rw [e1]
    have sx : SameX [x] H (upd H x (.ins (He.ga K "Ways") dx (wf2 B.n m))) := (SameX.refl _ _).put List.mem_cons_self _
    have hxx : upd H x (.ins (He.ga K "Ways") dx (wf2 B.n m)) x = some (.ins (He.ga K "Ways") dx (wf2 B.n m)) := upd_same
    generalize upd H x (.ins (He.ga K "Ways") dx (wf2 B.n m)) = H1 at sx hxx ⊢
    have nx : ∀ {a : Addr} {xs : List V}, H a = some (.tup xs) → H1 a = some (.tup xs) := fun {a xs} ha => sx a (fun hm => by
      rw [List.mem_singleton.mp hm, hx] at ha
      cases ha) _ ha
    walk_at "i"
    refine g_r1 ?_
    walk_at "i"
    refine ⟨b, _, 0, _, rfl, rfl, SqT.of (nx hb), at0 rfl, ?_⟩
    refine ⟨B.n, rfl, by omega, by omega, fun D hD => lc_gen walk_range hD (by omega) (fun i acc H' => acc.length = i ∧ ∀ v ∈ acc, ∃ p, v = .ref p ∧ (p ≠ D ∧ H p = none) ∧ H' p = some (.lst [])) ⟨rfl, fun _ h => by cases h⟩ (fun _ _ => trivial) (fun i y acc H2 H3 hi s2 hd hR y1 Qc Qn kc kn => ?_) (fun acc H2 s2 d2 hR => ?_)⟩
    · obtain ⟨rfl, rfl⟩ := y1
      walk_at "i"
      refine ⟨rfl, ?_⟩
      walk_at "i"
      refine ⟨sz_of (by simp), fun p1 hp1 => kc _ _ (Same.new hp1) ⟨by rw [List.length_append, hR.1]; rfl, fun v hv => ?_⟩⟩
      have hfr : H p1 = none := by
        cases e : H p1 with
        | none => rfl
        | some o =>
          by_cases c : p1 = x
          · rw [c, s2 _ _ hxx] at hp1
            cases hp1
          · rw [s2 _ _ (sx p1 (fun hm => c (List.mem_singleton.mp hm)) o e)] at hp1
            cases hp1
      have hpd : p1 ≠ D := fun e => by
        rw [e, hd] at hp1
        cases hp1
      rcases List.mem_append.mp hv with hv | hv
      · obtain ⟨p2, rfl, h2, h3⟩ := hR.2 v hv
        exact ⟨p2, rfl, h2, by rw [upd_ne h2.1]; exact Same.new hp1 _ _ h3⟩
      · rw [List.mem_singleton.mp hv]
        exact ⟨p1, rfl, ⟨hpd, hfr⟩, by rw [upd_ne hpd, upd_same]⟩
    · walk_at "i"
      refine ⟨x, _, dx, _, rfl, s2 _ _ hxx, cl, T.na_Ways_begun, len2, ?_⟩
      rw [put3]
      have hDx : D ≠ x := ne_of d2 (s2 _ _ hxx) (fun e => by cases e)
      have sy : SameX [x] H (upd H2 x (.ins (He.ga K "Ways") dx (wf3 B.n m D))) := (sx.trans (SameX.of s2)).put List.mem_cons_self _
      have hxy : upd H2 x (.ins (He.ga K "Ways") dx (wf3 B.n m D)) x = some (.ins (He.ga K "Ways") dx (wf3 B.n m D)) := upd_same
      have hDy : upd H2 x (.ins (He.ga K "Ways") dx (wf3 B.n m D)) D = some (.lst acc) := by rw [upd_ne hDx]; exact d2
      have hby : BegAt (upd H2 x (.ins (He.ga K "Ways") dx (wf3 B.n m D))) B.pcs.length 0 acc := fun v hv => by
        obtain ⟨p2, rfl, h2, h3⟩ := hR.2 v hv
        refine ⟨p2, [], rfl, ?_, Nat.le_refl _, fun _ h => by cases h⟩
        rw [upd_ne (ne_of h3 (s2 _ _ hxx) (fun e => by cases e))]
        exact h3
      generalize upd H2 x (.ins (He.ga K "Ways") dx (wf3 B.n m D)) = H3 at sy hxy hDy hby ⊢
      have ny : ∀ {a : Addr} {xs : List V} {H' : Hp}, SameX [x] H H' → H a = some (.tup xs) → H' a = some (.tup xs) := fun {a xs H'} sh ha => sh a (fun hm => by
        rw [List.mem_singleton.mp hm, hx] at ha
        cases ha) _ ha
      have te : ∀ {H' : Hp}, SameX [x] H H' → TupEx H H' := fun sh a xs ha => ny sh ha
      walk_at "i"
      refine g_en ?_
      walk_at "i"
      refine ⟨b, _, 2, _, rfl, rfl, SqT.of (ny sy hb), at2 rfl, p, ps, rfl, SqT.of (ny sy hp), for_it walk_enumT (fun i σ H' => ∃ u1 u2 u3 : Option V, σ = [some (.ref x), some (.ref b), u1, u2, u3] ∧ SameX [x] H H' ∧ H' x = some (.ins (He.ga K "Ways") dx (wf3 B.n m D)) ∧ H' D = some (.lst acc) ∧ BegAt H' B.pcs.length i acc)
        ⟨_, _, _, rfl, sy, hxy, hDy, hby⟩ (fun i σ H' _ ⟨_, _, _, _, sh, _⟩ => SqT.of (ny sh hp)) ?_ ?_⟩
      · rintro i y σ H4 H5 hi ⟨u1, u2, u3, rfl, sh, hx4, hD4, hb4⟩ ⟨T0, k1, w1, rfl, hT0, rfl, hk1, hw1⟩
        cases hk1
        obtain ⟨pc, hpc, q1, l1, rfl, hq1, hl1⟩ := hps.get hw1
        have hpk := hok.pcs pc (List.mem_of_getElem? hpc)
        obtain ⟨z0, zr, ez⟩ : ∃ z0 zr, pc.1 = z0 :: zr := by
          cases e : pc.1 with
          | nil => exact absurd e hpk.2.1
          | cons a r => exact ⟨a, r, rfl⟩
        have hz0 := hpk.1.2 z0 (by rw [ez]; exact List.mem_cons_self)
        have sT := Same.new (H := H4) (o := .tup [.int (i : Nat), .ref q1]) hT0
        have tq : H4 q1 = some (.tup [.ref l1, .int pc.2]) := ny sh hq1
        have tl : H4 l1 = some (.tup (pc.1.map V.int)) := ny sh hl1
        refine g_un2 (SqT.of upd_same) ?_
        walk_at "i"
        refine ⟨x, _, dx, _, _, rfl, sT _ _ hx4, cl, T.na_Ways_begun, lk3, ?_⟩
        walk_at "i"
        refine ⟨q1, _, 0, _, rfl, rfl, SqT.of (sT _ _ tq), at0 rfl, ?_⟩
        walk_at "i"
        refine ⟨l1, _, 0, .int z0, rfl, rfl, SqT.of (sT _ _ tl), at0 (by rw [ez]; rfl), ?_⟩
        have hlt : z0.toNat < acc.length := by rw [hR.1]; omega
        have hget : acc[z0.toNat]? = some acc[z0.toNat] := List.getElem?_eq_getElem hlt
        obtain ⟨pl, ls, epl, hpl, hll, hst⟩ := hb4 _ (List.getElem_mem hlt)
        rw [epl] at hget
        refine ⟨D, acc, z0, .ref pl, rfl, rfl, SqL.of (sT _ _ hD4), ati hz0.1 hget, .inl ⟨rfl, _, SqL.of (sT _ _ hpl)⟩, ?_⟩
        walk_at "i"
        refine ⟨q1, _, 0, _, rfl, rfl, SqT.of (sT _ _ tq), at0 rfl, ?_⟩
        walk_at "i"
        refine ⟨l1, pc.1, rfl, sT _ _ tl, fun z hz => by have := hpk.1.2 z hz; omega, fun mz hmz => ?_⟩
        walk_at "i"
        refine ⟨sz_of (by simp), fun p5 hp5 => ?_⟩
        have s5 := sT.trans (Same.new (o := .tup [.int (i : Nat), .int mz]) hp5)
        refine ⟨pl, ls, .ref p5, rfl, rfl, s5 _ _ hpl, sz_lt (by have := hok.len; have := hps.1; omega), ?_⟩
        walk_at "i"
        have nDpl : D ≠ pl := fun e => by
          rw [e] at hD4
          rw [hpl] at hD4
          have e2 : ls = acc := HO.lst.inj (Option.some.inj hD4)
          obtain ⟨q9, i9, c9, e9, h9, _⟩ := hst (.ref pl) (by rw [e2, ← epl]; exact List.getElem_mem hlt)
          cases e9
          rw [hpl] at h9
          cases h9
        have nxpl : x ≠ pl := ne_of hx4 hpl (fun e => by cases e)
        have tu : TupEx H4 (upd (upd (upd H4 T0 (.tup [.int (i : Nat), .ref q1])) p5 (.tup [.int (i : Nat), .int mz])) pl (.lst (ls ++ [.ref p5]))) := (Same.tups s5).trans (TupEx.mutL (s5 _ _ hpl))
        refine ⟨_, _, _, rfl, fun a ha o e => ?_, ?_, ?_, fun v hv => ?_⟩
        · by_cases ea : a = pl
          · -- the lists are new
            subst ea
            obtain ⟨p7, e7, h7, _⟩ := hR.2 (.ref a) (by rw [← epl]; exact List.getElem_mem hlt)
            cases e7
            rw [h7.2] at e
            cases e
          · rw [upd_ne ea]
            exact s5 _ _ (sh a ha o e)
        · rw [upd_ne nxpl]
          exact s5 _ _ hx4
        · rw [upd_ne nDpl]
          exact s5 _ _ hD4
        · obtain ⟨p6, ls6, e6, h6, hl6, hs6⟩ := hb4 v hv
          by_cases ea : p6 = pl
          · subst ea
            rw [hpl] at h6
            cases h6
            refine ⟨p6, ls ++ [.ref p5], e6, upd_same, by rw [List.length_append]; exact Nat.add_le_add_right hl6 1, fun u hu => ?_⟩
            rcases List.mem_append.mp hu with hu | hu
            · exact (hs6.ex tu) u hu
            · rw [List.mem_singleton.mp hu]
              have hlt2 := at_lt hpc
              exact ⟨p5, i, mz, rfl, by rw [upd_ne (ne_of_none (sT _ _ hpl) hp5).symm]; exact upd_same, by omega, hmz⟩
          · exact ⟨p6, ls6, e6, by rw [upd_ne ea]; exact s5 _ _ h6, Nat.le_succ_of_le hl6, hs6.ex tu⟩
      · rintro σ H4 ⟨u1, u2, u3, rfl, sh, hx4, hD4, hb4⟩
        walk_at "i"
        refine fun gk hgk => ?_
        walk_at "i"
        have sG := Same.new (o := .dT []) hgk
        refine ⟨x, _, dx, _, rfl, sG _ _ hx4, cl, T.na_Ways_known, len3, ?_⟩
        rw [put4]
        have nxg : gk ≠ x := (ne_of_none hx4 hgk).symm
        have kl : KeepLT H4 (upd (upd H4 gk (.dT [])) x (.ins (He.ga K "Ways") dx (wf4 B.n m D gk))) := (KeepLT.of sG).trans (KeepLT.ins (sG _ _ hx4) _)
        have hfr : H gk = none := by
          cases e : H gk with
          | none => rfl
          | some o =>
            rw [sh gk (fun hm => nxg (List.mem_singleton.mp hm)) o e] at hgk
            cases hgk
        refine q _ gk ((sh.new hfr _).put List.mem_cons_self _) ⟨dx, m, D, acc, B.mays, [], upd_same, (kl _ _).2 (ny sh hm), (kl _ _).1 hD4, hR.1, fun v hv => ?_, ?_, Memo.nil _⟩ hfr
        · obtain ⟨p2, ls, h1, h2, h3, h4⟩ := (hb4.lt kl) v hv
          exact ⟨p2, ls, h1, h2, by have := hok.len; have := hps.1; omega, h4⟩
        · rw [upd_ne nxg]
          exact upd_same
end
/-! EWay2 -/
theorem lk_things {n : Nat} {m D gk : Addr} : List.lookup ("things" : Str) (wf4 n m D gk) = some (.int n) := by
  unfold wf4
  exact lk_here
theorem lk_mays {n : Nat} {m D gk : Addr} : List.lookup ("mays" : Str) (wf4 n m D gk) = some (.ref m) := by
  unfold wf4
  rw [lk_past (by decide +kernel)]
  exact lk_here
theorem lk_begun {n : Nat} {m D gk : Addr} : List.lookup ("begun" : Str) (wf4 n m D gk) = some (.ref D) := by
  unfold wf4
  rw [lk_past (by decide +kernel), lk_past (by decide +kernel)]
  exact lk_here
theorem lk_known {n : Nat} {m D gk : Addr} : List.lookup ("known" : Str) (wf4 n m D gk) = some (.ref gk) := by
  unfold wf4
  rw [lk_past (by decide +kernel), lk_past (by decide +kernel), lk_past (by decide +kernel)]
  exact lk_here
theorem lk_none {n : Nat} {m D gk : Addr} {x : Str} (h : (["things", "mays", "begun", "known"] : List Str).all (fun g => !(x == g)) = true) : List.lookup x (wf4 n m D gk) = none := by
  simp only [List.all_cons, List.all_nil, Bool.and_true, Bool.and_eq_true, Bool.not_eq_true'] at h
  obtain ⟨h1, h2, h3, h4⟩ := h
  unfold wf4
  rw [lk_past h1, lk_past h2, lk_past h3, lk_past h4]
  rfl
def spNext (C : Addr) : Sp := fun vs H Q _ => ∃ (a gk : Addr) (t c : Int) (n np : Nat), vs = [.ref a, .int t, .int c] ∧ WaysAt C H a n np gk ∧ (0 ≤ t ∧ t < n) ∧ cov c ∧
  ∀ H' p xs, Same H H' → H' p = some (.lst xs) → StepsAt H' np xs → xs.length ≤ 33 → H p = none → Q (.ref p) H'
theorem flat_ints (l : List Int) : (l.map V.int).all flatV = true := by
  rw [List.all_eq_true]
  intro v hv
  obtain ⟨i, _, rfl⟩ := List.mem_map.mp hv
  rfl
section
variable {P : Program} {w : World} {K : PySem.W.Frag} {mg : Str → Option Value} {base : Heap}
theorem sc_next_steps : FnScope ["self", "thing", "covered", "found", "number", "mask"] ["self", "thing", "covered"] (defScope s_Ways_next_steps) := ⟨rfl, rfl, rfl, by decide +kernel, rfl, by decide +kernel, by decide +kernel⟩
theorem m_next_steps (T : Tx K w mg) : Met P w K mg base CX0 1 (He.ga K "Ways") "next_steps" (spNext (He.ga K "Ways")) := by
  refine T.d_Ways_next_steps.met (T.d_Ways_next_steps.ok0 sc_next_steps ?_ fun cdv A outer s H vs Q E hr h => ?_) T.cl_Ways T.me_Ways_next_steps
  · rintro vs H Q E ⟨a, gk, t, c, n, np, rfl, _⟩
    rfl
  · obtain ⟨a, gk, t, c, n, np, rfl, hW, ht, hc, q⟩ := h
    have cl := T.cl_Ways
    refine ⟨_, pss_cons (ps_set (i := 3) sc_next_steps.nd rfl (.inl rfl) (pe_lst pa_nil))
      (pss_cons (ps_cut (ps_if (pt_cmpR op_in (pv 1) (pe_fld (pv 0) rfl) (by rfl)) (pss_one (ps_expr (pe_bm PySem.F.plainAttrs_list PySem.F.slot_list_append PySem.F.type_list_append mt_append (pv 3) (pa_cons (pe_tup (pa_cons (pe_un un_neg pe_int) (pa_cons (pv 2) pa_nil))) pa_nil)))) pss_nil))
      (pss_cons (ps_for PassesOwn.never rfl (pi_list (pe_ix ix_list (pe_fld (pv 0) rfl) (pv 1) (fun _ _ => rfl))) (pg_tup (by rfl) (pgs_cons (pg_name (i := 4) sc_next_steps.nd rfl (.inl rfl)) (pgs_cons (pg_name (i := 5) sc_next_steps.nd rfl (.inl rfl)) pgs_nil)))
          (pss_one (ps_if (pt_cmpR op_eq (pe_op op_and (pv 5) (pv 2)) pe_int (nomark _)) (pss_one (ps_expr (pe_bm PySem.F.plainAttrs_list PySem.F.slot_list_append PySem.F.type_list_append mt_append (pv 3) (pa_cons (pe_tup (pa_cons (pv 4) (pa_cons (pe_op op_or (pv 2) (pv 5)) pa_nil))) pa_nil)))) pss_nil)))
      (pss_one (ps_ret (pv 3))))), ?_⟩
    obtain ⟨dx, m, gb, bs, mays, memo, h1, h2, h3, h4, h5, h6, h7⟩ := hW.ex
    walk_at "i"
    refine ⟨sz_of (by simp), fun p hp => ?_⟩
    walk_at "i"
    have add : ∀ (H2 : Hp) (xs : List V), Same H H2 → H2 p = some (.lst xs) → StepsAt H2 np xs → ∀ (p2 : Addr) (i d : Int), H2 p2 = none → (-1 ≤ i ∧ i < np) → cov d → Same H (upd (upd H2 p2 (.tup [.int i, .int d])) p (.lst (xs ++ [.ref p2]))) ∧ StepsAt (upd (upd H2 p2 (.tup [.int i, .int d])) p (.lst (xs ++ [.ref p2]))) np (xs ++ [.ref p2]) := by
      intro H2 xs s2 hx hs p2 i d hp2 hi hd
      have s3 := Same.new (o := .tup [.int i, .int d]) hp2
      have tu : TupEx H2 (upd (upd H2 p2 (.tup [.int i, .int d])) p (.lst (xs ++ [.ref p2]))) := (Same.tups s3).trans (TupEx.mutL (s3 _ _ hx))
      refine ⟨Same.mut (s2.trans s3) hp, fun v hv => ?_⟩
      rcases List.mem_append.mp hv with hv | hv
      · exact hs.ex tu v hv
      · rw [List.mem_singleton.mp hv]
        exact ⟨p2, i, d, rfl, by rw [upd_ne (ne_of_none hx hp2).symm]; exact upd_same, hi, hd⟩
    refine g_cut (fun σ' H' => ∃ xs, σ' = [some (.ref a), some (.int t), some (.int c), some (.ref p), none, none] ∧ Same H H' ∧ H' p = some (.lst xs) ∧ StepsAt H' np xs ∧ xs.length ≤ 1) ?_ ?_
    · walk_at "i"
      have s1 := Same.new (o := .lst []) hp
      refine ⟨a, _, dx, _, _, rfl, s1 _ _ h1, cl, T.na_Ways_mays, lk_mays, ?_⟩
      refine ⟨m, _, rfl, .inr (SqT.of (s1 _ _ h2)), rfl, flat_ints _, ?_⟩
      walk_at "i"
      refine g_b (fun h => ?_) (fun h => ?_)
      · walk_at "i"
        refine ⟨.inl ⟨rfl, _, SqL.of upd_same⟩, ?_⟩
        walk_at "i"
        refine ⟨sz_of (by simp), fun p2 hp2 => ?_⟩
        refine ⟨p, [], .ref p2, rfl, rfl, Same.new hp2 _ _ upd_same, by simp [sizeLine], ?_⟩
        walk_at "i"
        obtain ⟨g1, g2⟩ := add _ [] s1 upd_same (fun _ h => by cases h) p2 (-1) c hp2 ⟨Int.le_refl _, by omega⟩ hc
        exact ⟨_, rfl, g1, upd_same, g2, Nat.le_refl _⟩
      · walk_at "i"
        exact ⟨_, rfl, s1, upd_same, (fun _ h => by cases h), Nat.zero_le _⟩
    · rintro σ' H1 ⟨xs0, rfl, s1, hx0, hs0, hl0⟩
      walk_at "i"
      have hlt : t.toNat < bs.length := by omega
      have hget : bs[t.toNat]? = some bs[t.toNat] := List.getElem?_eq_getElem hlt
      obtain ⟨pl, ls, epl, hpl, hll, hst⟩ := h5 _ (List.getElem_mem hlt)
      rw [epl] at hget
      refine g_ls ?_
      walk_at "i"
      refine ⟨a, _, dx, _, _, rfl, s1 _ _ h1, cl, T.na_Ways_begun, lk_begun, ?_⟩
      walk_at "i"
      refine ⟨gb, bs, t, .ref pl, rfl, rfl, SqL.of (s1 _ _ h3), ati ht.1 hget, pl, rfl, ⟨_, SqL.of (s1 _ _ hpl)⟩, for_it walk_list (fun i σ H' => ∃ (u1 u2 : Option V) (xs : List V), σ = [some (.ref a), some (.int t), some (.int c), some (.ref p), u1, u2] ∧ Same H H' ∧ H' p = some (.lst xs) ∧ StepsAt H' np xs ∧ xs.length ≤ 1 + i)
        ⟨_, _, xs0, rfl, s1, hx0, hs0, hl0⟩ (fun i σ H' _ ⟨_, _, _, _, s', _⟩ => SqL.of (s' _ _ hpl)) ?_ ?_⟩
      · rintro i y σ H2 H3 hi ⟨u1, u2, xs, rfl, s2, hx, hs, hl⟩ ⟨rfl, hy⟩
        obtain ⟨q1, k, d, rfl, hq1, hk, hd⟩ := hst _ (List.mem_of_getElem? hy)
        refine g_un2 (SqT.of (s2 _ _ hq1)) ?_
        walk_at "i"
        refine g_dec (fun h => ?_) (fun h => ?_)
        · walk_at "i"
          refine ⟨.inl ⟨rfl, _, SqL.of hx⟩, ?_⟩
          walk_at "i"
          refine ⟨sz_of (by simp), fun p2 hp2 => ?_⟩
          refine ⟨p, xs, .ref p2, rfl, rfl, Same.new hp2 _ _ hx, sz_lt (by omega), ?_⟩
          walk_at "i"
          obtain ⟨g1, g2⟩ := add _ xs s2 hx hs p2 k (Builtin.bitOr c d) hp2 hk (cov_or hc hd)
          exact ⟨_, _, _, rfl, g1, upd_same, g2, by rw [List.length_append, List.length_singleton]; omega⟩
        · walk_at "i"
          exact ⟨_, _, xs, rfl, s2, hx, hs, by omega⟩
      · rintro σ H2 ⟨u1, u2, xs, rfl, s2, hx, hs, hl⟩
        walk_at "i"
        exact q _ p xs s2 hx hs (by omega) hp
end
/-! EWay3 -/
/-- a comprehension that changes memos only -/
theorem lc_genK {J : It} {n : Nat} {G : Hp → Prop} {Y : Nat → Hp → V → Hp → Prop} (w : Walk J n G Y) {g : TG} {tt : TT} {te : TE} {vs : List Nat} {σ : L2.St} {H1 : Hp} {D : Addr} {Qd : Hp → Prop} (hD : H1 D = none) (hn : n ≤ 100000)
    (R : Nat → List V → Hp → Prop) (h0 : R 0 [] (upd H1 D (.lst []))) (hG : ∀ H, Keeps H1 H → G H)
    (hs : ∀ i x acc H H', i < n → Keeps H1 H → H D = some (.lst acc) → R i acc H → Y i H x H' → ∀ (Qc : V → Hp → Prop) (Qn : Hp → Prop), (∀ y H4, Keeps H H4 → R (i + 1) (acc ++ [y]) (upd H4 D (.lst (acc ++ [y]))) → Qc y H4) → (∀ H4, Keeps H H4 → R (i + 1) acc H4 → Qn H4) →
      g x (wipe σ vs) H' fun σ2 H2 => wipe σ2 vs = wipe σ vs ∧ tt σ2 H2 fun b H3 => if b = true then te σ2 H3 Qc else Qn H3)
    (hd : ∀ acc H, Keeps H1 H → H D = some (.lst acc) → R n acc H → Qd H) :
    ∃ W : Nat → Nat → Hp → Prop, (∃ m, W 0 m (upd H1 D (.lst []))) ∧ ∀ i m H, W i m H →
      (J.stop i H ∧ Qd H) ∨ (J.go i H ∧ ∃ Nx : Hp → Prop, (∀ H', Nx H' → ∃ m', m' < m ∧ W (i + 1) m' H') ∧ ∀ x H', J.yld i H x H' → g x (wipe σ vs) H' fun σ2 H2 => wipe σ2 vs = wipe σ vs ∧ tt σ2 H2 fun b H3 =>
        if b = true then te σ2 H3 fun y H4 => ∃ acc, H4 D = some (.lst acc) ∧ acc.length < sizeLine ∧ Nx (upd H4 D (.lst (acc ++ [y]))) else Nx H3) := by
  have nl : ∀ (acc : List V) (kvs : List (List Key × V)), HO.lst acc ≠ .dT kvs := fun _ _ e => by cases e
  refine lc_it w (fun i H => ∃ acc, Keeps H1 H ∧ H D = some (.lst acc) ∧ acc.length ≤ i ∧ R i acc H) ⟨[], fun b o e _ => by rw [upd_ne (ne_of_none e hD)]; exact e, upd_same, Nat.le_refl _, h0⟩ (fun i H _ ⟨_, s, _⟩ => hG H s) ?_ ?_
  · rintro i x H H' hi ⟨acc, s, d, hl, r⟩ y
    refine hs i x acc H H' hi s d r y _ _ (fun z H4 s4 r4 => ⟨acc, s4 D _ d (nl _), Nat.lt_of_le_of_lt (Nat.le_trans hl (Nat.le_trans (Nat.le_of_lt hi) hn)) (by decide), acc ++ [z], fun b o e g => ?_, upd_same, ?_, r4⟩) (fun H4 s4 r4 => ⟨acc, s.trans s4, s4 D _ d (nl _), Nat.le_succ_of_le hl, r4⟩)
    · rw [upd_ne (ne_of_none e hD)]
      exact s4 b o (s b o e g) g
    · rw [List.length_append]
      exact Nat.add_le_add_right hl 1
  · rintro H ⟨acc, s, d, _, r⟩
    exact hd acc H s d r
theorem Keeps.newer {H H' : Hp} (k : Keeps H H') {p : Addr} (hp : H' p = none) (o : HO) : Keeps H (upd H' p o) := k.trans (Keeps.of (Same.new hp))
theorem Keeps.mut {H H' : Hp} (k : Keeps H H') {p : Addr} (hp : H p = none) (o : HO) : Keeps H (upd H' p o) := fun a u e g => by
  rw [upd_ne (ne_of_none e hp)]
  exact k a u e g
theorem Keeps.dict {H H' : Hp} (k : Keeps H H') {p : Addr} {kvs : List (List Key × V)} (hp : H p = some (.dT kvs)) (o : HO) : Keeps H (upd H' p o) := fun a u e g => by
  rw [upd_ne (fun h => by
    rw [h, hp] at e
    exact g kvs (Option.some.inj e).symm)]
  exact k a u e g
/-- the memo at gk -/
def MemAt (VP : Int → V → Prop) (H : Hp) (gk : Addr) : Prop := ∃ memo, H gk = some (.dT memo) ∧ Memo VP memo
theorem MemAt.same {VP : Int → V → Prop} {H H' : Hp} {gk : Addr} (m : MemAt VP H gk) (s : Same H H') : MemAt VP H' gk := by
  obtain ⟨memo, h1, h2⟩ := m
  exact ⟨memo, s _ _ h1, h2⟩
theorem WaysAt.mem {C : Addr} {H : Hp} {a : Addr} {n np : Nat} {gk : Addr} (h : WaysAt C H a n np gk) : MemAt (VW n) H gk := by
  obtain ⟨dx, m, gb, bs, mays, memo, h1, h2, h3, h4, h5, h6, h7⟩ := h.ex
  exact ⟨memo, h6, h7⟩
theorem u1 {k : Nat} {A : Around} (r : Room k A) : A.units + 1 < cLine := by have := r.un; omega
theorem sum_bd (m : Int) (hm : 0 ≤ m) : ∀ (l : List Int), (∀ z ∈ l, 0 ≤ z ∧ z ≤ m) → 0 ≤ l.sum ∧ l.sum ≤ l.length * m
  | [], _ => by simp
  | z :: r, h => by
    have h1 := h z List.mem_cons_self
    have ⟨h2, h3⟩ := sum_bd m hm r fun y hy => h y (List.mem_cons_of_mem _ hy)
    rw [List.sum_cons, List.length_cons]
    constructor
    · omega
    · have e : ((r.length + 1 : Nat) : Int) * m = (r.length : Int) * m + m := by
        rw [Int.natCast_add, Int.add_mul]
        simp
      rw [e]
      omega
theorem pow33_pos (k : Nat) : (0 : Int) ≤ 33 ^ k := Int.le_of_lt (Int.pow_pos (by decide))
theorem pow33_mono {a b : Nat} (h : a ≤ b) : (33 : Int) ^ a ≤ 33 ^ b := by
  have e : b = a + (b - a) := by omega
  rw [e, Int.pow_add]
  have h1 := pow33_pos a
  have h2 : (1 : Int) ≤ 33 ^ (b - a) := Int.pow_pos (by decide)
  have := Int.mul_le_mul_of_nonneg_left h2 h1
  rw [Int.mul_one] at this
  exact this
theorem pow33_step (k len : Nat) (h : len ≤ 33) : (len : Int) * 33 ^ k ≤ 33 ^ (k + 1) := by
  rw [Int.pow_succ, Int.mul_comm ((33 : Int) ^ k)]
  exact Int.mul_le_mul_of_nonneg_right (by omega) (pow33_pos k)
def spWF (C : Addr) (j : Nat) : Sp := fun vs H Q _ => ∃ (a gk : Addr) (t c : Int) (n np : Nat), vs = [.ref a, .int t, .int c] ∧ WaysAt C H a n np gk ∧ n ≤ 16 ∧ (0 ≤ t ∧ t ≤ n) ∧ n < t + j ∧ cov c ∧
  ∀ H' z, Keeps H H' → WaysAt C H' a n np gk → 0 ≤ z → z ≤ 33 ^ (n - t.toNat) → Q (.int z) H'
section
variable {P : Program} {w : World} {K : PySem.W.Frag} {mg : Str → Option Value} {base : Heap}
theorem sc_ways_from : FnScope ["self", "thing", "covered", "key", "some", "number", "there"] ["self", "thing", "covered"] (defScope s_Ways_ways_from) := ⟨rfl, rfl, rfl, by decide +kernel, rfl, by decide +kernel, by decide +kernel⟩
theorem boot_sum : bootBuiltins "sum" = some (.builtin "sum") := by decide +kernel
theorem m_ways_from (T : Tx K w mg) : ∀ j : Nat, Met P w K mg base CX0 (j + 2) (He.ga K "Ways") "ways_from" (spWF (He.ga K "Ways") j)
  | 0 => by
    refine T.d_Ways_ways_from.met (T.d_Ways_ways_from.ok0 sc_ways_from ?_ fun cdv A outer s H vs Q E hr h => ?_) T.cl_Ways T.me_Ways_ways_from
    · rintro vs H Q E ⟨a, gk, t, c, n, np, rfl, _⟩
      rfl
    · obtain ⟨a, gk, t, c, n, np, rfl, hW, hn, ht, hj, _⟩ := h
      omega
  | j + 1 => by
    have cr := m_ways_from T j
    have c1 : Met P w K mg base CX0 1 (He.ga K "Ways") "next_steps" (spNext (He.ga K "Ways")) := m_next_steps T
    refine T.d_Ways_ways_from.met (T.d_Ways_ways_from.ok0 sc_ways_from ?_ fun cdv A outer s H vs Q E hr h => ?_) T.cl_Ways T.me_Ways_ways_from
    · rintro vs H Q E ⟨a, gk, t, c, n, np, rfl, _⟩
      rfl
    · obtain ⟨a, gk, t, c, n, np, rfl, hW, hn, ht, hj, hc, q⟩ := h
      have cl := T.cl_Ways
      refine ⟨_, pss_cons (ps_while PassesOwn.never (pt_cut (PW.pt (pw_and (pt_cmpR op_lt (pv 1) (pe_fld (pv 0) rfl) (nomark _)) (pw_and1 (pt_cmpR op_eq (pe_op op_and (pe_op op_shr (pv 2) (pv 1)) pe_int) pe_int (nomark _)))))) (pss_one (ps_set (i := 1) sc_ways_from.nd rfl (.inr rfl) (pe_op op_add (pv 1) pe_int))))
        (pss_cons (ps_if (pt_cmpR op_eq (pv 1) (pe_fld (pv 0) rfl) (nomark _)) (pss_one (ps_ret pe_int)) pss_nil)
        (pss_cons (ps_set (i := 3) sc_ways_from.nd rfl (.inl rfl) (pe_tup (pa_cons (pv 1) (pa_cons (pe_op op_shr (pv 2) (pv 1)) pa_nil))))
        (pss_cons (ps_cut (ps_if (pt_cmp (pc_dnotin (u1 hr) (pv 3) (pe_fld (pv 0) rfl)))
            (pss_cons (ps_set (i := 4) sc_ways_from.nd rfl (.inl rfl) (pe_m c1 hr (by omega) (pv 0) (pa_cons (pv 1) (pa_cons (pv 2) pa_nil))))
            (pss_one (ps_dput (u1 hr) (pe_fld (pv 0) rfl) (pv 3) (pe_callB (cr_sum rfl) (by rfl) T.z_sum boot_sum (pa_cons (pe_lc (own := [("number", 5), ("there", 6)]) (g := gTup K 2 (gCons (gName 5) (gCons (gName 6) gNil))) (tt := tYes) (by rfl) sc_ways_from.nd (pi_list (pv 4))
                (blkOk_by (N := ["self", "thing", "covered", "key", "some", "number", "there"]) (sc := defScope s_Ways_ways_from) (by decide +kernel)) (fun _ _ _ _ _ => pg_tup (by rfl) (pgs_cons (pg_name (i := 5) sc_ways_from.nd rfl (.inl rfl)) (pgs_cons (pg_name (i := 6) sc_ways_from.nd rfl (.inl rfl)) pgs_nil))) (fun _ _ _ _ _ => pts_nil)
                (fun s1 H1 C1 cl1 fp1 => pe_m cr hr (by omega) (pv 0) (pa_cons (pe_op op_add (pv 1) pe_int) (pa_cons (pv 6) pa_nil)))) pa_nil)) (by rfl)))) pss_nil))
        (pss_one (ps_ret (pe_dget (u1 hr) (pe_fld (pv 0) rfl) (pv 3) (by intro _ _; rfl))))))), ?_⟩
      obtain ⟨dx, m, gb, bs, mays, memo, h1, h2, h3, h4, h5, h6, h7⟩ := hW.ex
      walk_at "i"
      refine ⟨fun mm σ' H' => ∃ t' : Int, σ' = [some (.ref a), some (.int t'), some (.int c), none, none, none, none] ∧ H' = H ∧ t ≤ t' ∧ t' ≤ n ∧ mm = (n - t').toNat, ⟨_, t, rfl, rfl, Int.le_refl _, ht.2, rfl⟩, ?_⟩
      rintro mm σ' H' ⟨t', rfl, rfl, g1, g2, rfl⟩
      refine g_tcut (fun b H1 => H1 = H' ∧ (b = true → t' < n)) ?_ ?_
      · walk_at "i"
        refine ⟨a, _, dx, _, _, rfl, h1, cl, T.na_Ways_things, lk_things, ?_⟩
        walk_at "i"
        refine g_dec (fun h => ?_) (fun h => ?_)
        · walk_at "i"
          refine g_I (by omega) ?_
          walk_at "i"
          exact ⟨rfl, fun _ => h⟩
        · exact ⟨rfl, fun e => by cases e⟩
      rintro bb H1 ⟨rfl, hb⟩
      refine g_b (fun eb => ?_) (fun eb => ?_)
      · have hlt := hb eb
        refine ⟨_, fun _ _ h => h, ?_⟩
        walk_at "i"
        exact ⟨_, by omega, t' + 1, rfl, rfl, by omega, by omega, rfl⟩
      walk_at "i"
      refine ⟨a, _, dx, _, _, rfl, h1, cl, T.na_Ways_things, lk_things, ?_⟩
      walk_at "i"
      refine g_dec (fun h => ?_) (fun h => ?_)
      · walk_at "i"
        exact q _ 1 (Keeps.refl _) hW (by decide) (Int.pow_pos (by decide))
      have hlt : t' < n := by
        have : t' ≠ n := fun e => h (by rw [e])
        omega
      walk_at "i"
      refine g_I (by omega) ?_
      walk_at "i"
      refine ⟨sz_of (by simp), fun k1 hk1 => ?_⟩
      walk_at "i"
      have ck : cov (c / 2 ^ t'.toNat) := cov_shr hc _
      have s1 := Same.new (H := H1) (o := .tup [.int t', .int (c / 2 ^ t'.toNat)]) hk1
      have hk2 : upd H1 k1 (.tup [.int t', .int (c / 2 ^ t'.toNat)]) k1 = some (.tup [.int t', .int (c / 2 ^ t'.toNat)]) := upd_same
      generalize upd H1 k1 (.tup [.int t', .int (c / 2 ^ t'.toNat)]) = H2 at s1 hk2 ⊢
      have hW2 := hW.same s1
      refine g_cut (fun σ' H' => ∃ (u1 u2 u3 : Option V) (memo' : List (List Key × V)) (v : V), σ' = [some (.ref a), some (.int t'), some (.int c), some (.ref k1), u1, u2, u3] ∧ Keeps H2 H' ∧ H' gk = some (.dT memo') ∧ Memo (VW n) memo' ∧ valV memo' [.inl t', .inl (c / 2 ^ t'.toNat)] = some v) ?_ ?_
      · walk_at "i"
        refine ⟨a, _, dx, _, _, rfl, s1 _ _ h1, cl, T.na_Ways_known, lk_known, ?_⟩
        have dg : DGet H2 gk (.ref k1) (valV memo [.inl t', .inl (c / 2 ^ t'.toNat)]) := DGet.t (s1 _ _ h6) hk2
        refine ⟨gk, _, rfl, dg, ?_⟩
        walk_at "i"
        cases e : valV memo ([.inl t', .inl (c / 2 ^ t'.toNat)] : List Key) with
        | some v =>
          refine L2.iteF ?_
          walk_at "i"
          exact ⟨_, _, _, memo, v, rfl, Keeps.refl _, s1 _ _ h6, h7, e⟩
        | none =>
          refine L2.iteT ?_
          walk_at "i"
          refine ⟨a, dx, _, rfl, s1 _ _ h1, lk_none (by decide +kernel), ?_⟩
          walk_at "i"
          refine ⟨a, gk, t', c, n, np, rfl, hW2, ⟨by omega, hlt⟩, hc, fun H3 p xs s3 hp hst hxl hpf => ?_⟩
          walk_at "i"
          have hW3 := hW2.same s3
          refine g_ls ?_
          walk_at "i"
          refine ⟨p, rfl, ⟨_, SqL.of hp⟩, fun D hD => lc_genK walk_list hD (by omega) (fun i acc H' => MemAt (VW n) H' gk ∧ ∃ zs : List Int, acc = zs.map V.int ∧ zs.length = i ∧ ∀ z ∈ zs, 0 ≤ z ∧ z ≤ 33 ^ (n - (t' + 1).toNat)) ⟨?_, [], rfl, rfl, fun _ h => by cases h⟩ (fun H' k => SqL.of (k _ _ hp (fun _ e => by cases e))) (fun i y acc H4 H5 hi k4 hd hR y1 Qc Qn kc kn => ?_) (fun acc H4 k4 d4 hR => ?_)⟩
          · exact hW3.mem.same (Same.new hD)
          · obtain ⟨rfl, hy⟩ := y1
            obtain ⟨q1, k, d, rfl, hq1, hk, hd'⟩ := hst _ (List.mem_of_getElem? hy)
            obtain ⟨hmem, zs, rfl, hzl, hzs⟩ := hR
            have hW4 := hW3.keep k4 hmem
            obtain ⟨dx4, m4, gb4, bs4, mays4, memo4, w1, _⟩ := hW4.ex
            refine g_un2 (SqT.of (k4 _ _ hq1 (fun _ e => by cases e))) ⟨rfl, ?_⟩
            walk_at "i"
            refine ⟨a, dx4, _, rfl, w1, lk_none (by decide +kernel), ?_⟩
            walk_at "i"
            refine ⟨a, gk, t' + 1, d, n, np, rfl, hW4, hn, ⟨by omega, by omega⟩, by omega, hd', fun H6 z k6 w6 z0 z1 => ?_⟩
            refine kc _ _ k6 ⟨?_, zs ++ [z], by simp, by rw [List.length_append, hzl]; rfl, fun y hy => ?_⟩
            · have hDg : gk ≠ D := by
                obtain ⟨mm, e1, e2⟩ := hmem
                exact ne_of e1 hd (fun e => by cases e)
              obtain ⟨mm, e1, e2⟩ := w6.mem
              exact ⟨mm, by rw [upd_ne hDg]; exact e1, e2⟩
            · rcases List.mem_append.mp hy with hy | hy
              · exact hzs y hy
              · rw [List.mem_singleton.mp hy]
                exact ⟨z0, z1⟩
          · obtain ⟨hmem, zs, rfl, hzl, hzs⟩ := hR
            have hW4 := hW3.keep k4 hmem
            obtain ⟨dx4, m4, gb4, bs4, mays4, memo4, w1, w2, w3, w4, w5, w6, w7⟩ := hW4.ex
            have hk4 : H4 k1 = some (.tup [.int t', .int (c / 2 ^ t'.toNat)]) := k4 _ _ (s3 _ _ hk2) (fun _ e => by cases e)
            walk_at "i"
            refine ⟨D, zs, rfl, SqL.of d4, ?_⟩
            walk_at "i"
            refine ⟨a, _, dx4, _, _, rfl, w1, cl, T.na_Ways_known, lk_known, ?_⟩
            walk_at "i"
            refine ⟨gk, _, rfl, .inr ⟨memo4, [.inl t', .inl (c / 2 ^ t'.toNat)], k1, w6, rfl, hk4, Nat.lt_of_le_of_lt w7.len (by decide), rfl⟩, ?_⟩
            walk_at "i"
            have hs := sum_bd (33 ^ (n - (t' + 1).toNat)) (pow33_pos _) zs hzs
            have hs2 := pow33_step (n - (t' + 1).toNat) zs.length (by omega)
            have e1 : n - t'.toNat = n - (t' + 1).toNat + 1 := by omega
            refine ⟨_, _, _, putK memo4 [.inl t', .inl (c / 2 ^ t'.toNat)] (.int zs.sum), .int zs.sum, rfl, ?_, upd_same, w7.put (by omega) ck ⟨zs.sum, rfl, hs.1, ?_⟩, ?_⟩
            · exact (((Keeps.of s3).trans k4).dict (s1 _ _ h6) _)
            · rw [e1]
              omega
            · rw [valV_put, if_pos rfl]
      · rintro σ' H3 ⟨u1, u2, u3, memo', v, rfl, k3, hg3, hm3, hv3⟩
        have hW3 := hW2.keep k3 ⟨memo', hg3, hm3⟩
        walk_at "i"
        have g1' : H3 a = some (.ins (He.ga K "Ways") dx (wf4 n m gb gk)) := k3 _ _ (s1 _ _ h1) (fun _ e => by cases e)
        have hk3 := k3 _ _ hk2 (fun _ e => by cases e)
        refine ⟨a, _, dx, _, _, rfl, g1', cl, T.na_Ways_known, lk_known, ?_⟩
        walk_at "i"
        have dg : DGet H3 gk (.ref k1) (valV memo' [.inl t', .inl (c / 2 ^ t'.toNat)]) := DGet.t hg3 hk3
        rw [hv3] at dg
        refine ⟨gk, v, rfl, dg, ?_⟩
        obtain ⟨z, rfl, z0, z1⟩ := hm3.get hv3
        refine q _ z ((Keeps.of s1).trans k3) hW3 z0 (Int.le_trans z1 (pow33_mono (by omega)))
end
/-! ECov -/
def spMany : Sp := fun vs H Q _ => ∃ v B, vs = [v] ∧ BoxAt H v B ∧ BxOk B ∧ ∀ H' z, Keeps H H' → 0 ≤ z → z ≤ 33 ^ 16 → Q (.int z) H'
def spCovAt (C : Value) : Sp := fun vs H Q E => ∃ v B k, vs = [v, .int k] ∧ BoxAt H v B ∧ BxOk B ∧ (∀ H' p l, Keeps H H' → H' p = some (.tup (l.map V.int)) → small l → Q (.ref p) H') ∧ ∀ H', Keeps H H' → E C none H'
/-- a new instance and its dict, then what __init__ makes -/
theorem made_keeps {H H' : Hp} {x dx C : Addr} (hx : H x = none) (hd : H dx = none) (s : SameX [x] (upd (upd H dx (.own x)) x (.ins C dx [])) H') : Same H H' := fun a o e => by
  have h1 := ne_of_none e hx
  have h2 := ne_of_none e hd
  exact s a (fun hm => h1 (List.mem_singleton.mp hm)) o (by rw [upd_ne h1, upd_ne h2]; exact e)
theorem made_same {H : Hp} {x dx C : Addr} (hx : H x = none) (hd : H dx = none) : Same H (upd (upd H dx (.own x)) x (.ins C dx [])) := fun a o e => by
  rw [upd_ne (ne_of_none e hx), upd_ne (ne_of_none e hd)]
  exact e
section
variable {P : Program} {w : World} {K : PySem.W.Frag} {mg : Str → Option Value} {base : Heap}
theorem al_many (T : Tx K w mg) : He.ga K "many_coverings" = He.ga K "many" := by
  have m := T.more
  unfold exAll at m
  simp only [Bool.and_eq_true, decide_eq_true_eq] at m
  exact m.2.1
theorem al_bars (T : Tx K w mg) : He.ga K "least_bars_bars" = He.ga K "least_bars" := by
  have m := T.more
  unfold exAll at m
  simp only [Bool.and_eq_true, decide_eq_true_eq] at m
  exact m.2.2.1
theorem al_light (T : Tx K w mg) : He.ga K "lightest_lightest" = He.ga K "lightest" := by
  have m := T.more
  unfold exAll at m
  simp only [Bool.and_eq_true, decide_eq_true_eq] at m
  exact m.2.2.2.1
theorem sc_many : FnScope ["box"] ["box"] (defScope s_many) := ⟨rfl, rfl, rfl, by decide +kernel, rfl, by decide +kernel, by decide +kernel⟩
theorem f_many (T : Tx K w mg) : FnOk P w K mg base CX0 20 (He.fAd K ("many", none)) (fdO K ("many", none)) ["box"] spMany := by
  have c1 : Mak P w K mg base CX0 2 "Ways" (He.ga K "Ways") (spWaysInit (He.ga K "Ways")) := m_Ways_init T
  have c2 : Met P w K mg base CX0 (17 + 2) (He.ga K "Ways") "ways_from" (spWF (He.ga K "Ways") 17) := m_ways_from T 17
  refine T.d_many.ok0 sc_many ?_ fun cdv A outer s H vs Q E hr h => ?_
  · rintro vs H Q E ⟨v, B, rfl, _⟩
    rfl
  · obtain ⟨v, B, rfl, hB, hok, q⟩ := h
    refine ⟨_, pss_one (ps_ret (pe_m c2 hr (by decide) (pe_n c1 hr (by decide) (by rfl) (pa_cons (pv 0) pa_nil)) (pa_cons pe_int (pa_cons pe_int pa_nil)))), ?_⟩
    walk_at "i"
    refine fun x dx hx hdx hne => ?_
    refine ⟨x, dx, v, B, rfl, upd_same, hB.ex (Same.tups (made_same hx hdx)), hok, fun H' gk hs hW hg => ⟨rfl, ?_⟩⟩
    have s1 := made_keeps hx hdx hs
    obtain ⟨dx', m, gb, bs, mays, memo, w1, _⟩ := hW.ex
    refine ⟨x, dx', _, rfl, w1, lk_none (by decide +kernel), ?_⟩
    walk_at "i"
    have hn := hok.n
    refine ⟨x, gk, 0, 0, B.n, B.pcs.length, rfl, hW, hn, ⟨Int.le_refl _, by omega⟩, by omega, ⟨by decide, by decide⟩, fun H2 z k2 w2 z0 z1 => ?_⟩
    exact q _ z ((Keeps.of s1).trans k2) z0 (Int.le_trans z1 (pow33_mono (by omega)))
theorem c_many (T : Tx K w mg) : Cal P w K mg base CX0 20 "many_coverings" spMany :=
  T.d_many.cal (f_many T) (by rw [← al_many T]; exact T.g_many_coverings) T.kp_many
theorem sc_covering_at : FnScope ["box", "number", "ways", "found", "covered", "left", "thing", "piece", "there", "some"] ["box", "number"] (defScope s_covering_at) := ⟨rfl, rfl, rfl, by decide +kernel, rfl, by decide +kernel, by decide +kernel⟩
theorem c_covering_at (T : Tx K w mg) : Cal P w K mg base (L2.CX P w) 20 "covering_at" (spCovAt (.ref (He.ga K "NoCovering"))) := by
  have c1 : Mak P w K mg base CX0 2 "Ways" (He.ga K "Ways") (spWaysInit (He.ga K "Ways")) := m_Ways_init T
  have c2 : Met P w K mg base CX0 (17 + 2) (He.ga K "Ways") "ways_from" (spWF (He.ga K "Ways") 17) := m_ways_from T 17
  have c3 : Met P w K mg base CX0 1 (He.ga K "Ways") "next_steps" (spNext (He.ga K "Ways")) := m_next_steps T
  refine T.d_covering_at.cal (T.d_covering_at.ok1 sc_covering_at ?_ fun cdv A outer s H vs Q E hr h => ?_) T.g_covering_at T.kp_covering_at
  · rintro vs H Q E ⟨v, B, k, rfl, _⟩
    rfl
  · obtain ⟨v, B, k, rfl, hB, hok, q, qe⟩ := h
    refine ⟨_, pss_cons (ps_set (i := 2) sc_covering_at.nd rfl (.inl rfl) (pe_n c1 hr (by decide) (by rfl) (pa_cons (pv 0) pa_nil)))
      (pss_cons (ps_if (PW.pt (pw_or (pt_cmpR op_lt (pv 1) pe_int (nomark _)) (pw_or1 (pt_cmpR op_ge (pv 1) (pe_m c2 hr (by decide) (pv 2) (pa_cons pe_int (pa_cons pe_int pa_nil))) (nomark _)))))
          (pss_one (ps_raise rfl (takes_of rfl rfl rfl rfl) (pmk_own PySem.F.excBase_ValueError T.ex_NoCovering.1 T.g_NoCovering T.ex_NoCovering.2.1 (raises_own T.ex_NoCovering.2.2.1 T.ex_NoCovering.2.2.2) rfl))) pss_nil)
      (PSs.nox (pss_cons (ps_set (i := 3) sc_covering_at.nd rfl (.inl rfl) (pe_lst pa_nil))
        (pss_cons (ps_set (i := 4) sc_covering_at.nd rfl (.inl rfl) pe_int)
        (pss_cons (ps_set (i := 5) sc_covering_at.nd rfl (.inl rfl) (pv 1))
        (pss_cons (ps_for PassesOwn.never rfl (pi_range1 (by rfl) T.z_range (pa_cons (pe_ix ix_tup (pv 0) pe_int (fun _ _ => rfl)) pa_nil)) (pg_name (i := 6) sc_covering_at.nd rfl (.inl rfl))
          (pss_one (ps_if (pt_cmpR op_eq (pe_op op_and (pe_op op_shr (pv 4) (pv 6)) pe_int) pe_int (nomark _))
            (pss_one (ps_for PassesOwn.never rfl (pi_list (pe_m c3 hr (by decide) (pv 2) (pa_cons (pv 6) (pa_cons (pv 4) pa_nil)))) (pg_tup (by rfl) (pgs_cons (pg_name (i := 7) sc_covering_at.nd rfl (.inl rfl)) (pgs_cons (pg_name (i := 8) sc_covering_at.nd rfl (.inl rfl)) pgs_nil)))
              (pss_cons (ps_set (i := 9) sc_covering_at.nd rfl (.inl rfl) (pe_m c2 hr (by decide) (pv 2) (pa_cons (pe_op op_add (pv 6) pe_int) (pa_cons (pv 8) pa_nil))))
              (pss_cons (ps_if (pt_cmpR op_lt (pv 5) (pv 9) (nomark _))
                (pss_cons (ps_expr (pe_bm PySem.F.plainAttrs_list PySem.F.slot_list_append PySem.F.type_list_append mt_append (pv 3) (pa_cons (pv 7) pa_nil)))
                (pss_cons (ps_set (i := 4) sc_covering_at.nd rfl (.inl rfl) (pv 8)) (pss_one ps_break))) pss_nil)
              (pss_one (ps_set (i := 5) sc_covering_at.nd rfl (.inl rfl) (pe_op op_sub (pv 5) (pv 9)))))))) pss_nil)))
        (pss_one (ps_ret (pe_tupleOf (by rfl) T.z_tuple (pe_callB cr_sortedI (by rfl) T.z_sorted (by decide +kernel) (pa_cons (pe_lc (own := [("piece", 7)]) (g := gName 7) (tt := tTest (tOp (rI0 fun i j => .bl (decide (j ≤ i))) (tVar 7) (tC (.int 0)))) (by rfl) sc_covering_at.nd (pi_list (pv 3))
            (blkOk_by (N := ["box", "number", "ways", "found", "covered", "left", "thing", "piece", "there", "some"]) (sc := defScope s_covering_at) (by decide +kernel)) (fun _ _ _ _ _ => pg_name sc_covering_at.nd rfl (.inl rfl)) (fun _ _ _ _ _ => pts_one (pt_cmpR op_ge (pv 7) pe_int (nomark _)))
            (fun s1 H1 C1 cl1 fp1 => pv 7)) pa_nil))))))))))), ?_⟩
    have hn := hok.n
    have hnp := hok.len
    walk_at "i"
    refine fun a dx0 hx hdx hne => ?_
    refine ⟨a, dx0, v, B, rfl, upd_same, hB.ex (Same.tups (made_same hx hdx)), hok, fun H0 gk hs0 hW0 hg => ⟨rfl, ?_⟩⟩
    have s0 := made_keeps hx hdx hs0
    have k0 : Keeps H H0 := Keeps.of s0
    obtain ⟨dx', m, gb, bs, mays, memo, w1, _⟩ := hW0.ex
    have wm : ∀ {H' : Hp}, Keeps H0 H' → H' a = some (.ins (He.ga K "Ways") dx' (wf4 B.n m gb gk)) := fun k => k _ _ w1 (fun _ e => by cases e)
    walk_at "i"
    have fail : ∀ H', Keeps H0 H' → E (.ref (He.ga K "NoCovering")) none H' := fun H' k => qe H' (k0.trans k)
    refine g_dec (fun h => ?_) (fun h => ?_)
    · walk_at "i"
      exact fail _ (Keeps.refl _)
    walk_at "i"
    refine ⟨a, dx', _, rfl, w1, lk_none (by decide +kernel), ?_⟩
    walk_at "i"
    refine ⟨a, gk, 0, 0, B.n, B.pcs.length, rfl, hW0, hn, ⟨Int.le_refl _, by omega⟩, by omega, ⟨by decide, by decide⟩, fun H1 z k1 hW1 z0 z1 => ?_⟩
    walk_at "i"
    refine g_dec (fun h2 => ?_) (fun h2 => ?_)
    · walk_at "i"
      exact fail _ k1
    walk_at "i"
    refine ⟨sz_of (by simp), fun fp hfp => ?_⟩
    walk_at "i"
    obtain ⟨b0, m0, p0, ps0, rfl, hb0, _⟩ := hB
    have hgf : gk ≠ fp := by
      obtain ⟨mm, e1, e2⟩ := hW1.mem
      exact ne_of_none e1 hfp
    refine g_r1 ?_
    walk_at "i"
    refine ⟨b0, _, 0, _, rfl, rfl, SqT.of ((Keeps.of (Same.new hfp)).tups _ _ (k1.tups _ _ (k0.tups _ _ hb0))), at0 rfl, ?_⟩
    have hi' : ∀ {i : Nat}, i < (B.n : Int).toNat → (0 : Int) ≤ 0 + i ∧ (0 : Int) + i < B.n := fun {i} h => by omega
    refine ⟨B.n, rfl, by omega, by omega, for_it walk_range (fun i σ H' => ∃ (fs : List Int) (c l : Int) (u6 u7 u8 u9 : Option V), σ = [some (.ref b0), some (.int k), some (.ref a), some (.ref fp), some (.int c), some (.int l), u6, u7, u8, u9] ∧ Keeps H1 H' ∧ MemAt (VW B.n) H' gk ∧ H' fp = some (.lst (fs.map V.int)) ∧ fs.length ≤ i ∧ (∀ x ∈ fs, -1 ≤ x ∧ x < B.pcs.length) ∧ cov c)
      ⟨[], 0, k, _, _, _, _, rfl, Keeps.of (Same.new hfp), hW1.mem.same (Same.new hfp), upd_same, Nat.le_refl _, (fun _ h => by cases h), ⟨by decide, by decide⟩⟩ (fun _ _ _ _ _ => trivial) ?_ ?_⟩
    · rintro i y σ H2 H3 hi ⟨fs, c, l, u6, u7, u8, u9, rfl, k2, hm2, hf2, hl2, hb2, hc2⟩ ⟨rfl, ey⟩
      obtain ⟨i0, i1⟩ := hi' hi
      obtain ⟨t, ht⟩ : ∃ t : Int, (0 : Int) + i = t := ⟨_, rfl⟩
      have ey : y = .int t := ey.trans (congrArg V.int ht)
      subst ey
      rw [ht] at i0 i1
      have hW2 := hW1.keep k2 hm2
      walk_at "i"
      refine g_I i0 ?_
      walk_at "i"
      refine g_dec (fun h3 => ?_) (fun h3 => ?_)
      · walk_at "i"
        refine g_ls ?_
        walk_at "i"
        refine ⟨a, dx', _, rfl, wm (k1.trans k2), lk_none (by decide +kernel), ?_⟩
        walk_at "i"
        refine ⟨a, gk, t, c, B.n, B.pcs.length, rfl, hW2, ⟨i0, i1⟩, hc2, fun H4 sp xs s4 hsp hst hxl hspn => ?_⟩
        have hfs : fp ≠ sp := ne_of_none hf2 hspn
        refine ⟨sp, rfl, ⟨_, SqL.of hsp⟩, for_it walk_list (fun j σ H' => ∃ (l : Int) (u7 u8 u9 : Option V), σ = [some (.ref b0), some (.int k), some (.ref a), some (.ref fp), some (.int c), some (.int l), some (.int t), u7, u8, u9] ∧ Keeps H4 H' ∧ MemAt (VW B.n) H' gk)
          ⟨l, _, _, _, rfl, Keeps.refl _, hm2.same s4⟩ (fun j σ H' _ ⟨_, _, _, _, _, k', _⟩ => SqL.of (k' _ _ hsp (fun _ e => by cases e))) ?_ ?_⟩
        · rintro j y σ H5 H6 hj ⟨l', u7, u8, u9, rfl, k5, hm5⟩ ⟨rfl, hy⟩
          obtain ⟨q1, k1', d, rfl, hq1, hk1', hd'⟩ := hst _ (List.mem_of_getElem? hy)
          have k25 := (k2.trans (Keeps.of s4)).trans k5
          have hW5 := hW1.keep k25 hm5
          refine g_un2 (SqT.of (k5 _ _ hq1 (fun _ e => by cases e))) ?_
          walk_at "i"
          refine ⟨a, dx', _, rfl, wm (k1.trans k25), lk_none (by decide +kernel), ?_⟩
          walk_at "i"
          refine ⟨a, gk, t + 1, d, B.n, B.pcs.length, rfl, hW5, hn, ⟨by omega, by omega⟩, by omega, hd', fun H7 z' k7 hW7 _ _ => ?_⟩
          walk_at "i"
          refine g_dec (fun h4 => ?_) (fun h4 => ?_)
          · have hf7 := k7 _ _ (k5 _ _ (s4 _ _ hf2) (fun _ e => by cases e)) (fun _ e => by cases e)
            walk_at "i"
            refine ⟨.inl ⟨rfl, _, SqL.of hf7⟩, ?_⟩
            walk_at "i"
            refine ⟨fp, _, .int k1', rfl, rfl, hf7, sz_lt (by rw [List.length_map]; omega), ?_⟩
            walk_at "i"
            refine ⟨fs ++ [k1'], d, l', _, _, _, _, rfl, (k25.trans k7).mut hfp _, ?_, by rw [upd_same, List.map_append]; rfl, by rw [List.length_append, List.length_singleton]; omega, fun x hx => ?_, hd'⟩
            · obtain ⟨mm, e1, e2⟩ := hW7.mem
              exact ⟨mm, by rw [upd_ne hgf]; exact e1, e2⟩
            · rcases List.mem_append.mp hx with hx | hx
              · exact hb2 x hx
              · rw [List.mem_singleton.mp hx]
                exact hk1'
          · walk_at "i"
            exact ⟨_, _, _, _, rfl, k5.trans k7, hW7.mem⟩
        · rintro σ H5 ⟨l', u7, u8, u9, rfl, k5, hm5⟩
          walk_at "i"
          have hf5 := k5 _ _ (s4 _ _ hf2) (fun _ e => by cases e)
          exact ⟨fs, c, l', _, _, _, _, rfl, (k2.trans (Keeps.of s4)).trans k5, hm5, hf5, by omega, hb2, hc2⟩
      · walk_at "i"
        exact ⟨fs, c, l, _, _, _, _, rfl, k2, hm2, hf2, by omega, hb2, hc2⟩
    · rintro σ H2 ⟨fs, c, l, u6, u7, u8, u9, rfl, k2, hm2, hf2, hl2, hb2, hc2⟩
      walk_at "i"
      refine g_ls ?_
      walk_at "i"
      refine ⟨fp, rfl, ⟨_, SqL.of hf2⟩, fun D hD => lc_gen walk_list hD (by rw [List.length_map]; omega) (fun i acc H' => ∃ gs : List Int, acc = gs.map V.int ∧ gs.length ≤ i ∧ ∀ x ∈ gs, -1 ≤ x ∧ x < B.pcs.length) ⟨[], rfl, Nat.le_refl _, fun _ h => by cases h⟩ (fun H' k => SqL.of (k _ _ hf2)) (fun i y acc H4 H5 hi s4 hd hR y1 Qc Qn kc kn => ?_) (fun acc H4 s4 d4 hR => ?_)⟩
      · obtain ⟨rfl, hy⟩ := y1
        obtain ⟨x, hx, rfl⟩ := map_at hy
        obtain ⟨gs, rfl, hgl, hgs⟩ := hR
        walk_at "i"
        refine ⟨rfl, ?_⟩
        walk_at "i"
        refine g_b (fun e => ?_) (fun e => ?_)
        · walk_at "i"
          refine kc _ _ (Same.refl _) ⟨gs ++ [x], by simp, by rw [List.length_append, List.length_singleton]; omega, fun y hy => ?_⟩
          rcases List.mem_append.mp hy with hy | hy
          · exact hgs y hy
          · rw [List.mem_singleton.mp hy]
            exact hb2 x (List.mem_of_getElem? hx)
        · exact kn _ (Same.refl _) ⟨gs, rfl, by omega, hgs⟩
      · obtain ⟨gs, rfl, hgl, hgs⟩ := hR
        walk_at "i"
        refine ⟨D, gs, rfl, SqL.of d4, fun ns p hperm hsort hp => ?_⟩
        refine .inl ⟨p, _, rfl, SqL.of upd_same, fun p2 hp2 => ?_⟩
        refine q _ p2 ns ((((k0.trans k1).trans k2).trans (Keeps.of s4)).trans ((Keeps.of (Same.new hp)).trans (Keeps.of (Same.new hp2)))) upd_same ⟨?_, fun x hx => ?_⟩
        · have := hperm.length_eq
          rw [List.length_map] at hgl
          omega
        · have := hgs x (hperm.mem_iff.mp hx)
          omega
end
/-! ERank -/
section
variable {P : Program} {w : World} {K : PySem.W.Frag} {mg : Str → Option Value} {base : Heap}
theorem sc_lot_rank : FnScope ["lot"] ["lot"] (defScope s_lot_rank) := ⟨rfl, rfl, rfl, by decide +kernel, rfl, by decide +kernel, by decide +kernel⟩
def rankK (xs : List Int) : PyData := .tuple [.int xs.length, .tuple (xs.map .int)]
theorem readsAll_ints {h : Heap} : ∀ {xs : List Int} {us : List Value}, Vals (xs.map V.int) us → ReadsAll h us (xs.map .int) []
  | [], _, .nil => .nil
  | x :: r, _, .cons q t => by
    obtain ⟨tt, rfl⟩ := q
    exact ReadsAll.cons (as := []) (.int x tt) (readsAll_ints t)
/-- a call lot_rank(lot), to the object -/
theorem rank_turn (T : Tx K w mg) {A : Around} {outer : List Env} {s : Shared} {H : Hp} (e0 : Env0 P w K mg base A outer s H) (hr : Room 1 A) {q : Addr} {its : List Value} {xs : List Int} (hq : IsTup s.heap q its.toArray) (hv : Vals (xs.map V.int) its) (hx : xs.length ≤ 1000) :
    wpAny (model P w) A (call (.ref (He.fAd K ("lot_rank", none))) [.ref q]) (PySem.W.KeyPure (rankK xs) s) (fun _ _ => False) s := by
  have D := T.d_lot_rank
  obtain ⟨oc, od, kV, doc, pm, an, cdv, ct, osl, efd, lk, hcd⟩ := D.fn.ex
  have S := sc_lot_rank
  have KX : K.In s.heap := e0.mod.kin.keeps fun b o e => (e0.bs b o e).1
  have lim : s.heap.NoLimit := e0.mod.nolimit.keeps fun b o e => (e0.bs b o e).1
  have hb := D.bd s [.ref q] KX rfl
  rw [efd] at lk hb
  refine wpAny_call (codeAny_call_function hr.depth (KX _ _ lk) rfl S.co S.gen rfl (PySem.W.codeRec_of KX hcd) (hb _ _ _ _ ?_))
  have hkind : ∀ y ∈ (["lot"] : List Str).zip [Value.ref q], (defScope s_lot_rank).names.lookup y.1 = some .local ∨ ((defScope s_lot_rank).names.lookup y.1 = some .cell ∧ ((cellsFrom (s.heap.objs.size + 1) (defScope s_lot_rank).names []).lookup y.1).isSome = true) := fun ⟨n, v⟩ hy => by
    rcases S.par n (List.of_mem_zip hy).1 with q | q
    · exact .inl q
    · exact .inr ⟨q, PySem.W.cellsFrom_some _ _ _ (.inl q)⟩
  refine wpAny_newFunctionEnv_cells S.kind hkind fun env he s1 x => ?_
  subst he
  refine ⟨lim.keeps x.toInCall.keep, codeAny_func ?_⟩
  have I : Inv (cxOf CX0 P w K mg base ["lot"] "lot_rank" (defScope s_lot_rank) (He.fAd K ("lot_rank", none)) cdv A outer s H E0) [] (L2.start ["lot"] [.ref q]) H s1 := inv_start S hr.hd e0 rfl (.cons rfl .nil) x
  obtain ⟨h1, tk, es1, hk⟩ := x.done
  have hq1 : IsTup s1.heap q its.toArray := by
    obtain ⟨o, ho, hc⟩ := hq
    exact ⟨o, by rw [es1]; exact hk _ _ ho, hc⟩
  have hlen := hv.length
  rw [List.length_map] at hlen
  -- the name lot
  have var : ∀ (pos : Pos) (Q : Value → Shared → Prop) (E : Value → Shared → Prop) (tk : Nat), Q (.ref q) { s1 with toks := tk } → wpAny (model P w) (A.deeper (envOfC "lot_rank" (defScope s_lot_rank) s.heap.objs.size (He.fAd K ("lot_rank", none)) cdv)) (eval (.Name "lot" pos) (envOfC "lot_rank" (defScope s_lot_rank) s.heap.objs.size (He.fAd K ("lot_rank", none)) cdv)) Q E { s1 with toks := tk } := by
    intro pos Q E tk hQ
    have I' := I.tok tk
    obtain ⟨m, hn, hl⟩ := I'.loc
    obtain ⟨u, r, l⟩ := hl 0 "lot" (.ref q) rfl rfl (.inl rfl)
    cases r
    rcases l with ⟨hk, hm⟩ | ⟨hk, c, hc, hcell⟩
    · exact wpAny_Name (wpAny_loadName_local I'.ok.kind hk hn hm hQ) (by decide)
    · rcases hk with hk | hk <;> cases hk
  show wpAny _ _ (execs (defBody s_lot_rank) _) _ _ s1
  refine wpAny_execs_cons (wpAny_Return_some ?_)
  refine wpAny_Tuple_spliced ?_
  show wpAny _ _ (spliced ((false, eval _ _) :: backTo _ (starEach [_] _))) _ _ _
  refine Calls.spliced_cons ?_
  refine wpAny_Call_Name_kw (ld_blt I (by rfl) T.z_len PySem.boot_len ?_ (by decide) (by decide))
  refine PyProof.Rows.callWith_builtin1 ?_ (by rfl) (by rfl)
  show wpAny _ _ (spliced ((false, eval _ _) :: backTo _ (starEach [] _))) _ _ _
  refine Calls.spliced_cons (var _ _ _ s1.toks ?_)
  refine Calls.spliced_nil ?_
  refine len_tuple hq1 (by rw [List.size_toArray]; omega) ?_
  show wpAny _ _ (spliced ((false, eval _ _) :: backTo _ (starEach [] _))) _ _ _
  refine Calls.spliced_cons (var _ _ _ _ ?_)
  refine Calls.spliced_nil ?_
  refine ⟨by show 2 ≤ sizeLine; decide, ?_⟩
  rw [es1]
  refine ⟨_, _, rfl, fun b o e => Heap.get?_push_of_some _ (hk b o e), ?_⟩
  refine .tuple (Heap.get?_push_size _ rfl) rfl rfl ?_
  obtain ⟨o, ho, hc, n, hd⟩ := hq
  have hz : ((its.toArray.size : Nat) : Int) = (xs.length : Int) := by rw [List.size_toArray, hlen]
  rw [hz]
  refine ReadsAll.cons (as := []) (.int _ _) (ReadsAll.cons (as := []) (.tuple (Heap.get?_push_of_some _ (hk _ _ ho)) hc hd (readsAll_ints hv)) .nil)
end
/-! ### sorted(lots, key=lot_rank) -/
def LotV (H : Hp) (v : V) (l : List Int) : Prop := ∃ q, v = .ref q ∧ H q = some (.tup (l.map V.int))
def LotsAt (H : Hp) (vs : List V) (ls : List (List Int)) : Prop := vs.length = ls.length ∧ ∀ (i : Nat) (v : V) (l : List Int), vs[i]? = some v → ls[i]? = some l → LotV H v l
def rSortRank (f : Addr) : List V → List V → Hp → VK → Prop := fun vs zs H Q => ∃ (a : Addr) (xs : List V) (ls : List (List Int)), vs = [.ref a] ∧ zs = [.ref f] ∧ H a = some (.lst xs) ∧ LotsAt H xs ls ∧ xs.length ≤ 1000 ∧ (∀ l ∈ ls, l.length ≤ 1000) ∧
  ∀ (p : Addr) (ys : List V) (ms : List (List Int)), H p = none → LotsAt H ys ms → ys.length = xs.length → (∀ m ∈ ms, m ∈ ls) → Q (.ref p) (upd H p (.lst ys))
section
variable {X : Cx}
theorem alike_ints : ∀ (xs ys : List Int), PySem.W.alikeAll (xs.map .int) (ys.map .int) = true
  | [], _ => by cases ‹List Int› <;> rfl
  | _ :: _, [] => rfl
  | x :: xs, y :: ys => by
    show (true && PySem.W.alikeAll (xs.map .int) (ys.map .int)) = true
    rw [alike_ints xs ys]
    rfl
theorem alike_rank (xs ys : List Int) : PySem.W.alike (rankK xs) (rankK ys) = true := by
  show (true && ((PySem.W.alikeAll (xs.map .int) (ys.map .int)) && true)) = true
  rw [alike_ints xs ys]
  rfl
theorem depth_ints : ∀ xs : List Int, PyData.depthAll (xs.map .int) ≤ 1
  | [] => Nat.zero_le _
  | x :: xs => by
    have := depth_ints xs
    simp only [List.map_cons, PyData.depthAll, PyData.depth]
    omega
theorem depth_rank (xs : List Int) : (rankK xs).depth ≤ 4 := by
  have := depth_ints xs
  simp only [rankK, PyData.depth, PyData.depthAll]
  omega
def isLotU (H : Hp) (h : Heap) (v : Value) (l : List Int) : Prop := ∃ (q : Addr) (its : List Value), v = .ref q ∧ H q = some (.tup (l.map V.int)) ∧ IsTup h q its.toArray ∧ Vals (l.map V.int) its
theorem each_of {pins : List (Addr × Obj)} {X : Cx} {σ : L2.St} {H : Hp} {s : Shared} (I : Inv X pins σ H s) : ∀ {xs : List V} {us : List Value} {ls : List (List Int)}, Vals xs us → LotsAt H xs ls → PySem.W.EachIs (isLotU H s.heap) us ls
  | _, _, [], .nil, _ => .nil
  | _, _, _ :: _, .nil, h => by cases h.1
  | _, _, [], .cons _ _, h => by cases h.1
  | x :: xs, u :: us, l :: ls, .cons r t, h => by
    obtain ⟨q, rfl, hq⟩ := h.2 0 x l rfl rfl
    cases r
    obtain ⟨its, rv, p, _⟩ := I.tuple (SqT.of (K := X.K) hq)
    refine .cons ⟨q, its, rfl, hq, p, rv⟩ (each_of I t ⟨by have := h.1; simp only [List.length_cons] at this; omega, fun i v l' h1 h2 => h.2 (i + 1) v l' h1 h2⟩)
theorem each_back {H : Hp} {h : Heap} : ∀ {us : List Value} {ls : List (List Int)}, PySem.W.EachIs (isLotU H h) us ls → ∃ ys : List V, Vals ys us ∧ LotsAt H ys ls ∧ ys.length = us.length
  | _, _, .nil => ⟨[], .nil, ⟨rfl, fun i v l h => by simp at h⟩, rfl⟩
  | _, _, .cons (b := l) hr t => by
    obtain ⟨ys, h1, h2, h3⟩ := each_back t
    obtain ⟨q, its, rfl, hq, _, _⟩ := hr
    refine ⟨.ref q :: ys, .cons rfl h1, ⟨by rw [List.length_cons, List.length_cons, h2.1], fun i v l' e1 e2 => ?_⟩, by rw [List.length_cons, List.length_cons, h3]⟩
    cases i with
    | zero =>
      obtain rfl : V.ref q = v := Option.some.inj e1
      obtain rfl : l = l' := Option.some.inj e2
      exact ⟨q, rfl, hq⟩
    | succ i => exact h2.2 i v l' e1 e2
end
section
variable {X : Cx}
theorem cr_sortRank (T : Tx X.K X.w X.mg) (hr : Room 3 X.A) : CallRK X (.builtin "sorted") [Str.ofString "key"] (rSortRank (He.fAd X.K ("lot_rank", none))) := by
  intro pins s σ H vs zs us ws Q I r rz h
  obtain ⟨a, xs, ls, rfl, rfl, ha, hls, hxl, hll, q⟩ := h
  obtain rfl := Vals.ref1 r
  obtain ⟨w1, rfl, e1⟩ := vals1 rz
  obtain rfl : w1 = Value.ref _ := e1
  obtain ⟨its, rv, pl, hz⟩ := I.list (SqL.of (K := X.K) ha)
  have e := each_of I rv hls
  have hlen := rv.length
  refine PySem.W.sorted_key_data (b := false) rankK pl.isList e (PySem.W.AllAlike.of alike_rank) (PySem.W.Sortable.tuples fun b => ⟨_, _, rfl⟩) (sz_of (by have := hls.1; omega)) (fun x _ => by have := depth_rank x; have := hr.un; omega) (PyProof.Rows.ksk_s1 _ _) (fun _ => PyProof.Rows.ksk_l1 _ _) (fun x => PyProof.Rows.ksk_t1 _ _) ?_ ?_
  · rintro v l ⟨q1, its1, rfl, hq1, ht, hv⟩ hl h2 tk hk
    have I2 : Inv X pins σ H { s with heap := h2, toks := tk } := I.kept hk
    have e0 := I2.env0.in1.in1
    refine rank_turn T e0 hr.in1.in1 (its := its1) ?_ hv (hll l hl)
    obtain ⟨o, ho, hc⟩ := ht
    exact ⟨o, hk _ _ ho, hc⟩
  · intro out c h2 tk hk hn hat hol eo
    obtain ⟨ys, v1, v2, v3⟩ := each_back eo
    have I2 : Inv X pins σ (upd H (s.heap.objs.size + 1) (.lst ys)) { s with heap := h2, toks := tk } := I.laid hk (Nat.le_succ _) ⟨by rw [v3, hol]; exact sz_of (by have := hls.1; omega), out, c, v1, hat⟩
    refine ⟨.ref (s.heap.objs.size + 1), _, I2, rfl, q _ ys _ (I.hok.fresh (Nat.le_succ _)) v2 (by rw [v3, hol, hls.1]) fun m hm => ?_⟩
    exact (List.mem_mergeSort).mp hm
end
/-! EBar1 -/
theorem LotV.ex {H H' : Hp} {v : V} {l : List Int} (h : LotV H v l) (e : TupEx H H') : LotV H' v l := by
  obtain ⟨q, h1, h2⟩ := h
  exact ⟨q, h1, e _ _ h2⟩
theorem LotsAt.ex {H H' : Hp} {vs : List V} {ls : List (List Int)} (h : LotsAt H vs ls) (e : TupEx H H') : LotsAt H' vs ls := ⟨h.1, fun i v l h1 h2 => (h.2 i v l h1 h2).ex e⟩
theorem LotsAt.nil (H : Hp) : LotsAt H [] [] := ⟨rfl, fun i v l h => by simp at h⟩
theorem LotsAt.get {H : Hp} {vs : List V} {xs : List (List Int)} (h : LotsAt H vs xs) {i : Nat} {v : V} (hv : vs[i]? = some v) : ∃ x, xs[i]? = some x ∧ LotV H v x := by
  have hlt := at_lt hv
  rw [h.1] at hlt
  exact ⟨xs[i], List.getElem?_eq_getElem hlt, h.2 i v _ hv (List.getElem?_eq_getElem hlt)⟩
theorem LotsAt.snoc {H : Hp} {vs : List V} {xs : List (List Int)} (h : LotsAt H vs xs) {v : V} {x : List Int} (hv : LotV H v x) : LotsAt H (vs ++ [v]) (xs ++ [x]) := by
  refine ⟨by rw [List.length_append, List.length_append, h.1]; rfl, fun i v' x' h1 h2 => ?_⟩
  by_cases c : i < vs.length
  · rw [List.getElem?_append_left c] at h1
    rw [List.getElem?_append_left (by rw [← h.1]; exact c)] at h2
    exact h.2 i _ _ h1 h2
  · rw [List.getElem?_append_right (by omega)] at h1
    rw [List.getElem?_append_right (by rw [← h.1]; omega), ← h.1] at h2
    cases e : i - vs.length with
    | zero => rw [e] at h1 h2; simp at h1 h2; subst h1 h2; exact hv
    | succ k => rw [e] at h1; simp at h1
theorem g_ckw {r : List V → List V → Hp → VK → Prop} {t tk : TA} {σ : L2.St} {H : Hp} {Q : VK} (q : t σ H fun vs H1 => tk σ H1 fun zs H2 => r vs zs H2 Q) : tCKw r t tk σ H Q := q
def LotsOk (n : Nat) (ls : List (List Int)) : Prop := ∀ l ∈ ls, Lot n l
theorem same_none {H H' : Hp} (s : Same H H') {p : Addr} (h : H' p = none) : H p = none := by
  cases e : H p with
  | none => rfl
  | some o => rw [s _ _ e] at h; cases h
def spLots (C : Value) : Sp := fun vs H Q E => ∃ v B, vs = [v] ∧ BoxAt H v B ∧ BxOk B ∧ (∀ H' p ys ls, Same H H' → H' p = some (.lst ys) → LotsAt H' ys ls → ys.length ≤ 512 → LotsOk B.n ls → H p = none → Q (.ref p) H') ∧ ∀ H', Keeps H H' → E C none H'
def spLies : Sp := fun vs H Q _ => ∃ (p q : Addr) (l m : List Int), vs = [.ref p, .ref q] ∧ H p = some (.tup (l.map V.int)) ∧ H q = some (.tup (m.map V.int)) ∧ l.length ≤ 1000 ∧ ∀ H' b, Same H H' → Q (.bl b) H'
def spHas : Sp := fun vs H Q _ => ∃ (p q : Addr) (l : List Int) (ys : List V) (ls : List (List Int)), vs = [.ref p, .ref q] ∧ H p = some (.tup (l.map V.int)) ∧ H q = some (.lst ys) ∧ LotsAt H ys ls ∧ ys.length ≤ 1000 ∧ (∀ m ∈ ls, m.length ≤ 1000) ∧ ∀ H' b, Same H H' → Q (.bl b) H'
section
variable {P : Program} {w : World} {K : PySem.W.Frag} {mg : Str → Option Value} {base : Heap}
theorem sc_lots_of : FnScope ["box", "found", "number", "thing"] ["box"] (defScope s_lots_of) := ⟨rfl, rfl, rfl, by decide +kernel, rfl, by decide +kernel, by decide +kernel⟩
theorem sorted_lt {js : List Int} (h : js.Pairwise (· < ·)) {x : Int} (hx : ∀ j ∈ js, j < x) : (js ++ [x]).Pairwise (· < ·) := by
  rw [List.pairwise_append]
  exact ⟨h, by simp, fun a ha b hb => by rw [List.mem_singleton.mp hb]; exact hx a ha⟩
theorem c_lots_of (T : Tx K w mg) : Cal P w K mg base (L2.CX P w) 5 "lots_of" (spLots (.ref (He.ga K "TooMany"))) := by
  refine T.d_lots_of.cal (T.d_lots_of.ok1 sc_lots_of ?_ fun cdv A outer s H vs Q E hr h => ?_) T.g_lots_of T.kp_lots_of
  · rintro vs H Q E ⟨v, B, rfl, _⟩
    rfl
  · obtain ⟨v, B, rfl, hB, hok, q, qe⟩ := h
    refine ⟨_, pss_cons (ps_if (pt_cmpR op_gt (pe_ix ix_tup (pv 0) pe_int (fun _ _ => rfl)) (pe_gc (by rfl) T.i_MOST_THINGS_bars) (nomark _))
          (pss_one (ps_raise rfl (takes_of rfl rfl rfl rfl) (pmk_own PySem.F.excBase_ValueError T.ex_TooMany.1 T.g_TooMany T.ex_TooMany.2.1 (raises_own T.ex_TooMany.2.2.1 T.ex_TooMany.2.2.2) rfl))) pss_nil)
      (PSs.nox (pss_cons (ps_set (i := 1) sc_lots_of.nd rfl (.inl rfl) (pe_lst pa_nil))
        (pss_cons (ps_for PassesOwn.never rfl (pi_range1 (by rfl) T.z_range (pa_cons (pe_op op_shl pe_int (pe_ix ix_tup (pv 0) pe_int (fun _ _ => rfl))) pa_nil)) (pg_name (i := 2) sc_lots_of.nd rfl (.inr rfl))
          (pss_one (ps_expr (pe_bm PySem.F.plainAttrs_list PySem.F.slot_list_append PySem.F.type_list_append mt_append (pv 1) (pa_cons (pe_tupleOf (by rfl) T.z_tuple (pe_lc (own := [("thing", 3)]) (g := gName 3) (tt := tTest (tOp rEq (tOp (rI0 fun i j => .int (Builtin.bitAnd i j)) (tOp (rI (fun _ j => 0 ≤ j) fun i j => .int (i / 2 ^ j.toNat)) (tVar 2) (tVar 3)) (tC (.int 1))) (tC (.int 1)))) (by rfl) sc_lots_of.nd
              (pi_range1 (by rfl) T.z_range (pa_cons (pe_ix ix_tup (pv 0) pe_int (fun _ _ => rfl)) pa_nil)) (blkOk_by (N := ["box", "found", "number", "thing"]) (sc := defScope s_lots_of) (by decide +kernel)) (fun _ _ _ _ _ => pg_name sc_lots_of.nd rfl (.inl rfl))
              (fun _ _ _ _ _ => pts_one (pt_cmpR op_eq (pe_op op_and (pe_op op_shr (pv 2) (pv 3)) pe_int) pe_int (nomark _))) (fun s1 H1 C1 cl1 fp1 => pv 3))) pa_nil)))))
        (pss_one (ps_ret (pe_callBK (cr_sortRank T (hr.mono (by decide))) (by rfl) T.z_sorted (by decide +kernel) (pa_cons (pv 1) pa_nil) (pk_cons (pe_gc (v := .ref (He.fAd K ("lot_rank", none))) (by rfl) ⟨_, T.g_lot_rank, rfl⟩) pk_nil))))))), ?_⟩
    obtain ⟨b, m, p, ps, rfl, hb, hm, hp, hps⟩ := hB
    walk_at "i"
    refine ⟨b, _, 0, _, rfl, rfl, SqT.of hb, at0 rfl, ?_⟩
    walk_at "i"
    refine g_dec (fun h => ?_) (fun h => ?_)
    · walk_at "i"
      exact qe _ (Keeps.refl _)
    have hn : B.n ≤ 9 := by omega
    walk_at "i"
    refine ⟨sz_of (by simp), fun fp hfp => ?_⟩
    walk_at "i"
    have s1 := Same.new (o := .lst []) hfp
    refine g_r1 ?_
    walk_at "i"
    refine ⟨b, _, 0, _, rfl, rfl, SqT.of (s1 _ _ hb), at0 rfl, ?_⟩
    refine g_I ⟨by omega, by omega, by decide⟩ ?_
    have key : ∀ k : Nat, k ≤ 9 → (0 : Int) ≤ 1 * 2 ^ k ∧ (1 : Int) * 2 ^ k ≤ 512 := by decide
    obtain ⟨p0, p1⟩ := key B.n hn
    have e0 : ((B.n : Int)).toNat = B.n := Int.toNat_natCast _
    rw [e0]
    refine ⟨_, rfl, by omega, by omega, for_it walk_range (fun i σ H' => ∃ (xs : List V) (ls : List (List Int)) (u2 u3 : Option V), σ = [some (.ref b), some (.ref fp), u2, u3] ∧ Same H H' ∧ H' fp = some (.lst xs) ∧ LotsAt H' xs ls ∧ xs.length = i ∧ LotsOk B.n ls)
      ⟨[], [], _, _, rfl, s1, upd_same, LotsAt.nil _, rfl, fun _ h => by cases h⟩ (fun _ _ _ _ _ => trivial) ?_ ?_⟩
    · rintro i y σ H2 H3 hi ⟨xs, ls, u2, u3, rfl, s2, hf, hls, hxl, hlo⟩ ⟨rfl, ey⟩
      obtain ⟨t, ht⟩ : ∃ t : Int, (0 : Int) + i = t := ⟨_, rfl⟩
      have ey : y = .int t := ey.trans (congrArg V.int ht)
      subst ey
      walk_at "i"
      refine ⟨.inl ⟨rfl, _, SqL.of hf⟩, ?_⟩
      walk_at "i"
      refine g_r1 ?_
      walk_at "i"
      refine ⟨b, _, 0, _, rfl, rfl, SqT.of (s2 _ _ hb), at0 rfl, ?_⟩
      refine ⟨B.n, rfl, by omega, by omega, fun D hD => lc_gen walk_range hD (by omega) (fun i acc H' => ∃ js : List Int, acc = js.map V.int ∧ js.Pairwise (· < ·) ∧ ∀ j ∈ js, 0 ≤ j ∧ j < i) ⟨[], rfl, .nil, fun _ h => by cases h⟩ (fun _ _ => trivial) (fun j y acc H4 H5 hj s4 hd hR y1 Qc Qn kc kn => ?_) (fun acc H4 s4 d4 hR => ?_)⟩
      · obtain ⟨rfl, ey⟩ := y1
        obtain ⟨t', ht'⟩ : ∃ t : Int, (0 : Int) + j = t := ⟨_, rfl⟩
        have ey : y = .int t' := ey.trans (congrArg V.int ht')
        subst ey
        obtain ⟨js, rfl, hp1, hp2⟩ := hR
        walk_at "i"
        refine ⟨rfl, ?_⟩
        walk_at "i"
        refine g_I (by omega) ?_
        walk_at "i"
        refine g_b (fun _ => ?_) (fun _ => ?_)
        · walk_at "i"
          refine kc _ _ (Same.refl _) ⟨js ++ [t'], by simp, sorted_lt hp1 (fun j' hj' => by have := hp2 j' hj'; omega), fun j' hj' => ?_⟩
          rcases List.mem_append.mp hj' with hj' | hj'
          · have := hp2 j' hj'; omega
          · rw [List.mem_singleton.mp hj']
            omega
        · exact kn _ (Same.refl _) ⟨js, rfl, hp1, fun j' hj' => by have := hp2 j' hj'; omega⟩
      · obtain ⟨js, rfl, hp1, hp2⟩ := hR
        walk_at "i"
        refine .inl ⟨D, _, rfl, SqL.of d4, fun p5 hp5 => ?_⟩
        have hf4 := s4 _ _ hf
        have s5 := Same.new (o := .tup (js.map V.int)) hp5
        refine ⟨fp, xs, .ref p5, rfl, rfl, s5 _ _ hf4, sz_lt (by omega), ?_⟩
        walk_at "i"
        have tu : TupEx H3 (upd (upd H4 p5 (.tup (js.map V.int))) fp (.lst (xs ++ [.ref p5]))) := ((Same.tups s4).trans (Same.tups s5)).trans (TupEx.mutL (s5 _ _ hf4))
        refine ⟨xs ++ [.ref p5], ls ++ [js], _, _, rfl, Same.mut ((s2.trans s4).trans s5) hfp, upd_same, (hls.ex tu).snoc ⟨p5, rfl, ?_⟩, by rw [List.length_append, List.length_singleton]; omega, fun l hl => ?_⟩
        · rw [upd_ne (ne_of_none hf4 hp5).symm]
          exact upd_same
        · rcases List.mem_append.mp hl with hl | hl
          · exact hlo l hl
          · rw [List.mem_singleton.mp hl]
            exact ⟨hp1, fun x hx => by have := hp2 x hx; omega⟩
    · rintro σ H2 ⟨xs, ls, u2, u3, rfl, s2, hf, hls, hxl, hlo⟩
      walk_at "i"
      refine g_ckw ?_
      walk_at "i"
      refine ⟨fp, xs, ls, rfl, rfl, hf, hls, by omega, fun l hl => by have := (hlo l hl).len; omega, fun p5 ys ms hp5 hms hyl hmm => ?_⟩
      refine q _ p5 ys ms (Same.newer s2 hp5) upd_same (hms.ex (Same.tups (Same.new hp5))) (by omega) (fun m hm => hlo m (hmm m hm)) (same_none s2 hp5)
theorem sc_lies_in : FnScope ["one", "other", "thing"] ["one", "other"] (defScope s_lies_in) := ⟨rfl, rfl, rfl, by decide +kernel, rfl, by decide +kernel, by decide +kernel⟩
theorem c_lies_in (T : Tx K w mg) : Cal P w K mg base CX0 1 "lies_in" spLies := by
  refine T.d_lies_in.cal (T.d_lies_in.ok0 sc_lies_in ?_ fun cdv A outer s H vs Q E hr h => ?_) T.g_lies_in T.kp_lies_in
  · rintro vs H Q E ⟨p, q, l, m, rfl, _⟩
    rfl
  · obtain ⟨p, q0, l, m, rfl, hp, hq, hl, q⟩ := h
    refine ⟨_, pss_one (ps_ret (pe_callB (cr_all rfl) (by rfl) T.z_all (by decide +kernel) (pa_cons (pe_lc (own := [("thing", 2)]) (g := gName 2) (tt := tYes) (te := tOp (rInS K) (tVar 2) (tVar 1)) (by rfl) sc_lies_in.nd (pi_tup (pv 0)) (blkOk_by (N := ["one", "other", "thing"]) (sc := defScope s_lies_in) (by decide +kernel)) (fun _ _ _ _ _ => pg_name sc_lies_in.nd rfl (.inl rfl)) (fun _ _ _ _ _ => pts_nil)
      (fun s1 H1 C1 cl1 fp1 => pe_cmpR op_in (pv 2) (pv 1) (by rfl))) pa_nil))), ?_⟩
    walk_at "i"
    refine g_tp ?_
    walk_at "i"
    refine ⟨p, rfl, ⟨_, SqT.of hp⟩, fun D hD => lc_gen walk_tup hD (by rw [List.length_map]; omega) (fun i acc H' => ∃ bs : List Bool, acc = bs.map V.bl) ⟨[], rfl⟩ (fun H' k => SqT.of (k _ _ hp)) (fun i y acc H4 H5 hi s4 hd hR y1 Qc Qn kc kn => ?_) (fun acc H4 s4 d4 hR => ?_)⟩
    · obtain ⟨rfl, hy⟩ := y1
      obtain ⟨x, hx, rfl⟩ := map_at hy
      obtain ⟨bs, rfl⟩ := hR
      walk_at "i"
      refine ⟨rfl, ?_⟩
      walk_at "i"
      refine ⟨q0, _, rfl, .inr (SqT.of (s4 _ _ hq)), rfl, flat_ints _, ?_⟩
      exact kc _ _ (Same.refl _) ⟨bs ++ [inV (V.int x) (m.map V.int)], by simp⟩
    · obtain ⟨bs, rfl⟩ := hR
      walk_at "i"
      exact ⟨D, bs, rfl, SqL.of d4, q _ _ s4⟩
theorem sc_has_one_of : FnScope ["lot", "others", "other"] ["lot", "others"] (defScope s_has_one_of) := ⟨rfl, rfl, rfl, by decide +kernel, rfl, by decide +kernel, by decide +kernel⟩
theorem c_has_one_of (T : Tx K w mg) : Cal P w K mg base CX0 2 "has_one_of" spHas := by
  have c1 : Cal P w K mg base CX0 1 "lies_in" spLies := c_lies_in T
  refine T.d_has_one_of.cal (T.d_has_one_of.ok0 sc_has_one_of ?_ fun cdv A outer s H vs Q E hr h => ?_) T.g_has_one_of T.kp_has_one_of
  · rintro vs H Q E ⟨p, q, l, ys, ls, rfl, _⟩
    rfl
  · obtain ⟨p, q0, l, ys, ls, rfl, hp, hq, hls, hyl, hll, q⟩ := h
    refine ⟨_, pss_one (ps_ret (pe_callB (cr_any rfl) (by rfl) T.z_any (by decide +kernel) (pa_cons (pe_lc (own := [("other", 2)]) (g := gName 2) (tt := tYes) (by rfl) sc_has_one_of.nd (pi_list (pv 1)) (blkOk_by (N := ["lot", "others", "other"]) (sc := defScope s_has_one_of) (by decide +kernel)) (fun _ _ _ _ _ => pg_name sc_has_one_of.nd rfl (.inl rfl)) (fun _ _ _ _ _ => pts_nil)
      (fun s1 H1 C1 cl1 fp1 => pe_c c1 hr (by decide) (by rfl) (pa_cons (pv 2) (pa_cons (pv 0) pa_nil)))) pa_nil))), ?_⟩
    walk_at "i"
    refine g_ls ?_
    walk_at "i"
    refine ⟨q0, rfl, ⟨_, SqL.of hq⟩, fun D hD => lc_gen walk_list hD (by omega) (fun i acc H' => ∃ bs : List Bool, acc = bs.map V.bl) ⟨[], rfl⟩ (fun H' k => SqL.of (k _ _ hq)) (fun i y acc H4 H5 hi s4 hd hR y1 Qc Qn kc kn => ?_) (fun acc H4 s4 d4 hR => ?_)⟩
    · obtain ⟨rfl, hy⟩ := y1
      obtain ⟨x, hx, q1, rfl, hq1⟩ := hls.get hy
      obtain ⟨bs, rfl⟩ := hR
      walk_at "i"
      refine ⟨rfl, ?_⟩
      walk_at "i"
      refine ⟨q1, p, x, l, rfl, s4 _ _ hq1, s4 _ _ hp, hll x (List.mem_of_getElem? hx), fun H6 b s6 => ?_⟩
      exact kc _ _ s6 ⟨bs ++ [b], by simp⟩
    · obtain ⟨bs, rfl⟩ := hR
      walk_at "i"
      exact ⟨D, bs, rfl, SqL.of d4, q _ _ s4⟩
end
/-! EBar2 -/
/-! ### places -/
structure PosOk (lot : List Int) (k : Nat) (kvs : List (Key × V)) : Prop where
  len : kvs.length ≤ k
  ok : ∀ (x : Int) (v : V), valV kvs (.inl x : Key) = some v → ∃ j : Nat, j < k ∧ lot[j]? = some x ∧ v = .int j
theorem PosOk.put {lot : List Int} {k : Nat} {kvs : List (Key × V)} (h : PosOk lot k kvs) {x : Int} (hx : lot[k]? = some x) : PosOk lot (k + 1) (putK kvs (.inl x : Key) (.int k)) := by
  refine ⟨?_, fun y v hv => ?_⟩
  · have := h.len
    unfold putK
    split
    · rw [List.length_map]; omega
    · rw [List.length_append, List.length_singleton]; omega
  · rw [valV_put] at hv
    split at hv
    · rename_i e
      have e : y = x := Sum.inl.inj e
      subst e
      exact ⟨k, Nat.lt_succ_self _, hx, (Option.some.inj hv).symm⟩
    · obtain ⟨j, h1, h2⟩ := h.ok y v hv
      exact ⟨j, Nat.lt_succ_of_lt h1, h2⟩
structure Pick (lot seen js : List Int) : Prop where
  asc : js.Pairwise (· < ·)
  ok : ∀ j ∈ js, 0 ≤ j ∧ j < lot.length ∧ ∃ t ∈ seen, lot[j.toNat]? = some t
theorem asc_at {l : List Int} (h : l.Pairwise (· < ·)) {i j : Nat} {x y : Int} (hi : l[i]? = some x) (hj : l[j]? = some y) (hxy : x < y) : i < j := by
  by_cases c : i < j
  · exact c
  · exfalso
    obtain ⟨h1, e1⟩ := List.getElem?_eq_some_iff.mp hi
    obtain ⟨h2, e2⟩ := List.getElem?_eq_some_iff.mp hj
    by_cases e : i = j
    · subst e
      rw [e1] at e2
      omega
    · have := List.pairwise_iff_getElem.mp h j i h2 h1 (by omega)
      omega
theorem asc_take {l : List Int} (h : l.Pairwise (· < ·)) {i : Nat} {x : Int} (hi : l[i]? = some x) : ∀ t ∈ l.take i, t < x := by
  intro t ht
  obtain ⟨j, hj, e⟩ := List.mem_iff_getElem.mp ht
  rw [List.length_take] at hj
  rw [List.getElem_take] at e
  obtain ⟨h1, e1⟩ := List.getElem?_eq_some_iff.mp hi
  have := List.pairwise_iff_getElem.mp h j i (by omega) h1 (by omega)
  omega
theorem Pick.nil (lot : List Int) : Pick lot [] [] := ⟨.nil, fun _ h => by cases h⟩
theorem Pick.skip {lot seen js : List Int} (h : Pick lot seen js) (x : Int) : Pick lot (seen ++ [x]) js := ⟨h.asc, fun j hj => by
  obtain ⟨h1, h2, t, h3, h4⟩ := h.ok j hj
  exact ⟨h1, h2, t, List.mem_append_left _ h3, h4⟩⟩
theorem Pick.snoc {lot seen js : List Int} (hl : lot.Pairwise (· < ·)) (h : Pick lot seen js) {x : Int} {j : Nat} (hj : lot[j]? = some x) (hs : ∀ t ∈ seen, t < x) : Pick lot (seen ++ [x]) (js ++ [(j : Int)]) := by
  refine ⟨sorted_lt h.asc fun k hk => ?_, fun k hk => ?_⟩
  · obtain ⟨h1, h2, t, h3, h4⟩ := h.ok k hk
    have := asc_at hl h4 hj (hs t h3)
    omega
  · rcases List.mem_append.mp hk with hk | hk
    · obtain ⟨h1, h2, t, h3, h4⟩ := h.ok k hk
      exact ⟨h1, h2, t, List.mem_append_left _ h3, h4⟩
    · rw [List.mem_singleton.mp hk]
      have := at_lt hj
      exact ⟨by omega, by omega, x, List.mem_append_right _ (List.mem_singleton.mpr rfl), by rw [Int.toNat_natCast]; exact hj⟩
theorem Pick.lot {lot seen js : List Int} (h : Pick lot seen js) : Lot lot.length js := ⟨h.asc, fun j hj => by
  obtain ⟨h1, h2, _⟩ := h.ok j hj
  exact ⟨h1, h2⟩⟩
def spNarrowed : Sp := fun vs H Q _ => ∃ (v : V) (B : Bx) (q : Addr) (l : List Int), vs = [v, .ref q] ∧ BoxAt H v B ∧ BxOk B ∧ H q = some (.tup (l.map V.int)) ∧ Lot B.n l ∧ ∀ H' r B', Same H H' → BoxAt H' r B' → BxOk B' → Q r H'
def spIsBar : Sp := fun vs H Q _ => ∃ (v : V) (B : Bx) (q : Addr) (l : List Int), vs = [v, .ref q] ∧ BoxAt H v B ∧ BxOk B ∧ H q = some (.tup (l.map V.int)) ∧ Lot B.n l ∧ ∀ H' b, Keeps H H' → Q (.bl b) H'
def spBars (C : Value) : Sp := fun vs H Q E => ∃ v B, vs = [v] ∧ BoxAt H v B ∧ BxOk B ∧ (∀ H' p ys ls, Keeps H H' → H' p = some (.lst ys) → LotsAt H' ys ls → ys.length ≤ 512 → LotsOk B.n ls → Q (.ref p) H') ∧ ∀ H', Keeps H H' → E C none H'
section
variable {P : Program} {w : World} {K : PySem.W.Frag} {mg : Str → Option Value} {base : Heap}
theorem sc_narrowed : FnScope ["box", "lot", "places", "place", "thing", "pieces", "things", "weight", "some", "may"] ["box", "lot"] (defScope s_narrowed) := ⟨rfl, rfl, rfl, by decide +kernel, rfl, by decide +kernel, by decide +kernel⟩
theorem c_narrowed (T : Tx K w mg) : Cal P w K mg base CX0 3 "narrowed" spNarrowed := by
  have c1 : Cal P w K mg base CX0 2 "is_lot" spLot := c_is_lot T
  refine T.d_narrowed.cal (T.d_narrowed.ok0 sc_narrowed ?_ fun cdv A outer s H vs Q E hr h => ?_) T.g_narrowed T.kp_narrowed
  · rintro vs H Q E ⟨v, B, q, l, rfl, _⟩
    rfl
  · obtain ⟨v, B, lq, l, rfl, hB, hok, hlq, hl, q⟩ := h
    refine ⟨_, pss_cons (ps_if (pt_not (pt_val (pe_c c1 hr (by decide) (by rfl) (pa_cons (pv 1) (pa_cons (pe_ix ix_tup (pv 0) pe_int (fun _ _ => rfl)) pa_nil))))) (pss_one ps_never) pss_nil)
      (pss_cons (ps_set (i := 2) sc_narrowed.nd rfl (.inr rfl) pe_dnewK)
      (pss_cons (ps_for PassesOwn.never rfl (pi_enumT (by rfl) T.z_enumerate (pa_cons (pv 1) pa_nil)) (pg_tup (by rfl) (pgs_cons (pg_name (i := 3) sc_narrowed.nd rfl (.inl rfl)) (pgs_cons (pg_name (i := 4) sc_narrowed.nd rfl (.inl rfl)) pgs_nil))) (pss_one (ps_dput (u1 hr) (pv 2) (pv 4) (pv 3) (by rfl))))
      (pss_cons (ps_set (i := 5) sc_narrowed.nd rfl (.inl rfl) (pe_lst pa_nil))
      (pss_cons (ps_for PassesOwn.never rfl (pi_tup (pe_ix ix_tup (pv 0) pe_int (fun _ _ => rfl))) (pg_tup (by rfl) (pgs_cons (pg_name (i := 6) sc_narrowed.nd rfl (.inl rfl)) (pgs_cons (pg_name (i := 7) sc_narrowed.nd rfl (.inl rfl)) pgs_nil)))
          (pss_cons (ps_set (i := 8) sc_narrowed.nd rfl (.inl rfl) (pe_tupleOf (by rfl) T.z_tuple (pe_lc (own := [("thing", 4)]) (g := gName 4) (tt := tB (tDIn (tVar 4) (tVar 2))) (te := tDGet (tVar 2) (tVar 4)) (by rfl) sc_narrowed.nd (pi_tup (pv 6))
              (blkOk_by (N := ["box", "lot", "places", "place", "thing", "pieces", "things", "weight", "some", "may"]) (sc := defScope s_narrowed) (by decide +kernel)) (fun _ _ _ _ _ => pg_name sc_narrowed.nd rfl (.inl rfl)) (fun _ _ _ _ _ => pts_one (pt_cmp (pc_din (u1 hr) (pv 4) (pv 2)))) (fun s1 H1 C1 cl1 fp1 => pe_dget (u1 hr) (pv 2) (pv 4) (by intro _ _; rfl)))))
          (pss_one (ps_if (pt_cmpR (op_neE hr.units0) (pv 8) (pe_tup pa_nil) (nomark _)) (pss_one (ps_expr (pe_bm PySem.F.plainAttrs_list PySem.F.slot_list_append PySem.F.type_list_append mt_append (pv 5) (pa_cons (pe_tup (pa_cons (pv 8) (pa_cons (pv 7) pa_nil))) pa_nil)))) pss_nil))))
      (pss_one (ps_ret (pe_tup (pa_cons (pe_callB call_len (by rfl) T.z_len PySem.boot_len (pa_cons (pv 1) pa_nil)) (pa_cons (pe_tupleOf (by rfl) T.z_tuple (pe_lc (own := [("may", 9)]) (g := gName 9) (tt := tB (tDIn (tVar 9) (tVar 2))) (te := tDGet (tVar 2) (tVar 9)) (by rfl) sc_narrowed.nd (pi_tup (pe_ix ix_tup (pv 0) pe_int (fun _ _ => rfl)))
              (blkOk_by (N := ["box", "lot", "places", "place", "thing", "pieces", "things", "weight", "some", "may"]) (sc := defScope s_narrowed) (by decide +kernel)) (fun _ _ _ _ _ => pg_name sc_narrowed.nd rfl (.inl rfl)) (fun _ _ _ _ _ => pts_one (pt_cmp (pc_din (u1 hr) (pv 9) (pv 2)))) (fun s1 H1 C1 cl1 fp1 => pe_dget (u1 hr) (pv 2) (pv 9) (by intro _ _; rfl))))
          (pa_cons (pe_tupleOf (by rfl) T.z_tuple (pv 5)) pa_nil)))))))))), ?_⟩
    obtain ⟨b, m, p, ps, rfl, hb, hm, hp, hps⟩ := hB
    have hn := hok.n
    have hll := hl.len
    walk_at "i"
    refine ⟨b, _, 0, _, rfl, rfl, SqT.of hb, at0 rfl, ?_⟩
    walk_at "i"
    refine ⟨lq, l, _, rfl, hlq, ?_⟩
    rw [lotB_lot.mpr hl]
    walk_at "i"
    refine fun d hd => ?_
    walk_at "i"
    have s0 := Same.new (o := .dK []) hd
    refine g_en ?_
    walk_at "i"
    refine ⟨lq, _, rfl, SqT.of (s0 _ _ hlq), for_it walk_enumT (fun i σ H' => ∃ (u3 u4 : Option V) (kvs : List (Key × V)), σ = [some (.ref b), some (.ref lq), some (.ref d), u3, u4, none, none, none, none, none] ∧ Same H H' ∧ H' d = some (.dK kvs) ∧ PosOk l i kvs)
      ⟨_, _, [], rfl, s0, upd_same, ⟨Nat.le_refl _, fun x v h => by cases h⟩⟩ (fun i σ H' _ ⟨_, _, _, _, s', _⟩ => SqT.of (s' _ _ hlq)) ?_ ?_⟩
    · rintro i y σ H2 H3 hi ⟨u3, u4, kvs, rfl, s2, hd2, hk2⟩ ⟨T0, k1, w1, rfl, hT0, rfl, hk1, hw1⟩
      cases hk1
      obtain ⟨x, hx, rfl⟩ := map_at hw1
      have hd3 : upd H2 T0 (.tup [.int (i : Nat), .int x]) d = some (.dK kvs) := Same.new hT0 _ _ hd2
      refine g_un2 (SqT.of upd_same) ?_
      walk_at "i"
      refine ⟨d, _, rfl, .inl ⟨kvs, .inl x, hd3, rfl, sz_lt (by have := hk2.len; have := at_lt hx; omega), rfl⟩, ?_⟩
      exact ⟨_, _, _, rfl, Same.mut (s2.trans (Same.new hT0)) hd, upd_same, hk2.put hx⟩
    · rintro σ H2 ⟨u3, u4, kvs, rfl, s2, hd2, hk2⟩
      rw [List.length_map] at hk2
      walk_at "i"
      refine ⟨sz_of (by simp), fun fp hfp => ?_⟩
      walk_at "i"
      have s3 := Same.newer s2 (o := .lst []) hfp
      have hd3 : upd H2 fp (.lst []) d = some (.dK kvs) := Same.new hfp _ _ hd2
      have hf3 : upd H2 fp (.lst []) fp = some (.lst []) := upd_same
      have hfp0 : H fp = none := by
        cases e : H fp with
        | none => rfl
        | some o => rw [s2 _ _ e] at hfp; cases hfp
      have hdf : d ≠ fp := ne_of hd3 hf3 (fun e => by cases e)
      generalize upd H2 fp (.lst []) = H3 at s3 hd3 hf3 ⊢
      -- the picking of places out of a lot
      have dg : ∀ {H' : Hp} (x : Int), H' d = some (.dK kvs) → DGet H' d (.int x) (valV kvs (.inl x)) := fun x e => DGet.k (k := .inl x) e
      refine g_tp ?_
      walk_at "i"
      refine ⟨b, _, 2, _, rfl, rfl, SqT.of (s3 _ _ hb), at2 rfl, p, rfl, ⟨_, SqT.of (s3 _ _ hp)⟩, for_it walk_tup (fun i σ H' => ∃ (u4 u6 u7 u8 : Option V) (xs : List V) (qs : List (List Int × Int)), σ = [some (.ref b), some (.ref lq), some (.ref d), u3, u4, some (.ref fp), u6, u7, u8, none] ∧ Same H H' ∧ H' d = some (.dK kvs) ∧ H' fp = some (.lst xs) ∧ PcsAt H' xs qs ∧ xs.length ≤ i ∧ ∀ x ∈ qs, PcOk l.length x)
        ⟨_, _, _, _, [], [], rfl, s3, hd3, hf3, PcsAt.nil _, Nat.le_refl _, fun _ h => by cases h⟩ (fun i σ H' _ ⟨_, _, _, _, _, _, _, s', _⟩ => SqT.of (s' _ _ hp)) ?_ ?_⟩
      · rintro i y σ H4 H5 hi ⟨v4, v6, v7, v8, xs, qs, rfl, s4, hd4, hf4, hq4, hx4, hp4⟩ ⟨rfl, hy⟩
        obtain ⟨pc, hpc, q1, l1, rfl, hq1, hl1⟩ := hps.get hy
        have hpk := hok.pcs pc (List.mem_of_getElem? hpc)
        refine g_un2 (SqT.of (s4 _ _ hq1)) ?_
        walk_at "i"
        refine g_tp ?_
        walk_at "i"
        refine ⟨l1, rfl, ⟨_, SqT.of (s4 _ _ hl1)⟩, fun D hD => lc_gen walk_tup hD (by rw [List.length_map]; have := hpk.1.len; omega) (fun i acc H' => ∃ js : List Int, acc = js.map V.int ∧ Pick l (pc.1.take i) js) ⟨[], rfl, Pick.nil _⟩ (fun H' k => SqT.of (k _ _ (s4 _ _ hl1))) (fun j y acc H6 H7 hj s6 hd6 hR y1 Qc Qn kc kn => ?_) (fun acc H6 s6 d6 hR => ?_)⟩
        · obtain ⟨rfl, hy2⟩ := y1
          obtain ⟨x, hx, rfl⟩ := map_at hy2
          obtain ⟨js, rfl, hP⟩ := hR
          have hd7 := s6 _ _ hd4
          walk_at "i"
          refine ⟨rfl, ?_⟩
          walk_at "i"
          refine ⟨d, _, rfl, dg x hd7, ?_⟩
          walk_at "i"
          cases e : valV kvs (.inl x : Key) with
          | none =>
            refine L2.iteF (kn _ (Same.refl _) ⟨js, rfl, ?_⟩)
            rw [take_at hx]
            exact hP.skip x
          | some v =>
            obtain ⟨j2, hj2, hj3, rfl⟩ := hk2.ok x v e
            have dg2 := dg x hd7
            rw [e] at dg2
            refine L2.iteT ?_
            walk_at "i"
            refine ⟨d, _, rfl, dg2, kc _ _ (Same.refl _) ⟨js ++ [(j2 : Int)], by simp, ?_⟩⟩
            rw [take_at hx]
            exact hP.snoc hl.1 hj3 (asc_take hpk.1.1 hx)
        · obtain ⟨js, rfl, hP⟩ := hR
          have hlot := hP.lot
          walk_at "i"
          refine .inl ⟨D, _, rfl, SqL.of d6, fun p5 hp5 => ?_⟩
          walk_at "i"
          refine ⟨sz_of (by simp), fun p6 hp6 => ?_⟩
          have s5 := Same.new (o := .tup (js.map V.int)) hp5
          have s7 := Same.new (o := .tup []) hp6
          have sA := s6.trans (s5.trans s7)
          have h57 := s7 _ _ (upd_same (H := H6) (a := p5) (o := .tup (js.map V.int)))
          have h66 : upd (upd H6 p5 (.tup (js.map V.int))) p6 (.tup []) p6 = some (.tup []) := upd_same
          generalize upd (upd H6 p5 (.tup (js.map V.int))) p6 (.tup []) = H7 at sA h57 h66 ⊢
          walk_at "i"
          refine ⟨p5, p6, _, _, rfl, rfl, .inr ⟨SqT.of h57, SqT.of h66⟩, .inr rfl, ?_⟩
          have he : (if (true : Bool) = true then !decide (js.map V.int = []) else decide (js.map V.int = [])) = !decide (js = []) := by simp
          rw [he]
          walk_at "i"
          refine g_ndec (fun hne => ?_) (fun hne => ?_)
          · walk_at "i"
            have hf7 := sA _ _ hf4
            refine ⟨.inl ⟨rfl, _, SqL.of hf7⟩, ?_⟩
            walk_at "i"
            refine ⟨sz_of (by simp), fun p8 hp8 => ?_⟩
            have s8 := Same.new (o := .tup [.ref p5, .int pc.2]) hp8
            have hlt := at_lt hpc
            have hln := hok.len
            have hf8 := s8 _ _ hf7
            refine ⟨fp, xs, .ref p8, rfl, rfl, hf8, sz_lt (by omega), ?_⟩
            walk_at "i"
            have tu : TupEx H5 (upd (upd H7 p8 (.tup [.ref p5, .int pc.2])) fp (.lst (xs ++ [.ref p8]))) := (Same.tups (sA.trans s8)).trans (TupEx.mutL hf8)
            refine ⟨_, _, _, _, xs ++ [.ref p8], qs ++ [(js, pc.2)], rfl, Same.mut ((s4.trans sA).trans s8) hfp0, ?_, upd_same, (hq4.ex tu).snoc ⟨p8, p5, rfl, ?_, ?_⟩, by rw [List.length_append, List.length_singleton]; omega, fun x hx => ?_⟩
            · rw [upd_ne hdf]
              exact s8 _ _ (sA _ _ hd4)
            · rw [upd_ne (ne_of_none hf7 hp8).symm]
              exact upd_same
            · rw [upd_ne (ne_of h57 hf7 (fun e => by cases e))]
              exact s8 _ _ h57
            · rcases List.mem_append.mp hx with hx | hx
              · exact hp4 x hx
              · rw [List.mem_singleton.mp hx]
                exact ⟨hlot, hne, hpk.2.2⟩
          · walk_at "i"
            exact ⟨_, _, _, _, xs, qs, rfl, s4.trans sA, sA _ _ hd4, sA _ _ hf4, hq4.ex (Same.tups sA), by omega, hp4⟩
      · rintro σ H4 ⟨v4, v6, v7, v8, xs, qs, rfl, s4, hd4, hf4, hq4, hx4, hp4⟩
        walk_at "i"
        refine ⟨.ref lq, _, rfl, .inr ⟨_, SqT.of (s4 _ _ hlq), rfl⟩, ?_⟩
        walk_at "i"
        refine g_tp ?_
        walk_at "i"
        refine ⟨b, _, 1, _, rfl, rfl, SqT.of (s4 _ _ hb), at1 rfl, m, rfl, ⟨_, SqT.of (s4 _ _ hm)⟩, fun D hD => lc_gen walk_tup hD (by rw [List.length_map]; have := hok.mays.len; omega) (fun i acc H' => ∃ js : List Int, acc = js.map V.int ∧ Pick l (B.mays.take i) js) ⟨[], rfl, Pick.nil _⟩ (fun H' k => SqT.of (k _ _ (s4 _ _ hm))) (fun j y acc H6 H7 hj s6 hd6 hR y1 Qc Qn kc kn => ?_) (fun acc H6 s6 d6 hR => ?_)⟩
        · obtain ⟨rfl, hy2⟩ := y1
          obtain ⟨x, hx, rfl⟩ := map_at hy2
          obtain ⟨js, rfl, hP⟩ := hR
          have hd7 := s6 _ _ hd4
          walk_at "i"
          refine ⟨rfl, ?_⟩
          walk_at "i"
          refine ⟨d, _, rfl, dg x hd7, ?_⟩
          walk_at "i"
          cases e : valV kvs (.inl x : Key) with
          | none =>
            refine L2.iteF (kn _ (Same.refl _) ⟨js, rfl, ?_⟩)
            rw [take_at hx]
            exact hP.skip x
          | some v =>
            obtain ⟨j2, hj2, hj3, rfl⟩ := hk2.ok x v e
            have dg2 := dg x hd7
            rw [e] at dg2
            refine L2.iteT ?_
            walk_at "i"
            refine ⟨d, _, rfl, dg2, kc _ _ (Same.refl _) ⟨js ++ [(j2 : Int)], by simp, ?_⟩⟩
            rw [take_at hx]
            exact hP.snoc hl.1 hj3 (asc_take hok.mays.1 hx)
        · obtain ⟨js, rfl, hP⟩ := hR
          walk_at "i"
          refine .inl ⟨D, _, rfl, SqL.of d6, fun p5 hp5 => ?_⟩
          have s5 := Same.new (o := .tup (js.map V.int)) hp5
          walk_at "i"
          refine .inl ⟨fp, xs, rfl, SqL.of (s5 _ _ (s6 _ _ hf4)), fun p6 hp6 => ?_⟩
          have s7 := Same.new (o := .tup xs) hp6
          walk_at "i"
          refine ⟨sz_of (by simp), fun p7 hp7 => ?_⟩
          have s8 := Same.new (o := .tup [.int ((l.map V.int).length : Nat), .ref p5, .ref p6]) hp7
          refine q _ (.ref p7) ⟨l.length, js, qs⟩ ((((s4.trans s6).trans s5).trans s7).trans s8) ⟨p7, p5, p6, xs, rfl, ?_, s8 _ _ (s7 _ _ upd_same), s8 _ _ upd_same, hq4.ex (Same.tups (((s6.trans s5).trans s7).trans s8))⟩ ⟨by show l.length ≤ 16; omega, hP.lot, ?_, hp4⟩
          · rw [upd_same, List.length_map]
          · show qs.length ≤ 32
            have h1 := hq4.1
            have h2 := hps.1
            have h3 := hok.len
            omega
theorem sc_is_bar : FnScope ["box", "lot"] ["box", "lot"] (defScope s_is_bar) := ⟨rfl, rfl, rfl, by decide +kernel, rfl, by decide +kernel, by decide +kernel⟩
theorem c_is_bar (T : Tx K w mg) : Cal P w K mg base CX0 21 "is_bar" spIsBar := by
  have c1 : Cal P w K mg base CX0 3 "narrowed" spNarrowed := c_narrowed T
  have c2 : Cal P w K mg base CX0 20 "many_coverings" spMany := c_many T
  refine T.d_is_bar.cal (T.d_is_bar.ok0 sc_is_bar ?_ fun cdv A outer s H vs Q E hr h => ?_) T.g_is_bar T.kp_is_bar
  · rintro vs H Q E ⟨v, B, q, l, rfl, _⟩
    rfl
  · obtain ⟨v, B, lq, l, rfl, hB, hok, hlq, hl, q⟩ := h
    refine ⟨_, pss_one (ps_ret (pe_cmpR op_eq (pe_c c2 hr (by decide) (by rfl) (pa_cons (pe_c c1 hr (by decide) (by rfl) (pa_cons (pv 0) (pa_cons (pv 1) pa_nil))) pa_nil)) pe_int (nomark _))), ?_⟩
    walk_at "i"
    refine ⟨v, B, lq, l, rfl, hB, hok, hlq, hl, fun H1 r B' s1 hB1 hok1 => ?_⟩
    walk_at "i"
    refine ⟨r, B', rfl, hB1, hok1, fun H2 z k2 _ _ => ?_⟩
    walk_at "i"
    exact q _ _ ((Keeps.of s1).trans k2)
theorem sc_least_bars : FnScope ["box", "found", "lot"] ["box"] (defScope s_least_bars) := ⟨rfl, rfl, rfl, by decide +kernel, rfl, by decide +kernel, by decide +kernel⟩
theorem c_least_bars (T : Tx K w mg) : Cal P w K mg base (L2.CX P w) 22 "least_bars_bars" (spBars (.ref (He.ga K "TooMany"))) := by
  have c1 : Cal P w K mg base (L2.CX P w) 5 "lots_of" (spLots (.ref (He.ga K "TooMany"))) := c_lots_of T
  have c2 : Cal P w K mg base CX0 2 "has_one_of" spHas := c_has_one_of T
  have c3 : Cal P w K mg base CX0 21 "is_bar" spIsBar := c_is_bar T
  refine T.d_least_bars.cal (y := "least_bars_bars") (T.d_least_bars.ok1 sc_least_bars ?_ fun cdv A outer s H vs Q E hr h => ?_) (by rw [← al_bars T]; exact T.g_least_bars_bars) T.kp_least_bars
  · rintro vs H Q E ⟨v, B, rfl, _⟩
    rfl
  · obtain ⟨v, B, rfl, hB, hok, q, qe⟩ := h
    refine ⟨_, pss_cons (ps_set (i := 1) sc_least_bars.nd rfl (.inl rfl) (pe_lst pa_nil))
      (pss_cons (ps_for (passes_of rfl) rfl (pi_list (pe_cX c1 hr (by decide) (by rfl) (passes_call (takes_of rfl rfl rfl rfl) fun _ _ _ _ h => h) (pa_cons (pv 0) pa_nil))) (pg_name (i := 2) sc_least_bars.nd rfl (.inl rfl))
        (pss_one (ps_if (PW.pt (pw_and (pt_not (pt_val (pe_c c2 hr (by decide) (by rfl) (pa_cons (pv 2) (pa_cons (pv 1) pa_nil))))) (pw_and1 (pt_val (pe_c c3 hr (by decide) (by rfl) (pa_cons (pv 0) (pa_cons (pv 2) pa_nil)))))))
          (pss_one (ps_expr (pe_bm PySem.F.plainAttrs_list PySem.F.slot_list_append PySem.F.type_list_append mt_append (pv 1) (pa_cons (pv 2) pa_nil)))) pss_nil)))
      (pss_one (ps_ret (pv 1)))), ?_⟩
    have hn := hok.n
    walk_at "i"
    refine ⟨sz_of (by simp), fun fp hfp => ?_⟩
    have s1 := Same.new (o := .lst []) hfp
    walk_at "i"
    refine g_ls ?_
    walk_at "i"
    refine ⟨v, B, rfl, hB.ex (Same.tups s1), hok, fun H2 p ys ls s2 hp hls hyl hlo hpn => ?_, fun H2 k2 => qe _ ((Keeps.of s1).trans k2)⟩
    have hf2 := s2 _ _ (upd_same (H := H) (a := fp) (o := .lst []))
    have sn := s1.trans s2
    have hpf : p ≠ fp := fun e => by
      rw [e, upd_same] at hpn
      cases hpn
    refine ⟨p, rfl, ⟨_, SqL.of hp⟩, for_it walk_list (fun i σ H' => ∃ (u2 : Option V) (xs : List V) (ms : List (List Int)), σ = [some v, some (.ref fp), u2] ∧ Keeps H H' ∧ TupEx H2 H' ∧ H' p = some (.lst ys) ∧ H' fp = some (.lst xs) ∧ LotsAt H' xs ms ∧ xs.length ≤ i ∧ LotsOk B.n ms)
      ⟨_, [], [], rfl, Keeps.of sn, TupEx.refl _, hp, hf2, LotsAt.nil _, Nat.le_refl _, fun _ h => by cases h⟩ (fun i σ H' _ ⟨_, _, _, _, _, _, e, _⟩ => SqL.of e) ?_ ?_⟩
    · rintro i y σ H3 H4 hi ⟨u2, xs, ms, rfl, k3, t3, hp3, hf3, hm3, hx3, hlo3⟩ ⟨rfl, hy⟩
      obtain ⟨l, hl, q1, rfl, hq1⟩ := hls.get hy
      have hlo1 := hlo l (List.mem_of_getElem? hl)
      have hq3 := t3 _ _ hq1
      have hsmall : ∀ m ∈ ms, m.length ≤ 1000 := fun m hm => by have := (hlo3 m hm).len; omega
      walk_at "i"
      refine ⟨q1, fp, l, xs, ms, rfl, hq3, hf3, hm3, by omega, hsmall, fun H5 b s5 => ?_⟩
      walk_at "i"
      refine g_nb (fun hb => ?_) (fun hb => ?_)
      · walk_at "i"
        refine ⟨v, B, q1, l, rfl, hB.ex (k3.tups.trans (Same.tups s5)), hok, s5 _ _ hq3, hlo1, fun H6 b2 k6 => ?_⟩
        have k56 := (Keeps.of s5).trans k6
        have hf6 := k56 _ _ hf3 (fun _ e => by cases e)
        have hp6 := k56 _ _ hp3 (fun _ e => by cases e)
        walk_at "i"
        refine g_b (fun hb2 => ?_) (fun hb2 => ?_)
        · walk_at "i"
          refine ⟨.inl ⟨rfl, _, SqL.of hf6⟩, ?_⟩
          walk_at "i"
          refine ⟨fp, xs, .ref q1, rfl, rfl, hf6, sz_lt (by omega), ?_⟩
          walk_at "i"
          have tu : TupEx H4 (upd H6 fp (.lst (xs ++ [.ref q1]))) := k56.tups.trans (TupEx.mutL hf6)
          refine ⟨_, xs ++ [.ref q1], ms ++ [l], rfl, (k3.trans k56).mut hfp _, t3.trans tu, by rw [upd_ne hpf]; exact hp6, upd_same, (hm3.ex tu).snoc ⟨q1, rfl, tu _ _ hq3⟩, by rw [List.length_append, List.length_singleton]; omega, fun m hm => ?_⟩
          rcases List.mem_append.mp hm with hm | hm
          · exact hlo3 m hm
          · rw [List.mem_singleton.mp hm]
            exact hlo1
        · walk_at "i"
          exact ⟨_, xs, ms, rfl, k3.trans k56, t3.trans k56.tups, hp6, hf6, hm3.ex k56.tups, by omega, hlo3⟩
      · walk_at "i"
        exact ⟨_, xs, ms, rfl, k3.trans (Keeps.of s5), t3.trans (Same.tups s5), s5 _ _ hp3, s5 _ _ hf3, hm3.ex (Same.tups s5), by omega, hlo3⟩
    · rintro σ H3 ⟨u2, xs, ms, rfl, k3, t3, hp3, hf3, hm3, hx3, hlo3⟩
      walk_at "i"
      exact q _ fp xs ms k3 hf3 hm3 (by omega) hlo3
end
/-! ERul4 -/
/-! ### sorted of a tuple of ints -/
section
open PyProof.Rows PySem.Calls SrtO
variable {prog : Program} {w : World} {A : Around} {E : Value → Shared → Prop} {s : Shared}
theorem collect_tup {l : Addr} {vs : List Value} {Q : List Value → Shared → Prop} (hl : IsTup s.heap l vs.toArray)
    (h : Q vs { s with heap := (s.heap.push (seqObj "list" #[] 0)).update s.heap.objs.size (Obj.mapSeq (· ++ vs.toArray)) }) (hsz : vs.length ≤ sizeLine) :
    wpAny (model prog w) A (collect (.ref l)) Q E s := by
  obtain ⟨o, ho, hc, n, hd⟩ := id hl
  unfold collect
  refine wpAny_bind (wpAny_runValue (codeAny_builtin entry_proto_collect' ?_))
  show wpAny _ _ (do again (.builtin "list.__iadd__" ⟨[← newList [], .ref l], []⟩)) _ _ s
  refine wpAny_bind (wpAny_newList (wpAny_pure ⟨Code.quiet_builtin _ (by decide +kernel), codeAny_builtin entry_list_iadd' ?_⟩))
  show wpAny _ _ (Builtin.List.listExtendWith (.ref s.heap.objs.size) (.ref l) (.ref s.heap.objs.size)) _ _ { s with heap := s.heap.push (seqObj "list" #[] 0) }
  unfold Builtin.List.listExtendWith
  have ho' : (s.heap.push (seqObj "list" #[] 0)).get? l = some o := Heap.get?_push_of_some _ ho
  refine wpAny_bind (wpAny_typeOf (T := "tuple") ⟨o, ho', hc⟩ ?_)
  have ht : (Value.type "tuple" == Value.type "tuple") = true := by rfl
  rw [if_pos (by rw [ht]; simp)]
  refine wpAny_bind (listItems_at ho' hd ?_)
  refine wpAny_bind (listItems_at (xs := #[]) (n := 0) (Heap.get?_push_size _ rfl) rfl ?_)
  rw [if_neg (by simp)]
  refine wpAny_bind (listUpdate_at (xs := #[]) (n := 0) (Heap.get?_push_size _ rfl) rfl ?_ (Nat.zero_le _) (by show (#[] ++ vs.toArray).size ≤ sizeLine + 1; simp only [Array.size_append, List.size_toArray, List.length_nil]; omega))
  refine wpAny_pure ?_
  show wpAny (model prog w) A (do
      let o ← load s.heap.objs.size
      match o.data with
      | .seq xs _ => pure xs.toList
      | _ => unsupported "internal:collect") Q E { s with heap := (s.heap.push (seqObj "list" #[] 0)).update s.heap.objs.size (Obj.mapSeq (· ++ vs.toArray)) }
  refine wpAny_bind (wpAny_load (get?_update_seq (Heap.get?_push_size _ rfl) _) ?_)
  show wpAny _ _ (pure ((#[] : Array Value) ++ vs.toArray).toList) Q E _
  rw [show ((#[] : Array Value) ++ vs.toArray).toList = vs by simp]
  exact wpAny_pure h
theorem sorted_ordT {l : Addr} {vs : List Value} {ltv : Value → Value → Bool} {Q : Value → Shared → Prop} (O : Swo ltv) (hl : IsTup s.heap l vs.toArray) (hz : vs.length ≤ sizeLine)
    (hS : 2 ≤ vs.length → ∀ (h₁ : Heap) (a : Addr), h₁.get? a = some (seqObj "list" vs.toArray 0) → (∀ b o, s.heap.get? b = some o → b ≠ a ∧ h₁.get? b = some o) → SortableO prog w A.in1.in1 { s with heap := h₁ } a vs ltv)
    (h : ∀ out : List Value, Srtd ltv out → Stb ltv out vs → Q (.ref (s.heap.objs.size + 1)) { s with heap := sortedAll s.heap vs out.toArray }) :
    wpAny (model prog w) A (call (.builtin "sorted") [.ref l]) Q E s := by
  refine Calls.call_function_entry kind_sorted plain_sorted entry_sorted (args_sorted1 _) ?_
  unfold Builtin.«sorted»
  refine wpAny_bind (m := checkCount "sorted" 1 1 _) (wpAny_pure ?_)
  refine wpAny_bind (collect_tup hl ?_ hz)
  refine wpAny_bind (wpAny_newList ?_ hz)
  have hsz : ((s.heap.push (seqObj "list" #[] 0)).update s.heap.objs.size (Obj.mapSeq (· ++ vs.toArray))).objs.size = s.heap.objs.size + 1 := by
    rw [Heap.size_update, size_push']
  have hoL : (((s.heap.push (seqObj "list" #[] 0)).update s.heap.objs.size (Obj.mapSeq (· ++ vs.toArray))).push (seqObj "list" vs.toArray 0)).get? (s.heap.objs.size + 1) = some (seqObj "list" vs.toArray 0) := by
    rw [← hsz]; exact Heap.get?_push_size _ rfl
  have keep : ∀ b o, s.heap.get? b = some o → b ≠ s.heap.objs.size + 1 ∧ (((s.heap.push (seqObj "list" #[] 0)).update s.heap.objs.size (Obj.mapSeq (· ++ vs.toArray))).push (seqObj "list" vs.toArray 0)).get? b = some o := fun b o q => by
    have hlt : b < s.heap.objs.size := Heap.lt_size q
    refine ⟨Nat.ne_of_lt (Nat.lt_succ_of_lt hlt), Heap.get?_push_of_some _ ?_⟩
    rw [Heap.get?_update_ne _ _ _ _ (Nat.ne_of_lt hlt)]
    exact Heap.get?_push_of_some _ q
  show wpAny _ _ _ _ _ { s with heap := ((s.heap.push (seqObj "list" #[] 0)).update s.heap.objs.size (Obj.mapSeq (· ++ vs.toArray))).push (seqObj "list" vs.toArray 0) }
  rw [hsz]
  refine wpAny_bind (wpAny_holding (wpAny_call_entry slot_list_sort ⟨_, hoL, rfl⟩ entry_list_sort (list_sort_ord O hoL hz (fun h2 => hS h2 _ _ hoL keep) fun out hs hb => ⟨_, rfl, ?_⟩) (args_list_sort _)))
  exact wpAny_pure ⟨_, rfl, h out hs hb⟩
end
section
variable {X : Cx}
def rSortedTI (K : PySem.W.Frag) : List V → Hp → VK → Prop := fun vs H Q => ∃ (a : Addr) (ns : List Int), vs = [V.ref a] ∧ SqT K H a (ns.map V.int) ∧
  ∀ (ns' : List Int) (p : Addr), ns'.Perm ns → ns'.Pairwise (· ≤ ·) → H p = none → Q (.ref p) (upd H p (.lst (ns'.map V.int)))
theorem cr_sortedTI : CallR X (.builtin "sorted") (rSortedTI X.K) := by
  intro pins s σ H vs us Q I r h
  obtain ⟨a, ns, rfl, hs, q⟩ := h
  obtain ⟨its, rv, hl, hz⟩ := I.tuple hs
  rw [Vals.ref1 r]
  have hi := rv.ints
  refine sorted_ordT SrtO.swo_int hl (by rw [← rv.length]; exact hz) (fun h2 h₁ a' _ _ => SrtO.ints_sortable hi h2) fun out h1 h2 => ?_
  obtain ⟨k1, k2, k3⟩ := SrtO.ints_out hi h1 h2
  obtain ⟨ep, he'⟩ := PyProof.Rows.sortedAll_at s.heap its out.toArray
  have hlen : ((out.map SrtO.iv).map V.int).length ≤ sizeLine := by
    rw [List.length_map, k2.length_eq]
    rw [List.length_map] at hz
    exact hz
  exact ⟨.ref _, upd H (s.heap.objs.size + 1) (.lst ((out.map SrtO.iv).map V.int)), I.laid (t' := s.toks) (fun _ _ => PyProof.Rows.sortedAll_old) (Nat.le_succ _) ⟨hlen, out, ep, vals_of_ints k1, he'⟩, rfl, q _ _ k2 k3 (I.hok.fresh (Nat.le_succ _))⟩
end
/-! ELig1 -/
/-! ### the lightest covering -/
def VL (H : Hp) (np n : Nat) (t : Int) (v : V) : Prop := v = .non ∨ ∃ (p q : Addr) (z : Int) (l : List Int), v = .ref p ∧ H p = some (.tup [.int z, .ref q]) ∧ H q = some (.tup (l.map V.int)) ∧ l.length ≤ n - t.toNat ∧ (∀ x ∈ l, 0 ≤ x ∧ x < np) ∧
  (-(1000000000000 * ((n - t.toNat : Nat) : Int)) ≤ z ∧ z ≤ 1000000000000 * ((n - t.toNat : Nat) : Int))
theorem VL.ex {H H' : Hp} {np n : Nat} {t : Int} {v : V} (h : VL H np n t v) (e : TupEx H H') : VL H' np n t v := by
  rcases h with h | ⟨p, q, z, l, h1, h2, h3, h4⟩
  · exact .inl h
  · exact .inr ⟨p, q, z, l, h1, e _ _ h2, e _ _ h3, h4⟩
theorem VL.up {H : Hp} {np n : Nat} {t t' : Int} {v : V} (h : VL H np n t' v) (ht : t ≤ t') : VL H np n t v := by
  rcases h with h | ⟨p, q, z, l, h1, h2, h3, h4, h5, h6⟩
  · exact .inl h
  · refine .inr ⟨p, q, z, l, h1, h2, h3, by omega, h5, by omega, by omega⟩
def lf1 (a : Addr) : List (Str × V) := [("ways", .ref a)]
def lf2 (a hv : Addr) : List (Str × V) := [("ways", .ref a), ("heavy", .ref hv)]
def lf3 (a hv g2 : Addr) : List (Str × V) := [("ways", .ref a), ("heavy", .ref hv), ("known", .ref g2)]
theorem lput2 (a hv : Addr) : putF "heavy" (.ref hv) (lf1 a) = lf2 a hv := by
  unfold lf1
  rw [put_past (by decide +kernel)]
  rfl
theorem lput3 (a hv g2 : Addr) : putF "known" (.ref g2) (lf2 a hv) = lf3 a hv g2 := by
  unfold lf2
  rw [put_past (by decide +kernel), put_past (by decide +kernel)]
  rfl
theorem llk_ways {a hv g2 : Addr} : List.lookup ("ways" : Str) (lf3 a hv g2) = some (.ref a) := lk_here
theorem llk_heavy {a hv g2 : Addr} : List.lookup ("heavy" : Str) (lf3 a hv g2) = some (.ref hv) := by
  unfold lf3
  rw [lk_past (by decide +kernel)]
  exact lk_here
theorem llk_known {a hv g2 : Addr} : List.lookup ("known" : Str) (lf3 a hv g2) = some (.ref g2) := by
  unfold lf3
  rw [lk_past (by decide +kernel), lk_past (by decide +kernel)]
  exact lk_here
theorem llk_none {a hv g2 : Addr} {x : Str} (h : (["ways", "heavy", "known"] : List Str).all (fun g => !(x == g)) = true) : List.lookup x (lf3 a hv g2) = none := by
  simp only [List.all_cons, List.all_nil, Bool.and_true, Bool.and_eq_true, Bool.not_eq_true'] at h
  obtain ⟨h1, h2, h3⟩ := h
  unfold lf3
  rw [lk_past h1, lk_past h2, lk_past h3]
  rfl
structure LightAt (C Cw : Addr) (H : Hp) (x : Addr) (n np : Nat) (g2 : Addr) : Prop where
  ex : ∃ (dx a hv gk : Addr) (ws : List Int) (memo : List (List Key × V)), H x = some (.ins C dx (lf3 a hv g2)) ∧ WaysAt Cw H a n np gk ∧ H hv = some (.lst (ws.map V.int)) ∧ ws.length = np ∧ (∀ w ∈ ws, -1000000000000 ≤ w ∧ w ≤ 1000000000000) ∧ g2 ≠ gk ∧ H g2 = some (.dT memo) ∧ Memo (VL H np n) memo
theorem SameX.keeps {g2 : Addr} {H H' : Hp} {kvs : List (List Key × V)} (s : SameX [g2] H H') (h : H g2 = some (.dT kvs)) : Keeps H H' := Keeps.ofX s fun x hx => ⟨kvs, by rw [List.mem_singleton.mp hx]; exact h⟩
theorem LightAt.keep {C Cw : Addr} {H H' : Hp} {x : Addr} {n np : Nat} {g2 : Addr} (h : LightAt C Cw H x n np g2) (s : SameX [g2] H H') (hm : MemAt (VL H' np n) H' g2) : LightAt C Cw H' x n np g2 := by
  obtain ⟨dx, a, hv, gk, ws, memo, h1, h2, h3, h4, h5, h6, h7, h8⟩ := h.ex
  obtain ⟨memo', g1, g3⟩ := hm
  have k := s.keeps h7
  obtain ⟨mm, e1, e2⟩ := h2.mem
  exact ⟨dx, a, hv, gk, ws, memo', k _ _ h1 (fun _ e => by cases e), h2.keep k ⟨mm, s gk (fun hm => h6 (List.mem_singleton.mp hm).symm) _ e1, e2⟩, k _ _ h3 (fun _ e => by cases e), h4, h5, h6, g1, g3⟩
theorem LightAt.mem {C Cw : Addr} {H : Hp} {x : Addr} {n np : Nat} {g2 : Addr} (h : LightAt C Cw H x n np g2) : MemAt (VL H np n) H g2 := by
  obtain ⟨dx, a, hv, gk, ws, memo, h1, h2, h3, h4, h5, h6, h7, h8⟩ := h.ex
  exact ⟨memo, h7, h8⟩
theorem MemAt.vl {H H' : Hp} {np n : Nat} {g2 : Addr} (h : MemAt (VL H np n) H g2) (s : Same H H') : MemAt (VL H' np n) H' g2 := by
  obtain ⟨memo, h1, h2⟩ := h
  exact ⟨memo, s _ _ h1, h2.imp fun t v hv => hv.ex (Same.tups s)⟩
theorem LightAt.same {C Cw : Addr} {H H' : Hp} {x : Addr} {n np : Nat} {g2 : Addr} (h : LightAt C Cw H x n np g2) (s : Same H H') : LightAt C Cw H' x n np g2 := h.keep (SameX.of s) (h.mem.vl s)
def spLightInit (C Cw : Addr) : Sp := fun vs H Q _ => ∃ (x dx : Addr) (v : V) (B : Bx), vs = [.ref x, v] ∧ H x = some (.ins C dx []) ∧ BoxAt H v B ∧ BxOk B ∧ ∀ H' g2, SameX [x] H H' → LightAt C Cw H' x B.n B.pcs.length g2 → H g2 = none → Q .non H'
section
variable {P : Program} {w : World} {K : PySem.W.Frag} {mg : Str → Option Value} {base : Heap}
theorem sc_Light_init : FnScope ["self", "box", "piece"] ["self", "box"] (defScope s_Light_init) := ⟨rfl, rfl, rfl, by decide +kernel, rfl, by decide +kernel, by decide +kernel⟩
theorem m_Light_init (T : Tx K w mg) : Mak P w K mg base CX0 5 "Light" (He.ga K "Light") (spLightInit (He.ga K "Light") (He.ga K "Ways")) := by
  have c1 : Mak P w K mg base CX0 2 "Ways" (He.ga K "Ways") (spWaysInit (He.ga K "Ways")) := m_Ways_init T
  refine T.d_Light_init.mak (T.d_Light_init.ok0 sc_Light_init ?_ fun cdv A outer s H vs Q E hr h => ?_) T.mk_Light T.g_Light
  · rintro vs H Q E ⟨x, dx, v, B, rfl, _⟩
    rfl
  · obtain ⟨x, dx, v, B, rfl, hx, hB, hok, q⟩ := h
    refine ⟨_, pss_cons (ps_fld (pv 0) (pe_n c1 hr (by decide) (by rfl) (pa_cons (pv 1) pa_nil)) rfl)
      (pss_cons (ps_fld (pv 0) (pe_lc (own := [("piece", 2)]) (g := gName 2) (tt := tYes) (te := tOp (rIxT K) (tVar 2) (tC (.int 1))) (by rfl) sc_Light_init.nd (pi_tup (pe_ix ix_tup (pv 1) pe_int (fun _ _ => rfl))) (blkOk_by (N := ["self", "box", "piece"]) (sc := defScope s_Light_init) (by decide +kernel))
          (fun _ _ _ _ _ => pg_name sc_Light_init.nd rfl (.inl rfl)) (fun _ _ _ _ _ => pts_nil) (fun s1 H1 C1 cl1 fp1 => pe_ix ix_tup (pv 2) pe_int (fun _ _ => rfl))) rfl)
      (pss_one (ps_fld (pv 0) pe_dnewT rfl))), ?_⟩
    have cl := T.cl_Light
    have hB0 := hB
    obtain ⟨b, m, p, ps, rfl, hb, hm, hp, hps⟩ := hB
    walk_at "i"
    refine fun a da ha hda hne => ?_
    refine ⟨a, da, .ref b, B, rfl, upd_same, hB0.ex (Same.tups (made_same ha hda)), hok, fun H1 gk s1 hW hg => ⟨rfl, ?_⟩⟩
    have s1 := made_keeps ha hda s1
    have gn : H gk = none := same_none (made_same ha hda) hg
    have hx1 := s1 _ _ hx
    walk_at "i"
    refine ⟨x, _, dx, _, rfl, hx1, cl, T.na_Light_ways, by decide, ?_⟩
    have e1 : putF "ways" (.ref a) [] = lf1 a := rfl
    rw [e1]
    have sx : SameX [x] H (upd H1 x (.ins (He.ga K "Light") dx (lf1 a))) := (SameX.of s1).put List.mem_cons_self _
    have hxx : upd H1 x (.ins (He.ga K "Light") dx (lf1 a)) x = some (.ins (He.ga K "Light") dx (lf1 a)) := upd_same
    -- the ways stand when the instance is written
    have wk : ∀ {H2 : Hp} {dy : Addr} {fs : List (Str × V)} (o : HO), H2 x = some (.ins (He.ga K "Light") dy fs) → WaysAt (He.ga K "Ways") H2 a B.n B.pcs.length gk → a ≠ x → WaysAt (He.ga K "Ways") (upd H2 x o) a B.n B.pcs.length gk := by
      intro H2 dy fs o hx2 hW2 hax
      obtain ⟨dx', m', gb', bs', mays', memo', w1, w2, w3, w4, w5, w6, w7⟩ := hW2.ex
      have kl := KeepLT.ins hx2 o
      exact ⟨dx', m', gb', bs', mays', memo', by rw [upd_ne hax]; exact w1, (kl _ _).2 w2, (kl _ _).1 w3, w4, w5.lt kl, by rw [upd_ne (ne_of w6 hx2 (fun e => by cases e))]; exact w6, w7⟩
    have hax : a ≠ x := (ne_of_none hx ha).symm
    have hW2 := wk (.ins (He.ga K "Light") dx (lf1 a)) hx1 hW hax
    generalize upd H1 x (.ins (He.ga K "Light") dx (lf1 a)) = H2 at sx hxx hW2 ⊢
    have nx : ∀ {H' : Hp} {c : Addr} {xs : List V}, SameX [x] H H' → H c = some (.tup xs) → H' c = some (.tup xs) := fun {H' c xs} sh hc => sh c (fun hm => by
      rw [List.mem_singleton.mp hm, hx] at hc
      cases hc) _ hc
    walk_at "i"
    refine g_tp ?_
    walk_at "i"
    refine ⟨b, _, 2, _, rfl, rfl, SqT.of (nx sx hb), at2 rfl, p, rfl, ⟨_, SqT.of (nx sx hp)⟩, fun D hD => lc_map walk_tup hD (by have := hps.1; have := hok.len; omega) ((B.pcs.map (·.2)).map V.int) (by simp [hps.1]) (fun H' k => SqT.of (k _ _ (nx sx hp))) (fun i y o H3 H4 hi s3 ho y1 Qc kc => ?_) (fun H3 s3 d3 => ?_)⟩
    · obtain ⟨rfl, hy⟩ := y1
      obtain ⟨o1, ho1, rfl⟩ := map_at ho
      obtain ⟨z1, hz1, rfl⟩ := map_at ho1
      obtain ⟨q1, h1, rfl, hq1, hh1⟩ := hps.2 _ _ _ hy hz1
      walk_at "i"
      refine ⟨rfl, ?_⟩
      walk_at "i"
      refine ⟨q1, _, 1, _, rfl, rfl, SqT.of (s3 _ _ (nx sx hq1)), at1 rfl, kc _ (Same.refl _)⟩
    · have hx3 := s3 _ _ hxx
      have hW3 := hW2.same s3
      walk_at "i"
      refine ⟨x, _, dx, _, rfl, hx3, cl, T.na_Light_heavy, len1, ?_⟩
      rw [lput2]
      have sy : SameX [x] H (upd H3 x (.ins (He.ga K "Light") dx (lf2 a D))) := (sx.trans (SameX.of s3)).put List.mem_cons_self _
      have hxy : upd H3 x (.ins (He.ga K "Light") dx (lf2 a D)) x = some (.ins (He.ga K "Light") dx (lf2 a D)) := upd_same
      have hDy : upd H3 x (.ins (He.ga K "Light") dx (lf2 a D)) D = some (.lst ((B.pcs.map (·.2)).map V.int)) := by
        rw [upd_ne (ne_of d3 hx3 (fun e => by cases e))]
        exact d3
      have hW4 := wk (.ins (He.ga K "Light") dx (lf2 a D)) hx3 hW3 hax
      generalize upd H3 x (.ins (He.ga K "Light") dx (lf2 a D)) = H4 at sy hxy hDy hW4 ⊢
      walk_at "i"
      refine fun g2 hg2 => ?_
      walk_at "i"
      have sG := Same.new (o := .dT []) hg2
      refine ⟨x, _, dx, _, rfl, sG _ _ hxy, cl, T.na_Light_known, len2, ?_⟩
      rw [lput3]
      have hW5 := wk (.ins (He.ga K "Light") dx (lf3 a D g2)) (sG _ _ hxy) (hW4.same sG) hax
      have ngx : g2 ≠ x := (ne_of_none hxy hg2).symm
      have hfr : H g2 = none := by
        cases e : H g2 with
        | none => rfl
        | some o =>
          rw [sy g2 (fun hm => ngx (List.mem_singleton.mp hm)) o e] at hg2
          cases hg2
      obtain ⟨mm, e1, e2⟩ := hW4.mem
      refine q _ g2 ((sy.new hfr _).put List.mem_cons_self _) ⟨dx, a, D, gk, B.pcs.map (·.2), [], upd_same, hW5, ?_, by rw [List.length_map], fun z hz => ?_, (ne_of_none e1 hg2).symm, ?_, Memo.nil _⟩ hfr
      · rw [upd_ne (ne_of hDy hxy (fun e => by cases e))]
        exact sG _ _ hDy
      · obtain ⟨pc, hpc, rfl⟩ := List.mem_map.mp hz
        exact (hok.pcs pc hpc).2.2
      · rw [upd_ne ngx]
        exact upd_same
end
/-! ELig2 -/
def spLF (C Cw : Addr) (j : Nat) : Sp := fun vs H Q _ => ∃ (x g2 : Addr) (t c : Int) (n np : Nat), vs = [.ref x, .int t, .int c] ∧ LightAt C Cw H x n np g2 ∧ n ≤ 16 ∧ (0 ≤ t ∧ t ≤ n) ∧ n < t + j ∧ cov c ∧
  ∀ H' v, SameX [g2] H H' → LightAt C Cw H' x n np g2 → VL H' np n t v → Q v H'
def spBest (C Cw : Addr) (j : Nat) : Sp := fun vs H Q _ => ∃ (x g2 : Addr) (t c : Int) (n np : Nat), vs = [.ref x, .int t, .int c] ∧ LightAt C Cw H x n np g2 ∧ n ≤ 16 ∧ (0 ≤ t ∧ t < n) ∧ n < t + 1 + j ∧ cov c ∧
  ∀ H' v, SameX [g2] H H' → LightAt C Cw H' x n np g2 → VL H' np n t v → Q v H'
theorem WaysAt.fld {C : Addr} {H : Hp} {a : Addr} {n np : Nat} {gk : Addr} (h : WaysAt C H a n np gk) : ∃ dx m gb, H a = some (.ins C dx (wf4 n m gb gk)) := by
  obtain ⟨dx, m, gb, bs, mays, memo, h1, _⟩ := h.ex
  exact ⟨dx, m, gb, h1⟩
section
variable {P : Program} {w : World} {K : PySem.W.Frag} {mg : Str → Option Value} {base : Heap}
theorem sc_best_of : FnScope ["self", "thing", "covered", "best", "piece", "there", "rest", "weight", "some"] ["self", "thing", "covered"] (defScope s_Light_best_of) := ⟨rfl, rfl, rfl, by decide +kernel, rfl, by decide +kernel, by decide +kernel⟩
theorem m_best_of (T : Tx K w mg) (j : Nat) (cr : Met P w K mg base CX0 (2 * j + 2) (He.ga K "Light") "lightest_from" (spLF (He.ga K "Light") (He.ga K "Ways") j)) :
    Met P w K mg base CX0 (2 * j + 3) (He.ga K "Light") "best_of" (spBest (He.ga K "Light") (He.ga K "Ways") j) := by
  have c1 : Met P w K mg base CX0 1 (He.ga K "Ways") "next_steps" (spNext (He.ga K "Ways")) := m_next_steps T
  refine T.d_Light_best_of.met (T.d_Light_best_of.ok0 sc_best_of ?_ fun cdv A outer s H vs Q E hr h => ?_) T.cl_Light T.me_Light_best_of
  · rintro vs H Q E ⟨x, g2, t, c, n, np, rfl, _⟩
    rfl
  · obtain ⟨x, g2, t, c, n, np, rfl, hL, hn, ht, hj, hc, q⟩ := h
    have cl := T.cl_Light
    refine ⟨_, pss_cons (ps_set (i := 3) sc_best_of.nd rfl (.inl rfl) pe_non)
      (pss_cons (ps_for PassesOwn.never rfl (pi_list (pe_m c1 hr (by omega) (pe_fld (pv 0) rfl) (pa_cons (pv 1) (pa_cons (pv 2) pa_nil)))) (pg_tup (by rfl) (pgs_cons (pg_name (i := 4) sc_best_of.nd rfl (.inl rfl)) (pgs_cons (pg_name (i := 5) sc_best_of.nd rfl (.inl rfl)) pgs_nil)))
        (pss_cons (ps_set (i := 6) sc_best_of.nd rfl (.inl rfl) (pe_m cr hr (by omega) (pv 0) (pa_cons (pe_op op_add (pv 1) pe_int) (pa_cons (pv 5) pa_nil))))
        (pss_one (ps_if (pt_cmp (pc_notN (pv 6)))
          (pss_cons (ps_asg (pv 6) (pg_tup (by rfl) (pgs_cons (pg_name (i := 7) sc_best_of.nd rfl (.inl rfl)) (pgs_cons (pg_name (i := 8) sc_best_of.nd rfl (.inl rfl)) pgs_nil))))
          (pss_cons (ps_cut (ps_if (pt_cmpR op_ge (pv 4) pe_int (nomark _))
              (pss_cons (ps_set (i := 7) sc_best_of.nd rfl (.inl rfl) (pe_op op_add (pv 7) (pe_ix ix_list (pe_fld (pv 0) rfl) (pv 4) (fun _ _ => rfl))))
                (pss_one (ps_set (i := 8) sc_best_of.nd rfl (.inl rfl) (pe_op op_catA (pe_tup (pa_cons (pv 4) pa_nil)) (pv 8))))) pss_nil))
          (pss_one (ps_if (pt_cut (PW.pt (pw_or (pt_cmp (pc_isN (pv 3))) (pw_or1 (pt_cmpR op_lt (pv 7) (pe_ix ix_tup (pv 3) pe_int (fun _ _ => rfl)) (nomark _))))))
              (pss_one (ps_set (i := 3) sc_best_of.nd rfl (.inl rfl) (pe_tup (pa_cons (pv 7) (pa_cons (pv 8) pa_nil))))) pss_nil)))) pss_nil))))
      (pss_one (ps_ret (pv 3)))), ?_⟩
    obtain ⟨dx, a, hv, gk, ws, memo, h1, hW, h3, h4, h5, h6, h7, h8⟩ := hL.ex
    obtain ⟨dxa, ma, gba, hWa⟩ := hW.fld
    walk_at "i"
    refine g_ls ?_
    walk_at "i"
    refine ⟨x, _, dx, _, _, rfl, h1, cl, T.na_Light_ways, llk_ways, ?_⟩
    refine ⟨a, dxa, _, rfl, hWa, lk_none (by decide +kernel), ?_⟩
    walk_at "i"
    refine ⟨a, gk, t, c, n, np, rfl, hW, ht, hc, fun H1 sp xs s1 hsp hst hxl hspn => ?_⟩
    have hL1 := hL.same s1
    have hg1 := s1 _ _ h7
    refine ⟨sp, rfl, ⟨_, SqL.of hsp⟩, for_it walk_list (fun i σ H' => ∃ (b : V) (u4 u5 u6 u7 u8 : Option V), σ = [some (.ref x), some (.int t), some (.int c), some b, u4, u5, u6, u7, u8] ∧ SameX [g2] H1 H' ∧ LightAt (He.ga K "Light") (He.ga K "Ways") H' x n np g2 ∧ VL H' np n t b)
      ⟨.non, _, _, _, _, _, rfl, SameX.refl _ _, hL1, .inl rfl⟩ (fun i σ H' _ ⟨_, _, _, _, _, _, _, s', _⟩ => SqL.of ((s'.keeps hg1) _ _ hsp (fun _ e => by cases e))) ?_ ?_⟩
    · rintro i y σ H2 H3 hi ⟨b, u4, u5, u6, u7, u8, rfl, s2, hL2, hb2⟩ ⟨rfl, hy⟩
      obtain ⟨q1, k, d, rfl, hq1, hk, hd⟩ := hst _ (List.mem_of_getElem? hy)
      have k2 := s2.keeps hg1
      obtain ⟨dx2, a2, hv2, gk2, ws2, memo2, h12, hW2, h32, h42, h52, h62, h72, h82⟩ := hL2.ex
      refine g_un2 (SqT.of (k2.tups _ _ hq1)) ?_
      walk_at "i"
      refine ⟨x, dx2, _, rfl, h12, llk_none (by decide +kernel), ?_⟩
      walk_at "i"
      refine ⟨x, g2, t + 1, d, n, np, rfl, hL2, hn, ⟨by omega, by omega⟩, by omega, hd, fun H4 v s4 hL4 hv4 => ?_⟩
      have k4 := s4.keeps h72
      have hb4 := hb2.ex k4.tups
      walk_at "i"
      rcases hv4 with rfl | ⟨p, q2, z, l, rfl, hp, hq2, hl, hlb, hz⟩
      · refine L2.iteF ?_
        walk_at "i"
        exact ⟨b, _, _, _, _, _, rfl, s2.trans s4, hL4, hb4⟩
      · refine L2.iteT ?_
        walk_at "i"
        refine g_un2 (SqT.of hp) ?_
        walk_at "i"
        have e1 : (n - t.toNat : Nat) = (n - (t + 1).toNat) + 1 := by omega
        refine g_cut (fun σ' H' => ∃ (z' : Int) (q' : Addr) (l' : List Int), σ' = [some (.ref x), some (.int t), some (.int c), some b, some (.int k), some (.int d), some (.ref p), some (.int z'), some (.ref q')] ∧ Same H4 H' ∧ H' q' = some (.tup (l'.map V.int)) ∧ l'.length ≤ n - t.toNat ∧ (∀ x ∈ l', 0 ≤ x ∧ x < np) ∧ (-(1000000000000 * ((n - t.toNat : Nat) : Int)) ≤ z' ∧ z' ≤ 1000000000000 * ((n - t.toNat : Nat) : Int))) ?_ ?_
        · walk_at "i"
          obtain ⟨dx4, a4, hv4, gk4, ws4, memo4, h14, hW4, h34, h44, h54, h64, h74, h84⟩ := hL4.ex
          refine g_dec (fun h => ?_) (fun h => ?_)
          · have hlt : k.toNat < ws4.length := by omega
            have hget : (ws4.map V.int)[k.toNat]? = some (.int ws4[k.toNat]) := by rw [List.getElem?_map, List.getElem?_eq_getElem hlt]; rfl
            have hw := h54 ws4[k.toNat] (List.getElem_mem hlt)
            walk_at "i"
            refine ⟨x, _, dx4, _, _, rfl, h14, cl, T.na_Light_heavy, llk_heavy, ?_⟩
            walk_at "i"
            refine ⟨hv4, _, k, _, rfl, rfl, SqL.of h34, ati (by omega) hget, ?_⟩
            walk_at "i"
            refine ⟨sz_of (by simp), fun p5 hp5 => ?_⟩
            have s5 := Same.new (o := .tup [.int k]) hp5
            walk_at "i"
            refine ⟨p5, q2, [.int k], l.map V.int, rfl, rfl, SqT.of upd_same, SqT.of (s5 _ _ hq2), by rw [List.length_map, List.length_singleton]; exact sz_of (by omega), fun e => absurd e (by simp), fun _ e => ?_, fun _ _ p6 hp6 => ?_⟩
            · have el : l = [] := List.map_eq_nil_iff.mp e
              walk_at "i"
              refine ⟨_, p5, [k], rfl, s5, upd_same, by rw [List.length_singleton]; omega, fun y hy => by rw [List.mem_singleton.mp hy]; omega, ?_, ?_⟩
              · rw [e1]; omega
              · rw [e1]; omega
            · walk_at "i"
              refine ⟨_, p6, k :: l, rfl, s5.trans (Same.new hp6), upd_same, by rw [List.length_cons]; omega, fun y hy => ?_, ?_, ?_⟩
              · rcases List.mem_cons.mp hy with rfl | hy
                · omega
                · exact hlb y hy
              · rw [e1]; omega
              · rw [e1]; omega
          · walk_at "i"
            exact ⟨z, q2, l, rfl, Same.refl _, hq2, by omega, hlb, by omega, by omega⟩
        · rintro σ' H5 ⟨z', q', l', rfl, s5, hq', hl', hlb', hz'⟩
          walk_at "i"
          have hb5 := hb4.ex (Same.tups s5)
          have hL5 := hL4.same s5
          refine g_tcut (fun bb H' => H' = H5) ?_ ?_
          · walk_at "i"
            rcases hb5 with rfl | ⟨pb, qb, zb, lb, rfl, hpb, _⟩
            · refine L2.iteT ?_
              rfl
            · refine L2.iteF ?_
              walk_at "i"
              refine ⟨pb, _, 0, _, rfl, rfl, SqT.of hpb, at0 rfl, ?_⟩
              walk_at "i"
              rfl
          rintro bb H6 rfl
          have hv5 : VL H6 np n t b := hb5
          refine g_b (fun _ => ?_) (fun _ => ?_)
          · walk_at "i"
            refine ⟨sz_of (by simp), fun p7 hp7 => ?_⟩
            walk_at "i"
            have s7 := Same.new (o := .tup [.int z', .ref q']) hp7
            exact ⟨.ref p7, _, _, _, _, _, rfl, (s2.trans s4).trans (SameX.of (s5.trans s7)), hL5.same s7, .inr ⟨p7, q', z', l', rfl, upd_same, s7 _ _ hq', hl', hlb', hz'⟩⟩
          · walk_at "i"
            exact ⟨b, _, _, _, _, _, rfl, (s2.trans s4).trans (SameX.of s5), hL5, hv5⟩
    · rintro σ H2 ⟨b, u4, u5, u6, u7, u8, rfl, s2, hL2, hb2⟩
      walk_at "i"
      exact q _ b ((SameX.of s1).trans s2) hL2 hb2
end
/-! ELig3 -/
def spLightest : Sp := fun vs H Q _ => ∃ v B, vs = [v] ∧ BoxAt H v B ∧ BxOk B ∧ (∀ H', Keeps H H' → Q .non H') ∧ ∀ H' p q z l, Keeps H H' → H' p = some (.tup [.int z, .ref q]) → H' q = some (.tup (l.map V.int)) → small l → (-100000000000000000000 < z ∧ z < 100000000000000000000) → Q (.ref p) H'
section
variable {P : Program} {w : World} {K : PySem.W.Frag} {mg : Str → Option Value} {base : Heap}
theorem sc_lightest_from : FnScope ["self", "thing", "covered", "key"] ["self", "thing", "covered"] (defScope s_Light_lightest_from) := ⟨rfl, rfl, rfl, by decide +kernel, rfl, by decide +kernel, by decide +kernel⟩
theorem m_lightest_from (T : Tx K w mg) : ∀ j : Nat, Met P w K mg base CX0 (2 * j + 2) (He.ga K "Light") "lightest_from" (spLF (He.ga K "Light") (He.ga K "Ways") j)
  | 0 => by
    refine T.d_Light_lightest_from.met (T.d_Light_lightest_from.ok0 sc_lightest_from ?_ fun cdv A outer s H vs Q E hr h => ?_) T.cl_Light T.me_Light_lightest_from
    · rintro vs H Q E ⟨x, g2, t, c, n, np, rfl, _⟩
      rfl
    · obtain ⟨x, g2, t, c, n, np, rfl, hL, hn, ht, hj, _⟩ := h
      omega
  | j + 1 => by
    have cb : Met P w K mg base CX0 (2 * j + 3) (He.ga K "Light") "best_of" (spBest (He.ga K "Light") (He.ga K "Ways") j) := m_best_of T j (m_lightest_from T j)
    refine T.d_Light_lightest_from.met (T.d_Light_lightest_from.ok0 sc_lightest_from ?_ fun cdv A outer s H vs Q E hr h => ?_) T.cl_Light T.me_Light_lightest_from
    · rintro vs H Q E ⟨x, g2, t, c, n, np, rfl, _⟩
      rfl
    · obtain ⟨x, g2, t, c, n, np, rfl, hL, hn, ht, hj, hc, q⟩ := h
      have cl := T.cl_Light
      have clw := T.cl_Ways
      refine ⟨_, pss_cons (ps_while PassesOwn.never (pt_cut (PW.pt (pw_and (pt_cmpR op_lt (pv 1) (pe_fld (pe_fld (pv 0) rfl) rfl) (nomark _)) (pw_and1 (pt_cmpR op_eq (pe_op op_and (pe_op op_shr (pv 2) (pv 1)) pe_int) pe_int (nomark _)))))) (pss_one (ps_set (i := 1) sc_lightest_from.nd rfl (.inl rfl) (pe_op op_add (pv 1) pe_int))))
        (pss_cons (ps_if (pt_cmpR op_eq (pv 1) (pe_fld (pe_fld (pv 0) rfl) rfl) (nomark _)) (pss_one (ps_ret (pe_tup (pa_cons pe_int (pa_cons (pe_tup pa_nil) pa_nil))))) pss_nil)
        (pss_cons (ps_set (i := 3) sc_lightest_from.nd rfl (.inl rfl) (pe_tup (pa_cons (pv 1) (pa_cons (pe_op op_shr (pv 2) (pv 1)) pa_nil))))
        (pss_cons (ps_cut (ps_if (pt_cmp (pc_dnotin (u1 hr) (pv 3) (pe_fld (pv 0) rfl)))
            (pss_one (ps_dput (u1 hr) (pe_fld (pv 0) rfl) (pv 3) (pe_m cb hr (by omega) (pv 0) (pa_cons (pv 1) (pa_cons (pv 2) pa_nil))) (by rfl))) pss_nil))
        (pss_one (ps_ret (pe_dget (u1 hr) (pe_fld (pv 0) rfl) (pv 3) (by intro _ _; rfl))))))), ?_⟩
      obtain ⟨dx, a, hv, gk, ws, memo, h1, hW, h3, h4, h5, h6, h7, h8⟩ := hL.ex
      obtain ⟨dxa, ma, gba, hWa⟩ := hW.fld
      walk_at "i"
      refine ⟨fun mm σ' H' => ∃ t' : Int, σ' = [some (.ref x), some (.int t'), some (.int c), none] ∧ H' = H ∧ t ≤ t' ∧ t' ≤ n ∧ mm = (n - t').toNat, ⟨_, t, rfl, rfl, Int.le_refl _, ht.2, rfl⟩, ?_⟩
      rintro mm σ' H' ⟨t', rfl, rfl, g1, g3, rfl⟩
      refine g_tcut (fun b H1 => H1 = H' ∧ (b = true → t' < n)) ?_ ?_
      · walk_at "i"
        refine ⟨x, _, dx, _, _, rfl, h1, cl, T.na_Light_ways, llk_ways, ?_⟩
        refine ⟨a, _, dxa, _, _, rfl, hWa, clw, T.na_Ways_things, lk_things, ?_⟩
        walk_at "i"
        refine g_dec (fun h => ?_) (fun h => ?_)
        · walk_at "i"
          refine g_I (by omega) ?_
          walk_at "i"
          exact ⟨rfl, fun _ => h⟩
        · exact ⟨rfl, fun e => by cases e⟩
      rintro bb H1 ⟨rfl, hb⟩
      refine g_b (fun eb => ?_) (fun eb => ?_)
      · have hlt := hb eb
        refine ⟨_, fun _ _ h => h, ?_⟩
        walk_at "i"
        exact ⟨_, by omega, t' + 1, rfl, rfl, by omega, by omega, rfl⟩
      walk_at "i"
      refine ⟨x, _, dx, _, _, rfl, h1, cl, T.na_Light_ways, llk_ways, ?_⟩
      refine ⟨a, _, dxa, _, _, rfl, hWa, clw, T.na_Ways_things, lk_things, ?_⟩
      walk_at "i"
      refine g_dec (fun h => ?_) (fun h => ?_)
      · walk_at "i"
        refine ⟨sz_of (by simp), fun p5 hp5 => ?_⟩
        walk_at "i"
        refine ⟨sz_of (by simp), fun p6 hp6 => ?_⟩
        have s5 := (Same.new (o := .tup []) hp5).trans (Same.new (o := .tup [.int 0, .ref p5]) hp6)
        have h55 := Same.new (o := .tup [.int 0, .ref p5]) hp6 _ _ (upd_same (H := H1) (a := p5) (o := .tup []))
        exact q _ (.ref p6) (SameX.of s5) (hL.same s5) (.inr ⟨p6, p5, 0, [], rfl, upd_same, h55, Nat.zero_le _, (fun _ h => by cases h), by omega, by omega⟩)
      have hlt : t' < n := by
        have : t' ≠ n := fun e => h (by rw [e])
        omega
      walk_at "i"
      refine g_I (by omega) ?_
      walk_at "i"
      refine ⟨sz_of (by simp), fun k1 hk1 => ?_⟩
      walk_at "i"
      have ck : cov (c / 2 ^ t'.toNat) := cov_shr hc _
      have s1 := Same.new (H := H1) (o := .tup [.int t', .int (c / 2 ^ t'.toNat)]) hk1
      have hk2 : upd H1 k1 (.tup [.int t', .int (c / 2 ^ t'.toNat)]) k1 = some (.tup [.int t', .int (c / 2 ^ t'.toNat)]) := upd_same
      generalize upd H1 k1 (.tup [.int t', .int (c / 2 ^ t'.toNat)]) = H2 at s1 hk2 ⊢
      have hL2 := hL.same s1
      refine g_cut (fun σ' H' => ∃ (memo' : List (List Key × V)) (v : V), σ' = [some (.ref x), some (.int t'), some (.int c), some (.ref k1)] ∧ SameX [g2] H2 H' ∧ H' g2 = some (.dT memo') ∧ Memo (VL H' np n) memo' ∧ valV memo' [.inl t', .inl (c / 2 ^ t'.toNat)] = some v) ?_ ?_
      · walk_at "i"
        refine ⟨x, _, dx, _, _, rfl, s1 _ _ h1, cl, T.na_Light_known, llk_known, ?_⟩
        have dg : DGet H2 g2 (.ref k1) (valV memo [.inl t', .inl (c / 2 ^ t'.toNat)]) := DGet.t (s1 _ _ h7) hk2
        refine ⟨g2, _, rfl, dg, ?_⟩
        walk_at "i"
        cases e : valV memo ([.inl t', .inl (c / 2 ^ t'.toNat)] : List Key) with
        | some v =>
          refine L2.iteF ?_
          walk_at "i"
          exact ⟨memo, v, rfl, SameX.refl _ _, s1 _ _ h7, h8.imp fun t v hv => hv.ex (Same.tups s1), e⟩
        | none =>
          refine L2.iteT ?_
          walk_at "i"
          refine ⟨x, dx, _, rfl, s1 _ _ h1, llk_none (by decide +kernel), ?_⟩
          walk_at "i"
          refine ⟨x, g2, t', c, n, np, rfl, hL2, hn, ⟨by omega, hlt⟩, by omega, hc, fun H3 v s3 hL3 hv3 => ?_⟩
          obtain ⟨dx3, a3, hv3', gk3, ws3, memo3, h13, hW3, h33, h43, h53, h63, h73, h83⟩ := hL3.ex
          have hk3 := (s3.keeps (s1 _ _ h7)).tups _ _ hk2
          walk_at "i"
          refine ⟨x, _, dx3, _, _, rfl, h13, cl, T.na_Light_known, llk_known, ?_⟩
          walk_at "i"
          have tu : TupEx H3 (upd H3 g2 (.dT (putK memo3 [.inl t', .inl (c / 2 ^ t'.toNat)] v))) := fun b xs e => by
            rw [upd_ne (ne_of e h73 (fun e => by cases e))]
            exact e
          refine ⟨g2, _, rfl, .inr ⟨memo3, [.inl t', .inl (c / 2 ^ t'.toNat)], k1, h73, rfl, hk3, Nat.lt_of_le_of_lt h83.len (by decide), rfl⟩, ?_⟩
          refine ⟨putK memo3 [.inl t', .inl (c / 2 ^ t'.toNat)] v, v, rfl, s3.put List.mem_cons_self _, upd_same, Memo.put (h83.imp fun t v hv => hv.ex tu) (by omega) ck (hv3.ex tu), ?_⟩
          rw [valV_put, if_pos rfl]
      · rintro σ' H3 ⟨memo', v, rfl, s3, hg3, hm3, hv3⟩
        have hL3 := hL2.keep s3 ⟨memo', hg3, hm3⟩
        obtain ⟨dx3, a3, hv3', gk3, ws3, memo3, h13, hW3, h33, h43, h53, h63, h73, h83⟩ := hL3.ex
        walk_at "i"
        have hk3 := (s3.keeps (s1 _ _ h7)).tups _ _ hk2
        refine ⟨x, _, dx3, _, _, rfl, h13, cl, T.na_Light_known, llk_known, ?_⟩
        walk_at "i"
        have dg : DGet H3 g2 (.ref k1) (valV memo' [.inl t', .inl (c / 2 ^ t'.toNat)]) := DGet.t hg3 hk3
        rw [hv3] at dg
        refine ⟨g2, v, rfl, dg, ?_⟩
        exact q _ v ((SameX.of s1).trans s3) hL3 ((hm3.get hv3).up g1)
theorem sc_lightest : FnScope ["box", "found"] ["box"] (defScope s_lightest) := ⟨rfl, rfl, rfl, by decide +kernel, rfl, by decide +kernel, by decide +kernel⟩
theorem c_lightest (T : Tx K w mg) : Cal P w K mg base CX0 40 "lightest_lightest" spLightest := by
  have c1 : Mak P w K mg base CX0 5 "Light" (He.ga K "Light") (spLightInit (He.ga K "Light") (He.ga K "Ways")) := m_Light_init T
  have c2 : Met P w K mg base CX0 (2 * 17 + 2) (He.ga K "Light") "lightest_from" (spLF (He.ga K "Light") (He.ga K "Ways") 17) := m_lightest_from T 17
  refine T.d_lightest.cal (y := "lightest_lightest") (T.d_lightest.ok0 sc_lightest ?_ fun cdv A outer s H vs Q E hr h => ?_) (by rw [← al_light T]; exact T.g_lightest_lightest) T.kp_lightest
  · rintro vs H Q E ⟨v, B, rfl, _⟩
    rfl
  · obtain ⟨v, B, rfl, hB, hok, q0, q1⟩ := h
    refine ⟨_, pss_cons (ps_set (i := 1) sc_lightest.nd rfl (.inl rfl) (pe_m c2 hr (by decide) (pe_n c1 hr (by decide) (by rfl) (pa_cons (pv 0) pa_nil)) (pa_cons pe_int (pa_cons pe_int pa_nil))))
      (pss_cons (ps_if (pt_cmp (pc_isN (pv 1))) (pss_one (ps_ret pe_non)) pss_nil)
      (pss_one (ps_ret (pe_tup (pa_cons (pe_ix ix_tup (pv 1) pe_int (fun _ _ => rfl)) (pa_cons (pe_tupleOf (by rfl) T.z_tuple (pe_callB cr_sortedTI (by rfl) T.z_sorted (by decide +kernel) (pa_cons (pe_ix ix_tup (pv 1) pe_int (fun _ _ => rfl)) pa_nil))) pa_nil)))))), ?_⟩
    have hn := hok.n
    have hnp := hok.len
    walk_at "i"
    refine fun x dx hx hdx hne => ?_
    refine ⟨x, dx, v, B, rfl, upd_same, hB.ex (Same.tups (made_same hx hdx)), hok, fun H1 g2 hs hL hg => ⟨rfl, ?_⟩⟩
    have s1 := made_keeps hx hdx hs
    obtain ⟨dx', a, hv, gk, ws, memo, w1, _, _, _, _, _, w7, _⟩ := hL.ex
    refine ⟨x, dx', _, rfl, w1, llk_none (by decide +kernel), ?_⟩
    walk_at "i"
    refine ⟨x, g2, 0, 0, B.n, B.pcs.length, rfl, hL, hn, ⟨Int.le_refl _, by omega⟩, by omega, ⟨by decide, by decide⟩, fun H2 r s2 hL2 hr2 => ?_⟩
    have k2 := (Keeps.of s1).trans (s2.keeps w7)
    walk_at "i"
    rcases hr2 with rfl | ⟨p, q, z, l, rfl, hp, hq, hl, hlb, hz⟩
    · refine L2.iteT ?_
      walk_at "i"
      exact q0 _ k2
    · refine L2.iteF ?_
      walk_at "i"
      refine ⟨p, _, 0, _, rfl, rfl, SqT.of hp, at0 rfl, ?_⟩
      walk_at "i"
      refine ⟨p, _, 1, _, rfl, rfl, SqT.of hp, at1 rfl, ?_⟩
      walk_at "i"
      refine ⟨q, l, rfl, SqT.of hq, fun ns p3 hperm hsort hp3 => ?_⟩
      refine .inl ⟨p3, _, rfl, SqL.of upd_same, fun p4 hp4 => ?_⟩
      walk_at "i"
      refine ⟨sz_of (by simp), fun p5 hp5 => ?_⟩
      have s5 := Same.new (o := .tup [.int z, .ref p4]) hp5
      have hll : l.length ≤ 16 := by omega
      refine q1 _ p5 p4 z ns (k2.trans (((Keeps.of (Same.new hp3)).trans (Keeps.of (Same.new hp4))).trans (Keeps.of s5))) upd_same (s5 _ _ upd_same) ⟨?_, fun y hy => ?_⟩ ?_
      · rw [hperm.length_eq]; omega
      · have := hlb y (hperm.mem_iff.mp hy)
        omega
      · have e : (B.n - (0 : Int).toNat : Nat) ≤ 16 := by omega
        omega
end
/-! EShop1 -/
/-! ### the shop -/
def sf (kv : V) (l : Addr) : List (Str × V) := [("kept", kv), ("earlier", .ref l)]
theorem slk_kept {kv : V} {l : Addr} : List.lookup ("kept" : Str) (sf kv l) = some kv := lk_here
theorem slk_earlier {kv : V} {l : Addr} : List.lookup ("earlier" : Str) (sf kv l) = some (.ref l) := by
  unfold sf
  rw [lk_past (by decide +kernel)]
  exact lk_here
theorem slk_none {kv : V} {l : Addr} {x : Str} (h : (["kept", "earlier"] : List Str).all (fun g => !(x == g)) = true) : List.lookup x (sf kv l) = none := by
  simp only [List.all_cons, List.all_nil, Bool.and_true, Bool.and_eq_true, Bool.not_eq_true'] at h
  obtain ⟨h1, h2⟩ := h
  unfold sf
  rw [lk_past h1, lk_past h2]
  rfl
theorem sput_kept {kv v : V} {l : Addr} : putF "kept" v (sf kv l) = sf v l := put_here
def sf1 (kv : V) : List (Str × V) := [("kept", kv)]
theorem sput2 {kv : V} {l : Addr} : putF "earlier" (.ref l) (sf1 kv) = sf kv l := by
  unfold sf1
  rw [put_past (by decide +kernel)]
  rfl
structure ShopAt (C : Addr) (H : Hp) (s l : Addr) (N : Nat) (B : Bx) : Prop where
  ex : ∃ (dx : Addr) (kv : V) (es : List V), H s = some (.ins C dx (sf kv l)) ∧ BoxAt H kv B ∧ BxOk B ∧ H l = some (.lst es) ∧ es.length ≤ N ∧ ∀ e ∈ es, ∃ B', BoxAt H e B' ∧ BxOk B'
/-- all stands but the shop, its list, and memos -/
def Fr (s l : Addr) (H H' : Hp) : Prop := ∀ a o, H a = some o → a ≠ s → a ≠ l → (∀ kvs, o ≠ .dT kvs) → H' a = some o
theorem Fr.of {s l : Addr} {H H' : Hp} (k : Keeps H H') : Fr s l H H' := fun a o h _ _ g => k a o h g
theorem Fr.refl (s l : Addr) (H : Hp) : Fr s l H H := fun _ _ h _ _ _ => h
theorem Fr.trans {s l : Addr} {H H1 H2 : Hp} (a : Fr s l H H1) (b : Fr s l H1 H2) : Fr s l H H2 := fun c o h n1 n2 g => b c o (a c o h n1 n2 g) n1 n2 g
theorem Fr.putS {s l : Addr} {H H' : Hp} (a : Fr s l H H') (o : HO) : Fr s l H (upd H' s o) := fun c u h n1 n2 g => by
  rw [upd_ne n1]
  exact a c u h n1 n2 g
theorem Fr.putL {s l : Addr} {H H' : Hp} (a : Fr s l H H') (o : HO) : Fr s l H (upd H' l o) := fun c u h n1 n2 g => by
  rw [upd_ne n2]
  exact a c u h n1 n2 g
theorem ShopAt.tups {C : Addr} {H H' : Hp} {s l : Addr} {N : Nat} {B : Bx} (h : ShopAt C H s l N B) (f : Fr s l H H') : TupEx H H' := fun a xs e => by
  obtain ⟨dx, kv, es, h1, h2, h3, h4, h5, h6⟩ := h.ex
  exact f a _ e (ne_of e h1 (fun e => by cases e)) (ne_of e h4 (fun e => by cases e)) (fun _ e => by cases e)
theorem ShopAt.keeps {C : Addr} {H H' : Hp} {s l : Addr} {N : Nat} {B : Bx} (h : ShopAt C H s l N B) (k : Keeps H H') : ShopAt C H' s l N B := by
  obtain ⟨dx, kv, es, h1, h2, h3, h4, h5, h6⟩ := h.ex
  exact ⟨dx, kv, es, k _ _ h1 (fun _ e => by cases e), h2.ex k.tups, h3, k _ _ h4 (fun _ e => by cases e), h5, fun e he => by
    obtain ⟨B', g1, g2⟩ := h6 e he
    exact ⟨B', g1.ex k.tups, g2⟩⟩
theorem ShopAt.more {C : Addr} {H : Hp} {s l : Addr} {N M : Nat} {B : Bx} (h : ShopAt C H s l N B) (hm : N ≤ M) : ShopAt C H s l M B := by
  obtain ⟨dx, kv, es, h1, h2, h3, h4, h5, h6⟩ := h.ex
  exact ⟨dx, kv, es, h1, h2, h3, h4, Nat.le_trans h5 hm, h6⟩
theorem ShopAt.ok {C : Addr} {H : Hp} {s l : Addr} {N : Nat} {B : Bx} (h : ShopAt C H s l N B) : BxOk B := by
  obtain ⟨dx, kv, es, h1, h2, h3, h4, h5, h6⟩ := h.ex
  exact h3
def spShopInit (C : Addr) : Sp := fun vs H Q _ => ∃ (s dx : Addr), vs = [.ref s] ∧ H s = some (.ins C dx []) ∧ ∀ H' l, SameX [s] H H' → ShopAt C H' s l 0 ⟨0, [], []⟩ → H l = none → Q .non H'
def spTurn (C : Addr) : Sp := fun vs H Q _ => ∃ (s l : Addr) (N : Nat) (B B' : Bx) (v : V), vs = [.ref s, v] ∧ ShopAt C H s l N B ∧ N < 1000 ∧ BoxAt H v B' ∧ BxOk B' ∧ ∀ H', Fr s l H H' → ShopAt C H' s l (N + 1) B' → Q .non H'
section
variable {P : Program} {w : World} {K : PySem.W.Frag} {mg : Str → Option Value} {base : Heap}
theorem sc_Shop_init : FnScope ["self"] ["self"] (defScope s_Shop_init) := ⟨rfl, rfl, rfl, by decide +kernel, rfl, by decide +kernel, by decide +kernel⟩
theorem m_Shop_init (T : Tx K w mg) : Mak P w K mg base CX0 1 "Shop" (He.ga K "Shop") (spShopInit (He.ga K "Shop")) := by
  refine T.d_Shop_init.mak (T.d_Shop_init.ok0 sc_Shop_init ?_ fun cdv A outer s H vs Q E hr h => ?_) T.mk_Shop T.g_Shop
  · rintro vs H Q E ⟨s, dx, rfl, _⟩
    rfl
  · obtain ⟨s0, dx, rfl, hs, q⟩ := h
    refine ⟨_, pss_cons (ps_fld (pv 0) (pe_tup (pa_cons pe_int (pa_cons (pe_tup pa_nil) (pa_cons (pe_tup pa_nil) pa_nil)))) rfl)
      (pss_one (ps_fld (pv 0) (pe_lst pa_nil) rfl)), ?_⟩
    have cl := T.cl_Shop
    walk_at "i"
    refine ⟨sz_of (by simp), fun m hm => ?_⟩
    walk_at "i"
    refine ⟨sz_of (by simp), fun p hp => ?_⟩
    walk_at "i"
    refine ⟨sz_of (by simp), fun b hb => ?_⟩
    have s1 := Same.new (o := .tup []) hm
    have s2 := Same.new (o := .tup []) hp
    have s3 := Same.new (o := .tup [.int 0, .ref m, .ref p]) hb
    have sA := s1.trans (s2.trans s3)
    have hB : BoxAt (upd (upd (upd H m (.tup [])) p (.tup [])) b (.tup [.int 0, .ref m, .ref p])) (.ref b) ⟨0, [], []⟩ := ⟨b, m, p, [], rfl, upd_same, s3 _ _ (s2 _ _ upd_same), s3 _ _ upd_same, PcsAt.nil _⟩
    generalize upd (upd (upd H m (.tup [])) p (.tup [])) b (.tup [.int 0, .ref m, .ref p]) = H1 at sA hB ⊢
    have hs1 := sA _ _ hs
    walk_at "i"
    refine ⟨s0, _, dx, _, rfl, hs1, cl, T.na_Shop_kept, by decide, ?_⟩
    have e1 : putF "kept" (.ref b) [] = sf1 (.ref b) := rfl
    rw [e1]
    have hB2 : BoxAt (upd H1 s0 (.ins (He.ga K "Shop") dx (sf1 (.ref b)))) (.ref b) ⟨0, [], []⟩ := hB.ex fun a xs e => (KeepLT.ins hs1 _ a xs).2 e
    have sx : SameX [s0] H (upd H1 s0 (.ins (He.ga K "Shop") dx (sf1 (.ref b)))) := (SameX.of sA).put List.mem_cons_self _
    have hs2 : upd H1 s0 (.ins (He.ga K "Shop") dx (sf1 (.ref b))) s0 = some (.ins (He.ga K "Shop") dx (sf1 (.ref b))) := upd_same
    generalize upd H1 s0 (.ins (He.ga K "Shop") dx (sf1 (.ref b))) = H2 at sx hB2 hs2 ⊢
    walk_at "i"
    refine ⟨sz_of (by simp), fun l hl => ?_⟩
    walk_at "i"
    have s4 := Same.new (o := .lst []) hl
    refine ⟨s0, _, dx, _, rfl, s4 _ _ hs2, cl, T.na_Shop_earlier, len1, ?_⟩
    rw [sput2]
    have hls : l ≠ s0 := (ne_of_none hs2 hl).symm
    have hfr : H l = none := by
      cases e : H l with
      | none => rfl
      | some o =>
        rw [sx l (fun hm => hls (List.mem_singleton.mp hm)) o e] at hl
        cases hl
    refine q _ l ((sx.new hfr _).put List.mem_cons_self _) ⟨dx, .ref b, [], upd_same, (hB2.ex (Same.tups s4)).ex (fun a xs e => (KeepLT.ins (s4 _ _ hs2) _ a xs).2 e), ⟨by decide, ⟨.nil, fun _ h => by cases h⟩, by decide, fun _ h => by cases h⟩, ?_, Nat.le_refl _, fun _ h => by cases h⟩ hfr
    rw [upd_ne hls]
    exact upd_same
theorem sc_turn_to : FnScope ["self", "later"] ["self", "later"] (defScope s_Shop_turn_to) := ⟨rfl, rfl, rfl, by decide +kernel, rfl, by decide +kernel, by decide +kernel⟩
theorem m_turn_to (T : Tx K w mg) : Met P w K mg base CX0 1 (He.ga K "Shop") "turn_to" (spTurn (He.ga K "Shop")) := by
  refine T.d_Shop_turn_to.met (T.d_Shop_turn_to.ok0 sc_turn_to ?_ fun cdv A outer s H vs Q E hr h => ?_) T.cl_Shop T.me_Shop_turn_to
  · rintro vs H Q E ⟨s, l, N, B, B', v, rfl, _⟩
    rfl
  · obtain ⟨s0, l, N, B, B', v, rfl, hS, hN, hv, hv2, q⟩ := h
    refine ⟨_, pss_cons (ps_expr (pe_bm PySem.F.plainAttrs_list PySem.F.slot_list_append PySem.F.type_list_append mt_append (pe_fld (pv 0) rfl) (pa_cons (pe_fld (pv 0) rfl) pa_nil)))
      (pss_one (ps_fld (pv 0) (pv 1) rfl)), ?_⟩
    have cl := T.cl_Shop
    obtain ⟨dx, kv, es, h1, h2, h3, h4, h5, h6⟩ := hS.ex
    walk_at "i"
    refine ⟨s0, _, dx, _, _, rfl, h1, cl, T.na_Shop_earlier, slk_earlier, .inl ⟨rfl, _, SqL.of h4⟩, ?_⟩
    walk_at "i"
    refine ⟨s0, _, dx, _, _, rfl, h1, cl, T.na_Shop_kept, slk_kept, ?_⟩
    walk_at "i"
    refine ⟨l, es, kv, rfl, rfl, h4, sz_lt (by omega), ?_⟩
    walk_at "i"
    have nsl : s0 ≠ l := ne_of h1 h4 (fun e => by cases e)
    have hs1 : upd H l (.lst (es ++ [kv])) s0 = some (.ins (He.ga K "Shop") dx (sf kv l)) := by rw [upd_ne nsl]; exact h1
    refine ⟨s0, _, dx, _, rfl, hs1, cl, T.na_Shop_kept, len2, ?_⟩
    rw [sput_kept]
    have tu : TupEx H (upd (upd H l (.lst (es ++ [kv]))) s0 (.ins (He.ga K "Shop") dx (sf v l))) := (TupEx.mutL h4).trans fun a xs e => (KeepLT.ins hs1 _ a xs).2 e
    refine q _ (((Fr.refl _ _ _).putL _).putS _) ⟨dx, v, es ++ [kv], upd_same, hv.ex tu, hv2, ?_, by rw [List.length_append, List.length_singleton]; omega, fun e he => ?_⟩
    · rw [upd_ne nsl.symm]
      exact upd_same
    · rcases List.mem_append.mp he with he | he
      · obtain ⟨B2, g1, g2⟩ := h6 e he
        exact ⟨B2, g1.ex tu, g2⟩
      · rw [List.mem_singleton.mp he]
        exact ⟨B, h2.ex tu, h3⟩
end
/-! EShop2 -/
theorem catA_of {K : PySem.W.Frag} {a b : Addr} {xs ys : List V} {H : Hp} {Q : VK} (ha : H a = some (.tup xs)) (hb : H b = some (.tup ys)) (hz : xs.length + ys.length ≤ sizeLine) (q : ∀ p H', Same H H' → H' p = some (.tup (xs ++ ys)) → Q (.ref p) H') : rCatA K (.ref a) (.ref b) H Q := by
  refine ⟨a, b, xs, ys, rfl, rfl, SqT.of ha, SqT.of hb, hz, fun e => ?_, fun _ e => ?_, fun _ _ p hp => q p _ (Same.new hp) upd_same⟩
  · subst e
    exact q b H (Same.refl _) hb
  · subst e
    exact q a H (Same.refl _) (by rw [List.append_nil]; exact ha)
theorem Lot.up {n m : Int} {l : List Int} (h : Lot n l) (hm : n ≤ m) : Lot m l := ⟨h.1, fun x hx => by have := h.2 x hx; omega⟩
theorem Lot.snoc {n : Nat} {l : List Int} (h : Lot n l) : Lot ((n + 1 : Nat) : Int) (l ++ [(n : Int)]) := ⟨sorted_lt h.1 fun j hj => (h.2 j hj).2, fun x hx => by
  rcases List.mem_append.mp hx with hx | hx
  · have := h.2 x hx; omega
  · rw [List.mem_singleton.mp hx]; omega⟩
theorem PcOk.up {n m : Nat} {x : List Int × Int} (h : PcOk n x) (hm : n ≤ m) : PcOk m x := ⟨h.1.up (by omega), h.2⟩
def PcGood (B : Bx) (l : List Int) (w : Int) : Prop := B.pcs.length < 32 ∧ Lot B.n l ∧ l ≠ [] ∧ -1000000000000 ≤ w ∧ w ≤ 1000000000000
def spPutThing (K : PySem.W.Frag) (C : Addr) : Sp := fun vs H Q E => ∃ (s l : Addr) (N : Nat) (B : Bx) (must : Bool), vs = [.ref s, .bl must] ∧ ShopAt C H s l N B ∧ N < 1000 ∧ (∀ H' B', Fr s l H H' → ShopAt C H' s l (N + 1) B' → B'.n = B.n + 1 → B'.pcs = B.pcs → Q (.int B.n) H') ∧ (B.n = 16 → ∀ H', Keeps H H' → E (.ref (He.ga K "TooMany")) none H')
def spPutPiece (K : PySem.W.Frag) (C : Addr) : Sp := fun vs H Q E => ∃ (s l : Addr) (N : Nat) (B : Bx) (q : Addr) (ls : List Int) (wt : Int), vs = [.ref s, .ref q, .int wt] ∧ ShopAt C H s l N B ∧ N < 1000 ∧ H q = some (.tup (ls.map V.int)) ∧ ls.length ≤ 100000 ∧
  (∀ H' B', Fr s l H H' → ShopAt C H' s l (N + 1) B' → B'.n = B.n → B'.pcs.length = B.pcs.length + 1 → Q (.int B.pcs.length) H') ∧ (¬ PcGood B ls wt → ∀ e ∈ (["TooMany", "NoThing", "NoWeight"] : List Str), ∀ H', Keeps H H' → E (.ref (He.ga K e)) none H')
def spLook (K : PySem.W.Frag) (C : Addr) : Sp := fun vs H Q E => ∃ (s l : Addr) (N : Nat) (B : Bx) (t : Int), vs = [.ref s, .int t] ∧ ShopAt C H s l N B ∧ (0 ≤ t → t < B.n → Q .non H) ∧ ∀ H', Keeps H H' → E (.ref (He.ga K "NoThing")) none H'
section
variable {P : Program} {w : World} {K : PySem.W.Frag} {mg : Str → Option Value} {base : Heap}
theorem sc_put_thing : FnScope ["self", "must", "things", "mays", "pieces"] ["self", "must"] (defScope s_Shop_put_thing) := ⟨rfl, rfl, rfl, by decide +kernel, rfl, by decide +kernel, by decide +kernel⟩
theorem m_put_thing (T : Tx K w mg) : Met P w K mg base (L2.CX P w) 2 (He.ga K "Shop") "put_thing" (spPutThing K (He.ga K "Shop")) := by
  have c1 : Met P w K mg base CX0 1 (He.ga K "Shop") "turn_to" (spTurn (He.ga K "Shop")) := m_turn_to T
  refine T.d_Shop_put_thing.met (T.d_Shop_put_thing.ok1 sc_put_thing ?_ fun cdv A outer s H vs Q E hr h => ?_) T.cl_Shop T.me_Shop_put_thing
  · rintro vs H Q E ⟨s, l, N, B, must, rfl, _⟩
    rfl
  · obtain ⟨s0, l, N, B, must, rfl, hS, hN, q, qe⟩ := h
    refine ⟨_, pss_cons (ps_asg (pe_fld (pv 0) rfl) (pg_tup (by rfl) (pgs_cons (pg_name (i := 2) sc_put_thing.nd rfl (.inl rfl)) (pgs_cons (pg_name (i := 3) sc_put_thing.nd rfl (.inl rfl)) (pgs_cons (pg_name (i := 4) sc_put_thing.nd rfl (.inl rfl)) pgs_nil)))))
      (pss_cons (ps_if (pt_cmpR op_eq (pv 2) (pe_gc (by rfl) T.i_MOST_THINGS_boxes) (nomark _))
          (pss_one (ps_raise rfl (takes_of rfl rfl rfl rfl) (pmk_own PySem.F.excBase_ValueError T.ex_TooMany.1 T.g_TooMany T.ex_TooMany.2.1 (raises_own T.ex_TooMany.2.2.1 T.ex_TooMany.2.2.2) rfl))) pss_nil)
      (PSs.nox (pss_cons (ps_cut (ps_if (pt_not (pt_val (pv 1))) (pss_one (ps_set (i := 3) sc_put_thing.nd rfl (.inl rfl) (pe_op op_catA (pv 3) (pe_tup (pa_cons (pv 2) pa_nil))))) pss_nil))
      (pss_cons (ps_expr (pe_m c1 hr (by decide) (pv 0) (pa_cons (pe_tup (pa_cons (pe_op op_add (pv 2) pe_int) (pa_cons (pv 3) (pa_cons (pv 4) pa_nil)))) pa_nil)))
      (pss_one (ps_ret (pv 2))))))), ?_⟩
    have cl := T.cl_Shop
    obtain ⟨dx, kv, es, h1, ⟨b, m, p, ps, rfl, hb, hm, hp, hps⟩, hok, h4, h5, h6⟩ := hS.ex
    have hn := hok.n
    walk_at "i"
    refine ⟨s0, _, dx, _, _, rfl, h1, cl, T.na_Shop_kept, slk_kept, ?_⟩
    refine g_un3 (SqT.of hb) ?_
    walk_at "i"
    refine g_dec (fun h => ?_) (fun h => ?_)
    · walk_at "i"
      have e : B.n = 16 := by have := V.int.inj h; omega
      exact qe e _ (Keeps.refl _)
    have hn2 : B.n < 16 := by
      have : (B.n : Int) ≠ 16 := fun e => h (congrArg V.int e)
      omega
    walk_at "i"
    refine g_cut (fun σ' H' => ∃ (m' : Addr) (ms : List Int), σ' = [some (.ref s0), some (.bl must), some (.int B.n), some (.ref m'), some (.ref p)] ∧ Same H H' ∧ H' m' = some (.tup (ms.map V.int)) ∧ Lot ((B.n + 1 : Nat) : Int) ms) ?_ ?_
    · walk_at "i"
      cases must with
      | true =>
        refine L2.iteF ?_
        walk_at "i"
        exact ⟨m, B.mays, rfl, Same.refl _, hm, hok.mays.up (by omega)⟩
      | false =>
        refine L2.iteT ?_
        walk_at "i"
        refine ⟨sz_of (by simp), fun p5 hp5 => ?_⟩
        have s5 := Same.new (o := .tup [.int B.n]) hp5
        refine catA_of (s5 _ _ hm) upd_same (by rw [List.length_map, List.length_singleton]; have := hok.mays.len; exact sz_of (by omega)) fun p6 H6 s6 h66 => ?_
        walk_at "i"
        exact ⟨p6, B.mays ++ [(B.n : Int)], rfl, s5.trans s6, by rw [h66, List.map_append]; rfl, hok.mays.snoc⟩
    · rintro σ' H1 ⟨m', ms, rfl, s1, hm', hlot⟩
      walk_at "i"
      refine ⟨s0, dx, _, rfl, s1 _ _ h1, slk_none (by decide +kernel), ?_⟩
      walk_at "i"
      refine ⟨sz_of (by simp), fun b5 hb5 => ?_⟩
      have s5 := Same.new (o := .tup [.int ((B.n : Int) + 1), .ref m', .ref p]) hb5
      have sA := s1.trans s5
      refine ⟨s0, l, N, B, ⟨B.n + 1, ms, B.pcs⟩, .ref b5, rfl, hS.keeps (Keeps.of sA), hN, ⟨b5, m', p, ps, rfl, ?_, s5 _ _ hm', sA _ _ hp, hps.ex (Same.tups sA)⟩, ⟨by show B.n + 1 ≤ 16; omega, hlot, hok.len, fun x hx => (hok.pcs x hx).up (Nat.le_succ _)⟩, fun H6 f6 hS6 => ?_⟩
      · rw [upd_same]
        show some (HO.tup [.int ((B.n : Int) + 1), .ref m', .ref p]) = some (HO.tup [.int ((B.n + 1 : Nat) : Int), .ref m', .ref p])
        rw [Int.natCast_add]
        rfl
      · walk_at "i"
        exact q _ _ ((Fr.of (Keeps.of sA)).trans f6) hS6 rfl rfl
theorem sc_put_piece : FnScope ["self", "held", "weight", "things", "mays", "pieces"] ["self", "held", "weight"] (defScope s_Shop_put_piece) := ⟨rfl, rfl, rfl, by decide +kernel, rfl, by decide +kernel, by decide +kernel⟩
theorem m_put_piece (T : Tx K w mg) : Met P w K mg base (L2.CX P w) 4 (He.ga K "Shop") "put_piece" (spPutPiece K (He.ga K "Shop")) := by
  have c1 : Met P w K mg base CX0 1 (He.ga K "Shop") "turn_to" (spTurn (He.ga K "Shop")) := m_turn_to T
  have c2 : Cal P w K mg base CX0 2 "is_lot" spLot := c_is_lot T
  have c3 : Cal P w K mg base CX0 3 "is_weight" spWeight := c_is_weight T
  refine T.d_Shop_put_piece.met (T.d_Shop_put_piece.ok1 sc_put_piece ?_ fun cdv A outer s H vs Q E hr h => ?_) T.cl_Shop T.me_Shop_put_piece
  · rintro vs H Q E ⟨s, l, N, B, q, ls, wt, rfl, _⟩
    rfl
  · obtain ⟨s0, l, N, B, hq, ls, wt, rfl, hS, hN, hh, hlz, q, qe⟩ := h
    refine ⟨_, pss_cons (ps_asg (pe_fld (pv 0) rfl) (pg_tup (by rfl) (pgs_cons (pg_name (i := 3) sc_put_piece.nd rfl (.inl rfl)) (pgs_cons (pg_name (i := 4) sc_put_piece.nd rfl (.inl rfl)) (pgs_cons (pg_name (i := 5) sc_put_piece.nd rfl (.inl rfl)) pgs_nil)))))
      (pss_cons (ps_if (pt_cmpR op_eq (pe_callB call_len (by rfl) T.z_len PySem.boot_len (pa_cons (pv 5) pa_nil)) (pe_gc (by rfl) T.i_MOST_PIECES) (nomark _))
          (pss_one (ps_raise rfl (takes_of rfl rfl rfl rfl) (pmk_own PySem.F.excBase_ValueError T.ex_TooMany.1 T.g_TooMany T.ex_TooMany.2.1 (raises_own T.ex_TooMany.2.2.1 T.ex_TooMany.2.2.2) rfl))) pss_nil)
      (pss_cons (ps_if (PW.pt (pw_or (pt_not (pt_val (pe_c c2 hr (by decide) (by rfl) (pa_cons (pv 1) (pa_cons (pv 3) pa_nil))))) (pw_or1 (pt_cmpR (op_eqE hr.units0) (pv 1) (pe_tup pa_nil) (nomark _)))))
          (pss_one (ps_raise rfl (takes_of rfl rfl rfl rfl) (pmk_own PySem.F.excBase_ValueError T.ex_NoThing.1 T.g_NoThing T.ex_NoThing.2.1 (raises_own T.ex_NoThing.2.2.1 T.ex_NoThing.2.2.2) rfl))) pss_nil)
      (pss_cons (ps_if (pt_not (pt_val (pe_c c3 hr (by decide) (by rfl) (pa_cons (pv 2) pa_nil))))
          (pss_one (ps_raise rfl (takes_of rfl rfl rfl rfl) (pmk_own PySem.F.excBase_ValueError T.ex_NoWeight.1 T.g_NoWeight T.ex_NoWeight.2.1 (raises_own T.ex_NoWeight.2.2.1 T.ex_NoWeight.2.2.2) rfl))) pss_nil)
      (PSs.nox (pss_cons (ps_expr (pe_m c1 hr (by decide) (pv 0) (pa_cons (pe_tup (pa_cons (pv 3) (pa_cons (pv 4) (pa_cons (pe_op op_catA (pv 5) (pe_tup (pa_cons (pe_tup (pa_cons (pv 1) (pa_cons (pv 2) pa_nil))) pa_nil))) pa_nil)))) pa_nil)))
      (pss_one (ps_ret (pe_callB call_len (by rfl) T.z_len PySem.boot_len (pa_cons (pv 5) pa_nil))))))))), ?_⟩
    have cl := T.cl_Shop
    obtain ⟨dx, kv, es, h1, ⟨b, m, p, ps, rfl, hb, hm, hp, hps⟩, hok, h4, h5, h6⟩ := hS.ex
    have hn := hok.n
    have hlen := hok.len
    have hpl := hps.1
    walk_at "i"
    refine ⟨s0, _, dx, _, _, rfl, h1, cl, T.na_Shop_kept, slk_kept, ?_⟩
    refine g_un3 (SqT.of hb) ?_
    walk_at "i"
    refine ⟨.ref p, _, rfl, .inr ⟨_, SqT.of hp, rfl⟩, ?_⟩
    walk_at "i"
    refine g_dec (fun h => ?_) (fun h => ?_)
    · walk_at "i"
      have e := V.int.inj h
      exact qe (fun g => by have := g.1; omega) "TooMany" (by decide +kernel) _ (Keeps.refl _)
    have hl32 : B.pcs.length < 32 := by
      have : (ps.length : Int) ≠ 32 := fun e => h (congrArg V.int e)
      omega
    walk_at "i"
    refine ⟨hq, ls, B.n, rfl, hh, ?_⟩
    walk_at "i"
    refine g_nb (fun hlb => ?_) (fun hlb => ?_)
    · walk_at "i"
      exact qe (fun g => by rw [lotB_lot.mpr g.2.1] at hlb; cases hlb) "NoThing" (by decide +kernel) _ (Keeps.refl _)
    have hlot := lotB_lot.mp hlb
    walk_at "i"
    refine ⟨sz_of (by simp), fun p0 hp0 => ?_⟩
    have s0' := Same.new (o := .tup []) hp0
    refine ⟨hq, p0, _, _, rfl, rfl, .inr ⟨SqT.of (s0' _ _ hh), SqT.of upd_same⟩, .inr rfl, ?_⟩
    have he : (if (false : Bool) = true then !decide (ls.map V.int = []) else decide (ls.map V.int = [])) = decide (ls = []) := by simp
    rw [he]
    walk_at "i"
    refine g_dec (fun hem => ?_) (fun hem => ?_)
    · walk_at "i"
      exact qe (fun g => g.2.2.1 hem) "NoThing" (by decide +kernel) _ (Keeps.of s0')
    walk_at "i"
    refine ⟨wt, rfl, ?_⟩
    walk_at "i"
    refine g_nb (fun hwb => ?_) (fun hwb => ?_)
    · walk_at "i"
      exact qe (fun g => by
        rw [decide_eq_true g.2.2.2.1, decide_eq_true g.2.2.2.2] at hwb
        cases hwb) "NoWeight" (by decide +kernel) _ (Keeps.of s0')
    rw [Bool.and_eq_true, decide_eq_true_eq, decide_eq_true_eq] at hwb
    walk_at "i"
    refine ⟨s0, dx, _, rfl, s0' _ _ h1, slk_none (by decide +kernel), ?_⟩
    walk_at "i"
    refine ⟨sz_of (by simp), fun p5 hp5 => ?_⟩
    have s5 := Same.new (o := .tup [.ref hq, .int wt]) hp5
    walk_at "i"
    refine ⟨sz_of (by simp), fun p6 hp6 => ?_⟩
    have s6 := Same.new (o := .tup [.ref p5]) hp6
    have s06 := s0'.trans (s5.trans s6)
    have h55 := s6 _ _ (upd_same (H := upd H p0 (.tup [])) (a := p5) (o := .tup [.ref hq, .int wt]))
    have h66 : upd (upd (upd H p0 (.tup [])) p5 (.tup [.ref hq, .int wt])) p6 (.tup [.ref p5]) p6 = some (.tup [.ref p5]) := upd_same
    generalize upd (upd (upd H p0 (.tup [])) p5 (.tup [.ref hq, .int wt])) p6 (.tup [.ref p5]) = H6 at s06 h55 h66 ⊢
    refine catA_of (s06 _ _ hp) h66 (by rw [List.length_singleton]; exact sz_of (by omega)) fun p7 H7 s7 h77 => ?_
    walk_at "i"
    refine ⟨sz_of (by simp), fun b8 hb8 => ?_⟩
    have s8 := Same.new (o := .tup [.int B.n, .ref m, .ref p7]) hb8
    have sA := s06.trans (s7.trans s8)
    refine ⟨s0, l, N, B, ⟨B.n, B.mays, B.pcs ++ [(ls, wt)]⟩, .ref b8, rfl, hS.keeps (Keeps.of sA), hN, ⟨b8, m, p7, ps ++ [.ref p5], rfl, upd_same, sA _ _ hm, s8 _ _ h77, (hps.ex (Same.tups sA)).snoc ⟨p5, hq, rfl, s8 _ _ (s7 _ _ h55), sA _ _ hh⟩⟩, ⟨hn, hok.mays, ?_, fun x hx => ?_⟩, fun H9 f9 hS9 => ?_⟩
    · show (B.pcs ++ [(ls, wt)]).length ≤ 32
      rw [List.length_append, List.length_singleton]
      omega
    · rcases List.mem_append.mp hx with hx | hx
      · exact hok.pcs x hx
      · rw [List.mem_singleton.mp hx]
        exact ⟨hlot, hem, hwb⟩
    · walk_at "i"
      have fA := (Fr.of (s := s0) (l := l) (Keeps.of sA)).trans f9
      refine ⟨.ref p, _, rfl, .inr ⟨_, SqT.of (hS.tups fA _ _ hp), rfl⟩, ?_⟩
      rw [hpl]
      exact q _ _ fA hS9 rfl (by show (B.pcs ++ [(ls, wt)]).length = _; rw [List.length_append]; rfl)
theorem sc_look : FnScope ["self", "thing"] ["self", "thing"] (defScope s_Shop_look_for_thing) := ⟨rfl, rfl, rfl, by decide +kernel, rfl, by decide +kernel, by decide +kernel⟩
theorem m_look (T : Tx K w mg) : Met P w K mg base (L2.CX P w) 3 (He.ga K "Shop") "look_for_thing" (spLook K (He.ga K "Shop")) := by
  have c1 : Cal P w K mg base CX0 2 "is_upto" spUpto := c_is_upto T
  refine T.d_Shop_look_for_thing.met (T.d_Shop_look_for_thing.ok1 sc_look ?_ fun cdv A outer s H vs Q E hr h => ?_) T.cl_Shop T.me_Shop_look_for_thing
  · rintro vs H Q E ⟨s, l, N, B, t, rfl, _⟩
    rfl
  · obtain ⟨s0, l, N, B, t, rfl, hS, q, qe⟩ := h
    refine ⟨_, pss_one (ps_if (pt_not (pt_val (pe_c c1 hr (by decide) (by rfl) (pa_cons (pv 1) (pa_cons pe_int (pa_cons (pe_op op_sub (pe_ix ix_tup (pe_fld (pv 0) rfl) pe_int (fun _ _ => rfl)) pe_int) pa_nil))))))
          (pss_one (ps_raise rfl (takes_of rfl rfl rfl rfl) (pmk_own PySem.F.excBase_ValueError T.ex_NoThing.1 T.g_NoThing T.ex_NoThing.2.1 (raises_own T.ex_NoThing.2.2.1 T.ex_NoThing.2.2.2) rfl))) pss_nil), ?_⟩
    have cl := T.cl_Shop
    obtain ⟨dx, kv, es, h1, ⟨b, m, p, ps, rfl, hb, hm, hp, hps⟩, hok, h4, h5, h6⟩ := hS.ex
    walk_at "i"
    refine ⟨s0, _, dx, _, _, rfl, h1, cl, T.na_Shop_kept, slk_kept, ?_⟩
    walk_at "i"
    refine ⟨b, _, 0, _, rfl, rfl, SqT.of hb, at0 rfl, ?_⟩
    walk_at "i"
    refine ⟨t, 0, _, rfl, ?_⟩
    walk_at "i"
    refine g_nb (fun hb => ?_) (fun hb => ?_)
    · walk_at "i"
      exact qe _ (Keeps.refl _)
    · rw [Bool.and_eq_true, decide_eq_true_eq, decide_eq_true_eq] at hb
      walk_at "i"
      exact q hb.1 (by omega)
end
/-! EShop3 -/
def refs : List Str := ["TooMany", "NoThing", "NoPiece", "NoWeight", "Held", "NoDeed", "NoCovering"]
/-- what a caller wants of refusals: the box is as it was -/
def RefE (K : PySem.W.Frag) (H : Hp) (E : XK) : Prop := ∀ e ∈ refs, ∀ H', Keeps H H' → E (.ref (He.ga K e)) none H'
theorem RefE.of {K : PySem.W.Frag} {H : Hp} {E : XK} (r : RefE K H E) {e : Str} {H' : Hp} (k : Keeps H H') (h : e ∈ refs := by decide +kernel) : E (.ref (He.ga K e)) none H' := r e h H' k
theorem RefE.keep {K : PySem.W.Frag} {H H1 : Hp} {E : XK} (r : RefE K H E) (k : Keeps H H1) : RefE K H1 E := fun e h H' k' => r e h H' (k.trans k')
def spDeed1 (K : PySem.W.Frag) (C : Addr) : Sp := fun vs H Q E => ∃ (s l : Addr) (N : Nat) (B : Bx) (t : Int), vs = [.ref s, .int t] ∧ ShopAt C H s l N B ∧ N < 1000 ∧ (∀ H' B', Fr s l H H' → ShopAt C H' s l (N + 1) B' → Q .non H') ∧ RefE K H E
def spDeed0 (K : PySem.W.Frag) (C : Addr) : Sp := fun vs H Q E => ∃ (s l : Addr) (N : Nat) (B : Bx), vs = [.ref s] ∧ ShopAt C H s l N B ∧ N < 1000 ∧ (∀ H' B', Fr s l H H' → ShopAt C H' s l (N + 1) B' → Q .non H') ∧ RefE K H E
theorem Lot.filter {n : Int} {l : List Int} (h : Lot n l) (p : Int → Bool) : Lot n (l.filter p) := ⟨h.1.filter _, fun x hx => h.2 x (List.mem_filter.mp hx).1⟩
theorem inV_int (t : Int) (l : List Int) : inV (.int t) (l.map V.int) = decide (t ∈ l) := by
  unfold inV
  rw [Bool.eq_iff_iff, decide_eq_true_eq, List.any_eq_true]
  constructor
  · rintro ⟨y, hy, h⟩
    obtain ⟨x, hx, rfl⟩ := List.mem_map.mp hy
    have e : x = t := by
      have : (x == t) = true := h
      exact eq_of_beq this
    rw [← e]
    exact hx
  · intro h
    exact ⟨.int t, List.mem_map.mpr ⟨t, h, rfl⟩, show (t == t) = true from beq_self_eq_true t⟩
theorem sort_lot {n : Int} {l ns : List Int} (hl : Lot n l) {t : Int} (ht : 0 ≤ t ∧ t < n) (hn : t ∉ l) (hp : ns.Perm (l ++ [t])) (hs : ns.Pairwise (· ≤ ·)) : Lot n ns := by
  have nd : (l ++ [t]).Nodup := by
    unfold List.Nodup
    rw [List.pairwise_append]
    exact ⟨hl.1.imp fun {a b} h => by omega, by simp, fun a ha b hb e => hn (by rw [← List.mem_singleton.mp hb, ← e]; exact ha)⟩
  have nd2 : ns.Nodup := hp.nodup_iff.mpr nd
  refine ⟨(hs.and nd2).imp fun {a b} h => by have h1 := h.1; have h2 : a ≠ b := h.2; omega, fun x hx => ?_⟩
  rcases List.mem_append.mp (hp.mem_iff.mp hx) with h | h
  · exact hl.2 x h
  · rw [List.mem_singleton.mp h]
    exact ht
theorem slA_of {K : PySem.W.Frag} {a : Addr} {xs : List V} {lo hi : Option Int} {H : Hp} {Q : VK} (ha : H a = some (.tup xs)) (q : ∀ p H', Same H H' → H' p = some (.tup (cutV xs lo hi)) → Q (.ref p) H') : rSlA K (.ref a) lo hi H Q := by
  refine ⟨a, xs, rfl, SqT.of ha, fun h => q a H (Same.refl _) ?_, fun _ p hp => q p _ (Same.new hp) upd_same⟩
  rw [ha]
  unfold cutV
  rw [h.1, h.2, List.drop_zero, Nat.sub_zero, List.take_length]
theorem cut_to (xs : List V) (k : Nat) : cutV xs none (some (k : Int)) = xs.take k := by
  unfold cutV
  have h2 : HT.sIx xs.length 0 none = 0 := rfl
  rw [h2, HT.sIx_nat, List.drop_zero, Nat.sub_zero]
  by_cases c : k ≤ xs.length
  · rw [Nat.min_eq_left c]
  · rw [Nat.min_eq_right (by omega), List.take_length, List.take_of_length_le (by omega)]
section
variable {P : Program} {w : World} {K : PySem.W.Frag} {mg : Str → Option Value} {base : Heap}
theorem sc_turn_thing : FnScope ["self", "thing", "things", "mays", "pieces", "may"] ["self", "thing"] (defScope s_Shop_turn_thing) := ⟨rfl, rfl, rfl, by decide +kernel, rfl, by decide +kernel, by decide +kernel⟩
theorem m_turn_thing (T : Tx K w mg) : Met P w K mg base (L2.CX P w) 4 (He.ga K "Shop") "turn_thing" (spDeed1 K (He.ga K "Shop")) := by
  have c1 : Met P w K mg base CX0 1 (He.ga K "Shop") "turn_to" (spTurn (He.ga K "Shop")) := m_turn_to T
  have c2 : Met P w K mg base (L2.CX P w) 3 (He.ga K "Shop") "look_for_thing" (spLook K (He.ga K "Shop")) := m_look T
  refine T.d_Shop_turn_thing.met (T.d_Shop_turn_thing.ok1 sc_turn_thing ?_ fun cdv A outer s H vs Q E hr h => ?_) T.cl_Shop T.me_Shop_turn_thing
  · rintro vs H Q E ⟨s, l, N, B, t, rfl, _⟩
    rfl
  · obtain ⟨s0, l, N, B, t, rfl, hS, hN, q, qe⟩ := h
    refine ⟨_, pss_cons (ps_expr (pe_mX c2 hr (by decide) (passes_call (takes_of rfl rfl rfl rfl) fun _ _ _ _ h => h) (pv 0) (pa_cons (pv 1) pa_nil)))
      (PSs.nox (pss_cons (ps_asg (pe_fld (pv 0) rfl) (pg_tup (by rfl) (pgs_cons (pg_name (i := 2) sc_turn_thing.nd rfl (.inl rfl)) (pgs_cons (pg_name (i := 3) sc_turn_thing.nd rfl (.inl rfl)) (pgs_cons (pg_name (i := 4) sc_turn_thing.nd rfl (.inl rfl)) pgs_nil)))))
      (pss_cons (ps_cut (ps_if (pt_cmpR op_in (pv 1) (pv 3) (by rfl))
          (pss_one (ps_set (i := 3) sc_turn_thing.nd rfl (.inl rfl) (pe_tupleOf (by rfl) T.z_tuple (pe_lc (own := [("may", 5)]) (g := gName 5) (tt := tTest (tOp rNe (tVar 5) (tVar 1))) (te := tVar 5) (by rfl) sc_turn_thing.nd (pi_tup (pv 3)) (blkOk_by (N := ["self", "thing", "things", "mays", "pieces", "may"]) (sc := defScope s_Shop_turn_thing) (by decide +kernel))
              (fun _ _ _ _ _ => pg_name sc_turn_thing.nd rfl (.inl rfl)) (fun _ _ _ _ _ => pts_one (pt_cmpR op_ne (pv 5) (pv 1) (nomark _))) (fun s1 H1 C1 cl1 fp1 => pv 5)))))
          (pss_one (ps_set (i := 3) sc_turn_thing.nd rfl (.inl rfl) (pe_tupleOf (by rfl) T.z_tuple (pe_callB cr_sortedTI (by rfl) T.z_sorted (by decide +kernel) (pa_cons (pe_op op_catA (pv 3) (pe_tup (pa_cons (pv 1) pa_nil))) pa_nil)))))))
      (pss_one (ps_expr (pe_m c1 hr (by decide) (pv 0) (pa_cons (pe_tup (pa_cons (pv 2) (pa_cons (pv 3) (pa_cons (pv 4) pa_nil)))) pa_nil))))))), ?_⟩
    have cl := T.cl_Shop
    obtain ⟨dx, kv, es, h1, ⟨b, m, p, ps, rfl, hb, hm, hp, hps⟩, hok, h4, h5, h6⟩ := hS.ex
    have hn := hok.n
    walk_at "i"
    refine ⟨s0, dx, _, rfl, h1, slk_none (by decide +kernel), ?_⟩
    walk_at "i"
    refine ⟨s0, l, N, B, t, rfl, hS, fun t0 t1 => ?_, fun H' k => qe.of k⟩
    walk_at "i"
    refine ⟨s0, _, dx, _, _, rfl, h1, cl, T.na_Shop_kept, slk_kept, ?_⟩
    refine g_un3 (SqT.of hb) ?_
    walk_at "i"
    refine g_cut (fun σ' H' => ∃ (m' : Addr) (ms : List Int) (u5 : Option V), σ' = [some (.ref s0), some (.int t), some (.int B.n), some (.ref m'), some (.ref p), u5] ∧ Same H H' ∧ H' m' = some (.tup (ms.map V.int)) ∧ Lot B.n ms) ?_ ?_
    · walk_at "i"
      refine ⟨m, _, rfl, .inr (SqT.of hm), rfl, flat_ints _, ?_⟩
      rw [inV_int]
      walk_at "i"
      refine g_dec (fun h => ?_) (fun h => ?_)
      · walk_at "i"
        refine g_tp ?_
        walk_at "i"
        refine ⟨m, rfl, ⟨_, SqT.of hm⟩, fun D hD => lc_gen walk_tup hD (by rw [List.length_map]; have := hok.mays.len; omega) (fun i acc H' => ∃ js : List Int, acc = js.map V.int ∧ js = (B.mays.take i).filter fun x => !decide (x = t)) ⟨[], rfl, rfl⟩ (fun H' k => SqT.of (k _ _ hm)) (fun i y acc H6 H7 hj s6 hd6 hR y1 Qc Qn kc kn => ?_) (fun acc H6 s6 d6 hR => ?_)⟩
        · obtain ⟨rfl, hy⟩ := y1
          obtain ⟨x, hx, rfl⟩ := map_at hy
          obtain ⟨js, rfl, rfl⟩ := hR
          walk_at "i"
          refine ⟨rfl, ?_⟩
          walk_at "i"
          refine g_ndec (fun e => ?_) (fun e => ?_)
          · have ne : ¬ x = t := fun h => e (congrArg V.int h)
            walk_at "i"
            refine kc _ _ (Same.refl _) ⟨(B.mays.take i).filter (fun x => !decide (x = t)) ++ [x], by simp, ?_⟩
            rw [take_at hx, List.filter_append, List.filter_cons_of_pos (by simp [ne])]
            rfl
          · have ye : x = t := V.int.inj e
            refine kn _ (Same.refl _) ⟨_, rfl, ?_⟩
            rw [take_at hx, List.filter_append, List.filter_cons_of_neg (by simp [ye])]
            simp
        · obtain ⟨js, rfl, ejs⟩ := hR
          rw [List.length_map, List.take_length] at ejs
          walk_at "i"
          refine .inl ⟨D, _, rfl, SqL.of d6, fun p7 hp7 => ?_⟩
          walk_at "i"
          exact ⟨p7, js, _, rfl, s6.trans (Same.new hp7), upd_same, by rw [ejs]; exact hok.mays.filter _⟩
      · walk_at "i"
        refine ⟨sz_of (by simp), fun p5 hp5 => ?_⟩
        have s5 := Same.new (o := .tup [.int t]) hp5
        refine catA_of (s5 _ _ hm) upd_same (by rw [List.length_map, List.length_singleton]; have := hok.mays.len; exact sz_of (by omega)) fun p6 H6 s6 h66 => ?_
        walk_at "i"
        have e6 : H6 p6 = some (.tup ((B.mays ++ [t]).map V.int)) := by rw [h66, List.map_append]; rfl
        refine ⟨p6, _, rfl, SqT.of e6, fun ns p7 hperm hsort hp7 => ?_⟩
        refine .inl ⟨p7, _, rfl, SqL.of upd_same, fun p8 hp8 => ?_⟩
        walk_at "i"
        exact ⟨p8, ns, _, rfl, s5.trans (s6.trans ((Same.new hp7).trans (Same.new hp8))), upd_same, sort_lot hok.mays ⟨t0, t1⟩ h hperm hsort⟩
    · rintro σ' H1 ⟨m', ms, u5, rfl, s1, hm', hlot⟩
      walk_at "i"
      refine ⟨s0, dx, _, rfl, s1 _ _ h1, slk_none (by decide +kernel), ?_⟩
      walk_at "i"
      refine ⟨sz_of (by simp), fun b5 hb5 => ?_⟩
      have s5 := Same.new (o := .tup [.int (B.n : Int), .ref m', .ref p]) hb5
      have sA := s1.trans s5
      refine ⟨s0, l, N, B, ⟨B.n, ms, B.pcs⟩, .ref b5, rfl, hS.keeps (Keeps.of sA), hN, ⟨b5, m', p, ps, rfl, upd_same, s5 _ _ hm', sA _ _ hp, hps.ex (Same.tups sA)⟩, ⟨hn, hlot, hok.len, hok.pcs⟩, fun H6 f6 hS6 => ?_⟩
      walk_at "i"
      exact q _ _ ((Fr.of (Keeps.of sA)).trans f6) hS6
theorem sc_take_piece : FnScope ["self", "piece", "things", "mays", "pieces"] ["self", "piece"] (defScope s_Shop_take_piece) := ⟨rfl, rfl, rfl, by decide +kernel, rfl, by decide +kernel, by decide +kernel⟩
theorem m_take_piece (T : Tx K w mg) : Met P w K mg base (L2.CX P w) 4 (He.ga K "Shop") "take_piece" (spDeed1 K (He.ga K "Shop")) := by
  have c1 : Met P w K mg base CX0 1 (He.ga K "Shop") "turn_to" (spTurn (He.ga K "Shop")) := m_turn_to T
  have c2 : Cal P w K mg base CX0 2 "is_upto" spUpto := c_is_upto T
  refine T.d_Shop_take_piece.met (T.d_Shop_take_piece.ok1 sc_take_piece ?_ fun cdv A outer s H vs Q E hr h => ?_) T.cl_Shop T.me_Shop_take_piece
  · rintro vs H Q E ⟨s, l, N, B, t, rfl, _⟩
    rfl
  · obtain ⟨s0, l, N, B, t, rfl, hS, hN, q, qe⟩ := h
    refine ⟨_, pss_cons (ps_asg (pe_fld (pv 0) rfl) (pg_tup (by rfl) (pgs_cons (pg_name (i := 2) sc_take_piece.nd rfl (.inl rfl)) (pgs_cons (pg_name (i := 3) sc_take_piece.nd rfl (.inl rfl)) (pgs_cons (pg_name (i := 4) sc_take_piece.nd rfl (.inl rfl)) pgs_nil)))))
      (pss_cons (ps_if (pt_not (pt_val (pe_c c2 hr (by decide) (by rfl) (pa_cons (pv 1) (pa_cons pe_int (pa_cons (pe_op op_sub (pe_callB call_len (by rfl) T.z_len PySem.boot_len (pa_cons (pv 4) pa_nil)) pe_int) pa_nil))))))
          (pss_one (ps_raise rfl (takes_of rfl rfl rfl rfl) (pmk_own PySem.F.excBase_ValueError T.ex_NoPiece.1 T.g_NoPiece T.ex_NoPiece.2.1 (raises_own T.ex_NoPiece.2.2.1 T.ex_NoPiece.2.2.2) rfl))) pss_nil)
      (PSs.nox (pss_one (ps_expr (pe_m c1 hr (by decide) (pv 0) (pa_cons (pe_tup (pa_cons (pv 2) (pa_cons (pv 3) (pa_cons (pe_op op_catA (pe_slice sl_tupA (pv 4) po_none (po_some (pv 1))) (pe_slice sl_tupA (pv 4) (po_some (pe_op op_add (pv 1) pe_int)) po_none)) pa_nil)))) pa_nil)))))), ?_⟩
    have cl := T.cl_Shop
    obtain ⟨dx, kv, es, h1, ⟨b, m, p, ps, rfl, hb, hm, hp, hps⟩, hok, h4, h5, h6⟩ := hS.ex
    have hn := hok.n
    have hpl := hps.1
    have hlen := hok.len
    walk_at "i"
    refine ⟨s0, _, dx, _, _, rfl, h1, cl, T.na_Shop_kept, slk_kept, ?_⟩
    refine g_un3 (SqT.of hb) ?_
    walk_at "i"
    refine ⟨.ref p, _, rfl, .inr ⟨_, SqT.of hp, rfl⟩, ?_⟩
    walk_at "i"
    refine ⟨t, 0, _, rfl, ?_⟩
    walk_at "i"
    refine g_nb (fun hb => ?_) (fun hb => ?_)
    · walk_at "i"
      exact qe.of (Keeps.refl _)
    rw [Bool.and_eq_true, decide_eq_true_eq, decide_eq_true_eq] at hb
    obtain ⟨k, rfl⟩ : ∃ k : Nat, t = k := ⟨t.toNat, by omega⟩
    walk_at "i"
    refine ⟨s0, dx, _, rfl, h1, slk_none (by decide +kernel), ?_⟩
    walk_at "i"
    refine ⟨_, rfl, ?_⟩
    refine slA_of hp fun p5 H5 s5 h55 => ?_
    walk_at "i"
    refine ⟨_, rfl, ?_⟩
    walk_at "i"
    refine slA_of (s5 _ _ hp) fun p6 H6 s6 h66 => ?_
    rw [cut_to] at h55
    have e66 : H6 p6 = some (.tup (ps.drop (k + 1))) := by
      rw [h66]
      have := cut_from ps (k + 1)
      rw [Int.natCast_add] at this
      exact congrArg (fun z => some (HO.tup z)) this
    refine catA_of (s6 _ _ h55) e66 (by rw [List.length_take, List.length_drop]; exact sz_of (by omega)) fun p7 H7 s7 h77 => ?_
    walk_at "i"
    refine ⟨sz_of (by simp), fun b8 hb8 => ?_⟩
    have s8 := Same.new (o := .tup [.int B.n, .ref m, .ref p7]) hb8
    have sA := s5.trans (s6.trans (s7.trans s8))
    refine ⟨s0, l, N, B, ⟨B.n, B.mays, B.pcs.take k ++ B.pcs.drop (k + 1)⟩, .ref b8, rfl, hS.keeps (Keeps.of sA), hN, ⟨b8, m, p7, _, rfl, upd_same, sA _ _ hm, s8 _ _ h77, (hps.ex (Same.tups sA)).eraseIdx k⟩, ⟨hn, hok.mays, ?_, fun x hx => ?_⟩, fun H9 f9 hS9 => ?_⟩
    · show (B.pcs.take k ++ B.pcs.drop (k + 1)).length ≤ 32
      rw [List.length_append, List.length_take, List.length_drop]
      omega
    · rcases List.mem_append.mp hx with hx | hx
      · exact hok.pcs x (List.mem_of_mem_take hx)
      · exact hok.pcs x (List.mem_of_mem_drop hx)
    · walk_at "i"
      exact q _ _ ((Fr.of (Keeps.of sA)).trans f9) hS9
theorem sc_undo : FnScope ["self"] ["self"] (defScope s_Shop_undo) := ⟨rfl, rfl, rfl, by decide +kernel, rfl, by decide +kernel, by decide +kernel⟩
theorem m_undo (T : Tx K w mg) : Met P w K mg base (L2.CX P w) 1 (He.ga K "Shop") "undo" (spDeed0 K (He.ga K "Shop")) := by
  refine T.d_Shop_undo.met (T.d_Shop_undo.ok1 sc_undo ?_ fun cdv A outer s H vs Q E hr h => ?_) T.cl_Shop T.me_Shop_undo
  · rintro vs H Q E ⟨s, l, N, B, rfl, _⟩
    rfl
  · obtain ⟨s0, l, N, B, rfl, hS, hN, q, qe⟩ := h
    refine ⟨_, pss_cons (ps_if (pt_cmpR (op_eqE hr.units0) (pe_fld (pv 0) rfl) (pe_lst pa_nil) (nomark _))
          (pss_one (ps_raise rfl (takes_of rfl rfl rfl rfl) (pmk_own PySem.F.excBase_ValueError T.ex_NoDeed.1 T.g_NoDeed T.ex_NoDeed.2.1 (raises_own T.ex_NoDeed.2.2.1 T.ex_NoDeed.2.2.2) rfl))) pss_nil)
      (pss_one (ps_fld (pv 0) (pe_bm0 PySem.F.plainAttrs_list PySem.F.slot_list_pop PySem.F.type_list_pop mt_pop (pe_fld (pv 0) rfl)) rfl)), ?_⟩
    have cl := T.cl_Shop
    obtain ⟨dx, kv, es, h1, h2, hok, h4, h5, h6⟩ := hS.ex
    walk_at "i"
    refine ⟨s0, _, dx, _, _, rfl, h1, cl, T.na_Shop_earlier, slk_earlier, ?_⟩
    walk_at "i"
    refine ⟨sz_of (by simp), fun p5 hp5 => ?_⟩
    have s5 := Same.new (o := .lst []) hp5
    refine ⟨l, p5, _, _, rfl, rfl, .inl ⟨SqL.of (s5 _ _ h4), SqL.of upd_same⟩, .inr rfl, ?_⟩
    have he : (if (false : Bool) = true then !decide (es = []) else decide (es = [])) = decide (es = []) := by simp
    rw [he]
    walk_at "i"
    refine g_dec (fun hem => ?_) (fun hem => ?_)
    · walk_at "i"
      exact qe.of (Keeps.of s5)
    have hS5 := hS.keeps (Keeps.of s5)
    walk_at "i"
    refine ⟨s0, _, dx, _, _, rfl, s5 _ _ h1, cl, T.na_Shop_earlier, slk_earlier, .inl ⟨rfl, _, SqL.of (s5 _ _ h4)⟩, ?_⟩
    have hpos : 0 < es.length := List.length_pos_iff.mpr hem
    have hlt : es.length - 1 < es.length := by omega
    obtain ⟨B', g1, g2⟩ := h6 es[es.length - 1] (List.getElem_mem hlt)
    refine ⟨l, es, es[es.length - 1], rfl, rfl, s5 _ _ h4, List.getElem?_eq_getElem hlt, ?_⟩
    have nsl : s0 ≠ l := ne_of h1 h4 (fun e => by cases e)
    have tu : TupEx H (upd (upd H p5 (.lst [])) l (.lst es.dropLast)) := (Same.tups s5).trans (TupEx.mutL (s5 _ _ h4))
    have hs1 : upd (upd H p5 (.lst [])) l (.lst es.dropLast) s0 = some (.ins (He.ga K "Shop") dx (sf kv l)) := by rw [upd_ne nsl]; exact s5 _ _ h1
    have fr : Fr s0 l H (upd (upd H p5 (.lst [])) l (.lst es.dropLast)) := (Fr.of (Keeps.of s5)).putL _
    have hl1 : upd (upd H p5 (.lst [])) l (.lst es.dropLast) l = some (.lst es.dropLast) := upd_same
    generalize upd (upd H p5 (.lst [])) l (.lst es.dropLast) = H6 at tu hs1 fr hl1 ⊢
    walk_at "i"
    refine ⟨s0, _, dx, _, rfl, hs1, cl, T.na_Shop_kept, len2, ?_⟩
    rw [sput_kept]
    have tu2 : TupEx H (upd H6 s0 (.ins (He.ga K "Shop") dx (sf es[es.length - 1] l))) := tu.trans fun a xs e => (KeepLT.ins hs1 _ a xs).2 e
    refine q _ B' (fr.putS _) ⟨dx, es[es.length - 1], es.dropLast, upd_same, g1.ex tu2, g2, by rw [upd_ne nsl.symm]; exact hl1, by rw [List.length_dropLast]; omega, fun e he => ?_⟩
    obtain ⟨B2, k1, k2⟩ := h6 e (List.dropLast_subset _ he)
    exact ⟨B2, k1.ex tu2, k2⟩
end
/-! EShop4 -/
theorem pi_or {X : Cx} {tg e : Expr} {w1 w2 : TI} (h1 : PI X tg e w1) (h2 : PI X tg e w2) : PI X tg e (fun σ H R => w1 σ H R ∨ w2 σ H R) := ⟨fun pins s σ H R I h => by
  rcases h with h | h
  · exact h1.run pins s σ H R I h
  · exact h2.run pins s σ H R I h⟩
/-- a number behind the one that goes moves up -/
def shf (g x : Int) : Int := x - (if decide (g < x) = true then 1 else 0)
theorem shf_lot {n : Nat} {l : List Int} {g : Int} (h : Lot n l) (hg : 0 ≤ g ∧ g < n) (hn : g ∉ l) : Lot ((n - 1 : Nat) : Int) (l.map (shf g)) := by
  have key : ∀ x ∈ l, 0 ≤ shf g x ∧ shf g x < ((n - 1 : Nat) : Int) := fun x hx => by
    have h1 := h.2 x hx
    have h2 : x ≠ g := fun e => hn (by rw [← e]; exact hx)
    unfold shf
    by_cases c : g < x
    · rw [decide_eq_true c, if_pos rfl]
      omega
    · rw [decide_eq_false c, if_neg (by decide)]
      omega
  refine ⟨?_, fun y hy => ?_⟩
  · rw [List.pairwise_map]
    refine List.Pairwise.imp_of_mem (fun {a b} ha hb hab => ?_) h.1
    have h2 : a ≠ g := fun e => hn (by rw [← e]; exact ha)
    have h3 : b ≠ g := fun e => hn (by rw [← e]; exact hb)
    unfold shf
    by_cases c : g < a
    · rw [decide_eq_true c, if_pos rfl, decide_eq_true (show g < b by omega), if_pos rfl]
      omega
    · rw [decide_eq_false c, if_neg (by decide)]
      by_cases d : g < b
      · rw [decide_eq_true d, if_pos rfl]
        omega
      · rw [decide_eq_false d, if_neg (by decide)]
        omega
  · obtain ⟨x, hx, rfl⟩ := List.mem_map.mp hy
    exact key x hx
def spNum : Sp := fun vs H Q _ => ∃ (p : Addr) (g : Int) (l : List Int), vs = [.ref p, .int g] ∧ (H p = some (.lst (l.map V.int)) ∨ H p = some (.tup (l.map V.int))) ∧ l.length ≤ 1000 ∧ ∀ H' q, Same H H' → H' q = some (.tup ((l.map (shf g)).map V.int)) → Q (.ref q) H'
section
variable {P : Program} {w : World} {K : PySem.W.Frag} {mg : Str → Option Value} {base : Heap}
theorem sc_numbered_on : FnScope ["lot", "gone", "one"] ["lot", "gone"] (defScope s_numbered_on) := ⟨rfl, rfl, rfl, by decide +kernel, rfl, by decide +kernel, by decide +kernel⟩
theorem c_numbered_on (T : Tx K w mg) : Cal P w K mg base CX0 1 "numbered_on" spNum := by
  refine T.d_numbered_on.cal (T.d_numbered_on.ok0 sc_numbered_on ?_ fun cdv A outer s H vs Q E hr h => ?_) T.g_numbered_on T.kp_numbered_on
  · rintro vs H Q E ⟨p, g, l, rfl, _⟩
    rfl
  · obtain ⟨p, g, l, rfl, hp, hl, q⟩ := h
    refine ⟨_, pss_one (ps_ret (pe_tupleOf (by rfl) T.z_tuple (pe_lc (own := [("one", 2)]) (g := gName 2) (tt := tYes) (by rfl) sc_numbered_on.nd (pi_or (pi_list (pv 0)) (pi_tup (pv 0))) (blkOk_by (N := ["lot", "gone", "one"]) (sc := defScope s_numbered_on) (by decide +kernel))
        (fun _ _ _ _ _ => pg_name sc_numbered_on.nd rfl (.inl rfl)) (fun _ _ _ _ _ => pts_nil)
        (fun s1 H1 C1 cl1 fp1 => pe_op op_sub (pv 2) (pe_callTy call_int1 (by rfl) T.z_int boot_int (pa_cons (pe_cmpR op_gt (pv 2) (pv 1) (nomark _)) pa_nil)))))), ?_⟩
    walk_at "i"
    have fin : ∀ (D : Addr) (H2 : Hp), Same H H2 → H2 D = some (.lst ((l.map (shf g)).map V.int)) → kTup K (.ref D) H2 Q := fun D H2 s2 d2 => .inl ⟨D, _, rfl, SqL.of d2, fun p2 hp2 => q _ p2 (Same.newer s2 hp2) upd_same⟩
    rcases hp with hp | hp
    · refine .inl (g_ls ?_)
      walk_at "i"
      refine ⟨p, rfl, ⟨_, SqL.of hp⟩, fun D hD => lc_map walk_list hD (by rw [List.length_map]; omega) ((l.map (shf g)).map V.int) (by simp) (fun H2 s2 => SqL.of (s2 _ _ hp)) (fun i y o H2 H3 hi s2 ho y1 Qc kc => ?_) (fun H2 s2 d2 => fin D H2 s2 d2)⟩
      obtain ⟨rfl, hy⟩ := y1
      obtain ⟨z, hz, rfl⟩ := map_at hy
      obtain ⟨o1, ho1, rfl⟩ := map_at ho
      obtain ⟨z1, hz1, rfl⟩ := map_at ho1
      rw [hz] at hz1
      cases hz1
      walk_at "i"
      refine ⟨rfl, ?_⟩
      walk_at "i"
      refine .inr ⟨_, rfl, ?_⟩
      walk_at "i"
      exact kc _ (Same.refl _)
    · refine .inr (g_tp ?_)
      walk_at "i"
      refine ⟨p, rfl, ⟨_, SqT.of hp⟩, fun D hD => lc_map walk_tup hD (by rw [List.length_map]; omega) ((l.map (shf g)).map V.int) (by simp) (fun H2 s2 => SqT.of (s2 _ _ hp)) (fun i y o H2 H3 hi s2 ho y1 Qc kc => ?_) (fun H2 s2 d2 => fin D H2 s2 d2)⟩
      obtain ⟨rfl, hy⟩ := y1
      obtain ⟨z, hz, rfl⟩ := map_at hy
      obtain ⟨o1, ho1, rfl⟩ := map_at ho
      obtain ⟨z1, hz1, rfl⟩ := map_at ho1
      rw [hz] at hz1
      cases hz1
      walk_at "i"
      refine ⟨rfl, ?_⟩
      walk_at "i"
      refine .inr ⟨_, rfl, ?_⟩
      walk_at "i"
      exact kc _ (Same.refl _)
theorem sc_take_thing : FnScope ["self", "thing", "things", "mays", "pieces", "held", "weight", "left", "may"] ["self", "thing"] (defScope s_Shop_take_thing) := ⟨rfl, rfl, rfl, by decide +kernel, rfl, by decide +kernel, by decide +kernel⟩
theorem m_take_thing (T : Tx K w mg) : Met P w K mg base (L2.CX P w) 4 (He.ga K "Shop") "take_thing" (spDeed1 K (He.ga K "Shop")) := by
  have c1 : Met P w K mg base CX0 1 (He.ga K "Shop") "turn_to" (spTurn (He.ga K "Shop")) := m_turn_to T
  have c2 : Met P w K mg base (L2.CX P w) 3 (He.ga K "Shop") "look_for_thing" (spLook K (He.ga K "Shop")) := m_look T
  have c3 : Cal P w K mg base CX0 1 "numbered_on" spNum := c_numbered_on T
  refine T.d_Shop_take_thing.met (T.d_Shop_take_thing.ok1 sc_take_thing ?_ fun cdv A outer s H vs Q E hr h => ?_) T.cl_Shop T.me_Shop_take_thing
  · rintro vs H Q E ⟨s, l, N, B, t, rfl, _⟩
    rfl
  · obtain ⟨s0, l, N, B, t, rfl, hS, hN, q, qe⟩ := h
    refine ⟨_, pss_cons (ps_expr (pe_mX c2 hr (by decide) (passes_call (takes_of rfl rfl rfl rfl) fun _ _ _ _ h => h) (pv 0) (pa_cons (pv 1) pa_nil)))
      (pss_cons (ps_asg (pe_fld (pv 0) rfl) (pg_tup (by rfl) (pgs_cons (pg_name (i := 2) sc_take_thing.nd rfl (.inl rfl)) (pgs_cons (pg_name (i := 3) sc_take_thing.nd rfl (.inl rfl)) (pgs_cons (pg_name (i := 4) sc_take_thing.nd rfl (.inl rfl)) pgs_nil)))))
      (pss_cons (ps_for (passes_of rfl) rfl (pi_tup (pv 4)) (pg_tup (by rfl) (pgs_cons (pg_name (i := 5) sc_take_thing.nd rfl (.inl rfl)) (pgs_cons (pg_name (i := 6) sc_take_thing.nd rfl (.inl rfl)) pgs_nil)))
          (pss_one (ps_if (pt_cmpR op_in (pv 1) (pv 5) (by rfl)) (pss_one (ps_raise rfl (takes_of rfl rfl rfl rfl) (pmk_own PySem.F.excBase_ValueError T.ex_Held.1 T.g_Held T.ex_Held.2.1 (raises_own T.ex_Held.2.2.1 T.ex_Held.2.2.2) rfl))) pss_nil)))
      (PSs.nox (pss_cons (ps_set (i := 7) sc_take_thing.nd rfl (.inl rfl) (pe_c c3 hr (by decide) (by rfl) (pa_cons (pe_lc (own := [("may", 8)]) (g := gName 8) (tt := tTest (tOp rNe (tVar 8) (tVar 1))) (te := tVar 8) (by rfl) sc_take_thing.nd (pi_tup (pv 3)) (blkOk_by (N := ["self", "thing", "things", "mays", "pieces", "held", "weight", "left", "may"]) (sc := defScope s_Shop_take_thing) (by decide +kernel))
              (fun _ _ _ _ _ => pg_name sc_take_thing.nd rfl (.inl rfl)) (fun _ _ _ _ _ => pts_one (pt_cmpR op_ne (pv 8) (pv 1) (nomark _))) (fun s1 H1 C1 cl1 fp1 => pv 8)) (pa_cons (pv 1) pa_nil))))
      (pss_one (ps_expr (pe_m c1 hr (by decide) (pv 0) (pa_cons (pe_tup (pa_cons (pe_op op_sub (pv 2) pe_int) (pa_cons (pv 7) (pa_cons (pe_tupleOf (by rfl) T.z_tuple
          (pe_lc (own := [("held", 5), ("weight", 6)]) (g := gTup K 2 (gCons (gName 5) (gCons (gName 6) gNil))) (tt := tYes) (by rfl) sc_take_thing.nd (pi_tup (pv 4)) (blkOk_by (N := ["self", "thing", "things", "mays", "pieces", "held", "weight", "left", "may"]) (sc := defScope s_Shop_take_thing) (by decide +kernel))
            (fun _ _ _ _ _ => pg_tup (by rfl) (pgs_cons (pg_name (i := 5) sc_take_thing.nd rfl (.inl rfl)) (pgs_cons (pg_name (i := 6) sc_take_thing.nd rfl (.inl rfl)) pgs_nil))) (fun _ _ _ _ _ => pts_nil)
            (fun s1 H1 C1 cl1 fp1 => pe_tup (pa_cons (pe_c c3 hr (by decide) (by rfl) (pa_cons (pv 5) (pa_cons (pv 1) pa_nil))) (pa_cons (pv 6) pa_nil))))) pa_nil)))) pa_nil)))))))), ?_⟩
    have cl := T.cl_Shop
    obtain ⟨dx, kv, es, h1, ⟨b, m, p, ps, rfl, hb, hm, hp, hps⟩, hok, h4, h5, h6⟩ := hS.ex
    have hn := hok.n
    have hpl := hps.1
    have hlen := hok.len
    walk_at "i"
    refine ⟨s0, dx, _, rfl, h1, slk_none (by decide +kernel), ?_⟩
    walk_at "i"
    refine ⟨s0, l, N, B, t, rfl, hS, fun t0 t1 => ?_, fun H' k => qe.of k⟩
    walk_at "i"
    refine ⟨s0, _, dx, _, _, rfl, h1, cl, T.na_Shop_kept, slk_kept, ?_⟩
    refine g_un3 (SqT.of hb) ?_
    walk_at "i"
    refine g_tp ?_
    walk_at "i"
    refine ⟨p, rfl, ⟨_, SqT.of hp⟩, for_it walk_tup (fun i σ H' => ∃ (u5 u6 : Option V), σ = [some (.ref s0), some (.int t), some (.int B.n), some (.ref m), some (.ref p), u5, u6, none, none] ∧ H' = H ∧ ∀ x ∈ B.pcs.take i, t ∉ x.1)
      ⟨_, _, rfl, rfl, fun _ h => by cases h⟩ (fun i σ H' _ ⟨_, _, _, e, _⟩ => by rw [e]; exact SqT.of hp) ?_ ?_⟩
    · rintro i y σ H2 H3 hi ⟨u5, u6, rfl, rfl, hno⟩ ⟨rfl, hy⟩
      obtain ⟨pc, hpc, q1, l1, rfl, hq1, hl1⟩ := hps.get hy
      refine g_un2 (SqT.of hq1) ?_
      walk_at "i"
      refine ⟨l1, _, rfl, .inr (SqT.of hl1), rfl, flat_ints _, ?_⟩
      rw [inV_int]
      walk_at "i"
      refine g_dec (fun h => ?_) (fun h => ?_)
      · walk_at "i"
        exact qe.of (Keeps.refl _)
      · walk_at "i"
        refine ⟨_, _, rfl, rfl, fun x hx => ?_⟩
        rw [take_at hpc] at hx
        rcases List.mem_append.mp hx with hx | hx
        · exact hno x hx
        · rw [List.mem_singleton.mp hx]
          exact h
    · rintro σ H2 ⟨u5, u6, rfl, rfl, hno⟩
      rw [List.take_of_length_le (by omega)] at hno
      walk_at "i"
      refine g_tp ?_
      walk_at "i"
      refine ⟨m, rfl, ⟨_, SqT.of hm⟩, fun D hD => lc_gen walk_tup hD (by rw [List.length_map]; have := hok.mays.len; omega) (fun i acc H' => ∃ js : List Int, acc = js.map V.int ∧ js = (B.mays.take i).filter fun x => !decide (x = t)) ⟨[], rfl, rfl⟩ (fun H' k => SqT.of (k _ _ hm)) (fun i y acc H6 H7 hj s6 hd6 hR y1 Qc Qn kc kn => ?_) (fun acc H6 s6 d6 hR => ?_)⟩
      · obtain ⟨rfl, hy⟩ := y1
        obtain ⟨x, hx, rfl⟩ := map_at hy
        obtain ⟨js, rfl, rfl⟩ := hR
        walk_at "i"
        refine ⟨rfl, ?_⟩
        walk_at "i"
        refine g_ndec (fun e => ?_) (fun e => ?_)
        · have ne : ¬ x = t := fun h => e (congrArg V.int h)
          walk_at "i"
          refine kc _ _ (Same.refl _) ⟨(B.mays.take i).filter (fun x => !decide (x = t)) ++ [x], by simp, ?_⟩
          rw [take_at hx, List.filter_append, List.filter_cons_of_pos (by simp [ne])]
          rfl
        · have ye : x = t := V.int.inj e
          refine kn _ (Same.refl _) ⟨_, rfl, ?_⟩
          rw [take_at hx, List.filter_append, List.filter_cons_of_neg (by simp [ye])]
          simp
      · obtain ⟨js, rfl, ejs⟩ := hR
        rw [List.length_map, List.take_length] at ejs
        have hjl : Lot B.n js := by rw [ejs]; exact hok.mays.filter _
        have hjt : t ∉ js := by
          rw [ejs]
          intro h
          have := (List.mem_filter.mp h).2
          simp at this
        have hjlen := hjl.len
        walk_at "i"
        refine ⟨D, t, js, rfl, .inl d6, by omega, fun H7 m7 s7 h77 => ?_⟩
        have sB := s6.trans s7
        walk_at "i"
        refine ⟨s0, dx, _, rfl, sB _ _ h1, slk_none (by decide +kernel), ?_⟩
        walk_at "i"
        refine g_tp ?_
        walk_at "i"
        refine ⟨p, rfl, ⟨_, SqT.of (sB _ _ hp)⟩, fun D2 hD2 => lc_gen walk_tup hD2 (by omega) (fun i acc H' => PcsAt H' acc ((B.pcs.take i).map fun x => (x.1.map (shf t), x.2)) ∧ acc.length = i) ⟨PcsAt.nil _, rfl⟩ (fun H' k => SqT.of (k _ _ (sB _ _ hp))) (fun i y acc H8 H9 hj s8 hd8 hR y1 Qc Qn kc kn => ?_) (fun acc H8 s8 d8 hR => ?_)⟩
        · obtain ⟨rfl, hy⟩ := y1
          obtain ⟨pc, hpc, q1, l1, rfl, hq1, hl1⟩ := hps.get hy
          have sC := sB.trans s8
          have hpk := hok.pcs pc (List.mem_of_getElem? hpc)
          refine g_un2 (SqT.of (sC _ _ hq1)) ⟨rfl, ?_⟩
          walk_at "i"
          refine ⟨l1, t, pc.1, rfl, .inr (sC _ _ hl1), by have := hpk.1.len; omega, fun H10 q10 s10 h10 => ?_⟩
          walk_at "i"
          refine ⟨sz_of (by simp), fun p11 hp11 => ?_⟩
          have s11 := Same.new (o := .tup [.ref q10, .int pc.2]) hp11
          have hd11 := s11 _ _ (s10 _ _ hd8)
          refine kc _ _ (s10.trans s11) ⟨?_, by rw [List.length_append, hR.2]; rfl⟩
          rw [take_at hpc, List.map_append]
          have tu := (Same.tups (s10.trans s11)).trans (TupEx.mutL (o := .lst (acc ++ [.ref p11])) hd11)
          have tm := TupEx.mutL (o := .lst (acc ++ [.ref p11])) hd11
          exact (hR.1.ex tu).snoc ⟨p11, q10, rfl, tm _ _ upd_same, tm _ _ (s11 _ _ h10)⟩
        · obtain ⟨hR1, hR2⟩ := hR
          rw [List.take_of_length_le (by omega)] at hR1
          have sC := sB.trans s8
          walk_at "i"
          refine .inl ⟨D2, _, rfl, SqL.of d8, fun p9 hp9 => ?_⟩
          walk_at "i"
          have s9 := Same.new (o := .tup acc) hp9
          refine ⟨sz_of (by simp), fun b10 hb10 => ?_⟩
          have s10 := Same.new (o := .tup [.int ((B.n : Int) - 1), .ref m7, .ref p9]) hb10
          have sA := sC.trans (s9.trans s10)
          have en : ((B.n : Int) - 1) = ((B.n - 1 : Nat) : Int) := by omega
          refine ⟨s0, l, N, B, ⟨B.n - 1, js.map (shf t), B.pcs.map fun x => (x.1.map (shf t), x.2)⟩, .ref b10, rfl, hS.keeps (Keeps.of sA), hN, ⟨b10, m7, p9, acc, rfl, ?_, (s8.trans (s9.trans s10)) _ _ h77, s10 _ _ upd_same, hR1.ex (Same.tups (s9.trans s10))⟩, ⟨by show B.n - 1 ≤ 16; omega, shf_lot hjl ⟨t0, t1⟩ hjt, by rw [List.length_map]; exact hlen, fun x hx => ?_⟩, fun H11 f11 hS11 => ?_⟩
          · rw [upd_same, en]
          · obtain ⟨pc, hpc, rfl⟩ := List.mem_map.mp hx
            have hpk := hok.pcs pc hpc
            exact ⟨shf_lot hpk.1 ⟨t0, t1⟩ (hno pc hpc), fun e => hpk.2.1 (List.map_eq_nil_iff.mp e), hpk.2.2⟩
          · walk_at "i"
            exact q _ _ ((Fr.of (Keeps.of sA)).trans f11) hS11
end
/-! EDesk1 -/
def spSBox (C : Addr) : Sp := fun vs H Q _ => ∃ (s l : Addr) (N : Nat) (B : Bx), vs = [.ref s] ∧ ShopAt C H s l N B ∧ ∀ kv, BoxAt H kv B → Q kv H
def spSMany (C : Addr) : Sp := fun vs H Q _ => ∃ (s l : Addr) (N : Nat) (B : Bx), vs = [.ref s] ∧ ShopAt C H s l N B ∧ ∀ H' z, Keeps H H' → 0 ≤ z → z ≤ 33 ^ 16 → Q (.int z) H'
def spSLight (C : Addr) : Sp := fun vs H Q _ => ∃ (s l : Addr) (N : Nat) (B : Bx), vs = [.ref s] ∧ ShopAt C H s l N B ∧ (∀ H', Keeps H H' → Q .non H') ∧ ∀ H' p q z l, Keeps H H' → H' p = some (.tup [.int z, .ref q]) → H' q = some (.tup (l.map V.int)) → small l → (-100000000000000000000 < z ∧ z < 100000000000000000000) → Q (.ref p) H'
def spSBars (K : PySem.W.Frag) (C : Addr) : Sp := fun vs H Q E => ∃ (s l : Addr) (N : Nat) (B : Bx), vs = [.ref s] ∧ ShopAt C H s l N B ∧ (∀ H' p ys ls, Keeps H H' → H' p = some (.lst ys) → LotsAt H' ys ls → ys.length ≤ 512 → LotsOk B.n ls → Q (.ref p) H') ∧ RefE K H E
/-! ### the desk -/
def df (s : Addr) : List (Str × V) := [("shop", .ref s)]
theorem dlk_shop {s : Addr} : List.lookup ("shop" : Str) (df s) = some (.ref s) := lk_here
theorem dlk_none {s : Addr} {x : Str} (h : (x == ("shop" : Str)) = false) : List.lookup x (df s) = none := by
  unfold df
  rw [lk_past h]
  rfl
structure DeskAt (Cd Cs : Addr) (H : Hp) (d s l : Addr) (N : Nat) (B : Bx) : Prop where
  ds : d ≠ s
  dl : d ≠ l
  ex : ∃ dx, H d = some (.ins Cd dx (df s))
  sh : ShopAt Cs H s l N B
theorem DeskAt.keeps {Cd Cs : Addr} {H H' : Hp} {d s l : Addr} {N : Nat} {B : Bx} (h : DeskAt Cd Cs H d s l N B) (k : Keeps H H') : DeskAt Cd Cs H' d s l N B := by
  obtain ⟨dx, e⟩ := h.ex
  exact ⟨h.ds, h.dl, ⟨dx, k _ _ e (fun _ e => by cases e)⟩, h.sh.keeps k⟩
theorem DeskAt.fr {Cd Cs : Addr} {H H' : Hp} {d s l : Addr} {N M : Nat} {B B' : Bx} (h : DeskAt Cd Cs H d s l N B) (f : Fr s l H H') (hs : ShopAt Cs H' s l M B') : DeskAt Cd Cs H' d s l M B' := by
  obtain ⟨dx, e⟩ := h.ex
  exact ⟨h.ds, h.dl, ⟨dx, f _ _ e h.ds h.dl (fun _ e => by cases e)⟩, hs⟩
def spDeskInit (Cd Cs : Addr) : Sp := fun vs H Q _ => ∃ (d dx : Addr), vs = [.ref d] ∧ H d = some (.ins Cd dx []) ∧ ∀ H' s l, SameX [d] H H' → DeskAt Cd Cs H' d s l 0 ⟨0, [], []⟩ → Q .non H'
def spDone (K : PySem.W.Frag) (Cd Cs : Addr) : Sp := fun vs H Q E => ∃ (d s l : Addr) (N : Nat) (B : Bx) (tp : Addr), vs = [.ref d, .ref tp] ∧ DeskAt Cd Cs H d s l N B ∧ N < 1000 ∧ ((∃ h n, H tp = some (.lst [.str h, .int n])) ∨ H tp = some (.lst [.str "undo"])) ∧
  (∀ H' B', Fr s l H H' → DeskAt Cd Cs H' d s l (N + 1) B' → Q .non H') ∧ RefE K H E
def spAns (K : PySem.W.Frag) (Cd Cs : Addr) : Sp := fun vs H Q E => ∃ (d s l : Addr) (N : Nat) (B : Bx) (tp : Addr) (h : Str), vs = [.ref d, .ref tp] ∧ DeskAt Cd Cs H d s l N B ∧ ((H tp = some (.lst [.str h]) ∧ h ≠ "at") ∨ (∃ n, H tp = some (.lst [.str h, .int n]))) ∧
  (∀ H' z, Keeps H H' → (h = "box" → z = writtenS B) → Q (.str z) H') ∧ (h ≠ "box" → RefE K H E)
section
variable {P : Program} {w : World} {K : PySem.W.Frag} {mg : Str → Option Value} {base : Heap}
theorem sc_Shop_box : FnScope ["self"] ["self"] (defScope s_Shop_box) := ⟨rfl, rfl, rfl, by decide +kernel, rfl, by decide +kernel, by decide +kernel⟩
theorem m_Shop_box (T : Tx K w mg) : Met P w K mg base CX0 1 (He.ga K "Shop") "box" (spSBox (He.ga K "Shop")) := by
  refine T.d_Shop_box.met (T.d_Shop_box.ok0 sc_Shop_box ?_ fun cdv A outer s H vs Q E hr h => ?_) T.cl_Shop T.me_Shop_box
  · rintro vs H Q E ⟨s, l, N, B, rfl, _⟩
    rfl
  · obtain ⟨s0, l, N, B, rfl, hS, q⟩ := h
    refine ⟨_, pss_one (ps_ret (pe_fld (pv 0) rfl)), ?_⟩
    obtain ⟨dx, kv, es, h1, h2, hok, h4, h5, h6⟩ := hS.ex
    walk_at "i"
    exact ⟨s0, _, dx, _, _, rfl, h1, T.cl_Shop, T.na_Shop_kept, slk_kept, q kv h2⟩
theorem sc_Shop_many : FnScope ["self"] ["self"] (defScope s_Shop_many) := ⟨rfl, rfl, rfl, by decide +kernel, rfl, by decide +kernel, by decide +kernel⟩
theorem m_Shop_many (T : Tx K w mg) : Met P w K mg base CX0 21 (He.ga K "Shop") "many" (spSMany (He.ga K "Shop")) := by
  have c1 : Cal P w K mg base CX0 20 "many_coverings" spMany := c_many T
  refine T.d_Shop_many.met (T.d_Shop_many.ok0 sc_Shop_many ?_ fun cdv A outer s H vs Q E hr h => ?_) T.cl_Shop T.me_Shop_many
  · rintro vs H Q E ⟨s, l, N, B, rfl, _⟩
    rfl
  · obtain ⟨s0, l, N, B, rfl, hS, q⟩ := h
    refine ⟨_, pss_one (ps_ret (pe_c c1 hr (by decide) (by rfl) (pa_cons (pe_fld (pv 0) rfl) pa_nil))), ?_⟩
    obtain ⟨dx, kv, es, h1, h2, hok, h4, h5, h6⟩ := hS.ex
    walk_at "i"
    refine ⟨s0, _, dx, _, _, rfl, h1, T.cl_Shop, T.na_Shop_kept, slk_kept, ?_⟩
    walk_at "i"
    exact ⟨kv, B, rfl, h2, hok, q⟩
theorem sc_Shop_lightest : FnScope ["self"] ["self"] (defScope s_Shop_lightest) := ⟨rfl, rfl, rfl, by decide +kernel, rfl, by decide +kernel, by decide +kernel⟩
theorem m_Shop_lightest (T : Tx K w mg) : Met P w K mg base CX0 41 (He.ga K "Shop") "lightest" (spSLight (He.ga K "Shop")) := by
  have c1 : Cal P w K mg base CX0 40 "lightest_lightest" spLightest := c_lightest T
  refine T.d_Shop_lightest.met (T.d_Shop_lightest.ok0 sc_Shop_lightest ?_ fun cdv A outer s H vs Q E hr h => ?_) T.cl_Shop T.me_Shop_lightest
  · rintro vs H Q E ⟨s, l, N, B, rfl, _⟩
    rfl
  · obtain ⟨s0, l, N, B, rfl, hS, q0, q⟩ := h
    refine ⟨_, pss_one (ps_ret (pe_c c1 hr (by decide) (by rfl) (pa_cons (pe_fld (pv 0) rfl) pa_nil))), ?_⟩
    obtain ⟨dx, kv, es, h1, h2, hok, h4, h5, h6⟩ := hS.ex
    walk_at "i"
    refine ⟨s0, _, dx, _, _, rfl, h1, T.cl_Shop, T.na_Shop_kept, slk_kept, ?_⟩
    walk_at "i"
    exact ⟨kv, B, rfl, h2, hok, q0, q⟩
theorem sc_Shop_least_bars : FnScope ["self"] ["self"] (defScope s_Shop_least_bars) := ⟨rfl, rfl, rfl, by decide +kernel, rfl, by decide +kernel, by decide +kernel⟩
theorem m_Shop_least_bars (T : Tx K w mg) : Met P w K mg base (L2.CX P w) 23 (He.ga K "Shop") "least_bars" (spSBars K (He.ga K "Shop")) := by
  have c1 : Cal P w K mg base (L2.CX P w) 22 "least_bars_bars" (spBars (.ref (He.ga K "TooMany"))) := c_least_bars T
  refine T.d_Shop_least_bars.met (T.d_Shop_least_bars.ok1 sc_Shop_least_bars ?_ fun cdv A outer s H vs Q E hr h => ?_) T.cl_Shop T.me_Shop_least_bars
  · rintro vs H Q E ⟨s, l, N, B, rfl, _⟩
    rfl
  · obtain ⟨s0, l, N, B, rfl, hS, q, qe⟩ := h
    refine ⟨_, pss_one (ps_ret (pe_cX c1 hr (by decide) (by rfl) (passes_call (takes_of rfl rfl rfl rfl) fun _ _ _ _ h => h) (pa_cons (pe_fld (pv 0) rfl) pa_nil))), ?_⟩
    obtain ⟨dx, kv, es, h1, h2, hok, h4, h5, h6⟩ := hS.ex
    walk_at "i"
    refine ⟨s0, _, dx, _, _, rfl, h1, T.cl_Shop, T.na_Shop_kept, slk_kept, ?_⟩
    walk_at "i"
    exact ⟨kv, B, rfl, h2, hok, q, fun H' k => qe.of k⟩
theorem sc_Desk_init : FnScope ["self"] ["self"] (defScope s_Desk_init) := ⟨rfl, rfl, rfl, by decide +kernel, rfl, by decide +kernel, by decide +kernel⟩
theorem m_Desk_init (T : Tx K w mg) : Mak P w K mg base CX0 3 "Desk" (He.ga K "Desk") (spDeskInit (He.ga K "Desk") (He.ga K "Shop")) := by
  have c1 : Mak P w K mg base CX0 1 "Shop" (He.ga K "Shop") (spShopInit (He.ga K "Shop")) := m_Shop_init T
  refine T.d_Desk_init.mak (T.d_Desk_init.ok0 sc_Desk_init ?_ fun cdv A outer s H vs Q E hr h => ?_) T.mk_Desk T.g_Desk
  · rintro vs H Q E ⟨d, dx, rfl, _⟩
    rfl
  · obtain ⟨d, dx, rfl, hd, q⟩ := h
    refine ⟨_, pss_one (ps_fld (pv 0) (pe_n0 c1 hr (by decide) (by rfl)) rfl), ?_⟩
    walk_at "i"
    refine fun s0 ds hs0 hds hne => ?_
    refine ⟨s0, ds, rfl, upd_same, fun H1 l hs hS hl => ⟨rfl, ?_⟩⟩
    have s1 := made_keeps hs0 hds hs
    have hd1 := s1 _ _ hd
    walk_at "i"
    refine ⟨d, _, dx, _, rfl, hd1, T.cl_Desk, T.na_Desk_shop, by decide, ?_⟩
    have e1 : putF "shop" (.ref s0) [] = df s0 := rfl
    rw [e1]
    have nds : d ≠ s0 := ne_of_none hd hs0
    obtain ⟨dx2, kv, es, h1, h2, hok, h4, h5, h6⟩ := hS.ex
    have kl := KeepLT.ins hd1 (.ins (He.ga K "Desk") dx (df s0))
    have ndl : d ≠ l := ne_of hd1 h4 (fun e => by cases e)
    refine q _ s0 l ((SameX.of s1).put List.mem_cons_self _) ⟨nds, ndl, ⟨dx, upd_same⟩, dx2, kv, es, by rw [upd_ne nds.symm]; exact h1, h2.ex fun a xs e => (kl a xs).2 e, hok, by rw [upd_ne ndl.symm]; exact h4, h5, fun e he => ?_⟩
    obtain ⟨B', g1, g2⟩ := h6 e he
    exact ⟨B', g1.ex fun a xs e => (kl a xs).2 e, g2⟩
theorem sc_done : FnScope ["self", "told"] ["self", "told"] (defScope s_Desk_done) := ⟨rfl, rfl, rfl, by decide +kernel, rfl, by decide +kernel, by decide +kernel⟩
theorem m_done (T : Tx K w mg) : Met P w K mg base (L2.CX P w) 5 (He.ga K "Desk") "done" (spDone K (He.ga K "Desk") (He.ga K "Shop")) := by
  have c1 : Met P w K mg base (L2.CX P w) 4 (He.ga K "Shop") "turn_thing" (spDeed1 K (He.ga K "Shop")) := m_turn_thing T
  have c2 : Met P w K mg base (L2.CX P w) 4 (He.ga K "Shop") "take_thing" (spDeed1 K (He.ga K "Shop")) := m_take_thing T
  have c3 : Met P w K mg base (L2.CX P w) 4 (He.ga K "Shop") "take_piece" (spDeed1 K (He.ga K "Shop")) := m_take_piece T
  have c4 : Met P w K mg base (L2.CX P w) 1 (He.ga K "Shop") "undo" (spDeed0 K (He.ga K "Shop")) := m_undo T
  refine T.d_Desk_done.met (T.d_Desk_done.ok1 sc_done ?_ fun cdv A outer s H vs Q E hr h => ?_) T.cl_Desk T.me_Desk_done
  · rintro vs H Q E ⟨d, s, l, N, B, tp, rfl, _⟩
    rfl
  · obtain ⟨d, s0, l, N, B, tp, rfl, hD, hN, ht, q, qe⟩ := h
    refine ⟨_, pss_one (ps_if (pt_cmpR op_eq (pe_ix ix_list (pv 1) pe_int (fun _ _ => rfl)) pe_str (nomark _))
        (pss_one (ps_expr (pe_mX c1 hr (by decide) (passes_call (takes_of rfl rfl rfl rfl) fun _ _ _ _ h => h) (pe_fld (pv 0) rfl) (pa_cons (pe_ix ix_list (pv 1) pe_int (fun _ _ => rfl)) pa_nil))))
      (pss_one (ps_if (pt_cmpR op_eq (pe_ix ix_list (pv 1) pe_int (fun _ _ => rfl)) pe_str (nomark _))
        (pss_one (ps_expr (pe_mX c2 hr (by decide) (passes_call (takes_of rfl rfl rfl rfl) fun _ _ _ _ h => h) (pe_fld (pv 0) rfl) (pa_cons (pe_ix ix_list (pv 1) pe_int (fun _ _ => rfl)) pa_nil))))
      (pss_one (ps_if (pt_cmpR op_eq (pe_ix ix_list (pv 1) pe_int (fun _ _ => rfl)) pe_str (nomark _))
        (pss_one (ps_expr (pe_mX c3 hr (by decide) (passes_call (takes_of rfl rfl rfl rfl) fun _ _ _ _ h => h) (pe_fld (pv 0) rfl) (pa_cons (pe_ix ix_list (pv 1) pe_int (fun _ _ => rfl)) pa_nil))))
        (pss_one (ps_expr (pe_mX0 c4 hr (by decide) (passes_call (takes_of rfl rfl rfl rfl) fun _ _ _ _ h => h) (pe_fld (pv 0) rfl))))))))), ?_⟩
    obtain ⟨dx, hd⟩ := hD.ex
    obtain ⟨dxs, kv, es, h1, _⟩ := hD.sh.ex
    have cl := T.cl_Desk
    obtain ⟨h, r, hr0⟩ : ∃ h r, H tp = some (.lst (.str h :: r)) := by
      rcases ht with ⟨h, n, e⟩ | e
      · exact ⟨h, _, e⟩
      · exact ⟨_, _, e⟩
    have ix0 : ∀ {R : VK}, R (.str h) H → rIxL K (.ref tp) (.int 0) H R := fun {R} r => ⟨tp, _, 0, .str h, rfl, rfl, SqL.of hr0, at0 rfl, r⟩
    have fin : ∀ H' B', Fr s0 l H H' → ShopAt (He.ga K "Shop") H' s0 l (N + 1) B' → Q .non H' := fun H' B' f hs => q H' B' f (hD.fr f hs)
    have one : ∀ x : Str, h = x → x ≠ "undo" → ∃ n, H tp = some (.lst [.str h, .int n]) := fun x e hx => by
      rcases ht with ⟨h', n, e2⟩ | e2
      · rw [e2] at hr0
        have := HO.lst.inj (Option.some.inj hr0)
        obtain ⟨e3, e4⟩ := List.cons.inj this
        exact ⟨n, by rw [e2, e3]⟩
      · rw [e2] at hr0
        have := HO.lst.inj (Option.some.inj hr0)
        obtain ⟨e3, e4⟩ := List.cons.inj this
        exact absurd (e.symm.trans (V.str.inj e3).symm) hx
    walk_at "i"
    refine ix0 ?_
    walk_at "i"
    refine g_dec (fun e => ?_) (fun e1 => ?_)
    · obtain ⟨n, hn⟩ := one _ (V.str.inj e) (by decide +kernel)
      walk_at "i"
      refine ⟨d, _, dx, _, _, rfl, hd, cl, T.na_Desk_shop, dlk_shop, s0, dxs, _, rfl, h1, slk_none (by decide +kernel), ?_⟩
      walk_at "i"
      refine ⟨tp, _, 1, .int n, rfl, rfl, SqL.of hn, at1 rfl, ?_⟩
      walk_at "i"
      refine ⟨s0, l, N, B, n, rfl, hD.sh, hN, fun H' B' f hs => ?_, qe⟩
      walk_at "i"
      exact fin H' B' f hs
    walk_at "i"
    refine ix0 ?_
    walk_at "i"
    refine g_dec (fun e => ?_) (fun e2 => ?_)
    · obtain ⟨n, hn⟩ := one _ (V.str.inj e) (by decide +kernel)
      walk_at "i"
      refine ⟨d, _, dx, _, _, rfl, hd, cl, T.na_Desk_shop, dlk_shop, s0, dxs, _, rfl, h1, slk_none (by decide +kernel), ?_⟩
      walk_at "i"
      refine ⟨tp, _, 1, .int n, rfl, rfl, SqL.of hn, at1 rfl, ?_⟩
      walk_at "i"
      refine ⟨s0, l, N, B, n, rfl, hD.sh, hN, fun H' B' f hs => ?_, qe⟩
      walk_at "i"
      exact fin H' B' f hs
    walk_at "i"
    refine ix0 ?_
    walk_at "i"
    refine g_dec (fun e => ?_) (fun e3 => ?_)
    · obtain ⟨n, hn⟩ := one _ (V.str.inj e) (by decide +kernel)
      walk_at "i"
      refine ⟨d, _, dx, _, _, rfl, hd, cl, T.na_Desk_shop, dlk_shop, s0, dxs, _, rfl, h1, slk_none (by decide +kernel), ?_⟩
      walk_at "i"
      refine ⟨tp, _, 1, .int n, rfl, rfl, SqL.of hn, at1 rfl, ?_⟩
      walk_at "i"
      refine ⟨s0, l, N, B, n, rfl, hD.sh, hN, fun H' B' f hs => ?_, qe⟩
      walk_at "i"
      exact fin H' B' f hs
    walk_at "i"
    refine ⟨d, _, dx, _, _, rfl, hd, cl, T.na_Desk_shop, dlk_shop, s0, dxs, _, rfl, h1, slk_none (by decide +kernel), ?_⟩
    walk_at "i"
    refine ⟨s0, l, N, B, rfl, hD.sh, hN, fun H' B' f hs => ?_, qe⟩
    walk_at "i"
    exact fin H' B' f hs
theorem sc_answered : FnScope ["self", "told", "found", "some", "bar"] ["self", "told"] (defScope s_Desk_answered) := ⟨rfl, rfl, rfl, by decide +kernel, rfl, by decide +kernel, by decide +kernel⟩
theorem z33_log {z : Int} (h0 : 0 ≤ z) (h1 : z ≤ 33 ^ 16) : z.natAbs.log2 < 1920 := by
  by_cases c : z.natAbs = 0
  · rw [c]; decide
  · rw [Nat.log2_lt c]
    have e : (33 : Int) ^ 16 ≤ 1000000000000000000000000000000 := by decide
    exact Nat.lt_of_lt_of_le (show z.natAbs < 2 ^ 100 by omega) (Nat.pow_le_pow_right (by decide) (by decide))
theorem m_answered (T : Tx K w mg) : Met P w K mg base (L2.CX P w) 42 (He.ga K "Desk") "answered" (spAns K (He.ga K "Desk") (He.ga K "Shop")) := by
  have c1 : Cal P w K mg base CX0 2 "written" spWritten := c_written T
  have c2 : Met P w K mg base CX0 1 (He.ga K "Shop") "box" (spSBox (He.ga K "Shop")) := m_Shop_box T
  have c3 : Met P w K mg base CX0 21 (He.ga K "Shop") "many" (spSMany (He.ga K "Shop")) := m_Shop_many T
  have c4 : Cal P w K mg base CX0 1 "shown_covering" spShown := c_shown_covering T
  have c5 : Cal P w K mg base (L2.CX P w) 20 "covering_at" (spCovAt (.ref (He.ga K "NoCovering"))) := c_covering_at T
  have c6 : Met P w K mg base CX0 41 (He.ga K "Shop") "lightest" (spSLight (He.ga K "Shop")) := m_Shop_lightest T
  have c7 : Met P w K mg base (L2.CX P w) 23 (He.ga K "Shop") "least_bars" (spSBars K (He.ga K "Shop")) := m_Shop_least_bars T
  have c8 : Cal P w K mg base CX0 1 "listed" spListed := c_listed T
  refine T.d_Desk_answered.met (T.d_Desk_answered.ok1 sc_answered ?_ fun cdv A outer s H vs Q E hr h => ?_) T.cl_Desk T.me_Desk_answered
  · rintro vs H Q E ⟨d, s, l, N, B, tp, h, rfl, _⟩
    rfl
  · obtain ⟨d, s0, l, N, B, tp, h, rfl, hD, ht, q, qe⟩ := h
    refine ⟨_, pss_cons (ps_if (pt_cmpR op_eq (pe_ix ix_list (pv 1) pe_int (fun _ _ => rfl)) pe_str (nomark _)) (pss_one (ps_ret (pe_c c1 hr (by decide) (by rfl) (pa_cons (pe_m0 c2 hr (by decide) (pe_fld (pv 0) rfl)) pa_nil)))) pss_nil)
      (pss_cons (ps_if (pt_cmpR op_eq (pe_ix ix_list (pv 1) pe_int (fun _ _ => rfl)) pe_str (nomark _)) (pss_one (ps_ret (pe_callTy call_str_int (by rfl) T.z_str boot_str (pa_cons (pe_m0 c3 hr (by decide) (pe_fld (pv 0) rfl)) pa_nil)))) pss_nil)
      (pss_cons (ps_if (pt_cmpR op_eq (pe_ix ix_list (pv 1) pe_int (fun _ _ => rfl)) pe_str (nomark _)) (pss_one (ps_ret (pe_c c4 hr (by decide) (by rfl) (pa_cons (pe_cX c5 hr (by decide) (by rfl) (passes_call (takes_of rfl rfl rfl rfl) fun _ _ _ _ h => h) (pa_cons (pe_m0 c2 hr (by decide) (pe_fld (pv 0) rfl)) (pa_cons (pe_ix ix_list (pv 1) pe_int (fun _ _ => rfl)) pa_nil))) pa_nil)))) pss_nil)
      (pss_cons (ps_if (pt_cmpR op_eq (pe_ix ix_list (pv 1) pe_int (fun _ _ => rfl)) pe_str (nomark _))
        (pss_cons (ps_set (i := 2) sc_answered.nd rfl (.inl rfl) (pe_m0 c6 hr (by decide) (pe_fld (pv 0) rfl)))
        (pss_cons (ps_if (pt_cmp (pc_isN (pv 2))) (pss_one (ps_ret pe_str)) pss_nil)
        (pss_one (ps_ret (pe_op op_add_str (pe_op op_add_str (pe_callTy call_str_int (by rfl) T.z_str boot_str (pa_cons (pe_ix ix_tup (pv 2) pe_int (fun _ _ => rfl)) pa_nil)) pe_str) (pe_c c4 hr (by decide) (by rfl) (pa_cons (pe_ix ix_tup (pv 2) pe_int (fun _ _ => rfl)) pa_nil))))))) pss_nil)
      (pss_cons (ps_set (i := 3) sc_answered.nd rfl (.inl rfl) (pe_mX0 c7 hr (by decide) (passes_call (takes_of rfl rfl rfl rfl) fun _ _ _ _ h => h) (pe_fld (pv 0) rfl)))
      (pss_cons (ps_if (pt_cmpR (op_eqE hr.units0) (pv 3) (pe_lst pa_nil) (nomark _)) (pss_one (ps_ret pe_str)) pss_nil)
      (pss_one (ps_ret (pe_join pe_str (pe_lc (own := [("bar", 4)]) (g := gName 4) (tt := tYes) (by rfl) sc_answered.nd (pi_list (pv 3)) (blkOk_by (N := ["self", "told", "found", "some", "bar"]) (sc := defScope s_Desk_answered) (by decide +kernel))
          (fun _ _ _ _ _ => pg_name sc_answered.nd rfl (.inl rfl)) (fun _ _ _ _ _ => pts_nil) (fun s1 H1 C1 cl1 fp1 => pe_c c8 hr (by decide) (by rfl) (pa_cons (pv 4) pa_nil))))))))))), ?_⟩
    obtain ⟨dx, hd⟩ := hD.ex
    obtain ⟨dxs, kv, es, h1, _⟩ := hD.sh.ex
    have cl := T.cl_Desk
    have hok := hD.sh.ok
    have hn := hok.n
    obtain ⟨r, hr0⟩ : ∃ r, H tp = some (.lst (.str h :: r)) := by
      rcases ht with ⟨e, _⟩ | ⟨n, e⟩
      · exact ⟨_, e⟩
      · exact ⟨_, e⟩
    have ix0 : ∀ {R : VK}, R (.str h) H → rIxL K (.ref tp) (.int 0) H R := fun {R} r => ⟨tp, _, 0, .str h, rfl, rfl, SqL.of hr0, at0 rfl, r⟩
    walk_at "i"
    refine ix0 ?_
    walk_at "i"
    refine g_dec (fun e => ?_) (fun e1 => ?_)
    · walk_at "i"
      refine ⟨d, _, dx, _, _, rfl, hd, cl, T.na_Desk_shop, dlk_shop, s0, dxs, _, rfl, h1, slk_none (by decide +kernel), ?_⟩
      walk_at "i"
      refine ⟨s0, l, N, B, rfl, hD.sh, fun kv hkv => ?_⟩
      walk_at "i"
      exact ⟨kv, B, rfl, hkv, hok, fun H' s' => q H' _ (Keeps.of s') fun _ => rfl⟩
    have nb : h ≠ "box" := fun e => e1 (congrArg V.str e)
    have qe := qe nb
    have qn : ∀ H' z, Keeps H H' → Q (.str z) H' := fun H' z k => q H' z k fun e => absurd e nb
    walk_at "i"
    refine ix0 ?_
    walk_at "i"
    refine g_dec (fun e => ?_) (fun e2 => ?_)
    · walk_at "i"
      refine ⟨d, _, dx, _, _, rfl, hd, cl, T.na_Desk_shop, dlk_shop, s0, dxs, _, rfl, h1, slk_none (by decide +kernel), ?_⟩
      walk_at "i"
      refine ⟨s0, l, N, B, rfl, hD.sh, fun H' z k z0 z1 => ?_⟩
      walk_at "i"
      exact ⟨z, rfl, z33_log z0 z1, qn _ _ k⟩
    walk_at "i"
    refine ix0 ?_
    walk_at "i"
    refine g_dec (fun e => ?_) (fun e3 => ?_)
    · obtain ⟨n, hn1⟩ : ∃ n, H tp = some (.lst [.str h, .int n]) := by
        rcases ht with ⟨_, e'⟩ | h
        · exact absurd (V.str.inj e) e'
        · exact h
      walk_at "i"
      refine ⟨d, _, dx, _, _, rfl, hd, cl, T.na_Desk_shop, dlk_shop, s0, dxs, _, rfl, h1, slk_none (by decide +kernel), ?_⟩
      walk_at "i"
      refine ⟨s0, l, N, B, rfl, hD.sh, fun kv hkv => ?_⟩
      walk_at "i"
      refine ⟨tp, _, 1, .int n, rfl, rfl, SqL.of hn1, at1 rfl, ?_⟩
      walk_at "i"
      refine ⟨kv, B, n, rfl, hkv, hok, fun H' p ls k hp hsm => ?_, fun H' k => qe.of k⟩
      walk_at "i"
      exact ⟨p, ls, rfl, hp, hsm, fun H2 z s2 _ => qn _ _ (k.trans (Keeps.of s2))⟩
    walk_at "i"
    refine ix0 ?_
    walk_at "i"
    refine g_dec (fun e => ?_) (fun e4 => ?_)
    · walk_at "i"
      refine ⟨d, _, dx, _, _, rfl, hd, cl, T.na_Desk_shop, dlk_shop, s0, dxs, _, rfl, h1, slk_none (by decide +kernel), ?_⟩
      walk_at "i"
      refine ⟨s0, l, N, B, rfl, hD.sh, fun H' k => ?_, fun H' p q1 z ls k hp hq1 hsm hz => ?_⟩
      · walk_at "i"
        refine L2.iteT ?_
        walk_at "i"
        exact qn _ _ k
      · walk_at "i"
        refine L2.iteF ?_
        walk_at "i"
        refine ⟨p, _, 0, _, rfl, rfl, SqT.of hp, at0 rfl, ?_⟩
        walk_at "i"
        have hsl : sizeLine = 16777216 := rfl
        have hz3 := strI_len hz
        have h3 : (" : " : Str).length = 3 := by decide +kernel
        refine ⟨z, rfl, strI_log hz, _, _, rfl, rfl, ?_, ?_⟩
        · show (strI z).length + (" : " : Str).length ≤ sizeLine
          omega
        walk_at "i"
        refine ⟨p, _, 1, _, rfl, rfl, SqT.of hp, at1 rfl, ?_⟩
        walk_at "i"
        refine ⟨q1, ls, rfl, hq1, hsm, fun H2 z2 s2 hz2 => ?_⟩
        refine ⟨_, _, rfl, rfl, ?_, qn _ _ (k.trans (Keeps.of s2))⟩
        show (strI z ++ (" : " : Str)).length + z2.length ≤ sizeLine
        rw [cat_len]
        omega
    walk_at "i"
    refine ⟨d, _, dx, _, _, rfl, hd, cl, T.na_Desk_shop, dlk_shop, s0, dxs, _, rfl, h1, slk_none (by decide +kernel), ?_⟩
    refine ⟨s0, l, N, B, rfl, hD.sh, fun H1 p ys ls k1 hp hls hyl hlo => ?_, qe⟩
    walk_at "i"
    refine ⟨sz_of (by simp), fun p5 hp5 => ?_⟩
    have s5 := Same.new (o := .lst []) hp5
    have hp' := s5 _ _ hp
    refine ⟨p, p5, _, _, rfl, rfl, .inl ⟨SqL.of hp', SqL.of upd_same⟩, .inr rfl, ?_⟩
    walk_at "i"
    refine g_b (fun _ => ?_) (fun _ => ?_)
    · walk_at "i"
      exact qn _ _ (k1.trans (Keeps.of s5))
    have k5 := k1.trans (Keeps.of s5)
    have hls5 := hls.ex (Same.tups s5)
    generalize upd H1 p5 (.lst []) = H5 at hp' k5 hls5 ⊢
    have lsm : ∀ m ∈ ls, small m := fun m hm => (hlo m hm).small hn
    walk_at "i"
    refine ⟨⟨_, rfl⟩, ?_⟩
    refine g_ls ?_
    walk_at "i"
    refine ⟨p, rfl, ⟨_, SqL.of hp'⟩, fun D hD2 => lc_map walk_list hD2 (by omega) ((ls.map listedS).map V.str) (by simp [hls.1]) (fun H2 s2 => SqL.of (s2 _ _ hp')) (fun i y o H2 H3 hi s2 ho y1 Qc kc => ?_) (fun H2 s2 d2 => ?_)⟩
    · obtain ⟨rfl, hy⟩ := y1
      obtain ⟨o1, ho1, rfl⟩ := map_at ho
      obtain ⟨z1, hz1, rfl⟩ := map_at ho1
      obtain ⟨q1, rfl, hq1⟩ := hls5.2 _ _ _ hy hz1
      walk_at "i"
      refine ⟨rfl, ?_⟩
      walk_at "i"
      exact ⟨q1, z1, rfl, s2 _ _ hq1, lsm z1 (List.mem_of_getElem? hz1), fun H4 s4 => kc _ s4⟩
    · refine ⟨_, D, ls.map listedS, rfl, rfl, .inl (.inl (.inl d2)), ?_, qn _ _ (k5.trans (Keeps.of s2))⟩
      have e2 := sum_len (ls.map listedS) 400 (fun y hy => by
        obtain ⟨m, hm, rfl⟩ := List.mem_map.mp hy
        have h1 := listed_len (lsm m hm)
        have h2 := (hlo m hm).len
        omega)
      rw [List.length_map] at e2 ⊢
      have e3 : Str.length " " = 1 := by decide +kernel
      rw [e3]
      have e4 := hls.1
      have : ls.length * 400 ≤ 512 * 400 := Nat.mul_le_mul_right _ (by omega)
      omega
end
/-! EDesk2 -/
def SayR (B : Bx) (r : Row) (B' : Bx) (z : Str) : Prop := (r = .pl "box" → B' = B ∧ z = writtenS B) ∧ ((r = .pl "must" ∨ r = .pl "may") → B'.n = B.n + 1 ∧ B'.pcs = B.pcs) ∧ ∀ l w, r = .pc l w → B'.n = B.n ∧ B'.pcs.length = B.pcs.length + 1
def SayE (B : Bx) (o : Option Row) (C : Str) : Prop := (o = none ∧ C = "NoRow") ∨ ∃ r, o = some r ∧ C ∈ refs ∧ r ≠ .pl "box" ∧ ((r = .pl "must" ∨ r = .pl "may") → B.n = 16) ∧ ∀ l w, r = .pc l w → ¬ PcGood B l w
def spSay (K : PySem.W.Frag) (Cd Cs : Addr) : Sp := fun vs H Q E => ∃ (d s l : Addr) (N : Nat) (B : Bx) (v : V), vs = [.ref d, v] ∧ DeskAt Cd Cs H d s l N B ∧ N < 1000 ∧ KindV K H v ∧
  (∀ H' z B' r, toldV v = some r → Fr s l H H' → DeskAt Cd Cs H' d s l (N + 1) B' → SayR B r B' z → Q (.str z) H') ∧ ∀ C H', SayE B (toldV v) C → Keeps H H' → E (.ref (He.ga K C)) none H'
theorem inV_str (t : Str) (l : List Str) : inV (.str t) (l.map V.str) = decide (t ∈ l) := by
  unfold inV
  rw [Bool.eq_iff_iff, decide_eq_true_eq, List.any_eq_true]
  constructor
  · rintro ⟨y, hy, h⟩
    obtain ⟨x, hx, rfl⟩ := List.mem_map.mp hy
    have e : x = t := by
      have : (x == t) = true := h
      exact eq_of_beq this
    rw [← e]
    exact hx
  · intro h
    exact ⟨.str t, List.mem_map.mpr ⟨t, h, rfl⟩, show (t == t) = true from beq_self_eq_true t⟩
theorem allSome_len {l : List (Option Int)} {is : List Int} (h : allSome l = some is) : is.length = l.length := by
  rw [allSome_some h, List.length_map]
theorem numbersIn_len {x : Str} {l : List Int} (h : numbersIn x = some l) : l.length ≤ x.length + 1 := by
  unfold numbersIn at h
  have := allSome_len h
  rw [List.length_map] at this
  have := splitC_count x
  omega
theorem toldW_cases {ws : List Str} {r : Row} (h : toldW ws = some r) : (∃ a, a ∈ plains ∧ r = .pl a) ∨ (∃ a n, r = .nu a n ∧ a ∈ (["turn", "at", "drop thing", "drop piece"] : List Str)) ∨ ∃ b l w, b ∈ ws ∧ numbersIn b = some l ∧ r = .pc l w := by
  match ws with
  | [] => cases h
  | [a] =>
    rw [toldW_1] at h
    split at h
    · exact .inl ⟨a, by assumption, (Option.some.inj h).symm⟩
    · cases h
  | [a, b] =>
    rw [toldW_2] at h
    split at h
    · rename_i c
      obtain ⟨n, _, rfl⟩ := Option.map_eq_some_iff.mp h
      refine .inr (.inl ⟨a, n, rfl, ?_⟩)
      rcases c with rfl | rfl <;> decide +kernel
    · cases h
  | [a, b, c] =>
    rw [toldW_3] at h
    split at h
    · cases e1 : numbersIn b with
      | none => rw [e1] at h; cases e2 : signedIn c <;> rw [e2] at h <;> cases h
      | some l =>
        rw [e1] at h
        cases e2 : signedIn c with
        | none => rw [e2] at h; cases h
        | some w =>
          rw [e2] at h
          exact .inr (.inr ⟨b, l, w, by simp, e1, (Option.some.inj h).symm⟩)
    · split at h
      · rename_i c2
        obtain ⟨n, _, rfl⟩ := Option.map_eq_some_iff.mp h
        refine .inr (.inl ⟨_, n, rfl, ?_⟩)
        rcases c2.2 with rfl | rfl <;> decide +kernel
      · cases h
  | _ :: _ :: _ :: _ :: _ => cases h
theorem toldV_cases {v : V} {r : Row} (h : toldV v = some r) : (∃ a, a ∈ plains ∧ r = .pl a) ∨ (∃ a n, r = .nu a n ∧ a ∈ (["turn", "at", "drop thing", "drop piece"] : List Str)) ∨ ∃ x l w, v = .str x ∧ l.length ≤ x.length + 1 ∧ r = .pc l w := by
  cases v with
  | str x =>
    rcases toldW_cases h with h | h | ⟨b, l, w, hb, hl, rfl⟩
    · exact .inl h
    · exact .inr (.inl h)
    · exact .inr (.inr ⟨x, l, w, rfl, by have := numbersIn_len hl; have := splitB_len hb; omega, rfl⟩)
  | _ => cases h
section
variable {P : Program} {w : World} {K : PySem.W.Frag} {mg : Str → Option Value} {base : Heap}
theorem sc_say : FnScope ["self", "row", "told"] ["self", "row"] (defScope s_Desk_say) := ⟨rfl, rfl, rfl, by decide +kernel, rfl, by decide +kernel, by decide +kernel⟩
theorem plain_cases {a : Str} (h : a ∈ plains) : (a = "must" ∨ a = "may") ∨ a = "undo" ∨ (a ∉ (["must", "may"] : List Str) ∧ ¬ a = "piece" ∧ a ∉ (["turn", "drop thing", "drop piece", "undo"] : List Str) ∧ a ≠ "at") := by
  have key : ∀ x ∈ plains, (x = "must" ∨ x = "may") ∨ x = "undo" ∨ (x ∉ (["must", "may"] : List Str) ∧ ¬ x = "piece" ∧ x ∉ (["turn", "drop thing", "drop piece", "undo"] : List Str) ∧ x ≠ "at") := by decide +kernel
  exact key a h
theorem num_cases {a : Str} (h : a ∈ (["turn", "at", "drop thing", "drop piece"] : List Str)) : a ∉ (["must", "may"] : List Str) ∧ ¬ a = "piece" ∧ a ≠ "box" ∧ (a ∈ (["turn", "drop thing", "drop piece", "undo"] : List Str) ∨ a = "at") := by
  have key : ∀ x ∈ (["turn", "at", "drop thing", "drop piece"] : List Str), x ∉ (["must", "may"] : List Str) ∧ ¬ x = "piece" ∧ x ≠ "box" ∧ (x ∈ (["turn", "drop thing", "drop piece", "undo"] : List Str) ∨ x = "at") := by decide +kernel
  exact key a h
theorem pl_inj {a b : Str} (h : Row.pl a = .pl b) : a = b := by
  injection h
theorem m_say (T : Tx K w mg) : Met P w K mg base (L2.CX P w) 43 (He.ga K "Desk") "say" (spSay K (He.ga K "Desk") (He.ga K "Shop")) := by
  have c1 : Cal P w K mg base CX0 4 "told_by" (spTold K) := c_told_by T
  have c2 : Met P w K mg base (L2.CX P w) 2 (He.ga K "Shop") "put_thing" (spPutThing K (He.ga K "Shop")) := m_put_thing T
  have c3 : Met P w K mg base (L2.CX P w) 4 (He.ga K "Shop") "put_piece" (spPutPiece K (He.ga K "Shop")) := m_put_piece T
  have c4 : Met P w K mg base (L2.CX P w) 5 (He.ga K "Desk") "done" (spDone K (He.ga K "Desk") (He.ga K "Shop")) := m_done T
  have c5 : Met P w K mg base (L2.CX P w) 42 (He.ga K "Desk") "answered" (spAns K (He.ga K "Desk") (He.ga K "Shop")) := m_answered T
  refine T.d_Desk_say.met (T.d_Desk_say.ok1 sc_say ?_ fun cdv A outer s H vs Q E hr h => ?_) T.cl_Desk T.me_Desk_say
  · rintro vs H Q E ⟨d, s, l, N, B, v, rfl, _⟩
    rfl
  · obtain ⟨d, s0, l, N, B, v, rfl, hD, hN, hk, q, qe⟩ := h
    refine ⟨_, pss_cons (ps_set (i := 2) sc_say.nd rfl (.inl rfl) (pe_c c1 hr (by decide) (by rfl) (pa_cons (pv 1) pa_nil)))
      (pss_cons (ps_if (pt_cmp (pc_isN (pv 2))) (pss_one (ps_raise rfl (takes_of rfl rfl rfl rfl) (pmk_own PySem.F.excBase_ValueError T.ex_NoRow.1 T.g_NoRow T.ex_NoRow.2.1 (raises_own T.ex_NoRow.2.2.1 T.ex_NoRow.2.2.2) rfl))) pss_nil)
      (pss_cons (ps_if (pt_cmpR op_in (pe_ix ix_list (pv 2) pe_int (fun _ _ => rfl)) (pe_tup (pa_cons pe_str (pa_cons pe_str pa_nil))) (by rfl))
          (pss_one (ps_ret (pe_callTy call_str_int (by rfl) T.z_str boot_str (pa_cons (pe_mX c2 hr (by decide) (passes_call (takes_of rfl rfl rfl rfl) fun _ _ _ _ h => h) (pe_fld (pv 0) rfl) (pa_cons (pe_cmpR op_eq (pe_ix ix_list (pv 2) pe_int (fun _ _ => rfl)) pe_str (nomark _)) pa_nil)) pa_nil)))) pss_nil)
      (pss_cons (ps_if (pt_cmpR op_eq (pe_ix ix_list (pv 2) pe_int (fun _ _ => rfl)) pe_str (nomark _))
          (pss_one (ps_ret (pe_callTy call_str_int (by rfl) T.z_str boot_str (pa_cons (pe_mX c3 hr (by decide) (passes_call (takes_of rfl rfl rfl rfl) fun _ _ _ _ h => h) (pe_fld (pv 0) rfl) (pa_cons (pe_ix ix_list (pv 2) pe_int (fun _ _ => rfl)) (pa_cons (pe_ix ix_list (pv 2) pe_int (fun _ _ => rfl)) pa_nil))) pa_nil)))) pss_nil)
      (pss_cons (ps_if (pt_cmpR op_in (pe_ix ix_list (pv 2) pe_int (fun _ _ => rfl)) (pe_tup (pa_cons pe_str (pa_cons pe_str (pa_cons pe_str (pa_cons pe_str pa_nil))))) (by rfl))
          (pss_cons (ps_expr (pe_mX c4 hr (by decide) (passes_call (takes_of rfl rfl rfl rfl) fun _ _ _ _ h => h) (pv 0) (pa_cons (pv 2) pa_nil))) (pss_one (ps_ret pe_str))) pss_nil)
      (pss_one (ps_ret (pe_mX c5 hr (by decide) (passes_call (takes_of rfl rfl rfl rfl) fun _ _ _ _ h => h) (pv 0) (pa_cons (pv 2) pa_nil)))))))), ?_⟩
    obtain ⟨dx, hd⟩ := hD.ex
    obtain ⟨dxs, kv, es, h1, _⟩ := hD.sh.ex
    have cl := T.cl_Desk
    have hok := hD.sh.ok
    have hn := hok.n
    walk_at "i"
    refine ⟨v, rfl, hk, fun H1 r s1 hR => ?_⟩
    have k1 := Keeps.of s1
    have hD1 := hD.keeps k1
    have hd1 := s1 _ _ hd
    have hs1 := s1 _ _ h1
    walk_at "i"
    cases ho : toldV v with
    | none =>
      rw [ho] at hR
      have e : r = .non := hR
      subst e
      refine L2.iteT ?_
      walk_at "i"
      exact qe "NoRow" _ (.inl ⟨ho, rfl⟩) k1
    | some row =>
      rw [ho] at hR
      have fin := fun H' z B' f hD' hr' => q H' z B' row ho ((Fr.of (s := s0) (l := l) k1).trans f) hD' hr'
      have bad : ∀ C H', C ∈ refs → row ≠ .pl "box" → ((row = .pl "must" ∨ row = .pl "may") → B.n = 16) → (∀ l w, row = .pc l w → ¬ PcGood B l w) → Keeps H1 H' → E (.ref (He.ga K C)) none H' := fun C H' h1 h2 h3 h4 k => qe C H' (.inr ⟨row, ho, h1, h2, h3, h4⟩) (k1.trans k)
      -- the list told, its first word
      obtain ⟨tp, h, rest, rfl, htp, hrow⟩ : ∃ tp h rest, r = .ref tp ∧ H1 tp = some (.lst (.str h :: rest)) ∧ ((row = .pl h ∧ rest = []) ∨ (∃ n, row = .nu h n ∧ rest = [.int n]) ∨ (∃ l w q, row = .pc l w ∧ h = "piece" ∧ rest = [.ref q, .int w] ∧ H1 q = some (.tup (l.map V.int)))) := by
        cases row with
        | pl h => obtain ⟨p, h1, h2⟩ := hR; exact ⟨p, h, [], h1, h2, .inl ⟨rfl, rfl⟩⟩
        | nu h n => obtain ⟨p, h1, h2⟩ := hR; exact ⟨p, h, [.int n], h1, h2, .inr (.inl ⟨n, rfl, rfl⟩)⟩
        | pc l w => obtain ⟨p, q, h1, h2, h3⟩ := hR; exact ⟨p, "piece", [.ref q, .int w], h1, h2, .inr (.inr ⟨l, w, q, rfl, rfl, rfl, h3⟩)⟩
      have ix0 : ∀ {R : VK} {H' : Hp}, H' tp = some (.lst (.str h :: rest)) → R (.str h) H' → rIxL K (.ref tp) (.int 0) H' R := fun {R H'} e r => ⟨tp, _, 0, .str h, rfl, rfl, SqL.of e, at0 rfl, r⟩
      refine L2.iteF ?_
      walk_at "i"
      refine ix0 htp ?_
      walk_at "i"
      refine ⟨sz_of (by simp), fun p2 hp2 => ?_⟩
      have s2 := Same.new (o := .tup [.str "must", .str "may"]) hp2
      have h22 : upd H1 p2 (.tup [.str "must", .str "may"]) p2 = some (.tup ((["must", "may"] : List Str).map V.str)) := upd_same
      have k2 := Keeps.of s2
      have hD2 := hD1.keeps k2
      have htp2 := s2 _ _ htp
      have hd2 := s2 _ _ hd1
      have hs2 := s2 _ _ hs1
      have hq2 : ∀ q xs, H1 q = some (.tup xs) → upd H1 p2 (.tup [.str "must", .str "may"]) q = some (.tup xs) := fun q xs e => s2 _ _ e
      generalize upd H1 p2 (.tup [.str "must", .str "may"]) = H2 at s2 h22 k2 hD2 htp2 hd2 hs2 hq2 ⊢
      refine ⟨p2, _, rfl, .inr (SqT.of h22), rfl, rfl, ?_⟩
      rw [inV_str]
      walk_at "i"
      refine g_dec (fun hm => ?_) (fun hm => ?_)
      · -- must, may
        have hpl : row = .pl h := by
          rcases hrow with ⟨e, _⟩ | ⟨n, e, _⟩ | ⟨l, w, q, e, e2, _⟩
          · exact e
          · exfalso
            rcases toldV_cases ho with ⟨a, _, e3⟩ | ⟨a, n', e3, ha⟩ | ⟨_, _, _, _, _, e3⟩
            · rw [e] at e3; cases e3
            · rw [e] at e3
              injection e3 with e4 e5
              exact (num_cases ha).1 (by rw [← e4]; exact hm)
            · rw [e] at e3; cases e3
          · exfalso
            rw [e2] at hm
            exact absurd hm (by decide +kernel)
        have hmm : row = .pl "must" ∨ row = .pl "may" := by
          rw [hpl]
          rcases List.mem_cons.mp hm with e | hm
          · exact .inl (congrArg _ e)
          · exact .inr (congrArg _ (List.mem_singleton.mp hm))
        have nbox : row ≠ .pl "box" := fun e => by
          rcases hmm with e2 | e2
          · rw [e] at e2; exact absurd (pl_inj e2) (by decide +kernel)
          · rw [e] at e2; exact absurd (pl_inj e2) (by decide +kernel)
        have npc : ∀ l w, row ≠ .pc l w := fun l w e => by rw [hpl] at e; cases e
        walk_at "i"
        refine ⟨d, _, dx, _, _, rfl, hd2, cl, T.na_Desk_shop, dlk_shop, s0, dxs, _, rfl, hs2, slk_none (by decide +kernel), ?_⟩
        walk_at "i"
        refine ix0 htp2 ?_
        walk_at "i"
        refine ⟨s0, l, N, B, _, rfl, hD2.sh, hN, fun H3 B' f3 hS3 e1 e2 => ?_, fun e H3 k3 => bad _ _ (by decide +kernel) nbox (fun _ => e) (fun l w e => absurd e (npc l w)) (k2.trans k3)⟩
        walk_at "i"
        exact ⟨B.n, rfl, strI_log (by omega), fin _ _ B' ((Fr.of k2).trans f3) (hD2.fr f3 hS3) ⟨fun e => absurd e nbox, fun _ => ⟨e1, e2⟩, fun l w e => absurd e (npc l w)⟩⟩
      have nmust : ¬ (row = .pl "must" ∨ row = .pl "may") := fun e => by
        have : h = "must" ∨ h = "may" := by
          rcases hrow with ⟨e2, _⟩ | ⟨n, e2, _⟩ | ⟨l, w, q, e2, _⟩
          · rcases e with e | e
            · rw [e2] at e; exact .inl (pl_inj e)
            · rw [e2] at e; exact .inr (pl_inj e)
          · rcases e with e | e <;> rw [e2] at e <;> cases e
          · rcases e with e | e <;> rw [e2] at e <;> cases e
        rcases this with rfl | rfl
        · exact hm (by decide +kernel)
        · exact hm (by decide +kernel)
      walk_at "i"
      refine ix0 htp2 ?_
      walk_at "i"
      refine g_dec (fun hp => ?_) (fun hp => ?_)
      · -- piece
        have hp := V.str.inj hp
        obtain ⟨lz, wz, q1, e1, e2, hq1⟩ : ∃ l w q, row = .pc l w ∧ rest = [.ref q, .int w] ∧ H1 q = some (.tup (l.map V.int)) := by
          rcases hrow with ⟨e, _⟩ | ⟨n, e, _⟩ | ⟨l, w, q, e, _, e2, e3⟩
          · exfalso
            rcases toldV_cases ho with ⟨a, ha, e3⟩ | ⟨a, n', e3, ha⟩ | ⟨_, _, _, _, _, e3⟩
            · rw [e] at e3
              have e4 := pl_inj e3
              exact (plains_not ha).2.1 (by rw [← e4]; exact hp)
            · rw [e] at e3; cases e3
            · rw [e] at e3; cases e3
          · exfalso
            rcases toldV_cases ho with ⟨a, _, e3⟩ | ⟨a, n', e3, ha⟩ | ⟨_, _, _, _, _, e3⟩
            · rw [e] at e3; cases e3
            · rw [e] at e3
              injection e3 with e4 e5
              exact (num_cases ha).2.1 (by rw [← e4]; exact hp)
            · rw [e] at e3; cases e3
          · exact ⟨l, w, q, e, e2, e3⟩
        subst e2
        have nbox : row ≠ .pl "box" := fun e => by rw [e1] at e; cases e
        have hlz : lz.length ≤ 100000 := by
          rcases toldV_cases ho with ⟨a, _, e3⟩ | ⟨a, n', e3, ha⟩ | ⟨x, l', w', ev, hl, e3⟩
          · rw [e1] at e3; cases e3
          · rw [e1] at e3; cases e3
          · rw [e1] at e3
            injection e3 with e4 e5
            rw [e4]
            rcases hk with ⟨x', ex', hx'⟩ | ⟨hno, _⟩
            · rw [ev] at ex'
              cases ex'
              omega
            · exact absurd ev (hno x)
        walk_at "i"
        refine ⟨d, _, dx, _, _, rfl, hd2, cl, T.na_Desk_shop, dlk_shop, s0, dxs, _, rfl, hs2, slk_none (by decide +kernel), ?_⟩
        walk_at "i"
        refine ⟨tp, _, 1, .ref q1, rfl, rfl, SqL.of htp2, at1 rfl, ?_⟩
        walk_at "i"
        refine ⟨tp, _, 2, .int wz, rfl, rfl, SqL.of htp2, at2 rfl, ?_⟩
        walk_at "i"
        refine ⟨s0, l, N, B, q1, lz, wz, rfl, hD2.sh, hN, hq2 _ _ hq1, hlz, fun H3 B' f3 hS3 g1 g2 => ?_, fun ng e he H3 k3 => bad e _ ?_ nbox (fun h => absurd h nmust) (fun l w e => ?_) (k2.trans k3)⟩
        · have hlen := hok.len
          exact ⟨B.pcs.length, rfl, strI_log (by omega), fin _ _ B' ((Fr.of k2).trans f3) (hD2.fr f3 hS3) ⟨fun e => absurd e nbox, fun h => absurd h nmust, fun l w e => ⟨g1, g2⟩⟩⟩
        · have key : ∀ x ∈ (["TooMany", "NoThing", "NoWeight"] : List Str), x ∈ refs := by decide +kernel
          exact key e he
        · rw [e1] at e
          injection e with e3 e4
          rw [← e3, ← e4]
          exact ng
      have npc : ∀ l w, row ≠ .pc l w := fun l w e => by
        rcases hrow with ⟨e2, _⟩ | ⟨n, e2, _⟩ | ⟨_, _, _, _, e2, _⟩
        · rw [e] at e2; cases e2
        · rw [e] at e2; cases e2
        · exact hp (congrArg V.str e2)
      walk_at "i"
      refine ix0 htp2 ?_
      walk_at "i"
      refine ⟨sz_of (by simp), fun p3 hp3 => ?_⟩
      have s3 := Same.new (o := .tup [.str "turn", .str "drop thing", .str "drop piece", .str "undo"]) hp3
      have h33 : upd H2 p3 (.tup [.str "turn", .str "drop thing", .str "drop piece", .str "undo"]) p3 = some (.tup ((["turn", "drop thing", "drop piece", "undo"] : List Str).map V.str)) := upd_same
      have k3 := Keeps.of s3
      have hD3 := hD2.keeps k3
      have htp3 := s3 _ _ htp2
      have hd3 := s3 _ _ hd2
      generalize upd H2 p3 (.tup [.str "turn", .str "drop thing", .str "drop piece", .str "undo"]) = H3 at s3 h33 k3 hD3 htp3 hd3 ⊢
      refine ⟨p3, _, rfl, .inr (SqT.of h33), rfl, rfl, ?_⟩
      rw [inV_str]
      walk_at "i"
      refine g_dec (fun hm3 => ?_) (fun hm3 => ?_)
      · -- deeds
        have nbox : row ≠ .pl "box" := fun e => by
          rcases hrow with ⟨e2, _⟩ | ⟨n, e2, _⟩ | ⟨_, _, _, e2, _⟩
          · rw [e] at e2
            have e3 := pl_inj e2
            rw [← e3] at hm3
            exact absurd hm3 (by decide +kernel)
          · rw [e] at e2; cases e2
          · rw [e] at e2; cases e2
        walk_at "i"
        refine ⟨d, dx, _, rfl, hd3, dlk_none (by decide +kernel), ?_⟩
        walk_at "i"
        refine ⟨d, s0, l, N, B, tp, rfl, hD3, hN, ?_, fun H4 B' f4 hD4 => ?_, fun e he H4 k4 => bad e _ he nbox (fun h => absurd h nmust) (fun l w e => absurd e (npc l w)) ((k2.trans k3).trans k4)⟩
        · rcases hrow with ⟨e2, e3⟩ | ⟨n, e2, e3⟩ | ⟨l, w, q, e2, _⟩
          · subst e3
            rcases toldV_cases ho with ⟨a, ha, e4⟩ | ⟨a, n', e4, ha⟩ | ⟨_, _, _, _, _, e4⟩
            · rw [e2] at e4
              have e5 := pl_inj e4
              rcases plain_cases ha with h6 | h6 | h6
              · exact absurd (by rw [e2, e5]; rcases h6 with rfl | rfl; exact .inl rfl; exact .inr rfl) nmust
              · right
                rw [e5, h6] at htp3
                exact htp3
              · exact absurd (by rw [← e5]; exact hm3) h6.2.2.1
            · rw [e2] at e4; cases e4
            · rw [e2] at e4; cases e4
          · subst e3
            exact .inl ⟨h, n, htp3⟩
          · exact absurd e2 (npc l w)
        · walk_at "i"
          exact fin _ _ B' ((Fr.of (k2.trans k3)).trans f4) hD4 ⟨fun e => absurd e nbox, fun h => absurd h nmust, fun l w e => absurd e (npc l w)⟩
      · -- answers
        walk_at "i"
        refine ⟨d, dx, _, rfl, hd3, dlk_none (by decide +kernel), ?_⟩
        walk_at "i"
        refine ⟨d, s0, l, N, B, tp, h, rfl, hD3, ?_, fun H4 z k4 hz => ?_, fun nb e he H4 k4 => bad e _ he ?_ (fun h => absurd h nmust) (fun l w e => absurd e (npc l w)) ((k2.trans k3).trans k4)⟩
        · rcases hrow with ⟨e2, e3⟩ | ⟨n, e2, e3⟩ | ⟨l, w, q, e2, _⟩
          · subst e3
            refine .inl ⟨htp3, ?_⟩
            rcases toldV_cases ho with ⟨a, ha, e4⟩ | ⟨a, n', e4, ha⟩ | ⟨_, _, _, _, _, e4⟩
            · rw [e2] at e4
              rw [pl_inj e4]
              exact fun e => (plains_not ha).1 (.inr e)
            · rw [e2] at e4; cases e4
            · rw [e2] at e4; cases e4
          · subst e3
            exact .inr ⟨n, htp3⟩
          · exact absurd e2 (npc l w)
        · have k234 := (k2.trans k3).trans k4
          refine fin _ z B (Fr.of k234) ⟨hD.ds, hD.dl, (hD3.keeps k4).ex, (hD3.keeps k4).sh.more (Nat.le_succ _)⟩ ⟨fun e => ⟨rfl, hz ?_⟩, fun h => absurd h nmust, fun l w e => absurd e (npc l w)⟩
          rcases hrow with ⟨e2, _⟩ | ⟨n, e2, _⟩ | ⟨_, _, _, e2, _⟩
          · rw [e] at e2; exact (pl_inj e2).symm
          · rw [e] at e2; cases e2
          · rw [e] at e2; cases e2
        · intro e
          rcases hrow with ⟨e2, _⟩ | ⟨n, e2, _⟩ | ⟨_, _, _, e2, _⟩
          · rw [e] at e2; exact nb (pl_inj e2).symm
          · rw [e] at e2; cases e2
          · rw [e] at e2; cases e2
end
/-! ELaw1 -/
def spLNum : Sp := fun vs H Q _ => ∃ x, vs = [.str x] ∧ x.length ≤ 90000 ∧ ∀ H', Same H H' → Q (optI (numberIn x)) H'
def spLNums : Sp := fun vs H Q _ => ∃ x, vs = [.str x] ∧ x.length ≤ 90000 ∧ ∀ H' r, Same H H' → NumsR H' r (numbersIn x) → Q r H'
def spLSigned : Sp := fun vs H Q _ => ∃ x, vs = [.str x] ∧ x.length ≤ 90000 ∧ ∀ H', Same H H' → Q (.bl (signedIn x).isSome) H'
def spLRow : Sp := fun vs H Q _ => ∃ x, vs = [.str x] ∧ x.length ≤ 80000 ∧ ∀ H', Same H H' → Q (.bl (toldW (Txt.split x blank)).isSome) H'
theorem sg_9 : sg ("9" : Str) = [57] := by decide +kernel
theorem g_st {te : TE} {σ : L2.St} {H : Hp} {R : It → Hp → Prop} (q : te σ H fun v H1 => ∃ x, v = .str x ∧ R (Its x) H1) : iStr te σ H R := q
theorem lt_one {a b : Nat} : ([a] : List Nat) < [b] ↔ a < b := by
  constructor
  · intro h
    cases h with
    | rel h => exact h
    | cons h => cases h
  · intro h
    exact List.Lex.rel h
section
variable {P : Program} {w : World} {K : PySem.W.Frag} {mg : Str → Option Value} {base : Heap}
theorem sc_law_number : FnScope ["word", "sign"] ["word"] (defScope s_law_number) := ⟨rfl, rfl, rfl, by decide +kernel, rfl, by decide +kernel, by decide +kernel⟩
theorem c_law_number (T : Tx K w mg) : Cal P w K mg base CX0 1 "_law_number" spLNum := by
  refine T.d_law_number.cal (T.d_law_number.ok0 sc_law_number ?_ fun cdv A outer s H vs Q E hr h => ?_) T.g_law_number T.kp_law_number
  · rintro vs H Q E ⟨x, rfl, _⟩
    rfl
  · obtain ⟨x, rfl, hx, q⟩ := h
    have hl : x.length = (sg x).length := TL.len_tl x
    refine ⟨_, pss_cons (ps_if (PW.pt (pw_or (pt_cmpR op_eq (pv 0) pe_str (nomark _)) (pw_or (pt_cmpR op_gt (pe_callB call_len_str (by rfl) T.z_len PySem.boot_len (pa_cons (pv 0) pa_nil)) pe_int (nomark _))
          (pw_or1 (pt_cmpR (op_neE hr.units0) (pe_lc (own := [("sign", 1)]) (g := gName 1) (tt := tNot (tTest (tChain (fun x y H Q => ∃ i j, x = .str i ∧ y = .str j ∧ Q (.bl (!decide (j.cps.toList < i.cps.toList))) H) (fun x y H Q => ∃ i j, x = .str i ∧ y = .str j ∧ Q (.bl (!decide (j.cps.toList < i.cps.toList))) H) (tC (.str "0")) (tVar 1) (tC (.str "9"))))) (te := tVar 1) (by rfl) sc_law_number.nd (pi_str (pv 0))
              (blkOk_by (N := ["word", "sign"]) (sc := defScope s_law_number) (by decide +kernel)) (fun _ _ _ _ _ => pg_name sc_law_number.nd rfl (.inl rfl)) (fun _ _ _ _ _ => pts_one (pt_not (pt_chain op_le_str op_le_str pe_str (pv 1) pe_str))) (fun s1 H1 C1 cl1 fp1 => pv 1)) (pe_lst pa_nil) (nomark _)))))) (pss_one (ps_ret pe_non)) pss_nil)
      (pss_cons (ps_if (pt_cmpR op_ne (pe_callTy call_str_int (by rfl) T.z_str boot_str (pa_cons (pe_callTy call_int_str (by rfl) T.z_int boot_int (pa_cons (pv 0) pa_nil)) pa_nil)) (pv 0) (nomark _)) (pss_one (ps_ret pe_non)) pss_nil)
      (pss_one (ps_ret (pe_callTy call_int_str (by rfl) T.z_int boot_int (pa_cons (pv 0) pa_nil))))), ?_⟩
    have no : ∀ H', Same H H' → ¬ numOk (sg x) = true → Q .non H' := fun H' s h => by
      have q := q H' s
      rw [numberIn_no h] at q
      exact q
    walk_at "i"
    refine g_dec (fun h0 => ?_) (fun h0 => ?_)
    · walk_at "i"
      refine no _ (Same.refl _) fun hn => ?_
      rw [numOk_iff] at hn
      have e := V.str.inj h0
      rw [e] at hn
      exact absurd hn.1.1 (by decide +kernel)
    have hne : sg x ≠ [] := fun e => h0 (congrArg V.str ((str_is (show sg ("" : Str) = [] by decide +kernel)).mpr e))
    walk_at "i"
    refine ⟨x, rfl, sz_of (by omega), ?_⟩
    walk_at "i"
    refine g_dec (fun h1 => ?_) (fun h1 => ?_)
    · walk_at "i"
      refine no _ (Same.refl _) fun hn => ?_
      rw [numOk_iff] at hn
      omega
    walk_at "i"
    refine g_st ?_
    walk_at "i"
    refine ⟨x, rfl, fun D hD => lc_gen walk_str hD (by show x.cps.size ≤ 100000; have : x.cps.size = x.length := rfl; omega) (fun i acc H' => (acc = [] ↔ ∀ c ∈ (sg x).take i, isDig c = true)) ⟨fun _ _ h => (by cases h), fun _ => rfl⟩ (fun _ _ => trivial) (fun i y acc H2 H3 hi s2 hd hR y1 Qc Qn kc kn => ?_) (fun acc H2 s2 d2 hR => ?_)⟩
    · obtain ⟨rfl, c, hc, rfl⟩ := y1
      have hc2 : (sg x)[i]? = some c := by rw [Array.getElem?_toList]; exact hc
      have e9 : (("9" : Str)).cps.toList = [57] := sg_9
      have e0 : (("0" : Str)).cps.toList = [48] := sg_0
      walk_at "i"
      refine ⟨rfl, ?_⟩
      walk_at "i"
      refine ⟨_, _, rfl, rfl, ?_⟩
      walk_at "i"
      have pos : isDig c = true → Qn H3 := fun h => kn _ (Same.refl _) (by
        rw [take_at hc2, hR]
        constructor
        · intro k d hd
          rcases List.mem_append.mp hd with hd | hd
          · exact k d hd
          · rw [List.mem_singleton.mp hd]; exact h
        · intro k d hd
          exact k d (List.mem_append_left _ hd))
      have neg : isDig c = false → Qc (.str ⟨#[c]⟩) H3 := fun h => kc _ _ (Same.refl _) (by
        constructor
        · intro e
          simp at e
        · intro k
          have := k c (by rw [take_at hc2]; exact List.mem_append_right _ (List.mem_singleton.mpr rfl))
          rw [h] at this
          cases this)
      rw [e0]
      refine g_ndec (fun a => ?_) (fun a => ?_)
      · walk_at "i"
        refine ⟨_, _, rfl, rfl, ?_⟩
        walk_at "i"
        rw [e9]
        have a' : 48 ≤ c := by
          have : ¬ c < 48 := fun e => a (lt_one.mpr e)
          omega
        by_cases b : c ≤ 57
        · have : ¬ ([57] : List Nat) < [c] := fun e => by have := lt_one.mp e; omega
          rw [decide_eq_false this]
          refine L2.iteF (pos ?_)
          unfold isDig
          rw [decide_eq_true a', decide_eq_true b]
          rfl
        · have : ([57] : List Nat) < [c] := lt_one.mpr (by omega)
          rw [decide_eq_true this]
          refine L2.iteT ?_
          walk_at "i"
          refine neg ?_
          unfold isDig
          rw [decide_eq_false b, Bool.and_false]
      · walk_at "i"
        refine neg ?_
        have a' : c < 48 := lt_one.mp a
        unfold isDig
        rw [decide_eq_false (show ¬ 48 ≤ c by omega)]
        rfl
    · walk_at "i"
      refine ⟨sz_of (by simp), fun p hp => ?_⟩
      have s3 := Same.new (o := .lst []) hp
      have sA := s2.trans s3
      refine ⟨D, p, _, _, rfl, rfl, .inl ⟨SqL.of (s3 _ _ d2), SqL.of upd_same⟩, .inr rfl, ?_⟩
      have he : (if (true : Bool) = true then !decide (acc = []) else decide (acc = [])) = !decide (acc = []) := by simp
      rw [he]
      have htk : (sg x).take x.cps.size = sg x := by rw [show x.cps.size = (sg x).length by simp, List.take_length]
      rw [htk] at hR
      walk_at "i"
      refine g_ndec (fun h3 => ?_) (fun h3 => ?_)
      · walk_at "i"
        refine no _ sA fun hn => h3 (hR.mpr ?_)
        rw [numOk_iff] at hn
        exact fun c hc => List.all_eq_true.mp hn.2.2 c hc
      · have hall : (sg x).all isDig = true := List.all_eq_true.mpr (hR.mp h3)
        have hint := intText_of hall hne (by omega)
        have hv : NumText.digitsVal (sg x) < 10000000000000 := by
          have b := digitsVal_lt (sg x) 0 (all_dig hall)
          have b2 : 10 ^ (sg x).length ≤ 10 ^ 13 := Nat.pow_le_pow_right (by decide) (by omega)
          rw [Nat.zero_add, Nat.one_mul] at b
          exact Nat.lt_of_lt_of_le b b2
        walk_at "i"
        refine ⟨x, _, rfl, hint, by omega, ?_⟩
        refine ⟨_, rfl, strI_log (by omega), ?_⟩
        walk_at "i"
        have back := str_back hall hne
        refine g_ndec (fun h4 => ?_) (fun h4 => ?_)
        · walk_at "i"
          refine no _ sA fun hn => ?_
          rw [numOk_iff] at hn
          exact h4 (congrArg V.str (back.mpr hn.2.1))
        · walk_at "i"
          refine ⟨x, _, rfl, hint, by omega, ?_⟩
          have q := q _ sA
          have lp := List.length_pos_iff.mpr hne
          rw [numberIn_yes ((numOk_iff _).mpr ⟨by omega, back.mp (V.str.inj h4), hall⟩)] at q
          exact q
theorem sc_law_numbers : FnScope ["word", "parts", "part"] ["word"] (defScope s_law_numbers) := ⟨rfl, rfl, rfl, by decide +kernel, rfl, by decide +kernel, by decide +kernel⟩
theorem c_law_numbers (T : Tx K w mg) : Cal P w K mg base CX0 2 "_law_numbers" spLNums := by
  have c1 : Cal P w K mg base CX0 1 "_law_number" spLNum := c_law_number T
  refine T.d_law_numbers.cal (T.d_law_numbers.ok0 sc_law_numbers ?_ fun cdv A outer s H vs Q E hr h => ?_) T.g_law_numbers T.kp_law_numbers
  · rintro vs H Q E ⟨x, rfl, _⟩
    rfl
  · obtain ⟨x, rfl, hx, q⟩ := h
    refine ⟨_, pss_cons (ps_setLc (i := 1) (own := [("part", 2)]) (g := gName 2) (tt := tYes) (by rfl) sc_law_numbers.nd rfl rfl (sw_true rfl rfl rfl (by decide +kernel)) (pi_list (pe_split (pv 0) pe_str)) (blkOk_by (N := ["word", "parts", "part"]) (sc := defScope s_law_numbers) (by decide +kernel))
        (fun _ _ _ _ _ => pg_name sc_law_numbers.nd rfl (.inl rfl)) (fun _ _ _ _ _ => pts_nil) (fun s1 H1 C1 cl1 fp1 => pe_c c1 hr (by decide) (by rfl) (pa_cons (pv 2) pa_nil)))
      (pss_cons (ps_if (pt_cmpR op_in pe_non (pv 1) (by rfl)) (pss_one (ps_ret pe_non)) pss_nil)
      (pss_one (ps_ret (pe_tupleOf (by rfl) T.z_tuple (pv 1))))), ?_⟩
    walk_at "i"
    refine ⟨_, rfl, ⟨x, rfl⟩, x, comma, rfl, rfl, by decide +kernel, sz_lt (by omega), fun p hp => ?_⟩
    have hlen : (Txt.split x comma).length ≤ 90001 := by
      have := splitC_count x
      omega
    have hpp : upd H p (.lst ((Txt.split x comma).map V.str)) p = some (.lst ((Txt.split x comma).map V.str)) := upd_same
    refine ⟨p, rfl, ⟨_, .inl (.inl hpp)⟩, fun D hD => lc_map walk_list hD (by rw [List.length_map]; omega) (((Txt.split x comma).map numberIn).map optI) (by simp) (fun H2 s2 => .inl (.inl (s2 _ _ hpp))) (fun i y o H2 H3 hi s2 ho y1 Qc kc => ?_) (fun H2 s2 d2 => ?_)⟩
    · obtain ⟨rfl, hy⟩ := y1
      obtain ⟨z, hz, rfl⟩ := map_at hy
      obtain ⟨o1, ho1, rfl⟩ := map_at ho
      obtain ⟨z1, hz1, rfl⟩ := map_at ho1
      rw [hz] at hz1
      cases hz1
      have hzl := splitC_len (List.mem_of_getElem? hz)
      walk_at "i"
      refine ⟨rfl, ?_⟩
      walk_at "i"
      exact ⟨_, rfl, by omega, fun H4 s4 => kc _ s4⟩
    · walk_at "i"
      have hS : Same H H2 := (Same.new hp).trans s2
      refine ⟨D, _, rfl, .inl (.inl (.inl d2)), rfl, flat_opt _, ?_⟩
      walk_at "i"
      refine g_b (fun h => ?_) (fun h => ?_)
      · rw [inV_none, Option.isNone_iff_eq_none] at h
        walk_at "i"
        refine q _ _ hS ?_
        unfold numbersIn
        rw [h]
        rfl
      · rw [inV_none] at h
        walk_at "i"
        refine .inl ⟨D, _, rfl, .inl (.inl d2), fun p2 hp2 => ?_⟩
        refine q _ _ (hS.trans (Same.new hp2)) ?_
        unfold numbersIn
        cases e : allSome ((Txt.split x comma).map numberIn) with
        | none => rw [e] at h; cases h
        | some l =>
          exact ⟨p2, rfl, by rw [upd_same, map_opt e]⟩
theorem sc_law_signed : FnScope ["word"] ["word"] (defScope s_law_signed) := ⟨rfl, rfl, rfl, by decide +kernel, rfl, by decide +kernel, by decide +kernel⟩
theorem c_law_signed (T : Tx K w mg) : Cal P w K mg base CX0 2 "_law_signed" spLSigned := by
  have c1 : Cal P w K mg base CX0 1 "_law_number" spLNum := c_law_number T
  refine T.d_law_signed.cal (T.d_law_signed.ok0 sc_law_signed ?_ fun cdv A outer s H vs Q E hr h => ?_) T.g_law_signed T.kp_law_signed
  · rintro vs H Q E ⟨x, rfl, _⟩
    rfl
  · obtain ⟨x, rfl, hx, q⟩ := h
    refine ⟨_, pss_cons (ps_if (pt_cmpR op_eq (pe_slice C8.sl_txt (pv 0) po_none (po_some pe_int)) pe_str (nomark _)) (pss_one (ps_ret (pe_cmpR op_nin (pe_c c1 hr (by decide) (by rfl) (pa_cons (pe_slice C8.sl_txt (pv 0) (po_some pe_int) po_none) pa_nil)) (pe_tup (pa_cons pe_non (pa_cons pe_int pa_nil))) (by rfl)))) pss_nil)
      (pss_one (ps_ret (pe_cmp (pc_notN (pe_c c1 hr (by decide) (by rfl) (pa_cons (pv 0) pa_nil)))))), ?_⟩
    walk_at "i"
    refine ⟨_, rfl, ?_⟩
    walk_at "i"
    refine ⟨x, rfl, sz_of (by omega), ?_⟩
    walk_at "i"
    rw [sl_1]
    refine g_dec (fun h => ?_) (fun h => ?_)
    · have hn : (sg x).take 1 = [45] := (minus_iff x).mp (V.str.inj h)
      walk_at "i"
      refine ⟨_, rfl, ?_⟩
      walk_at "i"
      refine ⟨x, rfl, sz_of (by omega), ?_⟩
      walk_at "i"
      rw [sl_f1]
      refine ⟨_, rfl, by rw [SX.S_len, List.length_drop, ← TL.len_tl]; omega, fun H1 s1 => ?_⟩
      walk_at "i"
      refine ⟨sz_of (by simp), fun p hp => ?_⟩
      refine ⟨p, _, rfl, .inr (SqT.of upd_same), by cases numberIn (SX.S ((sg x).drop 1)) <;> rfl, rfl, ?_⟩
      have e : (!inV (optI (numberIn (SX.S ((sg x).drop 1)))) [V.non, V.int 0]) = (signedIn x).isSome := by
        unfold signedIn
        rw [if_pos hn]
        cases numberIn (SX.S ((sg x).drop 1)) with
        | none => rfl
        | some n =>
          show (!(false || ((0 : Int) == n || false))) = (if n = 0 then none else some (0 - n)).isSome
          by_cases c : n = 0
          · subst c; rfl
          · rw [if_neg c]
            have : ((0 : Int) == n) = false := by
              rw [beq_eq_false_iff_ne]
              exact fun e => c e.symm
            rw [this]
            rfl
      rw [e]
      exact q _ (Same.newer s1 hp)
    · have hn : ¬ (sg x).take 1 = [45] := fun e => h (congrArg V.str ((minus_iff x).mpr e))
      walk_at "i"
      refine ⟨x, rfl, by omega, fun H1 s1 => ?_⟩
      walk_at "i"
      have e : (!decide (optI (numberIn x) = V.non)) = (signedIn x).isSome := by
        unfold signedIn
        rw [if_neg hn, optI_none]
        cases numberIn x <;> rfl
      show Q (.bl (!decide (optI (numberIn x) = V.non))) H1
      rw [e]
      exact q _ s1
end
/-! ELaw2 -/
section
variable {P : Program} {w : World} {K : PySem.W.Frag} {mg : Str → Option Value} {base : Heap}
theorem sc_law_is_row : FnScope ["row", "words"] ["row"] (defScope s_law_is_row) := ⟨rfl, rfl, rfl, by decide +kernel, rfl, by decide +kernel, by decide +kernel⟩
theorem map_get {ws : List Str} {i : Nat} {z : Str} (h : ws[i]? = some z) : (ws.map V.str)[i]? = some (.str z) := by
  rw [List.getElem?_map, h]
  rfl
theorem c_law_is_row (T : Tx K w mg) : Cal P w K mg base CX0 3 "_law_is_row" spLRow := by
  have c1 : Cal P w K mg base CX0 1 "_law_number" spLNum := c_law_number T
  have c2 : Cal P w K mg base CX0 2 "_law_numbers" spLNums := c_law_numbers T
  have c3 : Cal P w K mg base CX0 2 "_law_signed" spLSigned := c_law_signed T
  refine T.d_law_is_row.cal (T.d_law_is_row.ok0 sc_law_is_row ?_ fun cdv A outer s H vs Q E hr h => ?_) T.g_law_is_row T.kp_law_is_row
  · rintro vs H Q E ⟨x, rfl, _⟩
    rfl
  · obtain ⟨x, rfl, hx, q⟩ := h
    refine ⟨_, pss_cons (ps_set (i := 1) sc_law_is_row.nd rfl (.inl rfl) (pe_split (pv 0) pe_str))
      (pss_cons (ps_if (pt_cmpR op_in (pe_ix ix_list (pv 1) pe_int (fun _ _ => rfl)) (pe_tup (pa_cons pe_str (pa_cons pe_str (pa_cons pe_str (pa_cons pe_str (pa_cons pe_str (pa_cons pe_str (pa_cons pe_str pa_nil)))))))) (by rfl)) (pss_one (ps_ret (pe_cmpR op_eq (pe_callB call_len (by rfl) T.z_len PySem.boot_len (pa_cons (pv 1) pa_nil)) pe_int (nomark _)))) pss_nil)
      (pss_cons (ps_if (pt_cmpR op_in (pe_ix ix_list (pv 1) pe_int (fun _ _ => rfl)) (pe_tup (pa_cons pe_str (pa_cons pe_str pa_nil))) (by rfl)) (pss_one (ps_ret (pe_and (pe_cmpR op_eq (pe_callB call_len (by rfl) T.z_len PySem.boot_len (pa_cons (pv 1) pa_nil)) pe_int (nomark _)) (pe_one (pe_cmp (pc_notN (pe_c c1 hr (by decide) (by rfl) (pa_cons (pe_ix ix_list (pv 1) pe_int (fun _ _ => rfl)) pa_nil)))))))) pss_nil)
      (pss_cons (ps_if (pt_cmpR op_eq (pe_ix ix_list (pv 1) pe_int (fun _ _ => rfl)) pe_str (nomark _)) (pss_one (ps_ret (pe_and (pe_cmpR op_eq (pe_callB call_len (by rfl) T.z_len PySem.boot_len (pa_cons (pv 1) pa_nil)) pe_int (nomark _)) (pe_and (pe_cmpR op_in (pe_ix ix_list (pv 1) pe_int (fun _ _ => rfl)) (pe_tup (pa_cons pe_str (pa_cons pe_str pa_nil))) (by rfl)) (pe_one (pe_cmp (pc_notN (pe_c c1 hr (by decide) (by rfl) (pa_cons (pe_ix ix_list (pv 1) pe_int (fun _ _ => rfl)) pa_nil))))))))) pss_nil)
      (pss_cons (ps_if (pt_cmpR op_eq (pe_ix ix_list (pv 1) pe_int (fun _ _ => rfl)) pe_str (nomark _)) (pss_one (ps_ret (pe_and (pe_cmpR op_eq (pe_callB call_len (by rfl) T.z_len PySem.boot_len (pa_cons (pv 1) pa_nil)) pe_int (nomark _)) (pe_and (pe_cmp (pc_notN (pe_c c2 hr (by decide) (by rfl) (pa_cons (pe_ix ix_list (pv 1) pe_int (fun _ _ => rfl)) pa_nil)))) (pe_one (pe_c c3 hr (by decide) (by rfl) (pa_cons (pe_ix ix_list (pv 1) pe_int (fun _ _ => rfl)) pa_nil))))))) pss_nil)
      (pss_one (ps_ret pe_bl)))))), ?_⟩
    obtain ⟨h, rest, hW, hlen, hlens⟩ := split_words hx
    walk_at "i"
    refine ⟨⟨x, rfl⟩, x, blank, rfl, rfl, by decide +kernel, sz_lt (by omega), fun wl hwl => ?_⟩
    rw [hW]
    have s0 := Same.new (o := .lst ((h :: rest).map V.str)) hwl
    have hl0 : upd H wl (.lst ((h :: rest).map V.str)) wl = some (.lst ((h :: rest).map V.str)) := upd_same
    generalize upd H wl (.lst ((h :: rest).map V.str)) = H0 at s0 hl0 ⊢
    have fin : ∀ (b : Bool) H', Same H0 H' → b = (toldW (h :: rest)).isSome → Q (.bl b) H' := fun b H' s' e => by
      have q := q H' (s0.trans s')
      rw [hW, ← e] at q
      exact q
    have ix : ∀ {i : Nat} {z : Str} {R : VK} {H' : Hp}, Same H0 H' → (h :: rest)[i]? = some z → R (.str z) H' → rIxL K (.ref wl) (.int (i : Nat)) H' R := fun {i z R H'} s' e r => ⟨wl, _, i, .str z, rfl, rfl, SqL.of (s' _ _ hl0), atI_nat (map_get e), r⟩
    have hln : rest.length + 1 = ((h :: rest).map V.str).length := by rw [List.length_map, List.length_cons]
    have dl : ∀ k : Nat, decide (V.int ((rest.length + 1 : Nat) : Int) = V.int (k : Int)) = decide (rest.length + 1 = k) := fun k => by
      by_cases e : rest.length + 1 = k
      · rw [e, decide_eq_true rfl, decide_eq_true rfl]
      · rw [decide_eq_false e, decide_eq_false (fun h => e (by have := V.int.inj h; omega))]
    have dl1 : decide (V.int ((rest.length + 1 : Nat) : Int) = V.int 1) = decide (rest.length + 1 = 1) := dl 1
    have dl2 : decide (V.int ((rest.length + 1 : Nat) : Int) = V.int 2) = decide (rest.length + 1 = 2) := dl 2
    have dl3 : decide (V.int ((rest.length + 1 : Nat) : Int) = V.int 3) = decide (rest.length + 1 = 3) := dl 3
    walk_at "i"
    refine ix (i := 0) (Same.refl _) rfl ?_
    walk_at "i"
    refine ⟨sz_of (by simp), fun p1 hp1 => ?_⟩
    have s1 := Same.new (o := .tup (plains.map V.str)) hp1
    have h11 : upd H0 p1 (.tup (plains.map V.str)) p1 = some (.tup (plains.map V.str)) := upd_same
    refine ⟨p1, plains.map V.str, rfl, .inr (SqT.of h11), rfl, rfl, ?_⟩
    rw [inV_str]
    change Same H0 (upd H0 p1 (.tup [.str "must", .str "may", .str "undo", .str "box", .str "many", .str "lightest", .str "bars"])) at s1
    generalize upd H0 p1 (.tup [.str "must", .str "may", .str "undo", .str "box", .str "many", .str "lightest", .str "bars"]) = H1 at s1 ⊢
    walk_at "i"
    refine g_dec (fun hp => ?_) (fun hnp => ?_)
    · walk_at "i"
      refine ⟨.ref wl, _, rfl, .inl ⟨_, SqL.of (s1 _ _ hl0), hln⟩, ?_⟩
      walk_at "i"
      refine fin _ _ s1 ?_
      rw [dl1, toldW_pl hp, toldF_e]
      cases rest with
      | nil => rfl
      | cons b r =>
        rw [decide_eq_false (by rw [List.length_cons]; omega)]
        rfl
    walk_at "i"
    refine ix (i := 0) s1 rfl ?_
    walk_at "i"
    refine ⟨sz_of (by simp), fun p2 hp2 => ?_⟩
    have s2 := Same.newer s1 (o := .tup [.str "turn", .str "at"]) hp2
    have h22 : upd H1 p2 (.tup [.str "turn", .str "at"]) p2 = some (.tup ((["turn", "at"] : List Str).map V.str)) := upd_same
    refine ⟨p2, _, rfl, .inr (SqT.of h22), rfl, rfl, ?_⟩
    rw [inV_str]
    generalize upd H1 p2 (.tup [.str "turn", .str "at"]) = H2 at s2 ⊢
    walk_at "i"
    refine g_dec (fun hp => ?_) (fun hnt => ?_)
    · have hta : h = "turn" ∨ h = "at" := by
        rcases List.mem_cons.mp hp with e | hp
        · exact .inl e
        · exact .inr (List.mem_singleton.mp hp)
      walk_at "i"
      refine ⟨.ref wl, _, rfl, .inl ⟨_, SqL.of (s2 _ _ hl0), hln⟩, ?_⟩
      walk_at "i"
      rw [dl2]
      have et := toldW_nu hta rest
      rw [toldF_n] at et
      refine g_dec (fun hl => ?_) (fun hl => ?_)
      · obtain ⟨b, rfl⟩ := List.length_eq_one_iff.mp (show rest.length = 1 by omega)
        have hbl := hlens b (by simp)
        walk_at "i"
        refine ix (i := 1) s2 rfl ?_
        walk_at "i"
        refine ⟨b, rfl, by omega, fun H3 s3 => ?_⟩
        refine fin _ _ (s2.trans s3) ?_
        rw [et, optI_none]
        show (!(!(numberIn b).isSome)) = ((numberIn b).map (Row.nu h)).isSome
        rw [Bool.not_not, Option.isSome_map]
      · refine fin _ _ s2 ?_
        rw [et]
        match rest, hl with
        | [], _ => rfl
        | [b], hl => exact absurd rfl hl
        | _ :: _ :: _, _ => rfl
    have hta : ¬ (h = "turn" ∨ h = "at") := fun e => hnt (by rcases e with rfl | rfl <;> decide +kernel)
    walk_at "i"
    refine ix (i := 0) s2 rfl ?_
    walk_at "i"
    refine g_dec (fun hd => ?_) (fun hnd => ?_)
    · have hd := V.str.inj hd
      subst hd
      obtain ⟨d1, d2, d3⟩ := drop_not
      walk_at "i"
      refine ⟨.ref wl, _, rfl, .inl ⟨_, SqL.of (s2 _ _ hl0), hln⟩, ?_⟩
      walk_at "i"
      rw [dl3]
      refine g_dec (fun hl => ?_) (fun hl => ?_)
      · obtain ⟨b, c, rfl⟩ := len_two (show rest.length = 2 by omega)
        have hcl := hlens c (by simp)
        walk_at "i"
        refine ix (i := 1) s2 rfl ?_
        walk_at "i"
        refine ⟨sz_of (by simp), fun p3 hp3 => ?_⟩
        have s3 := Same.newer s2 (o := .tup [.str "thing", .str "piece"]) hp3
        have h33 : upd H2 p3 (.tup [.str "thing", .str "piece"]) p3 = some (.tup ((["thing", "piece"] : List Str).map V.str)) := upd_same
        refine ⟨p3, _, rfl, .inr (SqT.of h33), rfl, rfl, ?_⟩
        rw [inV_str]
        refine ⟨_, rfl, ?_⟩
        refine g_dec (fun hb => ?_) (fun hb => ?_)
        · have hbb : b = "thing" ∨ b = "piece" := by
            rcases List.mem_cons.mp hb with e | hb
            · exact .inl e
            · exact .inr (List.mem_singleton.mp hb)
          walk_at "i"
          refine ix (i := 2) s3 rfl ?_
          walk_at "i"
          refine ⟨c, rfl, by omega, fun H4 s4 => ?_⟩
          refine fin _ _ (s3.trans s4) ?_
          rw [toldW_3, if_neg d3, if_pos ⟨rfl, hbb⟩, optI_none]
          rw [Bool.not_not, Option.isSome_map]
        · refine fin _ _ s3 ?_
          rw [toldW_3, if_neg d3, if_neg (fun e => hb (by rcases e.2 with rfl | rfl <;> decide +kernel))]
          rfl
      · refine fin _ _ s2 ?_
        match rest, hl with
        | [], _ => rw [toldW_1, if_neg d1]; rfl
        | [b], _ => rw [toldW_2, if_neg d2]; rfl
        | [b, c], hl => exact absurd rfl hl
        | _ :: _ :: _ :: _, _ => rfl
    walk_at "i"
    refine ix (i := 0) s2 rfl ?_
    walk_at "i"
    refine g_dec (fun hd => ?_) (fun hnp2 => ?_)
    · have hd := V.str.inj hd
      subst hd
      have et := toldW_pc rest
      rw [toldF_lw] at et
      walk_at "i"
      refine ⟨.ref wl, _, rfl, .inl ⟨_, SqL.of (s2 _ _ hl0), hln⟩, ?_⟩
      walk_at "i"
      rw [dl3]
      refine g_dec (fun hl => ?_) (fun hl => ?_)
      · obtain ⟨b, c, rfl⟩ := len_two (show rest.length = 2 by omega)
        have hbl := hlens b (by simp)
        have hcl := hlens c (by simp)
        walk_at "i"
        refine ix (i := 1) s2 rfl ?_
        walk_at "i"
        refine ⟨b, rfl, by omega, fun H3 r s3 hr3 => ?_⟩
        walk_at "i"
        cases e1 : numbersIn b with
        | none =>
          rw [e1] at hr3
          rw [show r = .non from hr3]
          refine L2.iteF ?_
          refine fin _ _ (s2.trans s3) ?_
          rw [et]
          show false = (tPr (numbersIn b) (signedIn c)).isSome
          rw [e1]
          rfl
        | some l =>
          rw [e1] at hr3
          obtain ⟨p5, rfl, hp5⟩ := hr3
          refine L2.iteT ?_
          walk_at "i"
          refine ix (i := 2) (s2.trans s3) rfl ?_
          walk_at "i"
          refine ⟨c, rfl, by omega, fun H4 s4 => ?_⟩
          refine fin _ _ ((s2.trans s3).trans s4) ?_
          rw [et]
          show _ = (tPr (numbersIn b) (signedIn c)).isSome
          rw [e1]
          cases signedIn c <;> rfl
      · refine fin _ _ s2 ?_
        rw [et]
        match rest, hl with
        | [], _ => rfl
        | [b], _ => rfl
        | [b, c], hl => exact absurd rfl hl
        | _ :: _ :: _ :: _, _ => rfl
    walk_at "i"
    refine fin _ _ s2 ?_
    have nd : h ≠ "drop" := fun e => hnd (congrArg V.str e)
    have np : ¬ h = "piece" := fun e => hnp2 (congrArg V.str e)
    match rest with
    | [] => rw [toldW_1, if_neg hnp]; rfl
    | [b] => rw [toldW_2, if_neg hta]; rfl
    | [b, c] => rw [toldW_3, if_neg np, if_neg (fun e => nd e.1)]; rfl
    | _ :: _ :: _ :: _ => rfl
end
/-! ERul5 -/
/-! ### set(list of ints) -/
section
variable {P : Program} {w : World} {A : Around} {E : Value → Shared → Prop} {s : Shared}
set_option maxHeartbeats 8000000 in
theorem call_set_listI {l : Addr} {items : Array Value} (ns : List Int) {Q : Value → Shared → Prop} (hh : A.handled = none) (hl : s.heap.IsList l items) (hit : IntsAre items.toList ns) (hb : ns.length + 1 < scanBound)
    (h : ∀ (h' : Heap) (tk c : Nat), SetR w h' s.heap.objs.size (fun j => decide (j ∈ ns)) c → c ≤ ns.length → (∀ b o, s.heap.get? b = some o → h'.get? b = some o) → Q (.ref s.heap.objs.size) { s with heap := h', toks := tk }) :
    wpAny (model P w) A (call (.type "set") [.ref l]) Q E s := by
  have hisz : items.size = ns.length := by
    have q := IntsAre.length hit
    rw [Array.length_toList] at q
    exact q
  obtain ⟨c, tl, hmro⟩ := F.called_set.mro
  have hmade := F.called_set.made
  have hsub := F.called_set.sub
  refine wpAny_call (codeAny_of_tree ?_)
  show wpAny _ _ (callAny (.type "set") _) _ _ _
  refine wpAny_pure ⟨Code.quiet_builtin _ (by decide +kernel), codeAny_builtin F.entry_type_call ?_⟩
  rw [Around.under_plain (weight_type_call_type "set" [.ref l] []) rfl]
  have h1 := F.called_set.notType
  have h2 := F.called_set.canCreate
  have hct := F.typeCall_set_1 (.ref l)
  repeat (any_goals (first | assumption | wp_step))

  refine codeAny_mono (code_set_led1 (.ref l) (E := E) (Q₁ := fun obj s₁ => obj = .ref s.heap.objs.size ∧ s₁ = { s with heap := s.heap.push { cls := .type "set", dict := none, data := .set #[] 0 (.fresh 0 0 (!w.params.followText "set-order")) } }) ⟨rfl, rfl⟩) fun r s₁ hr => ?_
  cases r with
  | error e => exact hr
  | ok fl =>
    cases fl with
    | ret obj =>
      obtain ⟨rfl, rfl⟩ := hr
      have hS : (s.heap.push { cls := .type "set", dict := none, data := .set #[] 0 (.fresh 0 0 (!w.params.followText "set-order")) }).get? s.heap.objs.size = some { cls := .type "set", dict := none, data := .set #[] 0 (.fresh 0 0 (!w.params.followText "set-order")) } := Heap.get?_push_size _ rfl
      have hT : Shared.TypeIs { s with heap := s.heap.push { cls := .type "set", dict := none, data := .set #[] 0 (.fresh 0 0 (!w.params.followText "set-order")) } } (.ref s.heap.objs.size) "set" := ⟨_, hS, rfl⟩
      have hli := F.called_set.init.lookup
      have hbi := F.called_set.init.bind (.ref s.heap.objs.size)
      repeat (any_goals (first | assumption | wp_step))

      refine codeAny_mono (codeAny_call_builtin (R := wants (fun r s₂ => r = .none ∧ ∃ h' tk c, s₂ = { s with heap := h', toks := tk } ∧ SetR w h' s.heap.objs.size (fun j => decide (j ∈ ns)) c ∧ c ≤ ns.length ∧
          (∀ b o, s.heap.get? b = some o → h'.get? b = some o)) E) F.called_set.init.plain F.entry_set_init (check_set_init_1 hT ?_)) fun r₂ s₂ hr₂ => ?_
      · obtain ⟨ol, hol, hcl, nl, hdl⟩ := hl
        obtain ⟨ocls, odict, odata, oslots⟩ := ol
        simp only at hcl hdl
        subst hcl; subst hdl
        have hol' : (s.heap.push { cls := .type "set", dict := none, data := .set #[] 0 (.fresh 0 0 (!w.params.followText "set-order")) }).get? l = some { cls := .type "list", dict := odict, data := .seq items nl, slots := oslots } := Heap.get?_push_of_some _ hol
        have hsls := F.sub_list_set
        have hslf := F.sub_list_frozenset
        have hne : (Value.type "list" == Value.type "dict") = false := by decide
        have hl1 : (s.heap.push { cls := .type "set", dict := none, data := .set #[] 0 (.fresh 0 0 (!w.params.followText "set-order")) }).IsList l items := ⟨_, hol', rfl, nl, rfl⟩
        unfold Builtin.«set.__init__» noKeywords Builtin.Frozenset.updateFrom
        generalize hPI : pyIter = PI
        wp_walk
        subst hPI

        refine wpAny_pyIter_list hl1 ?_
        refine wpAny_bind (wpAny_runValue ?_)
        have hlS : l < s.heap.objs.size := Heap.lt_size hol
        have hh3 : A.in1.in1.in1.handled = none := by simp [hh]
        have hz1 : (s.heap.push { cls := .type "set", dict := none, data := .set #[] 0 (.fresh 0 0 (!w.params.followText "set-order")) }).objs.size = s.heap.objs.size + 1 := Heap.size_push ..
        have hneI : l ≠ (s.heap.push { cls := .type "set", dict := none, data := .set #[] 0 (.fresh 0 0 (!w.params.followText "set-order")) }).objs.size := by
          rw [Heap.size_push]; exact Nat.ne_of_lt (Nat.lt_succ_of_lt hlS)
        have hSf : s.heap.objs.size ∉ [(s.heap.push { cls := .type "set", dict := none, data := .set #[] 0 (.fresh 0 0 (!w.params.followText "set-order")) }).objs.size, l] := by
          rw [Heap.size_push]; simp only [List.mem_cons, List.mem_singleton, List.not_mem_nil, or_false, not_or]
          exact ⟨Nat.ne_of_lt (Nat.lt_succ_self _), Nat.ne_of_gt hlS⟩
        have hval : ∀ (i : Nat) (v : Value), items[i]? = some v → ∃ k t, ns[i]? = some k ∧ v = .int k t := fun i v hv => by
          have hi : i < ns.length := by rw [← hisz]; exact (Array.getElem?_eq_some_iff.mp hv).1
          obtain ⟨t, e⟩ := PyProof.Rows.IntsAre.int_at hit i v (by rw [Array.getElem?_toList]; exact hv)
          refine ⟨ns[i], t, List.getElem?_eq_getElem hi, ?_⟩
          rw [e, List.getD_eq_getElem?_getD, List.getElem?_eq_getElem hi] <;> rfl
        refine set_update_ints ((Walks.list hh3 _ l hneI items).toS) s.heap.objs.size
          hSf ns hisz hb hval (items.size - 0) 0 _ (by omega) (Nat.zero_le _)
          ⟨⟨_, Heap.get?_push_size _ rfl, rfl, rfl⟩, (hl1.push _)⟩ ?hS0 ?hR
        case hS0 =>
          have hget : ((s.heap.push { cls := .type "set", dict := none, data := .set #[] 0 (.fresh 0 0 (!w.params.followText "set-order")) }).push { cls := .type "list_iterator", data := .fields #[.ref l, .int 0 0] }).get? s.heap.objs.size
              = some { cls := .type "set", dict := none, data := .set #[] 0 (.fresh 0 0 (!w.params.followText "set-order")) } := Heap.get?_push_of_some _ hS
          exact ⟨0, Nat.le_refl 0, setR_new_at hget⟩
        case hR =>
          intro s' c' hm hc' hS'
          obtain ⟨h', g2, d', tk', os'⟩ := s'
          have eg : g2 = s.gens := hm.gens
          have ed : d' = s.drawn := hm.drawn
          have eo : os' = s.os := hm.os
          subst eg; subst ed; subst eo
          show wpAny _ _ _ _ _ _
          refine wpAny_pure ?_
          show wpAny _ _ (ret Value.none) _ _ _
          rw [hisz] at hc'
          refine wpAny_pure ⟨rfl, h', tk', c', rfl, hS', hc', fun b o e => ?_⟩
          have hb0 : b < s.heap.objs.size := Heap.lt_size e
          have hb1 : b ≠ s.heap.objs.size := Nat.ne_of_lt hb0
          have hb2 : b ≠ (s.heap.push { cls := .type "set", dict := none, data := .set #[] 0 (.fresh 0 0 (!w.params.followText "set-order")) }).objs.size := by
            rw [Heap.size_push]; exact Nat.ne_of_lt (Nat.lt_succ_of_lt hb0)
          exact hm.heap b o (by simp only [List.mem_cons, List.mem_singleton, List.not_mem_nil, or_false, not_or]; exact ⟨hb1, hb2⟩) (Heap.get?_push_of_some _ (Heap.get?_push_of_some _ e))

      · cases r₂ with
        | error e => exact hr₂
        | ok fl₂ =>
          cases fl₂ with
          | ret r =>
            obtain ⟨rfl, h', tk, c', rfl, hS', hc', hk'⟩ := hr₂
            repeat (any_goals (first | assumption | wp_step))
            exact h _ _ _ hS' hc' hk'
          | _ => exact hr₂.elim
    | _ => exact hr.elim
end
section
variable {X : Cx}
def rSetI (K : PySem.W.Frag) (w : World) : List V → Hp → VK → Prop := fun vs H Q => ∃ (a : Addr) (ns : List Int), vs = [V.ref a] ∧ SqL K H a (ns.map V.int) ∧ ns.length ≤ 50 ∧
  ∀ (p : Addr) (S : Int → Bool) (c : Nat), H p = none → (∀ k, S k = true ↔ k ∈ ns) → c ≤ ns.length → Q (.ref p) (upd H p (SetO w p S c))
theorem cr_setI (hc : X.calm = true) : CallR X (.type "set") (rSetI X.K X.w) := by
  intro pins s σ H vs us Q I r h
  obtain ⟨a, ns, rfl, hs, hn, q⟩ := h
  obtain ⟨its, rv, hl, hz⟩ := I.list hs
  rw [Vals.ref1 r]
  have hi := rv.ints
  refine call_set_listI ns (I.ok.hd hc) hl.isList (by simpa using hi) (by unfold scanBound; omega) fun h' tk c R hc' k => ?_
  have hf := I.hok.fresh (a := s.heap.objs.size) (Nat.le_refl _)
  exact ⟨.ref s.heap.objs.size, upd H s.heap.objs.size (SetO X.w s.heap.objs.size (fun j => decide (j ∈ ns)) c), I.laid (t' := tk) k (Nat.le_refl _) (setO_new R), rfl, q _ _ c hf (fun k => by simp) hc'⟩
end
/-! ERul6 -/
section
variable {X : Cx}
/-! ### a text times an int -/
def rMulS : R2 := fun x y H Q => ∃ (z : Str) (n : Nat), x = .str z ∧ y = .int n ∧ 2 ≤ n ∧ n ≤ 1000 ∧ 1 ≤ z.length ∧ z.length ≤ 1000 ∧ ∀ u : Str, u.length = n * z.length → Q (.str u) H
theorem rep_size (c : Array Nat) : ∀ (n : Nat) (acc : Array Nat), ((List.replicate n c).foldl (· ++ ·) acc).size = acc.size + n * c.size
  | 0, acc => by simp
  | n + 1, acc => by
    rw [List.replicate_succ, List.foldl_cons, rep_size c n, Array.size_append, Nat.add_mul]
    omega
theorem op_mulS : OpR X (binaryOp .Mult) rMulS := by
  intro pins s σ H x y v u Q I rx ry h
  obtain ⟨z, n, rfl, rfl, h1, h2, h3, h4, q⟩ := h
  obtain ⟨t, rfl⟩ := rx
  obtain ⟨t', rfl⟩ := ry
  have e1 : ¬ ((n : Int) < 1) := by omega
  have e2 : (((n : Int) == 1) || (z.length == 0)) = false := by
    rw [Bool.or_eq_false_iff, beq_eq_false_iff_ne, beq_eq_false_iff_ne]
    exact ⟨by omega, by omega⟩
  have hz : z.length * n ≤ 1000000 := by
    have := Nat.mul_le_mul h4 h2
    omega
  refine PySem.P.mul_str ?_ (fun _ _ => ?_) (fun _ _ => ?_) ?_
  · rw [decide_eq_false (by omega), decide_eq_false (by omega)]
    rfl
  · have : (z.length : Int) ≤ 1000 := by omega
    have h5 : (1000 : Int) ≤ (2 ^ 63 - 1) / n := by
      refine Int.le_ediv_of_mul_le (by omega) ?_
      omega
    omega
  · rw [Int.toNat_natCast]
    unfold Builtin.Str.tooLong
    refine decide_eq_false ?_
    have : sizeLine = 16777216 := rfl
    omega
  · rw [if_neg e1, e2, if_neg (by decide), Int.toNat_natCast]
    refine ⟨?_, ⟨.str _, H, I.tok _, ⟨_, rfl⟩, q _ ?_⟩⟩
    · show ((List.replicate n z.cps).foldl (· ++ ·) #[]).size ≤ sizeLine
      rw [rep_size]
      have e3 : z.cps.size = z.length := rfl
      have e4 : sizeLine = 16777216 := rfl
      rw [e3, e4, Nat.mul_comm]
      simp
      omega
    · show ((List.replicate n z.cps).foldl (· ++ ·) #[]).size = n * z.length
      rw [rep_size]
      have : z.cps.size = z.length := rfl
      simp [this]
end
/-! ELaw3 -/
def PotAt (H : Hp) (pt : Addr) : Prop := ∃ z : Int, H pt = some (.lst [.int z])
def spCell (K : PySem.W.Frag) : Sp := fun vs H Q _ => ∃ (sc : Addr) (ns : List Int) (k : Nat), vs = [.ref sc, .int k] ∧ SqL K H sc (ns.map V.int) ∧ ∀ z : Int, Q (.int z) H
def spPot : Sp := fun vs H Q _ => ∃ c : Int, vs = [.int c] ∧ ∀ H' p, Same H H' → PotAt H' p → H p = none → Q (.ref p) H'
def spTake : Sp := fun vs H Q _ => ∃ (pt : Addr) (wide : Int), vs = [.ref pt, .int wide] ∧ PotAt H pt ∧ 0 < wide ∧ wide < 1073741824 ∧ ∀ H' r, SameX [pt] H H' → PotAt H' pt → 0 ≤ r → r < wide → Q (.int r) H'
def spLLot : Sp := fun vs H Q _ => ∃ (pt : Addr) (wide : Int), vs = [.ref pt, .int wide] ∧ PotAt H pt ∧ 1 ≤ wide ∧ wide ≤ 16 ∧ ∀ H' p (l : List Int), SameX [pt] H H' → PotAt H' pt → H' p = some (.tup (l.map V.int)) → l.length ≤ 16 → (∀ x ∈ l, 0 ≤ x ∧ x < 16) → Q (.ref p) H'
theorem PotAt.same {H H' : Hp} {pt : Addr} (h : PotAt H pt) (s : Same H H') : PotAt H' pt := by
  obtain ⟨z, e⟩ := h
  exact ⟨z, s _ _ e⟩
theorem SameX.pot {pt : Addr} {H H' : Hp} (s : SameX [pt] H H') (h : PotAt H pt) : TupEx H H' := fun a xs e => s a (fun hm => by
  obtain ⟨z, ez⟩ := h
  rw [List.mem_singleton.mp hm, ez] at e
  cases e) _ e
section
variable {P : Program} {w : World} {K : PySem.W.Frag} {mg : Str → Option Value} {base : Heap}
theorem boot_set : bootBuiltins "set" = some (.type "set") := by decide +kernel
theorem sc_cell_at : FnScope ["script", "k"] ["script", "k"] (defScope s_law_cell_at) := ⟨rfl, rfl, rfl, by decide +kernel, rfl, by decide +kernel, by decide +kernel⟩
theorem c_cell_at (T : Tx K w mg) : Cal P w K mg base CX0 1 "_law_cell_at" (spCell K) := by
  refine T.d_law_cell_at.cal (T.d_law_cell_at.ok0 sc_cell_at ?_ fun cdv A outer s H vs Q E hr h => ?_) T.g_law_cell_at T.kp_law_cell_at
  · rintro vs H Q E ⟨sc, ns, k, rfl, _⟩
    rfl
  · obtain ⟨sc, ns, k, rfl, hs, q⟩ := h
    refine ⟨_, pss_cons (ps_if (pt_cmpR op_lt (pv 1) (pe_callB call_len (by rfl) T.z_len PySem.boot_len (pa_cons (pv 0) pa_nil)) (nomark _)) (pss_one (ps_ret (pe_ix ix_list (pv 0) (pv 1) (fun _ _ => rfl)))) pss_nil)
      (pss_one (ps_ret pe_int)), ?_⟩
    walk_at "i"
    refine ⟨.ref sc, _, rfl, .inl ⟨_, hs, rfl⟩, ?_⟩
    walk_at "i"
    refine g_dec (fun h => ?_) (fun h => ?_)
    · have hlt : k < ns.length := by rw [List.length_map] at h; omega
      walk_at "i"
      exact ⟨sc, _, k, .int ns[k], rfl, rfl, hs, atI_nat (by rw [List.getElem?_map, List.getElem?_eq_getElem hlt]; rfl), q _⟩
    · walk_at "i"
      exact q _
theorem sc_pot : FnScope ["cell", "number", "j", "more"] ["cell"] (defScope s_law_pot) := ⟨rfl, rfl, rfl, by decide +kernel, rfl, by decide +kernel, by decide +kernel⟩
theorem c_pot (T : Tx K w mg) : Cal P w K mg base CX0 1 "_law_pot" spPot := by
  refine T.d_law_pot.cal (T.d_law_pot.ok0 sc_pot ?_ fun cdv A outer s H vs Q E hr h => ?_) T.g_law_pot T.kp_law_pot
  · rintro vs H Q E ⟨c, rfl, _⟩
    rfl
  · obtain ⟨c, rfl, q⟩ := h
    refine ⟨_, pss_cons (ps_if (pt_cmpR op_ge (pv 0) (pe_op op_pow pe_int pe_int) (nomark _)) (pss_one (ps_ret (pe_lst (pa_cons (pe_op op_sub (pv 0) (pe_op op_pow pe_int pe_int)) pa_nil)))) pss_nil)
      (pss_cons (ps_set (i := 1) sc_pot.nd rfl (.inl rfl) pe_int)
      (pss_cons (ps_for PassesOwn.never rfl (pi_range1 (by rfl) T.z_range (pa_cons pe_int pa_nil)) (pg_name (i := 2) sc_pot.nd rfl (.inl rfl))
        (pss_cons (ps_set (i := 3) sc_pot.nd rfl (.inl rfl) (pe_op op_mod (pe_op op_mul (pe_op op_add (pe_op op_add (pe_op op_mod (pv 0) pe_int) (pe_op op_mul pe_int (pv 2))) pe_int) pe_int) pe_int))
        (pss_cons (ps_set (i := 3) sc_pot.nd rfl (.inl rfl) (pe_op op_mod (pe_op op_add (pe_op op_add (pe_op op_mul (pv 3) (pv 3)) (pe_op op_mul pe_int (pv 2))) pe_int) pe_int))
        (pss_one (ps_set (i := 1) sc_pot.nd rfl (.inl rfl) (pe_op op_add (pe_op op_mul (pv 1) pe_int) (pv 3)))))))
      (pss_one (ps_ret (pe_lst (pa_cons (pv 1) pa_nil)))))), ?_⟩
    walk_at "i"
    refine g_I ⟨by decide, by decide, by decide⟩ ?_
    walk_at "i"
    refine g_dec (fun h => ?_) (fun h => ?_)
    · walk_at "i"
      refine g_I ⟨by decide, by decide, by decide⟩ ?_
      walk_at "i"
      exact ⟨sz_of (by simp), fun p hp => q _ p (Same.new hp) ⟨_, upd_same⟩ hp⟩
    · walk_at "i"
      refine g_r1 ?_
      walk_at "i"
      refine ⟨64, rfl, by decide, by decide, for_it walk_range (fun i σ H' => ∃ (n : Int) (u2 u3 : Option V), σ = [some (.int c), some (.int n), u2, u3] ∧ H' = H) ⟨0, _, _, rfl, rfl⟩ (fun _ _ _ _ _ => trivial) ?_ ?_⟩
      · rintro i y σ H1 H2 hi ⟨n, u2, u3, rfl, rfl⟩ ⟨rfl, ey⟩
        obtain ⟨t, ht⟩ : ∃ t : Int, (0 : Int) + i = t := ⟨_, rfl⟩
        have ey : y = .int t := ey.trans (congrArg V.int ht)
        subst ey
        walk_at "i"
        refine g_I (by decide) ?_
        walk_at "i"
        refine g_I (.inl ⟨by decide, by decide⟩) ?_
        walk_at "i"
        refine g_I (.inr ⟨by decide, by decide⟩) ?_
        walk_at "i"
        refine g_I (by decide) ?_
        generalize ho : (c % 2147483629 + 7919 * t + 1) * 48271 % 2147483647 = m
        have m0 : 0 ≤ m := by rw [← ho]; exact Int.emod_nonneg _ (by decide)
        have m1 : m < 2147483647 := by rw [← ho]; exact Int.emod_lt_of_pos _ (by decide)
        walk_at "i"
        refine g_I (.inl ⟨by omega, by omega⟩) ?_
        walk_at "i"
        refine g_I (.inl ⟨by decide, by decide⟩) ?_
        walk_at "i"
        refine g_I (by decide) ?_
        walk_at "i"
        refine g_I (.inr ⟨by decide, by decide⟩) ?_
        walk_at "i"
        exact ⟨_, _, _, rfl, rfl⟩
      · rintro σ H1 ⟨n, u2, u3, rfl, rfl⟩
        walk_at "i"
        exact ⟨sz_of (by simp), fun p hp => q _ p (Same.new hp) ⟨_, upd_same⟩ hp⟩
theorem sc_take : FnScope ["pot", "wide", "found"] ["pot", "wide"] (defScope s_law_take) := ⟨rfl, rfl, rfl, by decide +kernel, rfl, by decide +kernel, by decide +kernel⟩
theorem c_take (T : Tx K w mg) : Cal P w K mg base CX0 1 "_law_take" spTake := by
  refine T.d_law_take.cal (T.d_law_take.ok0 sc_take ?_ fun cdv A outer s H vs Q E hr h => ?_) T.g_law_take T.kp_law_take
  · rintro vs H Q E ⟨pt, wide, rfl, _⟩
    rfl
  · obtain ⟨pt, wide, rfl, ⟨z, hz⟩, w0, w1, q⟩ := h
    refine ⟨_, pss_cons (ps_set (i := 2) sc_take.nd rfl (.inl rfl) (pe_op op_mod (pe_ix ix_list (pv 0) pe_int (fun _ _ => rfl)) (pv 1)))
      (pss_cons (ps_asg (pe_op op_fdiv (pe_ix ix_list (pv 0) pe_int (fun _ _ => rfl)) (pv 1)) (pg_sub (pv 0) pe_int set_list))
      (pss_one (ps_ret (pv 2)))), ?_⟩
    walk_at "i"
    refine ⟨pt, _, 0, .int z, rfl, rfl, SqL.of hz, at0 rfl, ?_⟩
    walk_at "i"
    refine g_I w0 ?_
    walk_at "i"
    refine ⟨pt, _, 0, .int z, rfl, rfl, SqL.of hz, at0 rfl, ?_⟩
    walk_at "i"
    refine g_I ⟨w0, w1⟩ ?_
    refine ⟨_, rfl, ?_⟩
    walk_at "i"
    refine ⟨pt, _, 0, 0, rfl, rfl, hz, rfl, ?_⟩
    walk_at "i"
    exact q _ _ ((SameX.refl _ _).put List.mem_cons_self _) ⟨_, upd_same⟩ (Int.emod_nonneg _ (by omega)) (Int.emod_lt_of_pos _ w0)
theorem sc_llot : FnScope ["pot", "wide", "way", "number", "start", "step", "size", "t", "j"] ["pot", "wide"] (defScope s_law_lot) := ⟨rfl, rfl, rfl, by decide +kernel, rfl, by decide +kernel, by decide +kernel⟩
theorem c_llot (T : Tx K w mg) : Cal P w K mg base CX0 2 "_law_lot" spLLot := by
  have c1 : Cal P w K mg base CX0 1 "_law_take" spTake := c_take T
  refine T.d_law_lot.cal (T.d_law_lot.ok0 sc_llot ?_ fun cdv A outer s H vs Q E hr h => ?_) T.g_law_lot T.kp_law_lot
  · rintro vs H Q E ⟨pt, wide, rfl, _⟩
    rfl
  · obtain ⟨pt, wide, rfl, hP, w0, w1, q⟩ := h
    refine ⟨_, pss_cons (ps_set (i := 2) sc_llot.nd rfl (.inl rfl) (pe_c c1 hr (by decide) (by rfl) (pa_cons (pv 0) (pa_cons pe_int pa_nil))))
      (pss_cons (ps_if (pt_cmpR op_eq (pv 2) pe_int (nomark _))
        (pss_cons (ps_set (i := 3) sc_llot.nd rfl (.inr rfl) (pe_op op_add pe_int (pe_c c1 hr (by decide) (by rfl) (pa_cons (pv 0) (pa_cons (pe_op op_sub (pe_op op_shl pe_int (pv 1)) pe_int) pa_nil)))))
        (pss_one (ps_ret (pe_tupleOf (by rfl) T.z_tuple (pe_lc (own := [("t", 7)]) (g := gName 7) (tt := tTest (tOp rEq (tOp (rI0 fun i j => .int (Builtin.bitAnd i j)) (tOp (rI (fun _ j => 0 ≤ j) fun i j => .int (i / 2 ^ j.toNat)) (tVar 3) (tVar 7)) (tC (.int 1))) (tC (.int 1)))) (by rfl) sc_llot.nd
              (pi_range1 (by rfl) T.z_range (pa_cons (pv 1) pa_nil)) (blkOk_by (N := ["pot", "wide", "way", "number", "start", "step", "size", "t", "j"]) (sc := defScope s_law_lot) (by decide +kernel)) (fun _ _ _ _ _ => pg_name sc_llot.nd rfl (.inl rfl))
              (fun _ _ _ _ _ => pts_one (pt_cmpR op_eq (pe_op op_and (pe_op op_shr (pv 3) (pv 7)) pe_int) pe_int (nomark _))) (fun s1 H1 C1 cl1 fp1 => pv 7)))))) pss_nil)
      (pss_cons (ps_set (i := 4) sc_llot.nd rfl (.inr rfl) (pe_c c1 hr (by decide) (by rfl) (pa_cons (pv 0) (pa_cons (pv 1) pa_nil))))
      (pss_cons (ps_set (i := 5) sc_llot.nd rfl (.inr rfl) (pe_op op_add pe_int (pe_c c1 hr (by decide) (by rfl) (pa_cons (pv 0) (pa_cons pe_int pa_nil)))))
      (pss_cons (ps_set (i := 6) sc_llot.nd rfl (.inl rfl) (pe_op op_add pe_int (pe_c c1 hr (by decide) (by rfl) (pa_cons (pv 0) (pa_cons (pe_ix ix_list (pe_lst (pa_cons pe_int (pa_cons pe_int (pa_cons pe_int pa_nil)))) (pe_op op_sub (pv 2) pe_int) (fun _ _ => rfl)) pa_nil)))))
      (pss_one (ps_ret (pe_tupleOf (by rfl) T.z_tuple (pe_callB (cr_sortedSet rfl) (by rfl) T.z_sorted (by decide +kernel) (pa_cons (pe_callTy (cr_setI rfl) (by rfl) T.z_set boot_set (pa_cons
          (pe_lc (own := [("j", 8)]) (g := gName 8) (tt := tYes) (by rfl) sc_llot.nd (pi_range1 (by rfl) T.z_range (pa_cons (pv 6) pa_nil)) (blkOk_by (N := ["pot", "wide", "way", "number", "start", "step", "size", "t", "j"]) (sc := defScope s_law_lot) (by decide +kernel)) (fun _ _ _ _ _ => pg_name sc_llot.nd rfl (.inl rfl)) (fun _ _ _ _ _ => pts_nil)
            (fun s1 H1 C1 cl1 fp1 => pe_op op_mod (pe_op op_add (pv 4) (pe_op op_mul (pv 5) (pv 8))) (pv 1))) pa_nil)) pa_nil))))))))), ?_⟩
    walk_at "i"
    refine ⟨pt, 4, rfl, hP, by decide, by decide, fun H1 way s1 hP1 g0 g1 => ?_⟩
    walk_at "i"
    refine g_dec (fun h => ?_) (fun h => ?_)
    · walk_at "i"
      refine g_I ⟨by omega, by omega, by decide⟩ ?_
      have key : ∀ k : Nat, k < 17 → 1 ≤ k → (0 : Int) < 1 * 2 ^ k - 1 ∧ (1 : Int) * 2 ^ k - 1 < 1073741824 := by decide
      obtain ⟨k0, k1⟩ := key wide.toNat (by omega) (by omega)
      walk_at "i"
      refine ⟨pt, _, rfl, hP1, k0, k1, fun H2 r s2 hP2 _ _ => ?_⟩
      walk_at "i"
      refine g_r1 ?_
      walk_at "i"
      refine ⟨wide, rfl, by omega, by omega, fun D hD => lc_gen walk_range hD (by omega) (fun i acc H' => ∃ js : List Int, acc = js.map V.int ∧ js.length ≤ i ∧ ∀ j ∈ js, 0 ≤ j ∧ j < i) ⟨[], rfl, Nat.le_refl _, fun _ h => by cases h⟩ (fun _ _ => trivial) (fun j y acc H4 H5 hj s4 hd hR y1 Qc Qn kc kn => ?_) (fun acc H4 s4 d4 hR => ?_)⟩
      · obtain ⟨rfl, ey⟩ := y1
        obtain ⟨t', ht'⟩ : ∃ t : Int, (0 : Int) + j = t := ⟨_, rfl⟩
        have ey : y = .int t' := ey.trans (congrArg V.int ht')
        subst ey
        obtain ⟨js, rfl, hl, hp2⟩ := hR
        walk_at "i"
        refine ⟨rfl, ?_⟩
        walk_at "i"
        refine g_I (by omega) ?_
        walk_at "i"
        refine g_b (fun _ => ?_) (fun _ => ?_)
        · walk_at "i"
          refine kc _ _ (Same.refl _) ⟨js ++ [t'], by simp, by rw [List.length_append, List.length_singleton]; omega, fun j' hj' => ?_⟩
          rcases List.mem_append.mp hj' with hj' | hj'
          · have := hp2 j' hj'; omega
          · rw [List.mem_singleton.mp hj']
            omega
        · exact kn _ (Same.refl _) ⟨js, rfl, by omega, fun j' hj' => by have := hp2 j' hj'; omega⟩
      · obtain ⟨js, rfl, hl, hp2⟩ := hR
        walk_at "i"
        refine .inl ⟨D, _, rfl, SqL.of d4, fun p5 hp5 => ?_⟩
        exact q _ p5 js ((s1.trans s2).trans (SameX.of (s4.trans (Same.new hp5)))) (hP2.same (s4.trans (Same.new hp5))) upd_same (by omega) fun x hx => by have := hp2 x hx; omega
    · walk_at "i"
      have hw0 : way ≠ 0 := fun e => h (by rw [e])
      refine ⟨pt, wide, rfl, hP1, by omega, by omega, fun H2 st s2 hP2 _ _ => ?_⟩
      walk_at "i"
      refine ⟨pt, 3, rfl, hP2, by decide, by decide, fun H3 sp s3 hP3 e0 e1 => ?_⟩
      walk_at "i"
      refine ⟨sz_of (by simp), fun p3 hp3 => ?_⟩
      have s4 := Same.new (o := .lst [.int 1, .int 2, .int 4]) hp3
      have hP4 := hP3.same s4
      obtain ⟨n, hn, hn4⟩ : ∃ n : Int, ([V.int 1, V.int 2, V.int 4] : List V)[(way - 1).toNat]? = some (.int n) ∧ (0 < n ∧ n ≤ 4) := by
        have : way = 1 ∨ way = 2 ∨ way = 3 := by omega
        rcases this with rfl | rfl | rfl
        · exact ⟨1, rfl, by decide⟩
        · exact ⟨2, rfl, by decide⟩
        · exact ⟨4, rfl, by decide⟩
      walk_at "i"
      refine ⟨p3, _, way - 1, .int n, rfl, rfl, SqL.of upd_same, ati (by omega) hn, ?_⟩
      walk_at "i"
      refine ⟨pt, n, rfl, hP4, hn4.1, by omega, fun H5 sz s5 hP5 f0 f1 => ?_⟩
      walk_at "i"
      refine g_r1 ?_
      walk_at "i"
      refine ⟨1 + sz, rfl, by omega, by omega, fun D hD => lc_gen walk_range hD (by omega) (fun i acc H' => ∃ js : List Int, acc = js.map V.int ∧ js.length ≤ i ∧ ∀ j ∈ js, 0 ≤ j ∧ j < wide) ⟨[], rfl, Nat.le_refl _, fun _ h => by cases h⟩ (fun _ _ => trivial) (fun j y acc H6 H7 hj s6 hd hR y1 Qc Qn kc kn => ?_) (fun acc H6 s6 d6 hR => ?_)⟩
      · obtain ⟨rfl, ey⟩ := y1
        obtain ⟨t', ht'⟩ : ∃ t : Int, (0 : Int) + j = t := ⟨_, rfl⟩
        have ey : y = .int t' := ey.trans (congrArg V.int ht')
        subst ey
        obtain ⟨js, rfl, hl, hp2⟩ := hR
        walk_at "i"
        refine ⟨rfl, ?_⟩
        walk_at "i"
        refine g_I (.inl ⟨by omega, by omega⟩) ?_
        walk_at "i"
        refine g_I (by omega) ?_
        refine kc _ _ (Same.refl _) ⟨js ++ [(st + (1 + sp) * t') % wide], by simp, by rw [List.length_append, List.length_singleton]; omega, fun j' hj' => ?_⟩
        rcases List.mem_append.mp hj' with hj' | hj'
        · exact hp2 j' hj'
        · rw [List.mem_singleton.mp hj']
          exact ⟨Int.emod_nonneg _ (by omega), Int.emod_lt_of_pos _ (by omega)⟩
      · obtain ⟨js, rfl, hl, hp2⟩ := hR
        walk_at "i"
        refine ⟨D, js, rfl, SqL.of d6, by omega, fun p7 S c hp7 hS hc => ?_⟩
        walk_at "i"
        refine ⟨p7, S, c, rfl, upd_same, by omega, fun ns p8 hns hmem hnl hp8 => ?_⟩
        refine .inl ⟨p8, _, rfl, SqL.of upd_same, fun p9 hp9 => ?_⟩
        have sZ := s6.trans ((Same.new hp7).trans ((Same.new hp8).trans (Same.new (o := .tup (ns.map V.int)) hp9)))
        refine q _ p9 ns ((((s1.trans s2).trans s3).trans ((SameX.of s4).trans s5)).trans (SameX.of sZ)) (hP5.same sZ) upd_same (by omega) fun x hx => ?_
        have := hp2 x ((hS x).mp ((hmem x).mp hx))
        omega
end
/-! ELaw4 -/
/-- a deed that can be written -/
def DeedR (H : Hp) (d : Addr) : Prop := ∃ (w : Str) (one other : V), H d = some (.tup [.str w, one, other]) ∧
  ((w = "thing" ∧ ∃ b, one = .bl b) ∨ (w = "piece" ∧ ∃ (p : Addr) (l : List Int) (n : Int), one = .ref p ∧ H p = some (.tup (l.map V.int)) ∧ l.length ≤ 16 ∧ (∀ x ∈ l, 0 ≤ x ∧ x < 16) ∧ other = .int n ∧ n.natAbs ≤ 1000000000001)
    ∨ w = "undo" ∨ (w ∈ (["turn", "take thing", "take piece"] : List Str) ∧ ∃ k : Int, one = .int k ∧ 0 ≤ k ∧ k < 100))
def spDeed (K : PySem.W.Frag) : Sp := fun vs H Q _ => ∃ (pt bx e1 e2 : Addr) (xs : List V), vs = [.ref pt, .ref bx, .int 7] ∧ PotAt H pt ∧ H bx = some (.tup [.int 6, .ref e1, .ref e2]) ∧ H e2 = some (.tup xs) ∧ xs.length = 8 ∧
  ∀ H' d, SameX [pt] H H' → PotAt H' pt → DeedR H' d → Q (.ref d) H'
section
variable {P : Program} {w : World} {K : PySem.W.Frag} {mg : Str → Option Value} {base : Heap}
theorem sc_deed : FnScope ["pot", "box", "most", "wide", "mays", "pieces", "way", "held", "word", "size"] ["pot", "box", "most"] (defScope s_law_plain_deed) := ⟨rfl, rfl, rfl, by decide +kernel, rfl, by decide +kernel, by decide +kernel⟩
theorem SameX.mono1 {pt : Addr} {H H1 : Hp} (s : SameX [pt] H H1) (hP : PotAt H pt) {a : Addr} {xs : List V} (h : H a = some (.tup xs)) : H1 a = some (.tup xs) := s.pot hP _ _ h
theorem SameX.newer {L : List Addr} {H H1 : Hp} {p : Addr} {o : HO} (s : SameX L H H1) (hp : H1 p = none) : SameX L H (upd H1 p o) := s.trans (SameX.of (Same.new hp))
theorem SameX.own {pt p : Addr} {H0 H H' : Hp} {o : HO} (s : SameX [pt] H H') (hP : PotAt H0 pt) (hp : H0 p = none) (h : H p = some o) : H' p = some o := s p (fun hm => by
  obtain ⟨z, ez⟩ := hP
  rw [← List.mem_singleton.mp hm, hp] at ez
  cases ez) _ h
theorem c_deed (T : Tx K w mg) : Cal P w K mg base CX0 3 "_law_plain_deed" (spDeed K) := by
  have c1 : Cal P w K mg base CX0 1 "_law_take" spTake := c_take T
  have c2 : Cal P w K mg base CX0 2 "_law_lot" spLLot := c_llot T
  refine T.d_law_plain_deed.cal (T.d_law_plain_deed.ok0 sc_deed ?_ fun cdv A outer s H vs Q E hr h => ?_) T.g_law_plain_deed T.kp_law_plain_deed
  · rintro vs H Q E ⟨pt, bx, e1, e2, xs, rfl, _⟩
    rfl
  · obtain ⟨pt, bx, e1, e2, xs, rfl, hP, hbx, he2, h8, q⟩ := h
    refine ⟨_, pss_cons (ps_asg (pv 1) (pg_tup (by rfl) (pgs_cons (pg_name (i := 3) sc_deed.nd rfl (.inl rfl)) (pgs_cons (pg_name (i := 4) sc_deed.nd rfl (.inl rfl)) (pgs_cons (pg_name (i := 5) sc_deed.nd rfl (.inl rfl)) pgs_nil)))))
      (pss_cons (ps_set (i := 6) sc_deed.nd rfl (.inl rfl) (pe_c c1 hr (by decide) (by rfl) (pa_cons (pv 0) (pa_cons pe_int pa_nil))))
      (pss_cons (ps_if (PW.pt (pw_and (pt_cmpR op_lt (pv 6) pe_int (nomark _)) (pw_and1 (pt_cmpR op_lt (pv 3) (pv 2) (nomark _)))))
        (pss_one (ps_ret (pe_tup (pa_cons pe_str (pa_cons (pe_cmpR op_gt (pe_c c1 hr (by decide) (by rfl) (pa_cons (pv 0) (pa_cons pe_int pa_nil))) pe_int (nomark _)) (pa_cons pe_non pa_nil)))))) pss_nil)
      (pss_cons (ps_if (pt_cmpR op_lt (pv 6) pe_int (nomark _))
        (pss_cons (ps_set (i := 7) sc_deed.nd rfl (.inl rfl) (pe_tup (pa_cons (pe_c c1 hr (by decide) (by rfl) (pa_cons (pv 0) (pa_cons pe_int pa_nil))) (pa_cons (pe_c c1 hr (by decide) (by rfl) (pa_cons (pv 0) (pa_cons pe_int pa_nil))) pa_nil))))
        (pss_cons (ps_if (PW.pt (pw_and (pt_cmpR op_gt (pv 3) pe_int (nomark _)) (pw_and1 (pt_cmpR op_gt (pe_c c1 hr (by decide) (by rfl) (pa_cons (pv 0) (pa_cons pe_int pa_nil))) pe_int (nomark _)))))
          (pss_one (ps_set (i := 7) sc_deed.nd rfl (.inl rfl) (pe_c c2 hr (by decide) (by rfl) (pa_cons (pv 0) (pa_cons (pv 3) pa_nil))))) pss_nil)
        (pss_one (ps_ret (pe_tup (pa_cons pe_str (pa_cons (pv 7) (pa_cons (pe_ix ix_list (pe_lst (pa_cons (pe_op op_sub (pe_c c1 hr (by decide) (by rfl) (pa_cons (pv 0) (pa_cons pe_int pa_nil))) pe_int) (pa_cons (pe_op op_sub (pe_op op_add (pe_op op_pow pe_int pe_int) pe_int) (pe_c c1 hr (by decide) (by rfl) (pa_cons (pv 0) (pa_cons pe_int pa_nil)))) pa_nil))) (pe_c c1 hr (by decide) (by rfl) (pa_cons (pv 0) (pa_cons pe_int pa_nil))) (fun _ _ => rfl)) pa_nil)))))))) pss_nil)
      (pss_cons (ps_if (pt_cmpR op_eq (pv 6) pe_int (nomark _)) (pss_one (ps_ret (pe_tup (pa_cons pe_str (pa_cons pe_non (pa_cons pe_non pa_nil)))))) pss_nil)
      (pss_cons (ps_set (i := 8) sc_deed.nd rfl (.inl rfl) (pe_ix ix_list (pe_lst (pa_cons pe_str (pa_cons pe_str (pa_cons pe_str (pa_cons pe_str pa_nil))))) (pe_op op_sub (pv 6) pe_int) (fun _ _ => rfl)))
      (pss_cons (ps_set (i := 9) sc_deed.nd rfl (.inl rfl) (pe_ix ix_list (pe_lst (pa_cons (pv 3) (pa_cons (pe_callB call_len (by rfl) T.z_len PySem.boot_len (pa_cons (pv 5) pa_nil)) pa_nil))) (pe_callTy call_int1 (by rfl) T.z_int boot_int (pa_cons (pe_cmpR op_eq (pv 8) pe_str (nomark _)) pa_nil)) (fun _ _ => rfl)))
      (pss_one (ps_ret (pe_tup (pa_cons (pv 8) (pa_cons (pe_c c1 hr (by decide) (by rfl) (pa_cons (pv 0) (pa_cons (pe_op op_add (pe_op op_add (pv 9) pe_int) (pe_callTy call_int1 (by rfl) T.z_int boot_int (pa_cons (pe_cmpR op_eq (pe_c c1 hr (by decide) (by rfl) (pa_cons (pv 0) (pa_cons pe_int pa_nil))) pe_int (nomark _)) pa_nil))) pa_nil))) (pa_cons pe_non pa_nil)))))))))))), ?_⟩
    walk_at "i"
    refine g_un3 (SqT.of hbx) ?_
    walk_at "i"
    refine ⟨pt, 14, rfl, hP, by decide, by decide, fun H1 way s1 hP1 w0 w1 => ?_⟩
    have r1 : ∀ {H' : Hp} {z : Int}, 0 < z → z < 1000 → SameX [pt] H H' → PotAt H' pt → ∀ {Q' : VK} {E' : XK}, (∀ H2 r, SameX [pt] H H2 → PotAt H2 pt → ((∀ a xs, H' a = some (.tup xs) → H2 a = some (.tup xs)) ∧ SameX [pt] H' H2) → 0 ≤ r → r < z → Q' (.int r) H2) → spTake [.ref pt, .int z] H' Q' E' := fun {H' z} z0 z1 s' hP' {Q' E'} k => ⟨pt, z, rfl, hP', z0, by omega, fun H2 r s2 hP2 r0 r1 => k H2 r (s'.trans s2) hP2 ⟨fun a xs e => s2.pot hP' _ _ e, s2⟩ r0 r1⟩
    walk_at "i"
    have bd : ∀ (b : Bool) H' d, SameX [pt] H H' → PotAt H' pt → H' d = some (.tup [.str "thing", .bl b, .non]) → Q (.ref d) H' := fun b H' d s hp hd => q H' d s hp ⟨_, _, _, hd, .inl ⟨rfl, b, rfl⟩⟩
    refine g_dec (fun h4 => ?_) (fun h4 => ?_)
    · walk_at "i"
      refine g_dec (fun _ => ?_) (fun h => absurd (by decide) h)
      walk_at "i"
      refine r1 (z := 3) (by decide) (by decide) s1 hP1 fun H2 r s2 hP2 _ _ _ => ?_
      walk_at "i"
      exact ⟨sz_of (by simp), fun p hp => bd _ _ _ (s2.newer hp) (hP2.same (Same.new hp)) upd_same⟩
    · walk_at "i"
      refine g_dec (fun h9 => ?_) (fun h9 => ?_)
      · walk_at "i"
        refine r1 (z := 3) (by decide) (by decide) s1 hP1 fun H2 a s2 hP2 _ a0 a1 => ?_
        walk_at "i"
        refine r1 (z := 3) (by decide) (by decide) s2 hP2 fun H3 b s3 hP3 _ b0 b1 => ?_
        walk_at "i"
        refine ⟨sz_of (by simp), fun p hp => ?_⟩
        have s4 := s3.newer (o := .tup [.int a, .int b]) hp
        have hP4 := hP3.same (Same.new (o := .tup [.int a, .int b]) hp)
        have hp4 : upd H3 p (.tup [.int a, .int b]) p = some (.tup (([a, b] : List Int).map V.int)) := upd_same
        generalize upd H3 p (.tup [.int a, .int b]) = H4 at s4 hP4 hp4 ⊢
        walk_at "i"
        refine g_dec (fun _ => ?_) (fun h => absurd (by decide) h)
        walk_at "i"
        refine r1 (z := 8) (by decide) (by decide) s4 hP4 fun H5 c s5 hP5 t5 _ _ => ?_
        walk_at "i"
        refine g_dec (fun hc => ?_) (fun hc => ?_)
        · walk_at "i"
          refine ⟨pt, 6, rfl, hP5, by decide, by decide, fun HA pA lA sX hPA hA hl hb => ?_⟩
          have sA := s5.trans sX
          walk_at "i"
          refine r1 (z := 9) (by decide) (by decide) sA hPA fun HB u sB hPB tB u0 u1 => ?_
          walk_at "i"
          refine g_I ⟨by decide, by decide, by decide⟩ ?_
          walk_at "i"
          refine r1 (z := 9) (by decide) (by decide) sB hPB fun HC v sC hPC tC v0 v1 => ?_
          walk_at "i"
          refine ⟨sz_of (by simp), fun pl hpl => ?_⟩
          have sD := sC.newer (o := .lst [.int (u - 4), .int (10 ^ 12 + 1 - v)]) hpl
          have hPD := hPC.same (Same.new (o := .lst [.int (u - 4), .int (10 ^ 12 + 1 - v)]) hpl)
          have tD : upd HC pl (.lst [.int (u - 4), .int (10 ^ 12 + 1 - v)]) pA = some (.tup (lA.map V.int)) := Same.new hpl _ _ (tC.1 _ _ (tB.1 _ _ hA))
          walk_at "i"
          refine r1 (z := 2) (by decide) (by decide) sD hPD fun HE k sE hPE tE k0 k1 => ?_
          obtain ⟨n, hn, hnb⟩ : ∃ n : Int, ([V.int (u - 4), V.int (10 ^ 12 + 1 - v)] : List V)[k.toNat]? = some (.int n) ∧ n.natAbs ≤ 1000000000001 := by
            have : k = 0 ∨ k = 1 := by omega
            rcases this with rfl | rfl
            · exact ⟨u - 4, rfl, by omega⟩
            · exact ⟨10 ^ 12 + 1 - v, rfl, by omega⟩
          walk_at "i"
          refine ⟨pl, _, k, .int n, rfl, rfl, SqL.of (tE.2.own hPC hpl upd_same), ati k0 hn, ?_⟩
          walk_at "i"
          exact ⟨sz_of (by simp), fun pd hpd => q _ _ (sE.newer hpd) (hPE.same (Same.new hpd)) ⟨_, _, _, upd_same, .inr (.inl ⟨rfl, pA, lA, n, rfl, Same.new hpd _ _ (tE.1 _ _ tD), hl, hb, rfl, hnb⟩)⟩⟩
        · walk_at "i"
          obtain ⟨HA, hA', sA, hPA⟩ : ∃ HA, HA = H5 ∧ SameX [pt] H HA ∧ PotAt HA pt := ⟨H5, rfl, s5, hP5⟩
          obtain ⟨pA, hpA⟩ : ∃ pA, pA = p := ⟨p, rfl⟩
          obtain ⟨lA, hlA⟩ : ∃ lA : List Int, lA = [a, b] := ⟨_, rfl⟩
          have hA : HA pA = some (.tup (lA.map V.int)) := by rw [hA', hpA, hlA]; exact t5.1 _ _ hp4
          have hl : lA.length ≤ 16 := by rw [hlA]; exact (by decide : 2 ≤ 16)
          have hb : ∀ x ∈ lA, 0 ≤ x ∧ x < 16 := fun x hx => by
            rw [hlA] at hx
            rcases List.mem_cons.mp hx with e | hx
            · omega
            · have := List.mem_singleton.mp hx
              omega
          rw [← hA', ← hpA]
          refine r1 (z := 9) (by decide) (by decide) sA hPA fun HB u sB hPB tB u0 u1 => ?_
          walk_at "i"
          refine g_I ⟨by decide, by decide, by decide⟩ ?_
          walk_at "i"
          refine r1 (z := 9) (by decide) (by decide) sB hPB fun HC v sC hPC tC v0 v1 => ?_
          walk_at "i"
          refine ⟨sz_of (by simp), fun pl hpl => ?_⟩
          have sD := sC.newer (o := .lst [.int (u - 4), .int (10 ^ 12 + 1 - v)]) hpl
          have hPD := hPC.same (Same.new (o := .lst [.int (u - 4), .int (10 ^ 12 + 1 - v)]) hpl)
          have tD : upd HC pl (.lst [.int (u - 4), .int (10 ^ 12 + 1 - v)]) pA = some (.tup (lA.map V.int)) := Same.new hpl _ _ (tC.1 _ _ (tB.1 _ _ hA))
          walk_at "i"
          refine r1 (z := 2) (by decide) (by decide) sD hPD fun HE k sE hPE tE k0 k1 => ?_
          obtain ⟨n, hn, hnb⟩ : ∃ n : Int, ([V.int (u - 4), V.int (10 ^ 12 + 1 - v)] : List V)[k.toNat]? = some (.int n) ∧ n.natAbs ≤ 1000000000001 := by
            have : k = 0 ∨ k = 1 := by omega
            rcases this with rfl | rfl
            · exact ⟨u - 4, rfl, by omega⟩
            · exact ⟨10 ^ 12 + 1 - v, rfl, by omega⟩
          walk_at "i"
          refine ⟨pl, _, k, .int n, rfl, rfl, SqL.of (tE.2.own hPC hpl upd_same), ati k0 hn, ?_⟩
          walk_at "i"
          exact ⟨sz_of (by simp), fun pd hpd => q _ _ (sE.newer hpd) (hPE.same (Same.new hpd)) ⟨_, _, _, upd_same, .inr (.inl ⟨rfl, pA, lA, n, rfl, Same.new hpd _ _ (tE.1 _ _ tD), hl, hb, rfl, hnb⟩)⟩⟩
      · walk_at "i"
        refine g_dec (fun h10 => ?_) (fun h10 => ?_)
        · walk_at "i"
          exact ⟨sz_of (by simp), fun p hp => q _ _ (s1.newer hp) (hP1.same (Same.new hp)) ⟨_, _, _, upd_same, .inr (.inr (.inl rfl))⟩⟩
        · walk_at "i"
          refine ⟨sz_of (by simp), fun pl hpl => ?_⟩
          have s2 := s1.newer (o := .lst [.str "turn", .str "take thing", .str "take piece", .str "turn"]) hpl
          have hP2 := hP1.same (Same.new (o := .lst [.str "turn", .str "take thing", .str "take piece", .str "turn"]) hpl)
          have h22 : upd H1 pl (.lst [.str "turn", .str "take thing", .str "take piece", .str "turn"]) pl = some (.lst [.str "turn", .str "take thing", .str "take piece", .str "turn"]) := upd_same
          have h10' : way ≠ 9 := fun e => h10 (by rw [e])
          have t22 := (s2.pot hP) _ _ he2
          obtain ⟨n, hn, hnb⟩ : ∃ n : Str, ([.str "turn", .str "take thing", .str "take piece", .str "turn"] : List V)[(way - 10).toNat]? = some (.str n) ∧ n ∈ (["turn", "take thing", "take piece"] : List Str) := by
            have : way = 10 ∨ way = 11 ∨ way = 12 ∨ way = 13 := by omega
            rcases this with rfl | rfl | rfl | rfl
            · exact ⟨"turn", rfl, by decide +kernel⟩
            · exact ⟨"take thing", rfl, by decide +kernel⟩
            · exact ⟨"take piece", rfl, by decide +kernel⟩
            · exact ⟨"turn", rfl, by decide +kernel⟩
          generalize upd H1 pl (.lst [.str "turn", .str "take thing", .str "take piece", .str "turn"]) = H2 at s2 hP2 h22 t22 ⊢
          walk_at "i"
          refine ⟨pl, _, way - 10, .str n, rfl, rfl, SqL.of h22, ati (by omega) hn, ?_⟩
          walk_at "i"
          refine ⟨.ref e2, _, rfl, .inr ⟨_, SqT.of t22, rfl⟩, ?_⟩
          walk_at "i"
          refine ⟨sz_of (by simp), fun pm hpm => ?_⟩
          have s3 := s2.newer (o := .lst [.int 6, .int (xs.length : Nat)]) hpm
          have hP3 := hP2.same (Same.new (o := .lst [.int 6, .int (xs.length : Nat)]) hpm)
          walk_at "i"
          refine .inr ⟨_, rfl, ?_⟩
          walk_at "i"
          obtain ⟨m, hm, hmb⟩ : ∃ m : Int, ([V.int 6, V.int (xs.length : Nat)] : List V)[((if decide (V.str n = V.str "take piece") = true then (1 : Int) else 0)).toNat]? = some (.int m) ∧ 0 ≤ m ∧ m ≤ 8 ∧ 0 ≤ (if decide (V.str n = V.str "take piece") = true then (1 : Int) else 0) := by
            split
            · exact ⟨8, by rw [h8]; rfl, by decide, by decide, by decide⟩
            · exact ⟨6, rfl, by decide, by decide, by decide⟩
          generalize (if decide (V.str n = V.str "take piece") = true then (1 : Int) else 0) = j at hm hmb ⊢
          refine ⟨pm, _, j, .int m, rfl, rfl, SqL.of upd_same, ati hmb.2.2 hm, ?_⟩
          generalize upd H2 pm (.lst [.int 6, .int (xs.length : Nat)]) = H3 at s3 hP3 ⊢
          walk_at "i"
          refine r1 (z := 4) (by decide) (by decide) s3 hP3 fun H4 u s4 hP4 t4 u0 u1 => ?_
          walk_at "i"
          refine .inr ⟨_, rfl, ?_⟩
          walk_at "i"
          have hc0 : ∀ b : Bool, (0 : Int) ≤ (if b = true then 1 else 0) ∧ (if b = true then (1 : Int) else 0) ≤ 1 := by decide
          have hc := hc0 (decide (V.int u = V.int 0))
          generalize (if decide (V.int u = V.int 0) = true then (1 : Int) else 0) = c at hc ⊢
          refine r1 (z := m + 1 + c) (by omega) (by omega) s4 hP4 fun H5 z s5 hP5 t5 z0 z1 => ?_
          walk_at "i"
          exact ⟨sz_of (by simp), fun pd hpd => q _ _ (s5.newer hpd) (hP5.same (Same.new hpd)) ⟨_, _, _, upd_same, .inr (.inr (.inr ⟨hnb, z, rfl, z0, by omega⟩))⟩⟩
end
/-! ELaw5 -/
def spRowOf : Sp := fun vs H Q _ => ∃ d, vs = [.ref d] ∧ DeedR H d ∧ ∀ H' (z : Str), Same H H' → z.length ≤ 200 → Q (.str z) H'
section
variable {P : Program} {w : World} {K : PySem.W.Frag} {mg : Str → Option Value} {base : Heap}
theorem strI_2 {z : Int} (h0 : 0 ≤ z) (h1 : z < 16) : (strI z).length ≤ 2 := by
  have key : ∀ k : Nat, k < 16 → (strI (k : Int)).length ≤ 2 := by decide +kernel
  obtain ⟨k, rfl⟩ : ∃ k : Nat, z = k := ⟨z.toNat, by omega⟩
  exact key k (by omega)
theorem sc_row_of : FnScope ["deed", "way", "one", "other", "thing"] ["deed"] (defScope s_law_row_of) := ⟨rfl, rfl, rfl, by decide +kernel, rfl, by decide +kernel, by decide +kernel⟩
theorem c_row_of (T : Tx K w mg) : Cal P w K mg base CX0 1 "_law_row_of" spRowOf := by
  refine T.d_law_row_of.cal (T.d_law_row_of.ok0 sc_row_of ?_ fun cdv A outer s H vs Q E hr h => ?_) T.g_law_row_of T.kp_law_row_of
  · rintro vs H Q E ⟨d, rfl, _⟩
    rfl
  · obtain ⟨d, rfl, ⟨wd, one, other, hd, hk⟩, q⟩ := h
    refine ⟨_, pss_cons (ps_asg (pv 0) (pg_tup (by rfl) (pgs_cons (pg_name (i := 1) sc_row_of.nd rfl (.inl rfl)) (pgs_cons (pg_name (i := 2) sc_row_of.nd rfl (.inl rfl)) (pgs_cons (pg_name (i := 3) sc_row_of.nd rfl (.inl rfl)) pgs_nil)))))
      (pss_cons (ps_if (pt_cmpR op_eq (pv 1) pe_str (nomark _)) (pss_one (ps_ret (pe_ix ix_list (pe_lst (pa_cons pe_str (pa_cons pe_str pa_nil))) (pe_callTy call_int1 (by rfl) T.z_int boot_int (pa_cons (pv 2) pa_nil)) (fun _ _ => rfl)))) pss_nil)
      (pss_cons (ps_if (pt_cmpR op_eq (pv 1) pe_str (nomark _)) (pss_one (ps_ret (pe_op op_add_str (pe_op op_add_str (pe_op op_add_str pe_str (pe_join pe_str (pe_lc (own := [("thing", 4)]) (g := gName 4) (tt := tYes) (by rfl) sc_row_of.nd (pi_tup (pv 2)) (blkOk_by (N := ["deed", "way", "one", "other", "thing"]) (sc := defScope s_law_row_of) (by decide +kernel))
        (fun _ _ _ _ _ => pg_name sc_row_of.nd rfl (.inl rfl)) (fun _ _ _ _ _ => pts_nil) (fun s1 H1 C1 cl1 fp1 => pe_callTy call_str_int (by rfl) T.z_str boot_str (pa_cons (pv 4) pa_nil))))) pe_str) (pe_callTy call_str_int (by rfl) T.z_str boot_str (pa_cons (pv 3) pa_nil))))) pss_nil)
      (pss_cons (ps_if (pt_cmpR op_eq (pv 1) pe_str (nomark _)) (pss_one (ps_ret pe_str)) pss_nil)
      (pss_one (ps_ret (pe_op op_add_str (pe_dget (u1 hr) (pe_disp (pps_cons pe_str pe_str (pps_cons pe_str pe_str (pps_cons pe_str pe_str pps_nil))) (by rfl) (by rfl) (by decide) (by decide)) (pv 1) (by intro _ _; rfl)) (pe_callTy call_str_int (by rfl) T.z_str boot_str (pa_cons (pv 2) pa_nil)))))))), ?_⟩
    walk_at "i"
    refine g_un3 (SqT.of hd) ?_
    rcases hk with ⟨rfl, b, rfl⟩ | ⟨rfl, p, l, n, rfl, hp, hl, hb, rfl, hn⟩ | rfl | ⟨hw, k, rfl, k0, k1⟩
    · walk_at "i"
      refine g_dec (fun _ => ?_) (fun h => absurd rfl h)
      walk_at "i"
      refine ⟨sz_of (by simp), fun p hp => ?_⟩
      walk_at "i"
      refine .inr ⟨_, rfl, ?_⟩
      walk_at "i"
      obtain ⟨n, hn, hnb⟩ : ∃ n : Str, ([.str "may", .str "must"] : List V)[(if b = true then (1 : Int) else 0).toNat]? = some (.str n) ∧ n.length ≤ 200 ∧ 0 ≤ (if b = true then (1 : Int) else 0) := by
        cases b
        · exact ⟨"may", rfl, by decide +kernel, by decide⟩
        · exact ⟨"must", rfl, by decide +kernel, by decide⟩
      refine ⟨p, _, _, .str n, rfl, rfl, SqL.of upd_same, ati hnb.2 hn, ?_⟩
      walk_at "i"
      exact q _ _ (Same.new hp) hnb.1
    · walk_at "i"
      refine g_dec (fun h => absurd (V.str.inj h) (by decide +kernel)) (fun _ => ?_)
      walk_at "i"
      refine g_dec (fun _ => ?_) (fun h => absurd rfl h)
      walk_at "i"
      refine ⟨⟨_, rfl⟩, _, rfl, p, rfl, ⟨_, SqT.of hp⟩, fun D hD => lc_map walk_tup hD (by rw [List.length_map]; omega) ((l.map strI).map V.str) (by simp) (fun H2 s2 => SqT.of (s2 _ _ hp)) (fun i y o H2 H3 hi s2 ho y1 Qc kc => ?_) (fun H2 s2 d2 => ?_)⟩
      · obtain ⟨rfl, hy⟩ := y1
        obtain ⟨z, hz, rfl⟩ := map_at hy
        obtain ⟨o1, ho1, rfl⟩ := map_at ho
        obtain ⟨z1, hz1, rfl⟩ := map_at ho1
        rw [hz] at hz1
        cases hz1
        walk_at "i"
        refine ⟨rfl, ?_⟩
        walk_at "i"
        have := hb z (List.mem_of_getElem? hz)
        exact ⟨z, rfl, strI_log (by omega), kc _ (Same.refl _)⟩
      · have e1 : Str.length "," = 1 := by decide +kernel
        have e2 : Str.length " " = 1 := by decide +kernel
        have e6 : Str.length "piece " = 6 := by decide +kernel
        have hsl : sizeLine = 16777216 := rfl
        have i21 : ∀ y ∈ l.map strI, y.length ≤ 2 := fun y hy => by
          obtain ⟨z, hz, rfl⟩ := List.mem_map.mp hy
          have := hb z hz
          exact strI_2 (by omega) (by omega)
        have j1 := join_len "," (l.map strI) 2 i21
        have j2 := sum_len (l.map strI) 2 i21
        rw [List.length_map, e1] at j1
        rw [List.length_map] at j2
        have hn2 := strI_len (i := n) (by omega)
        have cat : ∀ a b : Str, (a ++ b).length = a.length + b.length := cat_len
        have j3 : l.length * (2 + 1) ≤ 16 * (2 + 1) := Nat.mul_le_mul_right _ hl
        have j4 : l.length * 2 ≤ 16 * 2 := Nat.mul_le_mul_right _ hl
        refine ⟨_, D, l.map strI, rfl, rfl, .inl (.inl (.inl d2)), ?_, ?_⟩
        · rw [List.length_map, e1]
          omega
        walk_at "i"
        refine ⟨_, _, rfl, rfl, by rw [e6]; omega, ?_⟩
        walk_at "i"
        refine ⟨_, _, rfl, rfl, by rw [cat, e6, e2]; omega, ?_⟩
        walk_at "i"
        refine ⟨n, rfl, strI_log (by omega), _, _, rfl, rfl, ?_, ?_⟩
        · show (("piece " : Str) ++ _ ++ (" " : Str)).length + (strI n).length ≤ sizeLine
          rw [cat, cat, e6, e2]; omega
        walk_at "i"
        refine q _ _ s2 ?_
        show ((("piece " : Str) ++ _ ++ (" " : Str)) ++ strI n).length ≤ 200
        rw [cat, cat, cat, e6, e2]; omega
    · walk_at "i"
      refine g_dec (fun h => absurd (V.str.inj h) (by decide +kernel)) (fun _ => ?_)
      walk_at "i"
      refine g_dec (fun h => absurd (V.str.inj h) (by decide +kernel)) (fun _ => ?_)
      walk_at "i"
      refine g_dec (fun _ => ?_) (fun h => absurd rfl h)
      walk_at "i"
      exact q _ _ (Same.refl _) (by decide +kernel)
    · walk_at "i"
      have nw : ∀ s : Str, s ∉ (["turn", "take thing", "take piece"] : List Str) → V.str wd ≠ .str s := fun s hs e => hs (by rw [← V.str.inj e]; exact hw)
      refine g_dec (fun h => absurd h (nw _ (by decide +kernel))) (fun _ => ?_)
      walk_at "i"
      refine g_dec (fun h => absurd h (nw _ (by decide +kernel))) (fun _ => ?_)
      walk_at "i"
      refine g_dec (fun h => absurd h (nw _ (by decide +kernel))) (fun _ => ?_)
      walk_at "i"
      refine fun p hp => ?_
      refine ⟨upd_same, [(.inr "turn", .str "turn "), (.inr "take thing", .str "drop thing "), (.inr "take piece", .str "drop piece ")], rfl, by decide, ?_⟩
      walk_at "i"
      obtain ⟨v, hv, hvb⟩ : ∃ v : Str, some (V.str v) = valV (mergeK [] [((.inr "turn" : Key), V.str "turn "), (.inr "take thing", .str "drop thing "), (.inr "take piece", .str "drop piece ")]) (.inr wd) ∧ v.length ≤ 20 := by
        rcases List.mem_cons.mp hw with rfl | hw
        · exact ⟨"turn ", rfl, by decide +kernel⟩
        rcases List.mem_cons.mp hw with rfl | hw
        · exact ⟨"drop thing ", rfl, by decide +kernel⟩
        rw [List.mem_singleton.mp hw]
        exact ⟨"drop piece ", rfl, by decide +kernel⟩
      refine ⟨p, _, rfl, .inl ⟨_, .inr wd, .inl upd_same, rfl, hv⟩, ?_⟩
      walk_at "i"
      have hn2 := strI_len (i := k) (by omega)
      have hsl : sizeLine = 16777216 := rfl
      refine ⟨k, rfl, strI_log (by omega), _, _, rfl, rfl, ?_, ?_⟩
      · show v.length + (strI k).length ≤ sizeLine
        omega
      walk_at "i"
      refine q _ _ (fun a o e => ?_) ?_
      · have ne : a ≠ p := ne_of_none e hp
        rw [upd_ne ne, upd_ne ne]
        exact e
      · show (v ++ strI k).length ≤ 200
        rw [cat_len]
        omega
end
/-! ELaw6 -/
def spBent : Sp := fun vs H Q _ => ∃ (pt : Addr) (x : Str), vs = [.ref pt, .str x] ∧ PotAt H pt ∧ x.length ≤ 200 ∧ ∀ H' (z : Str), SameX [pt] H H' → PotAt H' pt → z.length ≤ 80000 → Q (.str z) H'
section
variable {P : Program} {w : World} {K : PySem.W.Frag} {mg : Str → Option Value} {base : Heap}
theorem sc_bent : FnScope ["pot", "row", "at", "sign", "words", "place", "some"] ["pot", "row"] (defScope s_law_bent) := ⟨rfl, rfl, rfl, by decide +kernel, rfl, by decide +kernel, by decide +kernel⟩
def rAddS : R2 := fun x y H Q => ∃ i j, x = .str i ∧ y = .str j ∧ i.length + j.length ≤ sizeLine ∧ Q (.str (i ++ j)) H
theorem op_addS {X : Cx} : OpR X (binaryOp .Add) rAddS := op_add_str
theorem g_add {i j : Str} {H : Hp} {Q : VK} (h : i.length + j.length ≤ 16777216) (q : ∀ z : Str, z.length = i.length + j.length → Q (.str z) H) : rAddS (.str i) (.str j) H Q := ⟨i, j, rfl, rfl, h, q _ (cat_len i j)⟩
theorem g_cutS {x : Str} {lo hi : Option Int} {H : Hp} {Q : VK} (h : x.length ≤ 100000) (q : ∀ z : Str, z.length ≤ x.length → Q (.str z) H) : C8.rSlX (.str x) lo hi H Q :=
  ⟨x, rfl, sz_of h, q _ (by rw [← C8.cutS_slice]; exact cutS_length x lo hi)⟩
def SomeL (H : Hp) (p : Addr) (n : Nat) : Prop := ∃ zs : List Str, H p = some (.lst (zs.map V.str)) ∧ zs.length = n ∧ ∀ z ∈ zs, z.length ≤ 80000
theorem SomeL.same {H H' : Hp} {p : Addr} {n : Nat} (h : SomeL H p n) (s : Same H H') : SomeL H' p n := let ⟨zs, a, b⟩ := h; ⟨zs, s _ _ a, b⟩
theorem SomeL.new {H : Hp} {p : Addr} (zs : List Str) (h : ∀ z ∈ zs, z.length ≤ 80000) : SomeL (upd H p (.lst (zs.map V.str))) p zs.length := ⟨zs, upd_same, rfl, h⟩
theorem join_ok {ys : List Str} (h : ∀ y ∈ ys, y.length ≤ 200) (hl : ys.length ≤ 203) : (ys.map (·.length)).sum + ys.length * (" " : Str).length ≤ 16777216 ∧ (Txt.join " " ys).length ≤ 80000 := by
  have e1 : (" " : Str).length = 1 := by decide +kernel
  have j1 := join_len " " ys 200 h
  have j2 := sum_len ys 200 h
  rw [e1] at j1 ⊢
  omega
theorem g_catL {H : Hp} {Q : VK} {a b : Addr} {n m : Nat} (ha : SomeL H a n) (hb : SomeL H b m) (h : n + m ≤ 100) (q : ∀ H' p, Same H H' → SomeL H' p (n + m) → Q (.ref p) H') : rCat (.ref a) (.ref b) H Q := by
  obtain ⟨xs, ha, rfl, hx⟩ := ha
  obtain ⟨ys, hb, rfl, hy⟩ := hb
  refine ⟨a, b, _, _, rfl, rfl, ha, hb, by rw [List.length_map, List.length_map]; exact sz_of (by omega), fun p hp => q _ p (Same.new hp) ?_⟩
  rw [← List.map_append, ← List.length_append]
  exact SomeL.new _ fun z hz => (List.mem_append.mp hz).elim (hx z) (hy z)
theorem g_slT {K : PySem.W.Frag} {H : Hp} {Q : VK} {a : Addr} {ws : List Str} {k : Nat} (ha : H a = some (.lst (ws.map V.str))) (q : ∀ H' p, Same H H' → H' p = some (.lst ((ws.take k).map V.str)) → Q (.ref p) H') : rSlL K (.ref a) none (some (k : Int)) H Q := by
  refine ⟨a, _, rfl, SqL.of ha, fun p hp => q _ p (Same.new hp) ?_⟩
  rw [cut_to, ← List.map_take]
  exact upd_same
theorem g_slF {K : PySem.W.Frag} {H : Hp} {Q : VK} {a : Addr} {ws : List Str} {k : Nat} (ha : H a = some (.lst (ws.map V.str))) (q : ∀ H' p, Same H H' → H' p = some (.lst ((ws.drop k).map V.str)) → Q (.ref p) H') : rSlL K (.ref a) (some (k : Int)) none H Q := by
  refine ⟨a, _, rfl, SqL.of ha, fun p hp => q _ p (Same.new hp) ?_⟩
  rw [cut_from, ← List.map_drop]
  exact upd_same
theorem g_catS {H : Hp} {Q : VK} {a b : Addr} {xs ys : List Str} (ha : H a = some (.lst (xs.map V.str))) (hb : H b = some (.lst (ys.map V.str))) (h : xs.length + ys.length ≤ 1000) (q : ∀ H' p, Same H H' → H' p = some (.lst ((xs ++ ys).map V.str)) → Q (.ref p) H') : rCat (.ref a) (.ref b) H Q := by
  refine ⟨a, b, _, _, rfl, rfl, ha, hb, by rw [List.length_map, List.length_map]; exact sz_of (by omega), fun p hp => q _ p (Same.new hp) ?_⟩
  rw [List.map_append]
  exact upd_same
theorem c_bent (T : Tx K w mg) : Cal P w K mg base CX0 2 "_law_bent" spBent := by
  have c1 : Cal P w K mg base CX0 1 "_law_take" spTake := c_take T
  refine T.d_law_bent.cal (T.d_law_bent.ok0 sc_bent ?_ fun cdv A outer s H vs Q E hr h => ?_) T.g_law_bent T.kp_law_bent
  · rintro vs H Q E ⟨pt, x, rfl, _⟩
    rfl
  · obtain ⟨pt, x, rfl, hP, hx, q⟩ := h
    refine ⟨_, (pss_cons (ps_set (i := 2) sc_bent.nd rfl (.inl rfl) (pe_c c1 hr (by decide) (by rfl) (pa_cons (pv 0) (pa_cons (pe_op op_add (pe_callB call_len (by rfl) T.z_len PySem.boot_len (pa_cons (pv 1) pa_nil)) pe_int) pa_nil))))
      (pss_cons (ps_set (i := 3) sc_bent.nd rfl (.inl rfl) (pe_ix ix_str pe_str (pe_c c1 hr (by decide) (by rfl) (pa_cons (pv 0) (pa_cons pe_int pa_nil))) (fun _ _ => rfl)))
      (pss_cons (ps_set (i := 4) sc_bent.nd rfl (.inl rfl) (pe_split (pv 1) pe_str))
      (pss_cons (ps_set (i := 5) sc_bent.nd rfl (.inl rfl) (pe_c c1 hr (by decide) (by rfl) (pa_cons (pv 0) (pa_cons (pe_callB call_len (by rfl) T.z_len PySem.boot_len (pa_cons (pv 4) pa_nil)) pa_nil))))
      (pss_cons (ps_set (i := 6) sc_bent.nd rfl (.inl rfl) (pe_lst (pa_cons (pe_op op_addS (pe_op op_addS (pe_slice C8.sl_txt (pv 1) po_none (po_some (pv 2))) (pv 3)) (pe_slice C8.sl_txt (pv 1) (po_some (pv 2)) po_none)) (pa_cons (pe_op op_addS (pe_slice C8.sl_txt (pv 1) po_none (po_some (pv 2))) (pe_slice C8.sl_txt (pv 1) (po_some (pe_op op_add (pv 2) pe_int)) po_none)) (pa_cons (pe_op op_addS (pe_op op_addS (pe_slice C8.sl_txt (pv 1) po_none (po_some (pv 2))) (pv 3)) (pe_slice C8.sl_txt (pv 1) (po_some (pe_op op_add (pv 2) pe_int)) po_none)) (pa_cons (pe_op op_addS pe_str (pv 1)) (pa_cons (pe_op op_addS (pv 1) pe_str) pa_nil)))))))
      (pss_cons (ps_set (i := 6) sc_bent.nd rfl (.inl rfl) (pe_op op_cat (pv 6) (pe_lst (pa_cons (pe_join pe_str (pe_op op_cat (pe_slice sl_list (pv 4) po_none (po_some (pv 5))) (pe_slice sl_list (pv 4) (po_some (pe_op op_add (pv 5) pe_int)) po_none))) (pa_cons (pe_join pe_str (pe_op op_cat (pe_slice sl_list (pv 4) po_none (po_some (pe_op op_add (pv 5) pe_int))) (pe_slice sl_list (pv 4) (po_some (pv 5)) po_none))) pa_nil)))))
      (pss_cons (ps_set (i := 6) sc_bent.nd rfl (.inl rfl) (pe_op op_cat (pv 6) (pe_lst (pa_cons (pe_upper (pv 1)) (pa_cons (pe_op op_addS (pv 1) pe_str) (pa_cons (pe_op op_addS (pv 1) (pe_op op_mulS pe_str pe_int)) (pa_cons pe_str (pa_cons pe_str (pa_cons pe_str (pa_cons pe_str (pa_cons pe_str (pa_cons pe_str pa_nil))))))))))))
      (pss_cons (ps_set (i := 6) sc_bent.nd rfl (.inl rfl) (pe_op op_cat (pv 6) (pe_lst (pa_cons pe_str (pa_cons pe_str (pa_cons pe_str (pa_cons pe_str (pa_cons pe_str (pa_cons pe_str (pa_cons pe_str pa_nil))))))))))
      (pss_cons (ps_set (i := 6) sc_bent.nd rfl (.inl rfl) (pe_op op_cat (pv 6) (pe_lst (pa_cons pe_str (pa_cons pe_str (pa_cons pe_str (pa_cons pe_str pa_nil)))))))
      (pss_one (ps_ret (pe_ix ix_list (pv 6) (pe_c c1 hr (by decide) (by rfl) (pa_cons (pv 0) (pa_cons (pe_callB call_len (by rfl) T.z_len PySem.boot_len (pa_cons (pv 6) pa_nil)) pa_nil))) (fun _ _ => rfl))))))))))))), ?_⟩

    walk_at "i"
    refine ⟨.str x, x.length, rfl, ⟨sz_of (by omega), rfl⟩, ?_⟩
    walk_at "i"
    refine ⟨pt, (x.length : Int) + 1, rfl, hP, by omega, by omega, fun H1 at' s1 hP1 a0 a1 => ?_⟩
    walk_at "i"
    refine ⟨pt, 10, rfl, hP1, by decide, by decide, fun H2 si s2 hP2 i0 i1 => ?_⟩
    obtain ⟨c, hc⟩ : ∃ c, ((" -,0aM1\n+ " : Str)).cps.toList[si.toNat]? = some c := by
      have : ((" -,0aM1\n+ " : Str)).cps.toList.length = 10 := by decide +kernel
      exact ⟨_, List.getElem?_eq_getElem (by omega)⟩
    walk_at "i"
    refine ⟨_, si, c, rfl, rfl, sz_of (by decide +kernel), ati i0 hc, ?_⟩
    have hs1 : (⟨#[c]⟩ : Str).length = 1 := rfl
    generalize (⟨#[c]⟩ : Str) = sn at hs1 ⊢
    walk_at "i"
    have hcount := splitB_count x
    have hne := splitB_ne x
    have heach : ∀ y ∈ Txt.split x blank, y.length ≤ x.length := fun y hy => splitB_len hy
    refine ⟨⟨x, rfl⟩, x, blank, rfl, rfl, by decide +kernel, sz_lt (by omega), fun wl hwl => ?_⟩
    generalize Txt.split x blank = ws at hcount hne heach ⊢
    have hn0 : 0 < ws.length := List.length_pos_iff.mpr hne
    have s3 := (s1.trans s2).newer (o := .lst (ws.map V.str)) hwl
    have hP3 := hP2.same (Same.new (o := .lst (ws.map V.str)) hwl)
    have hw3 : upd H2 wl (.lst (ws.map V.str)) wl = some (.lst (ws.map V.str)) := upd_same
    have hwn : wl ≠ pt := fun e => by
      obtain ⟨z, ez⟩ := hP2
      rw [← e, hwl] at ez
      cases ez
    generalize upd H2 wl (.lst (ws.map V.str)) = H3 at s3 hP3 hw3 ⊢
    walk_at "i"
    refine ⟨.ref wl, _, rfl, .inl ⟨_, SqL.of hw3, rfl⟩, ?_⟩
    walk_at "i"
    refine ⟨pt, ((ws.map V.str).length : Nat), rfl, hP3, by rw [List.length_map]; omega, by rw [List.length_map]; omega, fun H4 pl s4 hP4 p0 p1 => ?_⟩
    have hw4 : H4 wl = some (.lst (ws.map V.str)) := s4 _ (fun hm => hwn (List.mem_singleton.mp hm)) _ hw3
    have s5 := s3.trans s4
    walk_at "i"
    have hS : ∀ H' p (o : HO) {H0 : Hp}, SameX [pt] H H0 → H' = upd H0 p o → H0 p = none → SameX [pt] H H' := fun H' p o {H0} s e h => by rw [e]; exact s.newer h
    have e1 : (" " : Str).length = 1 := by decide +kernel
    refine ⟨_, rfl, g_cutS (by omega) fun z1 b1 => ?_⟩
    walk_at "i"
    refine g_add ?_ fun z2 b2 => ?_
    · omega
    walk_at "i"
    refine ⟨_, rfl, ?_⟩
    walk_at "i"
    refine g_cutS (by omega) fun z3 b3 => ?_
    refine g_add ?_ fun z4 b4 => ?_
    · omega
    walk_at "i"
    refine ⟨_, rfl, g_cutS (by omega) fun z5 b5 => ?_⟩
    walk_at "i"
    refine ⟨_, rfl, ?_⟩
    walk_at "i"
    refine g_cutS (by omega) fun z6 b6 => ?_
    refine g_add ?_ fun z7 b7 => ?_
    · omega
    walk_at "i"
    refine ⟨_, rfl, g_cutS (by omega) fun z8 b8 => ?_⟩
    walk_at "i"
    refine g_add ?_ fun z9 b9 => ?_
    · omega
    walk_at "i"
    refine ⟨_, rfl, ?_⟩
    walk_at "i"
    refine g_cutS (by omega) fun z10 b10 => ?_
    refine g_add ?_ fun z11 b11 => ?_
    · omega
    walk_at "i"
    refine g_add ?_ fun z12 b12 => ?_
    · omega
    walk_at "i"
    refine g_add ?_ fun z13 b13 => ?_
    · omega
    walk_at "i"
    refine ⟨sz_of (by simp), fun p5 hp5 => ?_⟩
    have sm5 : SomeL (upd H4 p5 (.lst [.str z4, .str z7, .str z11, .str z12, .str z13])) p5 5 := SomeL.new [z4, z7, z11, z12, z13] fun z hz => by
      simp only [List.mem_cons, List.not_mem_nil, or_false] at hz
      rcases hz with rfl | rfl | rfl | rfl | rfl <;> omega
    have s6 := s5.newer (o := .lst [.str z4, .str z7, .str z11, .str z12, .str z13]) hp5
    have hP6 := hP4.same (Same.new (o := .lst [.str z4, .str z7, .str z11, .str z12, .str z13]) hp5)
    have hw6 := Same.new (o := .lst [.str z4, .str z7, .str z11, .str z12, .str z13]) hp5 _ _ hw4
    generalize upd H4 p5 (.lst [.str z4, .str z7, .str z11, .str z12, .str z13]) = H6 at s6 hP6 hw6 sm5 ⊢
    obtain ⟨pn, rfl⟩ : ∃ k : Nat, pl = k := ⟨pl.toNat, by omega⟩
    walk_at "i"
    refine ⟨⟨_, rfl⟩, ?_⟩
    walk_at "i"
    have mt : ∀ (k : Nat) y, y ∈ ws.take k → y.length ≤ 200 := fun k y hy => by have := heach y (List.mem_of_mem_take hy); omega
    have md : ∀ (k : Nat) y, y ∈ ws.drop k → y.length ≤ 200 := fun k y hy => by have := heach y (List.mem_of_mem_drop hy); omega
    refine ⟨_, rfl, g_slT hw6 fun H7 pa s7 h7 => ?_⟩
    walk_at "i"
    refine ⟨((pn + 1 : Nat) : Int), rfl, ?_⟩
    walk_at "i"
    refine g_slF (s7 _ _ hw6) fun H8 pb s8 h8 => ?_
    refine g_catS (s8 _ _ h7) h8 (by rw [List.length_take, List.length_drop]; omega) fun H9 pc s9 h9 => ?_
    have s69 := (s7.trans s8).trans s9
    have j9 := join_ok (ys := ws.take pn ++ ws.drop (pn + 1)) (fun y hy => (List.mem_append.mp hy).elim (mt _ y) (md _ y)) (by rw [List.length_append, List.length_take, List.length_drop]; omega)
    refine ⟨_, pc, _, rfl, rfl, .inl (SqL.of h9), j9.1, ?_⟩
    walk_at "i"
    refine ⟨⟨_, rfl⟩, ?_⟩
    walk_at "i"
    refine ⟨((pn + 1 : Nat) : Int), rfl, g_slT (s69 _ _ hw6) fun H10 pd s10 h10 => ?_⟩
    walk_at "i"
    refine ⟨_, rfl, ?_⟩
    walk_at "i"
    refine g_slF (s10 _ _ (s69 _ _ hw6)) fun H11 pe s11 h11 => ?_
    refine g_catS (s11 _ _ h10) h11 (by rw [List.length_take, List.length_drop]; omega) fun H12 pf s12 h12 => ?_
    have s612 := ((s69.trans s10).trans s11).trans s12
    have j12 := join_ok (ys := ws.take (pn + 1) ++ ws.drop pn) (fun y hy => (List.mem_append.mp hy).elim (mt _ y) (md _ y)) (by rw [List.length_append, List.length_take, List.length_drop]; omega)
    refine ⟨_, pf, _, rfl, rfl, .inl (SqL.of h12), j12.1, ?_⟩
    generalize Txt.join " " (ws.take pn ++ ws.drop (pn + 1)) = z14 at j9 ⊢
    generalize Txt.join " " (ws.take (pn + 1) ++ ws.drop pn) = z15 at j12 ⊢
    walk_at "i"
    refine ⟨sz_of (by simp), fun p6 hp6 => ?_⟩
    have sm6 : SomeL (upd H12 p6 (.lst [.str z14, .str z15])) p6 2 := SomeL.new [z14, z15] fun z hz => by
      simp only [List.mem_cons, List.not_mem_nil, or_false] at hz
      rcases hz with rfl | rfl
      · exact j9.2
      · exact j12.2
    have s613 := s612.trans (Same.new (o := .lst [.str z14, .str z15]) hp6)
    generalize upd H12 p6 (.lst [.str z14, .str z15]) = H13 at s613 sm6 ⊢
    refine g_catL (sm5.same s613) sm6 (by decide) fun H14 p7 s14 sm7 => ?_
    have s614 := s613.trans s14
    walk_at "i"
    refine ⟨⟨x, rfl⟩, x, rfl, rfl, by omega, ?_⟩
    have hup := PyProof.Rows.len_upper x
    generalize Txt.upper x = z16 at hup ⊢
    walk_at "i"
    have e2 : (" 1" : Str).length = 2 := by decide +kernel
    refine g_add ?_ fun z17 b17 => ?_
    · omega
    walk_at "i"
    have e0 : ("0" : Str).length = 1 := by decide +kernel
    refine ⟨_, 13, rfl, rfl, by decide, by decide, by rw [e0]; decide, by rw [e0]; decide, fun u hu => ?_⟩
    rw [e0] at hu
    refine g_add ?_ fun z18 b18 => ?_
    · omega
    walk_at "i"
    refine ⟨sz_of (by simp), fun p8 hp8 => ?_⟩
    have sm8 : SomeL (upd H14 p8 (.lst [.str z16, .str z17, .str z18, .str "", .str "at", .str "at -1", .str "at 00", .str "drop", .str "drop thing"])) p8 9 := SomeL.new ([z16, z17, z18, "", "at", "at -1", "at 00", "drop", "drop thing"] : List Str) fun z hz => by
      rcases List.mem_cons.mp hz with rfl | hz
      · omega
      rcases List.mem_cons.mp hz with rfl | hz
      · omega
      rcases List.mem_cons.mp hz with rfl | hz
      · omega
      have : ∀ z ∈ (["", "at", "at -1", "at 00", "drop", "drop thing"] : List Str), z.length ≤ 80000 := by decide +kernel
      exact this z hz
    have s615 := s614.trans (Same.new (o := .lst [.str z16, .str z17, .str z18, .str "", .str "at", .str "at -1", .str "at 00", .str "drop", .str "drop thing"]) hp8)
    have sm7' := sm7.same (Same.new (o := .lst [.str z16, .str z17, .str z18, .str "", .str "at", .str "at -1", .str "at 00", .str "drop", .str "drop thing"]) hp8)
    generalize upd H14 p8 (.lst [.str z16, .str z17, .str z18, .str "", .str "at", .str "at -1", .str "at 00", .str "drop", .str "drop thing"]) = H15 at s615 sm8 sm7' ⊢
    refine g_catL sm7' sm8 (by decide) fun H16 p9 s16 sm9 => ?_
    have s616 := s615.trans s16
    walk_at "i"
    refine ⟨sz_of (by simp), fun p10 hp10 => ?_⟩
    have sm10 : SomeL (upd H16 p10 (.lst [.str "drop box 1", .str "piece 0", .str "piece 0, 1", .str "piece 0 -0", .str "piece -1 1", .str "turn 1 1", .str "boxes"])) p10 7 := SomeL.new (["drop box 1", "piece 0", "piece 0, 1", "piece 0 -0", "piece -1 1", "turn 1 1", "boxes"] : List Str) (by decide +kernel)
    have s617 := s616.trans (Same.new (o := .lst [.str "drop box 1", .str "piece 0", .str "piece 0, 1", .str "piece 0 -0", .str "piece -1 1", .str "turn 1 1", .str "boxes"]) hp10)
    have sm9' := sm9.same (Same.new (o := .lst [.str "drop box 1", .str "piece 0", .str "piece 0, 1", .str "piece 0 -0", .str "piece -1 1", .str "turn 1 1", .str "boxes"]) hp10)
    generalize upd H16 p10 (.lst [.str "drop box 1", .str "piece 0", .str "piece 0, 1", .str "piece 0 -0", .str "piece -1 1", .str "turn 1 1", .str "boxes"]) = H17 at s617 sm10 sm9' ⊢
    refine g_catL sm9' sm10 (by decide) fun H18 p11 s18 sm11 => ?_
    have s618 := s617.trans s18
    walk_at "i"
    refine ⟨sz_of (by simp), fun p12 hp12 => ?_⟩
    have sm12 : SomeL (upd H18 p12 (.lst [.str "undo 1", .str "start", .str "things 1", .str "say must"])) p12 4 := SomeL.new (["undo 1", "start", "things 1", "say must"] : List Str) (by decide +kernel)
    have s619 := s618.trans (Same.new (o := .lst [.str "undo 1", .str "start", .str "things 1", .str "say must"]) hp12)
    have sm11' := sm11.same (Same.new (o := .lst [.str "undo 1", .str "start", .str "things 1", .str "say must"]) hp12)
    generalize upd H18 p12 (.lst [.str "undo 1", .str "start", .str "things 1", .str "say must"]) = H19 at s619 sm12 sm11' ⊢
    refine g_catL sm11' sm12 (by decide) fun H20 p13 s20 sm13 => ?_
    have s620 := s619.trans s20
    have hP20 := hP6.same s620
    obtain ⟨zs, hz, hzl, hzb⟩ := sm13
    have hpn : p13 ≠ pt := fun e => by
      obtain ⟨c', ec⟩ := hP20
      rw [← e, hz] at ec
      have := congrArg (fun o => match o with | some (HO.lst l) => l.length | _ => 0) ec
      simp only [List.length_map, List.length_cons, List.length_nil] at this
      omega
    walk_at "i"
    refine ⟨.ref p13, _, rfl, .inl ⟨_, SqL.of hz, rfl⟩, ?_⟩
    walk_at "i"
    refine ⟨pt, ((zs.map V.str).length : Nat), rfl, hP20, by rw [List.length_map]; omega, by rw [List.length_map]; omega, fun H21 r s21 hP21 r0 r1 => ?_⟩
    have h21 : H21 p13 = some (.lst (zs.map V.str)) := s21 _ (fun hm => hpn (List.mem_singleton.mp hm)) _ hz
    rw [List.length_map] at r1
    obtain ⟨z, hzr⟩ : ∃ z, zs[r.toNat]? = some z := ⟨_, List.getElem?_eq_getElem (by omega)⟩
    walk_at "i"
    refine ⟨p13, _, r, .str z, rfl, rfl, SqL.of h21, ati r0 (map_get hzr), ?_⟩
    walk_at "i"
    exact q _ _ ((s6.trans (SameX.of s620)).trans s21) hP21 (hzb z (List.mem_of_getElem? hzr))
end
/-! ERul7 -/
/-! ### a def that is called within an except suite, with the exception held there: it raises nothing -/
section
open L2H
structure FnE (P : Program) (w : World) (K : PySem.W.Frag) (mg : Str → Option Value) (base : Heap) (k : Nat) (f : Addr) (fd : FuncData) (ps : List Str) (D : Addr) (sp : Addr → Sp) : Prop where
  len : ∀ a vs H Q E, sp a vs H Q E → vs.length = ps.length
  run : ∀ (A : Around) (outer : List Env) (s : Shared) (H : Hp) (args : Args) (us : List Value) (vs : List V) (Q : VK) (E : XK) (p : Addr × Obj), RoomH k A → Zc (.ref D) none p.2 → (∃ zs, p.2.data = .fields zs) → PinOk outer H s p → Env0 P w K mg base A outer s H → BindsTo s fd args (ps.zip us) → Vals vs us → sp p.1 vs H Q E →
    codeAny (model P w) A (.call (.ref f) args) (CR CX0 outer P w H s Q E) s
theorem fn_ofE {P : Program} {w : World} {K : PySem.W.Frag} {mg : Str → Option Value} {base : Heap} {k : Nat} {f D : Addr} {name qual : Str} {params : Arguments} {body : List Stmt} {scope : Scope} {dV kV doc pm cdv ct oc : Value} {an od : Option Addr}
    {osl : Array (Option Value)} {N ps : List Str} {sp : Addr → Sp} (lk : K.lookup f = some ⟨oc, od, .func (PySem.W.fnOf name qual params body scope dV kV doc pm an cdv ct), osl⟩) (hcd : PySem.W.codeIn K cdv qual = true) (S : FnScope N ps scope)
    (len : ∀ a vs H Q E, sp a vs H Q E → vs.length = ps.length)
    (hbody : ∀ (A : Around) (outer : List Env) (s : Shared) (H : Hp) (vs : List V) (Q : VK) (E : XK) (p : Addr × Obj), Zc (.ref D) none p.2 → (∃ zs, p.2.data = .fields zs) → RoomH k (A.deeper (envOfC qual scope s.heap.objs.size f cdv)) → sp p.1 vs H Q E →
      ∃ t, PSs (cxH CX0 P w K mg base N qual scope f cdv A outer s H E p) body t ∧ t { nx := fun _ H' => Q .non H', rt := Q } (L2.start N vs) H) :
    FnE P w K mg base (k + 1) f (PySem.W.fnOf name qual params body scope dV kV doc pm an cdv ct) ps D sp := by
  refine ⟨len, fun A outer s H args us vs Q E p hr hz hf hpin e0 hb r hsp => ?_⟩
  have hl := len _ _ _ _ _ hsp
  have KX : K.In s.heap := e0.mod.kin.keeps fun b o e => (e0.bs b o e).1
  have lim : s.heap.NoLimit := e0.mod.nolimit.keeps fun b o e => (e0.bs b o e).1
  have hkind : ∀ y ∈ ps.zip us, scope.names.lookup y.1 = some .local ∨ (scope.names.lookup y.1 = some .cell ∧ ((cellsFrom (s.heap.objs.size + 1) scope.names []).lookup y.1).isSome = true) := fun ⟨n, v⟩ hy => by
    rcases S.par n (List.of_mem_zip hy).1 with q | q
    · exact .inl q
    · exact .inr ⟨q, PySem.W.cellsFrom_some _ _ _ (.inl q)⟩
  refine codeAny_call_function hr.depth (KX _ _ lk) rfl S.co S.gen rfl (PySem.W.codeRec_of KX hcd) (hb _ _ _ _ ?_)
  refine wpAny_newFunctionEnv_cells S.kind hkind fun env he s1 x => ?_
  subst he
  refine ⟨lim.keeps x.toInCall.keep, codeAny_func ?_⟩
  obtain ⟨t, ht, hq⟩ := hbody A outer s H vs Q E p hz hf (hr.deeper _) hsp
  have I : Inv (cxH CX0 P w K mg base N qual scope f cdv A outer s H E p) [] (L2.start N vs) H s1 := inv_startH S hpin e0 hl r x
  refine wpAny_mono (ht.run [] s1 (L2.start N vs) H _ I hq) (fun fl s' hs => ?_) fun e s' hs => hs
  have fin : ∀ {σ' : L2.St} {H' : Hp} {v : V} {u : Value}, Inv (cxH CX0 P w K mg base N qual scope f cdv A outer s H E p) [] σ' H' s' → RelV v u → Q v H' → CE outer P w H s Q u s' :=
    fun {σ' H' v u} J rv q => ⟨v, H', J.os, J.bare, J.base, J.hok, rv, q⟩
  cases fl with
  | ret u =>
    obtain ⟨v, σ', H', J, rv, q⟩ := hs
    exact fin J rv q
  | next =>
    obtain ⟨σ', H', J, q⟩ := hs
    exact fin (v := V.non) (u := Value.none) J rfl q
  | brk =>
    obtain ⟨_, _, _, q⟩ := hs
    exact False.elim q
  | cont =>
    obtain ⟨_, _, _, q⟩ := hs
    exact False.elim q
variable {X : Cx} {k j : Nat} {D f : Addr} {fd : FuncData} {ps : List Str} {sp : Addr → Sp} {x : Str} {q pos : Pos} {e : Expr} {es : List Expr} {t : TA}
theorem run_fnE {p : Addr × Obj} {pins : List (Addr × Obj)} {σ : L2.St} {H : Hp} {s : Shared} {Q : VK} {us : List Value} {vs : List V} (F : FnE X.prog X.w X.K X.mg X.base k f fd ps D sp) (hr : RoomH k X.A) (hp : p ∈ X.pn) (hz : Zc (.ref D) none p.2) (hf : ∃ zs, p.2.data = .fields zs) (hb : Binds X.K fd ps [])
    (I : Inv X pins σ H s) (r : Vals vs us) (h : sp p.1 vs H Q E0) : wpAny (model X.prog X.w) X.A (call (.ref f) us) (EP X pins σ Q) X.xe s := by
  have hl : us.length = ps.length := by rw [← r.length]; exact F.len _ _ _ _ _ h
  have b := hb s us I.kIn (by rw [List.append_nil]; exact hl)
  rw [List.append_nil] at b
  have P1 := I.pin p (List.mem_append_left _ hp)
  have hpin : PinOk X.stack H s p := ⟨P1.1, P1.2.1, fun hm => (List.mem_cons.mp (I.stkSub p.1 hm)).elim P1.2.2.1 P1.2.2.2.1, P1.2.2.2.2⟩
  refine wpAny_call (codeAny_mono (F.run X.A X.stack s H ⟨us, []⟩ us vs Q E0 p hr hz hf hpin I.env0 b r h) fun r s' hq => ?_)
  cases r with
  | error e => exact hq.elim
  | ok fl =>
    cases fl with
    | ret u => exact I.after hq
    | next => exact False.elim hq
    | brk => exact False.elim hq
    | cont => exact False.elim hq
/-- a def of the module that may be called with the exception -/
structure CalE (P : Program) (w : World) (K : PySem.W.Frag) (mg : Str → Option Value) (base : Heap) (k : Nat) (x : Str) (D : Addr) (sp : Addr → Sp) : Prop where
  ex : ∃ (f : Addr) (fd : FuncData) (ps : List Str), FnE P w K mg base k f fd ps D sp ∧ mg x = some (.ref f) ∧ PySem.W.keepIn K (.ref f) = true ∧ Binds K fd ps []
theorem pe_cE {p : Addr × Obj} (c : CalE X.prog X.w X.K X.mg X.base k x D sp) (hr : RoomH k X.A) (hp : p ∈ X.pn) (hz : Zc (.ref D) none p.2) (hf : ∃ zs, p.2.data = .fields zs) (hg : Gl X x)
    (ha : PA X (e :: es) t) (hdb : (x == ("__debug__" : Str)) = false := by decide) (he : starEach (e :: es) X.env = (false, eval e X.env) :: starEach es X.env := by rfl) (hpl : (backTo pos (starEach es X.env)).any (·.1) = false := by rfl) :
    PE X (.Call (.Name x q) (e :: es) [] pos) (tCall (sp p.1) [] E0 t) := by
  obtain ⟨f, fd, ps, F, hm, hk, hb⟩ := c.ex
  refine ⟨fun pins s σ H Q I h => ?_⟩
  refine wpAny_Call_Name_kw (ld_glob I hg hm ?_ hdb)
  refine PySem.W.callWith_K (h₀ := X.base) I.ok.mod.kin hk (thn (ha.run pos pins s σ H _ I h) fun us s1 ⟨vs, H1, I1, r, q⟩ => ⟨I1.kIn, ?_⟩) he hpl
  exact run_fnE F hr hp hz hf hb I1 r (by
    have q : sp p.1 (vs ++ []) H1 Q E0 := q
    rw [List.append_nil] at q
    exact q)
/-! ### isinstance of an exception that is pinned -/
theorem inst_pin {pins : List (Addr × Obj)} {σ : L2.St} {H : Hp} {s : Shared} {p : Addr × Obj} (I : Inv X pins σ H s) (hp : p ∈ X.pn) (hz : Zc (.ref D) none p.2) (hf : ∃ zs, p.2.data = .fields zs) : PySem.W.InstAt s.heap p.1 p.2 D none := by
  obtain ⟨hget, _⟩ := I.pin p (List.mem_append_left _ hp)
  obtain ⟨vs, hv⟩ := hf
  obtain ⟨a, oe⟩ := p
  obtain ⟨oc, od, oda, osl⟩ := oe
  obtain ⟨h1, h2⟩ := hz
  dsimp only at h1 h2 hv
  subst h1 h2 hv
  exact ⟨hget, rfl, rfl, trivial⟩
theorem call_isP {p : Addr × Obj} (C : ExcC X.K D) (hp : p ∈ X.pn) (hz : Zc (.ref D) none p.2) (hf : ∃ zs, p.2.data = .fields zs) : CallR X (.builtin "isinstance") (rIsE X.K D p.1) := by
  intro pins s σ H xs us Q I r h
  obtain ⟨c, cv, b, rfl, hcv, e, q⟩ := h
  obtain ⟨u1, u2, rfl, r1, r2⟩ := vals2 r
  cases (show u1 = Value.ref p.1 from r1)
  have ec := hcv _ r2
  subst ec
  exact PySem.W.kia_one (PySem.W.handS_kitx_exc C.hg C.hk C.hs C.hd C.ha C.hn C.ht C.hm) I.kIn (inst_pin I hp hz hf) e (fun z => nomatch z) fun tk => ⟨.bl b, H, I.kept (t' := tk) fun _ _ z => z, rfl, q⟩
/-- .. of several classes -/
def rIsET (K : PySem.W.Frag) (D a : Addr) : List V → Hp → VK → Prop := fun xs H Q => ∃ (tp : Addr) (cs : List V) (us : List Value) (b : Bool), xs = [.ref a, .ref tp] ∧ H tp = some (.tup cs) ∧ Paired ClsV cs us ∧ PySem.W.kitAny K (.ref D) us = some b ∧ Q (.bl b) H
theorem call_isPT {p : Addr × Obj} (C : ExcC X.K D) (hp : p ∈ X.pn) (hz : Zc (.ref D) none p.2) (hf : ∃ zs, p.2.data = .fields zs) : CallR X (.builtin "isinstance") (rIsET X.K D p.1) := by
  intro pins s σ H xs us Q I r h
  obtain ⟨tp, cs, ws, b, rfl, hT, k, e, q⟩ := h
  obtain ⟨u1, u2, rfl, r1, r2⟩ := vals2 r
  cases (show u1 = Value.ref p.1 from r1)
  cases (show u2 = Value.ref tp from r2)
  obtain ⟨_, its, rv, o, h1, h2, n, h3⟩ := (show ObjOk X.prog X.w H s.heap tp (.tup cs) from I.hok tp _ hT)
  have e3 := ClsV.all k rv
  subst e3
  obtain ⟨oc, od, dt, sl⟩ := o
  simp only at h2 h3
  subst h2 h3
  exact PySem.W.kia_tup (PySem.W.handS_kitx_exc C.hg C.hk C.hs C.hd C.ha C.hn C.ht C.hm) I.kIn (inst_pin I hp hz hf) h1 e (fun z => nomatch z) fun tk => ⟨.bl b, H, I.tok tk, rfl, q⟩
/-! ### list.count(a bool) of bools -/
def rCntB (K : PySem.W.Frag) : V → List V → Hp → VK → Prop := fun x xs H Q => ∃ (p : Addr) (bs : List Bool) (k : Bool), x = .ref p ∧ xs = [.bl k] ∧ SqL K H p (bs.map V.bl) ∧ Q (.int (bs.count k : Nat)) H
theorem bools_of {bs : List Bool} {us : List Value} (r : Vals (bs.map V.bl) us) : us = bs.map Value.bool := by
  induction bs generalizing us with
  | nil => cases r; rfl
  | cons b bs ih =>
    cases r with
    | cons h t =>
      rw [ih t]
      rw [show _ = Value.bool b from h]
      rfl
theorem mt_countB : MtR X "list.count" (rCntB X.K) := by
  intro pins s σ H x xs v us Q I rx rxs h
  obtain ⟨p, bs, k, rfl, rfl, hs, q⟩ := h
  cases rx
  obtain ⟨u, rfl, ru⟩ := rxs.one
  cases (show u = Value.bool k from ru)
  obtain ⟨its, rv, ⟨⟨cls, dd, data, sl⟩, n, ho, hc, hdn, hd⟩, hlen⟩ := I.list hs
  simp only at hc hd
  subst hc hd
  have hb := bools_of rv
  subst hb
  refine call_meets PySem.F.slot_list_count ⟨_, ho, rfl⟩ PySem.F.entry_list_count (PySem.F.args_list_count_2 _ _)
    (SeqAt.list_countAt p (bs.map Value.bool).toArray n dd sl (.bool k) (isBoolOf k)) ⟨ho, fun y hy => ?_, ?_⟩
  · have hy : y ∈ bs.map Value.bool := List.mem_toArray.mp hy
    obtain ⟨b, hb, rfl⟩ := List.mem_map.mp hy
    exact SeqAt.EqAt.bool_bool b k
  · have ec : (bs.map Value.bool).toArray.toList.countP (isBoolOf k) = bs.count k := by
      show (bs.map Value.bool).countP (isBoolOf k) = bs.count k
      rw [List.countP_map]
      rfl
    refine ⟨.int (bs.count k : Nat), H, I.tok _, ⟨s.toks, ?_⟩, q⟩
    show Value.int (((bs.map Value.bool).toArray.toList.countP (isBoolOf k) : Nat) : Int) s.toks = Value.int ((bs.count k : Nat) : Int) s.toks
    rw [ec]
end
/-! ### try: body, several except x as n: suite -/
section
def wManyAs (K : PySem.W.Frag) (i : Nat) (Wout : WX) (D : Ends) : List (Value × (Addr → Value → Option Addr → TS)) → WX
  | [] => Wout
  | (c, ts) :: r => fun cls d σ H => ∃ b, PySem.W.exmOne K cls c = some b ∧ (b = true → ∀ a, H a = none → ts a cls d { nx := fun σ' H' => D.nx (σ'.set i none) H', rt := D.rt, bk := fun σ' H' => D.bk (σ'.set i none) H', ct := fun σ' H' => D.ct (σ'.set i none) H' } (σ.set i (some (.ref a))) H) ∧
    (b = false → wManyAs K i Wout D r cls d σ H)
inductive HdsAs (X : Cx) (n : Str) : List ExceptHandler → List (Value × (Addr → Value → Option Addr → TS)) → Prop
  | nil : HdsAs X n [] []
  | cons {x : Str} {c : Value} {ts : Addr → Value → Option Addr → TS} {b₀ : Stmt} {suite : List Stmt} {np pos' : Pos} {hds : List ExceptHandler} {l : List (Value × (Addr → Value → Option Addr → TS))} (hc : Names X x c)
      (hsu : ∀ (a : Addr) (oe : Obj) (cls : Value) (d : Option Addr) (pn : List (Addr × Obj)), Zc cls d oe → (∃ vs, oe.data = .fields vs) → PSs (X.suite a ((a, oe) :: pn)) (b₀ :: suite) (ts a cls d)) (r : HdsAs X n hds l) :
      HdsAs X n (.ExceptHandler (some (.Name x np)) (some n) (b₀ :: suite) pos' :: hds) ((c, ts) :: l)
variable {X : Cx} {n : Str} {i : Nat} {body : List Stmt} {h₀ : ExceptHandler} {hds : List ExceptHandler} {l : List (Value × (Addr → Value → Option Addr → TS))} {pos : Pos} {tb : WX → TS} {Wout : WX}
theorem ps_try_manyAs (hs : X.stack = X.env :: X.outer) (hf : X.env.frame = some X.env.locals) (hN : X.N.Nodup) (hi : X.N[i]? = some n) (hln : X.env.kindOf n = some .local) (tk : Takes X Wout)
    (hb : ∀ (W : WX) (pn : List (Addr × Obj)) (xe : Value → Shared → Prop), Takes (X.tr pn xe) W → PassesOwn (model X.prog X.w) X.A X.env xe → PSs (X.tr pn xe) body (tb W))
    (hh : HdsAs X n (h₀ :: hds) l) : PS X (.Try body (h₀ :: hds) [] [] pos) (fun D σ H => tb (wManyAs X.K i Wout D l) D σ H) := by
  refine ⟨fun pins s σ H D I h => ?_⟩
  have ok := I.ok
  have hfr : X.A.frames = some (X.env :: X.outer) := by rw [ok.frames, hs]
  have hloc : Loc X.env.scope n := .inl hln
  refine wpAny_Try_except ?_
  refine wpAny_mono ((hb (wManyAs X.K i Wout D l) (X.pn ++ pins) (fun e s₁ => wpAny (model X.prog X.w) X.A (noteFrame e X.env) (fun _ s₂ => wpAny (model X.prog X.w) X.A (setFlight e none) (fun _ s₃ =>
    wpAny (model X.prog X.w) X.A (handleBy e X.env (h₀ :: hds)) (SP X pins D) X.xe s₃) X.xe s₂) X.xe s₁) (fun u s' xx => ?_) PassesOwn.looking).run [] s σ H D (I.toTry _) h) (fun f s1 hsp => ?_) (fun e s1 he => he)
  · -- the catch
    obtain ⟨a, B, sI, pins', σ', H', cls, d, rfl, J', nb, up, sky, na, os, ag, w⟩ := xx
    have J : Inv X pins σ' H' sI := J'.ofTry ok
    have sky' : Sky B (X.env :: X.outer) a (Zc cls d) X.env.locals s'.heap := by rw [← hs]; exact sky
    show wpAny (model X.prog X.w) X.A (noteFrame (.ref a) X.env) _ _ _
    refine Sky.land Zc.steady hfr hf sky' fun h3 fl3 up3 => ?_
    have J3 : Inv X pins σ' H' { s' with heap := h3 } := J.landed nb fl3.1 (up.trans up3) os ag
    obtain ⟨oe3, vs3, he3, hz3, hd3⟩ := fl3.there
    have notFr : ∀ {h : Heap} {o : Obj} {vs : Array Value}, h.FunFrames B (X.env :: X.outer) → h.get? a = some o → o.data = .fields vs → a ∉ frs (X.env :: X.outer) := fun {h o vs} ff e dd hm => by
      obtain ⟨_, o', e', hnf⟩ := ff.mem hm
      rw [e] at e'; cases e'
      exact hnf _ dd
    have nfr := notFr fl3.2.2.1 he3 hd3
    have nL : a ≠ X.env.locals := fun z => nfr (List.mem_filterMap.mpr ⟨X.env, List.mem_cons_self, by rw [hf, z]⟩)
    have nF : a ∉ X.fs := fun hm => by
      obtain ⟨e, he, q⟩ := List.mem_filterMap.mp hm
      exact nfr (List.mem_filterMap.mpr ⟨e, List.mem_cons_of_mem _ he, q⟩)
    have S3 := J3.suite he3 hd3 na nL nF
    have go : ∀ {hds' : List ExceptHandler} {l' : List (Value × (Addr → Value → Option Addr → TS))}, HdsAs X n hds' l' → wManyAs X.K i Wout D l' cls d σ' H' →
        wpAny (model X.prog X.w) X.A (handleBy (.ref a) X.env hds') (SP X pins D) X.xe { s' with heap := h3 } := by
      intro hds' l' hk
      induction hk with
      | nil =>
        intro w
        refine wpAny_handleBy_nil ?_
        obtain ⟨k1, k2, k3, oe, vs, T, oT, ts', he, hz, hd, h1, hr⟩ := id fl3
        unfold PySem.passOn
        refine wpAny_bind (wpAny_field he hd h1 ?_)
        rw [if_neg (show ¬ ((Value.ref T == Value.none) = true) from by simp)]
        have fin : wpAny (model X.prog X.w) X.A (setFlight (.ref a) X.env.frame) (fun _ s4 => wpAny (model X.prog X.w) X.A (throw (.ref a) : Sem Flow) (SP X pins D) X.xe s4) X.xe { s' with heap := h3 } := by
          rw [hf]
          refine HandSPX.setFlight_upZ fl3 fun h4 hh4 up4 => wpAny_throw (tk _ _ ?_)
          exact ⟨a, B, sI, pins, σ', H', cls, d, rfl, J, nb, (up.trans up3).trans up4, .inr (.inr (by rw [hs]; exact hh4)), na, os, ag, w⟩
        first
          | exact wpAny_bind (wpAny_pure (wpAny_bind fin))
          | exact wpAny_bind fin
      | @cons x c ts b₀ suite np pos' hds2 l2 hc hsu r ih =>
        intro w
        obtain ⟨b, hb1, hyes, hno⟩ := w
        refine wpAny_handleBy_cons (codeAny_handlers_test ?_) (by intro q; cases q)
        have LT : PySem.W.Looks (model X.prog X.w) h3 (typeOf (.ref a)) cls := fun A Q E s k q => wpAny_typeOf_ref (k _ _ he3) (by rw [hz3.1]; exact q)
        have LM := PySem.W.exm_one (M := model X.prog X.w) (J3.kIn) LT hb1
        have test : ∀ {Q : Value → Shared → Prop} {E : Value → Shared → Prop}, Q c { s' with heap := h3 } → wpAny (model X.prog X.w) (X.A.mark (some (.ref a))) (eval (.Name x np) X.env) Q E { s' with heap := h3 } := fun {Q E} q => by
          obtain ⟨hg, hdbg, hm | ⟨hm, hv, hnn⟩⟩ := hc
          · exact ld_glob (X := X.suite a ((a, oe3) :: (X.pn ++ pins))) S3 hg hm q hdbg
          · exact ld_blt (X := X.suite a ((a, oe3) :: (X.pn ++ pins))) S3 hg hm hv q hnn hdbg
        refine test (LM.here ?_)
        cases b with
        | true =>
          refine codeAny_handlers_suite_as ?_
          refine HandSPX.lands_againZ fl3 fun h4 fl4 up4 => ?_
          have J4 : Inv X pins σ' H' { s' with heap := h4 } := J.landed nb fl4.1 ((up.trans up3).trans up4) os ag
          obtain ⟨oe4, vs4, he4, hz4, hd4⟩ := fl4.there
          have S4 := J4.suite he4 hd4 na nL nF
          refine store_ok (X := X.suite a ((a, oe4) :: (X.pn ++ pins))) (v := .ref a) S4 hN hi hloc rfl (fun s5 S5 => ?_) (.inr hln)
          refine wpAny_mono ((hsu a oe4 cls d (X.pn ++ pins) hz4 ⟨_, hd4⟩).run [] s5 _ H' _ S5 (hyes rfl a na)) (fun f s6 hsp => ?_) (fun _ _ z => False.elim z)
          have end_ : ∀ {σ6 : L2.St} {H6 : Hp} {Q : Shared → Prop}, Inv (X.suite a ((a, oe4) :: (X.pn ++ pins))) [] σ6 H6 s6 → (∀ s7, Inv X pins (σ6.set i none) H6 s7 → Q s7) →
              wpAny (model X.prog X.w) X.A (do bindName X.env n .none; unbindBehindTheSuite X.env n pos') (fun _ s7 => Q s7) X.xe s6 := fun {σ6 H6 Q} S6 hq => gone_ok (S6.unsuite ok) hN hi hln hq
          cases f with
          | next =>
            obtain ⟨σ6, H6, S6, q6⟩ := hsp
            exact end_ S6 fun s7 J7 => ⟨_, _, J7, q6⟩
          | brk =>
            obtain ⟨σ6, H6, S6, q6⟩ := hsp
            exact end_ S6 fun s7 J7 => ⟨_, _, J7, q6⟩
          | cont =>
            obtain ⟨σ6, H6, S6, q6⟩ := hsp
            exact end_ S6 fun s7 J7 => ⟨_, _, J7, q6⟩
          | ret u =>
            obtain ⟨v6, σ6, H6, S6, r6, q6⟩ := hsp
            exact end_ S6 fun s7 J7 => ⟨_, _, _, J7, r6, q6⟩
        | false =>
          show wpAny _ X.A (handleBy (.ref a) X.env hds2) _ _ _
          exact ih (hno rfl)
    exact go hh w
  · cases f with
    | next =>
      obtain ⟨σ', H', J', q⟩ := hsp
      exact wpAny_execs_nil ⟨σ', H', J'.ofTry ok, q⟩
    | brk =>
      obtain ⟨σ', H', J', q⟩ := hsp
      exact ⟨σ', H', J'.ofTry ok, q⟩
    | cont =>
      obtain ⟨σ', H', J', q⟩ := hsp
      exact ⟨σ', H', J'.ofTry ok, q⟩
    | ret u =>
      obtain ⟨v, σ', H', J', r, q⟩ := hsp
      exact ⟨v, σ', H', J'.ofTry ok, r, q⟩
end
/-! ELaw7 -/
def six : List Str := ["TooMany", "NoThing", "NoWeight", "NoPiece", "Held", "NoDeed"]
def sixWords : List Str := ["many", "no thing", "no weight", "no piece", "held", "no deed"]
def wordOf (C : Str) : Str := ((six.zip sixWords).lookup C).getD "other"
def bsOf (C : Str) : List Bool := six.map fun c => decide (C = c)
def spWord (C : Str) : Addr → Sp := fun a vs H Q _ => vs = [.ref a] ∧ ∀ H', Same H H' → Q (.str (wordOf C)) H'
section
variable {P : Program} {w : World} {K : PySem.W.Frag} {mg : Str → Option Value} {base : Heap}
theorem exc_facts (T : Tx K w mg) {C : Str} (hC : C ∈ errs) : ExcC K (He.ga K C) ∧ PySem.W.kitOne K (.ref (He.ga K C)) (.type "ValueError") = some true ∧ ∀ c ∈ asked, PySem.W.kitOne K (.ref (He.ga K C)) (.ref (He.ga K c)) = some (decide (C = c)) := by
  have m := T.more
  unfold exAll at m
  rw [Bool.and_eq_true] at m
  have h := List.all_eq_true.mp m.1 C hC
  rw [Bool.and_eq_true, Bool.and_eq_true] at h
  obtain ⟨h1, h2, h3⟩ := h
  unfold excC at h1
  simp only [Bool.and_eq_true] at h1
  obtain ⟨a1, a2, a3, a4, a5, a6, a7, a8⟩ := h1
  refine ⟨⟨He.eqO_ok a1, He.eqO_ok a2, of_decide_eq_true a3, a4, He.eqO_ok a5, He.eqO_ok a6, of_decide_eq_true a7, of_decide_eq_true a8⟩, of_decide_eq_true h2, fun c hc => of_decide_eq_true (List.all_eq_true.mp h3 c hc)⟩
theorem sc_word : FnScope ["e", "some"] ["e"] (defScope s_law_shop_word) := ⟨rfl, rfl, rfl, by decide +kernel, rfl, by decide +kernel, by decide +kernel⟩
theorem six_count : ∀ C ∈ errs, (bsOf C).count true = if C ∈ six then 1 else 0 := by decide +kernel
theorem six_not : ∀ C ∈ errs, C ∉ six → wordOf C = "other" := by decide +kernel
theorem six_at : ∀ C ∈ six, ∃ j, j < 6 ∧ (bsOf C)[j]? = some true ∧ (∀ m, m < j → (bsOf C)[m]? = some false) ∧ sixWords[j]? = some (wordOf C) := by
  intro C hC
  have key : ∀ C ∈ six, (List.range 6).any (fun j => decide ((bsOf C)[j]? = some true) && ((List.range j).all (fun m => decide ((bsOf C)[m]? = some false)) && decide (sixWords[j]? = some (wordOf C)))) = true := by decide +kernel
  obtain ⟨j, hj, h⟩ := List.any_eq_true.mp (key C hC)
  rw [Bool.and_eq_true, Bool.and_eq_true] at h
  exact ⟨j, List.mem_range.mp hj, of_decide_eq_true h.1, fun m hm => of_decide_eq_true (List.all_eq_true.mp h.2.1 m (List.mem_range.mpr hm)), of_decide_eq_true h.2.2⟩
theorem six_errs : ∀ C ∈ six, C ∈ errs ∧ C ≠ "NoCovering" ∧ C ≠ "NoOrder" ∧ C ≠ "NoRow" ∧ C ≠ "NoText" := by decide +kernel
theorem kitAny_of {C : Str} (hI : ∀ c ∈ asked, PySem.W.kitOne K (.ref (He.ga K C)) (.ref (He.ga K c)) = some (decide (C = c))) : ∀ cs : List Str, (∀ c ∈ cs, c ∈ asked) → PySem.W.kitAny K (.ref (He.ga K C)) (cs.map fun c => .ref (He.ga K c)) = some (decide (C ∈ cs))
  | [], _ => by
    rw [decide_eq_false (fun h => by cases h)]
    exact kitAny_nil
  | c :: r, h => by
    refine kitAny_cons (hI c (h c List.mem_cons_self)) (fun e => ?_) (fun e => ?_)
    · rw [kitAny_of hI r fun c hc => h c (List.mem_cons_of_mem _ hc)]
      have ne : C ≠ c := of_decide_eq_false e
      have : (C ∈ c :: r) ↔ C ∈ r := ⟨fun h => (List.mem_cons.mp h).resolve_left ne, List.mem_cons_of_mem _⟩
      rw [decide_eq_decide.mpr this]
    · exact decide_eq_true (by rw [of_decide_eq_true e]; exact List.mem_cons_self)
theorem clsV_map (cs : List Addr) : Paired ClsV (cs.map V.ref) (cs.map Value.ref) := by
  induction cs with
  | nil => exact .nil
  | cons c r ih => exact .cons (.own c) ih
theorem c_word (T : Tx K w mg) {C : Str} (hE : C ∈ errs) : CalE P w K mg base 1 "_law_shop_word" (He.ga K C) (spWord C) := by
  obtain ⟨hC, hV, hI⟩ := exc_facts T hE
  obtain ⟨oc, od, kV, doc, pm, an, cdv, ct, osl, hfd, lk, hcd⟩ := T.d_law_shop_word.fn.ex
  refine ⟨_, _, _, ?_, T.g_law_shop_word, T.kp_law_shop_word, T.d_law_shop_word.bd⟩
  rw [hfd] at lk ⊢
  refine fn_ofE lk hcd sc_word ?_ fun A outer s H vs Q E p hz hf hr h => ?_
  · rintro a vs H Q E ⟨rfl, _⟩
    rfl
  · obtain ⟨rfl, q⟩ := h
    have hp : ∀ X : Cx, X.pn = [p] → p ∈ X.pn := fun X e => by rw [e]; exact List.mem_cons_self
    refine ⟨_, (pss_cons (ps_set (i := 1) sc_word.nd rfl (.inl rfl) (pe_lst (pa_cons (pe_callB (call_isP hC (hp _ rfl) hz hf) (by rfl) T.z_isinstance boot_isi (pa_cons (pv 0) (pa_cons (pe_gc (v := .ref (He.ga K "TooMany")) (by rfl) ⟨_, T.g_TooMany, rfl⟩) pa_nil))) (pa_cons (pe_callB (call_isP hC (hp _ rfl) hz hf) (by rfl) T.z_isinstance boot_isi (pa_cons (pv 0) (pa_cons (pe_gc (v := .ref (He.ga K "NoThing")) (by rfl) ⟨_, T.g_NoThing, rfl⟩) pa_nil))) (pa_cons (pe_callB (call_isP hC (hp _ rfl) hz hf) (by rfl) T.z_isinstance boot_isi (pa_cons (pv 0) (pa_cons (pe_gc (v := .ref (He.ga K "NoWeight")) (by rfl) ⟨_, T.g_NoWeight, rfl⟩) pa_nil))) (pa_cons (pe_callB (call_isP hC (hp _ rfl) hz hf) (by rfl) T.z_isinstance boot_isi (pa_cons (pv 0) (pa_cons (pe_gc (v := .ref (He.ga K "NoPiece")) (by rfl) ⟨_, T.g_NoPiece, rfl⟩) pa_nil))) pa_nil))))))
      (pss_cons (ps_set (i := 1) sc_word.nd rfl (.inl rfl) (pe_op op_cat (pv 1) (pe_lst (pa_cons (pe_callB (call_isP hC (hp _ rfl) hz hf) (by rfl) T.z_isinstance boot_isi (pa_cons (pv 0) (pa_cons (pe_gc (v := .ref (He.ga K "Held")) (by rfl) ⟨_, T.g_Held, rfl⟩) pa_nil))) (pa_cons (pe_callB (call_isP hC (hp _ rfl) hz hf) (by rfl) T.z_isinstance boot_isi (pa_cons (pv 0) (pa_cons (pe_gc (v := .ref (He.ga K "NoDeed")) (by rfl) ⟨_, T.g_NoDeed, rfl⟩) pa_nil))) pa_nil)))))
      (pss_cons (ps_if (PW.pt (pw_or (pt_cmpR op_ne (pe_bm PySem.F.plainAttrs_list PySem.F.slot_list_count PySem.F.type_list_count mt_countB (pv 1) (pa_cons pe_bl pa_nil)) pe_int (nomark _)) (pw_or1 (pt_not (pt_val (pe_callB (call_isP hC (hp _ rfl) hz hf) (by rfl) T.z_isinstance boot_isi (pa_cons (pv 0) (pa_cons (pe_bltn (v := .ty "ValueError") (by rfl) T.z_ValueError (by decide +kernel) rfl) pa_nil)))))))) (pss_one (ps_ret pe_str)) pss_nil)
      (pss_cons (ps_if (pt_val (pe_callB (call_isPT hC (hp _ rfl) hz hf) (by rfl) T.z_isinstance boot_isi (pa_cons (pv 0) (pa_cons (pe_tup (pa_cons (pe_gc (v := .ref (He.ga K "NoCovering")) (by rfl) ⟨_, T.g_NoCovering, rfl⟩) (pa_cons (pe_gc (v := .ref (He.ga K "NoOrder")) (by rfl) ⟨_, T.g_NoOrder, rfl⟩) (pa_cons (pe_gc (v := .ref (He.ga K "NoRow")) (by rfl) ⟨_, T.g_NoRow, rfl⟩) (pa_cons (pe_gc (v := .ref (He.ga K "NoText")) (by rfl) ⟨_, T.g_NoText, rfl⟩) pa_nil))))) pa_nil)))) (pss_one (ps_ret pe_str)) pss_nil)
      (pss_one (ps_ret (pe_ix ix_list (pe_lst (pa_cons pe_str (pa_cons pe_str (pa_cons pe_str (pa_cons pe_str (pa_cons pe_str (pa_cons pe_str pa_nil))))))) (pe_bm PySem.F.plainAttrs_list PySem.F.slot_list_index PySem.F.type_list_index mt_index (pv 1) (pa_cons pe_bl pa_nil)) (fun _ _ => rfl)))))))), ?_⟩
    have is1 : ∀ (c : Str) {H' : Hp} {Q' : VK}, c ∈ asked → Q' (.bl (decide (C = c))) H' → rIsE K (He.ga K C) p.1 [.ref p.1, .ref (He.ga K c)] H' Q' := fun c {H' Q'} hc q => ⟨_, _, _, rfl, fun u r => r, hI c hc, q⟩
    walk_at "i"
    refine is1 "TooMany" (by decide +kernel) ?_
    walk_at "i"
    refine is1 "NoThing" (by decide +kernel) ?_
    walk_at "i"
    refine is1 "NoWeight" (by decide +kernel) ?_
    walk_at "i"
    refine is1 "NoPiece" (by decide +kernel) ?_
    walk_at "i"
    refine ⟨sz_of (by simp), fun p1 hp1 => ?_⟩
    have s1 := Same.new (o := .lst [.bl (decide (C = "TooMany")), .bl (decide (C = "NoThing")), .bl (decide (C = "NoWeight")), .bl (decide (C = "NoPiece"))]) hp1
    have h1 : upd H p1 (.lst [.bl (decide (C = "TooMany")), .bl (decide (C = "NoThing")), .bl (decide (C = "NoWeight")), .bl (decide (C = "NoPiece"))]) p1 = some (.lst [.bl (decide (C = "TooMany")), .bl (decide (C = "NoThing")), .bl (decide (C = "NoWeight")), .bl (decide (C = "NoPiece"))]) := upd_same
    generalize upd H p1 (.lst [.bl (decide (C = "TooMany")), .bl (decide (C = "NoThing")), .bl (decide (C = "NoWeight")), .bl (decide (C = "NoPiece"))]) = H1 at s1 h1 ⊢
    walk_at "i"
    refine is1 "Held" (by decide +kernel) ?_
    walk_at "i"
    refine is1 "NoDeed" (by decide +kernel) ?_
    walk_at "i"
    refine ⟨sz_of (by simp), fun p2 hp2 => ?_⟩
    have s2 := Same.newer s1 (o := .lst [.bl (decide (C = "Held")), .bl (decide (C = "NoDeed"))]) hp2
    have h12 := Same.new (o := .lst [.bl (decide (C = "Held")), .bl (decide (C = "NoDeed"))]) hp2 _ _ h1
    have h2 : upd H1 p2 (.lst [.bl (decide (C = "Held")), .bl (decide (C = "NoDeed"))]) p2 = some (.lst [.bl (decide (C = "Held")), .bl (decide (C = "NoDeed"))]) := upd_same
    generalize upd H1 p2 (.lst [.bl (decide (C = "Held")), .bl (decide (C = "NoDeed"))]) = H2 at s2 h12 h2 ⊢
    refine ⟨p1, p2, _, _, rfl, rfl, h12, h2, sz_of (by simp), fun p3 hp3 => ?_⟩
    have s3 := Same.newer s2 (o := .lst ([.bl (decide (C = "TooMany")), .bl (decide (C = "NoThing")), .bl (decide (C = "NoWeight")), .bl (decide (C = "NoPiece"))] ++ [.bl (decide (C = "Held")), .bl (decide (C = "NoDeed"))])) hp3
    have h3 : upd H2 p3 (.lst ([.bl (decide (C = "TooMany")), .bl (decide (C = "NoThing")), .bl (decide (C = "NoWeight")), .bl (decide (C = "NoPiece"))] ++ [.bl (decide (C = "Held")), .bl (decide (C = "NoDeed"))])) p3 = some (.lst ((bsOf C).map V.bl)) := upd_same
    generalize upd H2 p3 (.lst ([.bl (decide (C = "TooMany")), .bl (decide (C = "NoThing")), .bl (decide (C = "NoWeight")), .bl (decide (C = "NoPiece"))] ++ [.bl (decide (C = "Held")), .bl (decide (C = "NoDeed"))])) = H3 at s3 h3 ⊢
    walk_at "i"
    refine ⟨.inl ⟨rfl, _, SqL.of h3⟩, ?_⟩
    walk_at "i"
    refine ⟨p3, bsOf C, true, rfl, rfl, SqL.of h3, ?_⟩
    rw [six_count C hE]
    walk_at "i"
    by_cases h6 : C ∈ six
    · obtain ⟨j, hj, hj1, hj2, hj3⟩ := six_at C h6
      obtain ⟨_, n1, n2, n3, n4⟩ := six_errs C h6
      rw [if_pos h6]
      rw [if_neg (show ¬ (!decide (V.int ((1 : Nat) : Int) = V.int 1)) = true from by decide +kernel)]
      walk_at "i"
      refine ⟨_, _, _, rfl, fun u r => r, hV, ?_⟩
      walk_at "i"
      have kt := kitAny_of hI ["NoCovering", "NoOrder", "NoRow", "NoText"] (by decide +kernel)
      rw [decide_eq_false (show C ∉ (["NoCovering", "NoOrder", "NoRow", "NoText"] : List Str) from fun h => by
        rcases List.mem_cons.mp h with h | h
        · exact n1 h
        rcases List.mem_cons.mp h with h | h
        · exact n2 h
        rcases List.mem_cons.mp h with h | h
        · exact n3 h
        exact n4 (List.mem_singleton.mp h))] at kt
      refine ⟨sz_of (by simp), fun p4 hp4 => ?_⟩
      have s4 := Same.newer s3 (o := .tup [.ref (He.ga K "NoCovering"), .ref (He.ga K "NoOrder"), .ref (He.ga K "NoRow"), .ref (He.ga K "NoText")]) hp4
      have h34 := Same.new (o := .tup [.ref (He.ga K "NoCovering"), .ref (He.ga K "NoOrder"), .ref (He.ga K "NoRow"), .ref (He.ga K "NoText")]) hp4 _ _ h3
      refine ⟨p4, _, _, false, rfl, upd_same, clsV_map [He.ga K "NoCovering", He.ga K "NoOrder", He.ga K "NoRow", He.ga K "NoText"], kt, ?_⟩
      generalize upd H3 p4 (.tup [.ref (He.ga K "NoCovering"), .ref (He.ga K "NoOrder"), .ref (He.ga K "NoRow"), .ref (He.ga K "NoText")]) = H4 at s4 h34 ⊢
      walk_at "i"
      refine ⟨sz_of (by simp), fun p5 hp5 => ?_⟩
      have s5 := Same.newer s4 (o := .lst (sixWords.map V.str)) hp5
      have h35 := Same.new (o := .lst (sixWords.map V.str)) hp5 _ _ h34
      have h5 : upd H4 p5 (.lst (sixWords.map V.str)) p5 = some (.lst (sixWords.map V.str)) := upd_same
      change Same H (upd H4 p5 (.lst [.str "many", .str "no thing", .str "no weight", .str "no piece", .str "held", .str "no deed"])) at s5
      change upd H4 p5 (.lst [.str "many", .str "no thing", .str "no weight", .str "no piece", .str "held", .str "no deed"]) p3 = _ at h35
      change upd H4 p5 (.lst [.str "many", .str "no thing", .str "no weight", .str "no piece", .str "held", .str "no deed"]) p5 = _ at h5
      generalize upd H4 p5 (.lst [.str "many", .str "no thing", .str "no weight", .str "no piece", .str "held", .str "no deed"]) = H5 at s5 h35 h5 ⊢
      walk_at "i"
      refine ⟨.inl ⟨rfl, _, SqL.of h35⟩, ?_⟩
      walk_at "i"
      have bl : ∀ {m : Nat} {b : Bool}, (bsOf C)[m]? = some b → ((bsOf C).map V.bl)[m]? = some (.bl b) := fun {m b} e => by rw [List.getElem?_map, e]; rfl
      refine ⟨p3, _, .bl true, j, .bl true, rfl, rfl, SqL.of h35, rfl, ?_, bl hj1, rfl, fun m z' hm hz' => ?_, ?_⟩
      · rw [List.all_map]
        exact List.all_eq_true.mpr fun _ _ => rfl
      · rw [bl (hj2 m hm)] at hz'
        cases hz'
        rfl
      refine ⟨p5, _, (j : Nat), .str (wordOf C), rfl, rfl, SqL.of h5, atI_nat (map_get hj3), ?_⟩
      walk_at "i"
      exact q _ s5
    · rw [if_neg h6]
      rw [if_pos (show (!decide (V.int ((0 : Nat) : Int) = V.int 1)) = true from by decide +kernel)]
      walk_at "i"
      rw [six_not C hE h6] at q
      exact q _ s3
end
/-! ELaw8 -/
def spDTold (K : PySem.W.Frag) (Cd Cs : Addr) : Sp := fun vs H Q _ => ∃ (d s l : Addr) (N : Nat) (B : Bx) (v : V), vs = [.ref d, v] ∧ DeskAt Cd Cs H d s l N B ∧ N < 1000 ∧ KindV K H v ∧
  (∀ H' p z B' r, toldV v = some r → Fr s l H H' → DeskAt Cd Cs H' d s l (N + 1) B' → SayR B r B' z → H' p = some (.lst [.str z]) → Q (.ref p) H') ∧
  (toldV v = none → ∀ H', Keeps H H' → Q (.str "no row") H') ∧
  ∀ H' (C u : Str) r, toldV v = some r → SayE B (some r) C → Keeps H H' → u ≠ "odd" → u ≠ "no row" → Q (.str u) H'
section
variable {X : Cx} {k j : Nat} {C : Addr} {m : Str} {sp : Sp} {pos apos : Pos} {e o : Expr} {es : List Expr} {ta : TE} {t : TA} {E : L2.St → XK} {CX : CXT}
def tMethW (C : Addr) (m : Str) (sp : Sp) (E : L2.St → XK) (ta : TE) (t : TA) : TE := fun σ H Q => ta σ H fun x H1 => ∃ a dx fs, x = .ref a ∧ H1 a = some (.ins C dx fs) ∧ fs.lookup m = none ∧ t σ H1 fun vs H2 => sp (x :: vs) H2 Q (E σ)
theorem pe_mS {pl : Sem Bool} (c : Met X.prog X.w X.K X.mg X.base CX k C m sp) (hr : Room j X.A) (hk : k ≤ j) (hx : ∀ σ, PassesAt CX X σ (E σ)) (he : PE X o ta) (ha : PA X (e :: es) t)
    (hst : starEach (e :: es) X.env = (false, eval e X.env) :: starEach es X.env := by rfl) (hpl : (backTo pos (starEach es X.env)).any (·.1) = false := by rfl)
    (ht : eval (.Call (.Attribute o m apos) (e :: es) [] pos) X.env = (do
      let ov ← eval o X.env
      standAt apos.atName
      let (f, first) ← holding [ov] (getMethod ov m pl)
      callWith pos f first (backTo pos (starEach (e :: es) X.env)) (backToKw pos (keywordEach [] X.env))) := by rfl) :
    PE X (.Call (.Attribute o m apos) (e :: es) [] pos) (tMethW C m sp E ta t) := by
  obtain ⟨f, fd, ps, hc, hm, F, b⟩ := c.ex
  refine ⟨fun pins s σ H Q I h => ?_⟩
  refine PySem.W.methodCall_KW (pl := pl) (thn (he.run pins s σ H _ I h) fun u s1 ⟨x, H1, I1, rx, a, dx, fs, ex, ea, l, q⟩ => ?_) ht
  subst ex
  obtain rfl : u = Value.ref a := rx
  refine getmeth_ok I1 ea hc hm l ?_
  refine PySem.W.callWith_K (first := [.ref a]) (h₀ := X.base) I.ok.mod.kin hm.kp (thn (ha.run pos pins s1 σ H1 _ I1 q) fun us s2 ⟨vs, H2, I2, r, q2⟩ => ⟨I2.kIn, ?_⟩) hst hpl
  exact run_fnS (us := .ref a :: us) (vs := .ref a :: vs) F (hr.mono hk) b (hx σ) I2 (.cons rfl r) q2
theorem g_methW {σ : L2.St} {H : Hp} {Q : VK} (q : ta σ H fun x H1 => ∃ a dx fs, x = .ref a ∧ H1 a = some (.ins C dx fs) ∧ fs.lookup m = none ∧ t σ H1 fun vs H2 => sp (x :: vs) H2 Q (E σ)) : tMethW C m sp E ta t σ H Q := q
theorem pss_ex {K : PySem.W.Frag} {body : List Stmt} {cls : Value} {d : Option Addr} {t : Str → TS} (h : ∀ C, C ∈ errs → cls = .ref (He.ga K C) → d = none → PSs X body (t C)) :
    PSs X body (fun D σ H => ∃ C, C ∈ errs ∧ cls = .ref (He.ga K C) ∧ d = none ∧ t C D σ H) :=
  ⟨fun pins s σ H D I ⟨C, hC, e1, e2, q⟩ => (h C hC e1 e2).run pins s σ H D I q⟩
theorem zc_at {cls : Value} {d : Option Addr} {D : Addr} {oe : Obj} (h : Zc cls d oe) (e1 : cls = .ref D) (e2 : d = none) : Zc (.ref D) none oe := by rw [← e1, ← e2]; exact h
theorem ix_listK {K : PySem.W.Frag} {X : Cx} (hX : X.K = K) : IxR X (rIxL K) := by
  subst hX
  exact ix_list
theorem call_isP2 {K : PySem.W.Frag} {X : Cx} {D a : Addr} {oe : Obj} (C : ExcC K D) (hX : X.K = K) (hp : (a, oe) ∈ X.pn) (hz : Zc (.ref D) none oe) (hf : ∃ zs, oe.data = .fields zs) : CallR X (.builtin "isinstance") (rIsE K D a) := by
  subst hX
  exact call_isP (p := (a, oe)) C hp hz hf
theorem call_isPT2 {K : PySem.W.Frag} {X : Cx} {D a : Addr} {oe : Obj} (C : ExcC K D) (hX : X.K = K) (hp : (a, oe) ∈ X.pn) (hz : Zc (.ref D) none oe) (hf : ∃ zs, oe.data = .fields zs) : CallR X (.builtin "isinstance") (rIsET K D a) := by
  subst hX
  exact call_isPT (p := (a, oe)) C hp hz hf
theorem pe_cE2 {X : Cx} {k : Nat} {D a : Addr} {oe : Obj} {sp : Addr → Sp} {x : Str} {q pos : Pos} {e : Expr} {es : List Expr} {t : TA} (c : CalE X.prog X.w X.K X.mg X.base k x D sp) (hr : L2H.RoomH k X.A) (hp : (a, oe) ∈ X.pn) (hz : Zc (.ref D) none oe) (hf : ∃ zs, oe.data = .fields zs) (hg : Gl X x)
    (ha : PA X (e :: es) t) (hdb : (x == ("__debug__" : Str)) = false := by decide) (he : starEach (e :: es) X.env = (false, eval e X.env) :: starEach es X.env := by rfl) (hpl : (backTo pos (starEach es X.env)).any (·.1) = false := by rfl) :
    PE X (.Call (.Name x q) (e :: es) [] pos) (tCall (sp a) [] E0 t) := pe_cE (p := (a, oe)) c hr hp hz hf hg ha hdb he hpl
end
section
variable {P : Program} {w : World} {K : PySem.W.Frag} {mg : Str → Option Value} {base : Heap}
theorem sc_dtold : FnScope ["desk", "row", "e", "others"] ["desk", "row"] (defScope s_law_desk_told) := ⟨rfl, rfl, rfl, by decide +kernel, rfl, by decide +kernel, by decide +kernel⟩
theorem xm_facts (T : Tx K w mg) : ∀ C ∈ errs, PySem.W.exmOne K (.ref (He.ga K C)) (.ref (He.ga K "NoRow")) = some (decide (C = "NoRow")) ∧ PySem.W.exmOne K (.ref (He.ga K C)) (.ref (He.ga K "NoCovering")) = some (decide (C = "NoCovering")) ∧ PySem.W.exmOne K (.ref (He.ga K C)) (.ref (He.ga K "OnceError")) = some true := by
  intro C hC
  have f : ∀ {a b : Str}, a ≠ b → decide (a = b) = false := fun h => decide_eq_false h
  rcases List.mem_cons.mp hC with rfl | hC
  · rw [f (by decide +kernel), f (by decide +kernel)]; exact ⟨T.xm_TooMany_NoRow, T.xm_TooMany_NoCovering, T.xm_TooMany_OnceError⟩
  rcases List.mem_cons.mp hC with rfl | hC
  · rw [f (by decide +kernel), f (by decide +kernel)]; exact ⟨T.xm_NoThing_NoRow, T.xm_NoThing_NoCovering, T.xm_NoThing_OnceError⟩
  rcases List.mem_cons.mp hC with rfl | hC
  · rw [f (by decide +kernel), f (by decide +kernel)]; exact ⟨T.xm_NoPiece_NoRow, T.xm_NoPiece_NoCovering, T.xm_NoPiece_OnceError⟩
  rcases List.mem_cons.mp hC with rfl | hC
  · rw [f (by decide +kernel), f (by decide +kernel)]; exact ⟨T.xm_NoWeight_NoRow, T.xm_NoWeight_NoCovering, T.xm_NoWeight_OnceError⟩
  rcases List.mem_cons.mp hC with rfl | hC
  · rw [f (by decide +kernel), f (by decide +kernel)]; exact ⟨T.xm_Held_NoRow, T.xm_Held_NoCovering, T.xm_Held_OnceError⟩
  rcases List.mem_cons.mp hC with rfl | hC
  · rw [f (by decide +kernel), f (by decide +kernel)]; exact ⟨T.xm_NoDeed_NoRow, T.xm_NoDeed_NoCovering, T.xm_NoDeed_OnceError⟩
  rcases List.mem_cons.mp hC with rfl | hC
  · rw [decide_eq_true rfl, f (by decide +kernel)]; exact ⟨T.xm_NoRow_NoRow, T.xm_NoRow_NoCovering, T.xm_NoRow_OnceError⟩
  rw [List.mem_singleton.mp hC]
  rw [decide_eq_true rfl, f (by decide +kernel)]; exact ⟨T.xm_NoCovering_NoRow, T.xm_NoCovering_NoCovering, T.xm_NoCovering_OnceError⟩
theorem refs_errs : ∀ C ∈ refs, C ∈ errs ∧ C ≠ "NoRow" := by decide +kernel
theorem word_ok : ∀ C ∈ errs, wordOf C ≠ "odd" ∧ wordOf C ≠ "no row" := by decide +kernel
theorem c_dtold (T : Tx K w mg) : Cal P w K mg base CX0 44 "_law_desk_told" (spDTold K (He.ga K "Desk") (He.ga K "Shop")) := by
  refine T.d_law_desk_told.cal (T.d_law_desk_told.ok0 sc_dtold ?_ fun cdv A outer s H vs Q E hr h => ?_) T.g_law_desk_told T.kp_law_desk_told
  · rintro vs H Q E ⟨d, s, l, N, B, v, rfl, _⟩
    rfl
  · obtain ⟨d, s, l, N, B, v, rfl, hD, hN, hK, q1, q2, q3⟩ := h
    have hrH := L2H.roomH_of (hr.mono (show 1 ≤ 43 by decide))
    refine ⟨_, pss_one (ps_try_manyAs (i := 2) rfl rfl sc_dtold.nd rfl rfl takes0 (fun W pn xe tk _ => pss_one (ps_ret (pe_lst (pa_cons (pe_mS (m_say T) hr (by decide) (fun σ => passAt tk σ) (pv 0) (pa_cons (pv 1) pa_nil)) pa_nil))))
      (.cons (c := .ref (He.ga K "NoRow")) ⟨rfl, by decide, .inl T.g_NoRow⟩ (fun a oe cls d pn hz hf => pss_ex (K := K) (cls := cls) (d := d) fun C hE e1 e2 => (pss_cons (ps_set (i := 3) sc_dtold.nd rfl (.inl rfl) (pe_or (pe_callB (call_isPT2 (exc_facts T hE).1 rfl List.mem_cons_self (zc_at hz e1 e2) hf) (by rfl) T.z_isinstance boot_isi (pa_cons (pv 2) (pa_cons (pe_tup (pa_cons (pe_gc (v := .ref (He.ga K "NoCovering")) (by rfl) ⟨_, T.g_NoCovering, rfl⟩) (pa_cons (pe_gc (v := .ref (He.ga K "NoOrder")) (by rfl) ⟨_, T.g_NoOrder, rfl⟩) (pa_cons (pe_gc (v := .ref (He.ga K "NoText")) (by rfl) ⟨_, T.g_NoText, rfl⟩) pa_nil)))) pa_nil))) (pe_one (pe_cmpR op_ne (pe_cE2 (c_word T hE) ⟨hrH.dp, hrH.un⟩ List.mem_cons_self (zc_at hz e1 e2) hf (by rfl) (pa_cons (pv 2) pa_nil)) pe_str (nomark _))))) (pss_one (ps_ret (pe_ix (ix_listK (K := K) rfl) (pe_lst (pa_cons pe_str (pa_cons pe_str pa_nil))) (pe_callTy call_int1 (by rfl) T.z_int boot_int (pa_cons (pe_or (pv 3) (pe_one (pe_not (pe_callB (call_isP2 (exc_facts T hE).1 rfl List.mem_cons_self (zc_at hz e1 e2) hf) (by rfl) T.z_isinstance boot_isi (pa_cons (pv 2) (pa_cons (pe_bltn (v := .ty "ValueError") (by rfl) T.z_ValueError (by decide +kernel) rfl) pa_nil)))))) pa_nil)) (fun _ _ => rfl)))))) (.cons (c := .ref (He.ga K "NoCovering")) ⟨rfl, by decide, .inl T.g_NoCovering⟩ (fun a oe cls d pn hz hf => pss_ex (K := K) (cls := cls) (d := d) fun C hE e1 e2 => (pss_one (ps_ret (pe_ix (ix_listK (K := K) rfl) (pe_lst (pa_cons pe_str (pa_cons pe_str pa_nil))) (pe_callTy call_int1 (by rfl) T.z_int boot_int (pa_cons (pe_and (pe_callB (call_isP2 (exc_facts T hE).1 rfl List.mem_cons_self (zc_at hz e1 e2) hf) (by rfl) T.z_isinstance boot_isi (pa_cons (pv 2) (pa_cons (pe_bltn (v := .ty "ValueError") (by rfl) T.z_ValueError (by decide +kernel) rfl) pa_nil))) (pe_one (pe_not (pe_callB (call_isPT2 (exc_facts T hE).1 rfl List.mem_cons_self (zc_at hz e1 e2) hf) (by rfl) T.z_isinstance boot_isi (pa_cons (pv 2) (pa_cons (pe_tup (pa_cons (pe_gc (v := .ref (He.ga K "NoOrder")) (by rfl) ⟨_, T.g_NoOrder, rfl⟩) (pa_cons (pe_gc (v := .ref (He.ga K "NoText")) (by rfl) ⟨_, T.g_NoText, rfl⟩) pa_nil))) pa_nil)))))) pa_nil)) (fun _ _ => rfl))))) (.cons (c := .ref (He.ga K "OnceError")) ⟨rfl, by decide, .inl T.g_OnceError⟩ (fun a oe cls d pn hz hf => pss_ex (K := K) (cls := cls) (d := d) fun C hE e1 e2 => (pss_one (ps_ret (pe_cE2 (c_word T hE) ⟨hrH.dp, hrH.un⟩ List.mem_cons_self (zc_at hz e1 e2) hf (by rfl) (pa_cons (pv 2) pa_nil))))) .nil)))), ?_⟩
    walk_at "i"
    refine g_methW ?_
    walk_at "i"
    obtain ⟨dx, hdx⟩ := hD.ex
    refine ⟨d, dx, _, rfl, hdx, rfl, ?_⟩
    walk_at "i"
    refine ⟨d, s, l, N, B, v, rfl, hD, hN, hK, fun H' z B' r hr' fr hD' hS => ?_, fun C H' hC hk => ?_⟩
    · walk_at "i"
      exact ⟨sz_of (by simp), fun p hp => q1 _ p z B' r hr' (fr.trans (Fr.of (Keeps.of (Same.new hp)))) (hD'.keeps (Keeps.of (Same.new hp))) hS upd_same⟩
    · have hCe : C ∈ errs := by
        rcases hC with ⟨_, rfl⟩ | ⟨r, _, h, _⟩
        · decide +kernel
        · exact (refs_errs C h).1
      have some_of : C ≠ "NoRow" → ∃ r, toldV v = some r ∧ SayE B (some r) C := fun ne => by
        rcases hC with ⟨_, e⟩ | ⟨r, e, rest⟩
        · exact absurd e ne
        · exact ⟨r, e, .inr ⟨r, rfl, rest⟩⟩
      obtain ⟨x1, x2, x3⟩ := xm_facts T C hCe
      obtain ⟨_, hV, hI⟩ := exc_facts T hCe
      refine ⟨_, x1, fun h a ha => ⟨C, hCe, rfl, rfl, ?_⟩, fun h1 => ⟨_, x2, fun h a ha => ⟨C, hCe, rfl, rfl, ?_⟩, fun h2 => ⟨_, x3, fun h a ha => ⟨C, hCe, rfl, rfl, ?_⟩, fun h => nomatch h⟩⟩⟩
      · have e := of_decide_eq_true h
        subst e
        walk_at "i"
        have kt := kitAny_of hI ["NoCovering", "NoOrder", "NoText"] (by decide +kernel)
        rw [decide_eq_false (show ("NoRow" : Str) ∉ (["NoCovering", "NoOrder", "NoText"] : List Str) by decide +kernel)] at kt
        refine ⟨sz_of (by simp), fun p1 hp1 => ?_⟩
        have k1 := hk.newer hp1 (.tup [.ref (He.ga K "NoCovering"), .ref (He.ga K "NoOrder"), .ref (He.ga K "NoText")])
        refine ⟨p1, _, _, false, rfl, upd_same, clsV_map [He.ga K "NoCovering", He.ga K "NoOrder", He.ga K "NoText"], kt, ?_⟩
        generalize upd H' p1 (.tup [.ref (He.ga K "NoCovering"), .ref (He.ga K "NoOrder"), .ref (He.ga K "NoText")]) = H1 at k1 ⊢
        walk_at "i"
        refine ⟨rfl, fun H2 s2 => ?_⟩
        have k2 := k1.trans (Keeps.of s2)
        have w0 : wordOf "NoRow" = "other" := by decide +kernel
        rw [w0]
        walk_at "i"
        rw [show (!decide (V.str "other" = V.str "other")) = false from by decide +kernel]
        walk_at "i"
        refine ⟨sz_of (by simp), fun p2 hp2 => ?_⟩
        have k3 := k2.newer hp2 (.lst [.str "no row", .str "odd"])
        have h3 : upd H2 p2 (.lst [.str "no row", .str "odd"]) p2 = some (.lst [.str "no row", .str "odd"]) := upd_same
        generalize upd H2 p2 (.lst [.str "no row", .str "odd"]) = H3 at k3 h3 ⊢
        walk_at "i"
        refine ⟨_, _, _, rfl, fun u r => r, hV, ?_⟩
        walk_at "i"
        refine .inr ⟨_, rfl, ?_⟩
        refine ⟨p2, _, 0, .str "no row", rfl, rfl, SqL.of h3, at0 rfl, ?_⟩
        walk_at "i"
        have hn : toldV v = none := by
          rcases hC with ⟨e, _⟩ | ⟨r, _, h, _⟩
          · exact e
          · exact absurd rfl (refs_errs _ h).2
        exact q2 hn _ k3
      · have e := of_decide_eq_true h
        subst e
        walk_at "i"
        have kt := kitAny_of hI ["NoOrder", "NoText"] (by decide +kernel)
        rw [decide_eq_false (show ("NoCovering" : Str) ∉ (["NoOrder", "NoText"] : List Str) by decide +kernel)] at kt
        refine ⟨sz_of (by simp), fun p2 hp2 => ?_⟩
        have k3 := hk.newer hp2 (.lst [.str "odd", .str "no covering"])
        have h3 : upd H' p2 (.lst [.str "odd", .str "no covering"]) p2 = some (.lst [.str "odd", .str "no covering"]) := upd_same
        generalize upd H' p2 (.lst [.str "odd", .str "no covering"]) = H3 at k3 h3 ⊢
        walk_at "i"
        refine ⟨_, _, _, rfl, fun u r => r, hV, ?_⟩
        walk_at "i"
        refine ⟨sz_of (by simp), fun p1 hp1 => ?_⟩
        have k4 := k3.newer hp1 (.tup [.ref (He.ga K "NoOrder"), .ref (He.ga K "NoText")])
        have h4 := Same.new (o := .tup [.ref (He.ga K "NoOrder"), .ref (He.ga K "NoText")]) hp1 _ _ h3
        refine ⟨p1, _, _, false, rfl, upd_same, clsV_map [He.ga K "NoOrder", He.ga K "NoText"], kt, ?_⟩
        generalize upd H3 p1 (.tup [.ref (He.ga K "NoOrder"), .ref (He.ga K "NoText")]) = H4 at k4 h4 ⊢
        walk_at "i"
        refine .inr ⟨_, rfl, ?_⟩
        refine ⟨p2, _, 1, .str "no covering", rfl, rfl, SqL.of h4, at1 rfl, ?_⟩
        walk_at "i"
        obtain ⟨r, hr', hS⟩ := some_of (by decide +kernel)
        exact q3 _ "NoCovering" _ r hr' hS k4 (by decide +kernel) (by decide +kernel)
      · walk_at "i"
        obtain ⟨r, hr', hS⟩ := some_of (of_decide_eq_false h1)
        obtain ⟨n1, n2⟩ := word_ok C hCe
        exact ⟨rfl, fun H'' s' => q3 _ C _ r hr' hS (hk.trans (Keeps.of s')) n1 n2⟩
end
/-! ELaw9 -/
theorem DeskAt.sx {Cd Cs : Addr} {H H' : Hp} {d s l pt : Addr} {N : Nat} {B : Bx} (h : DeskAt Cd Cs H d s l N B) (x : SameX [pt] H H') (hP : PotAt H pt) : DeskAt Cd Cs H' d s l N B := by
  have tp := x.pot hP
  obtain ⟨z, hz⟩ := hP
  obtain ⟨dx, e⟩ := h.ex
  obtain ⟨dx2, kv, es, h1, h2, h3, h4, h5, h6⟩ := h.sh.ex
  have k : ∀ {a : Addr} {o : HO}, a ≠ pt → H a = some o → H' a = some o := fun n e => x _ (fun hm => n (List.mem_singleton.mp hm)) _ e
  have n1 : d ≠ pt := ne_of e hz (fun e => by cases e)
  have n2 : s ≠ pt := ne_of h1 hz (fun e => by cases e)
  have n3 : l ≠ pt := fun e2 => by
    rw [e2, hz] at h4
    have h4 := HO.lst.inj (Option.some.inj h4)
    obtain ⟨_, ⟨_, _, _, _, g, _⟩, _⟩ := h6 (.int z) (by rw [← h4]; exact List.mem_cons_self)
    cases g
  exact ⟨h.ds, h.dl, ⟨dx, k n1 e⟩, dx2, kv, es, k n2 h1, h2.ex tp, h3, k n3 h4, h5, fun e he => by
    obtain ⟨B', g1, g2⟩ := h6 e he
    exact ⟨B', g1.ex tp, g2⟩⟩
def OddAt (s l : Addr) (H : Hp) (v : V) : Prop := v = .non ∨ (∃ i, v = .int i) ∨ (∃ b, v = .bl b) ∨ ∃ a o, v = .ref a ∧ a ≠ s ∧ a ≠ l ∧ H a = some o ∧ ((∃ xs, o = .lst xs) ∨ (∃ xs, o = .tup xs) ∨ ∃ kvs, o = .dK kvs)
theorem OddAt.fr {s l : Addr} {H H' : Hp} {v : V} (h : OddAt s l H v) (f : Fr s l H H') : OddAt s l H' v := by
  rcases h with h | h | h | ⟨a, o, e, n1, n2, ha, ho⟩
  · exact .inl h
  · exact .inr (.inl h)
  · exact .inr (.inr (.inl h))
  · refine .inr (.inr (.inr ⟨a, o, e, n1, n2, f a o ha n1 n2 (fun kvs e2 => ?_), ho⟩))
    rw [e2] at ho
    rcases ho with ⟨_, e⟩ | ⟨_, e⟩ | ⟨_, e⟩ <;> cases e
theorem OddAt.no {s l : Addr} {H : Hp} {v : V} (h : OddAt s l H v) : ∀ x, v ≠ .str x := fun x e => by
  subst e
  rcases h with h | ⟨_, h⟩ | ⟨_, h⟩ | ⟨_, _, h, _⟩ <;> cases h
theorem OddAt.ty {K : PySem.W.Frag} {s l : Addr} {H : Hp} {v : V} (h : OddAt s l H v) : ∃ t, TyOf K H v (.type t) ∧ t ∈ ["NoneType", "int", "bool", "list", "tuple", "dict"] := by
  rcases h with rfl | ⟨i, rfl⟩ | ⟨b, rfl⟩ | ⟨a, o, rfl, _, _, ha, ⟨xs, rfl⟩ | ⟨xs, rfl⟩ | ⟨kvs, rfl⟩⟩
  · exact ⟨_, .non, by decide⟩
  · exact ⟨_, .int i, by decide⟩
  · exact ⟨_, .bl b, by decide⟩
  · exact ⟨_, .lst ha, by decide⟩
  · exact ⟨_, .tup ha, by decide⟩
  · exact ⟨_, .dK ha, by decide⟩
theorem OddAt.kind {K : PySem.W.Frag} {s l : Addr} {H : Hp} {v : V} (h : OddAt s l H v) : KindV K H v := .inr ⟨h.no, h.ty⟩
theorem told_must : toldV (.str "must") = some (.pl "must") := by kernel_rfl
theorem told_may : toldV (.str "may") = some (.pl "may") := by kernel_rfl
theorem told_box : toldV (.str "box") = some (.pl "box") := by kernel_rfl
theorem told_piece (t : Int) (h0 : 0 ≤ t) (h1 : t < 6) : toldV (.str ((("piece " : Str) ++ strI t) ++ (" 1" : Str))) = some (.pc [t] 1) := by
  have : t = 0 ∨ t = 1 ∨ t = 2 ∨ t = 3 ∨ t = 4 ∨ t = 5 := by omega
  rcases this with rfl | rfl | rfl | rfl | rfl | rfl <;> kernel_rfl
def spDeskNew (Cd Cs : Addr) : Sp := fun vs H Q _ => ∃ (d dx : Addr), vs = [.ref d] ∧ H d = some (.ins Cd dx []) ∧ ∀ H' s l, SameX [d] H H' → DeskAt Cd Cs H' d s l 0 ⟨0, [], []⟩ → H s = none → H l = none → Q .non H'
theorem upd_none {H : Hp} {p a : Addr} {o : HO} (h : upd H p o a = none) : H a = none := by
  by_cases e : a = p
  · rw [e, upd_same] at h
    cases h
  · rw [upd_ne e] at h
    exact h
section
variable {P : Program} {w : World} {K : PySem.W.Frag} {mg : Str → Option Value} {base : Heap}
theorem m_Desk_new (T : Tx K w mg) : Mak P w K mg base CX0 3 "Desk" (He.ga K "Desk") (spDeskNew (He.ga K "Desk") (He.ga K "Shop")) := by
  have c1 : Mak P w K mg base CX0 1 "Shop" (He.ga K "Shop") (spShopInit (He.ga K "Shop")) := m_Shop_init T
  refine T.d_Desk_init.mak (T.d_Desk_init.ok0 sc_Desk_init ?_ fun cdv A outer s H vs Q E hr h => ?_) T.mk_Desk T.g_Desk
  · rintro vs H Q E ⟨d, dx, rfl, _⟩
    rfl
  · obtain ⟨d, dx, rfl, hd, q⟩ := h
    refine ⟨_, pss_one (ps_fld (pv 0) (pe_n0 c1 hr (by decide) (by rfl)) rfl), ?_⟩
    walk_at "i"
    refine fun s0 ds hs0 hds hne => ?_
    refine ⟨s0, ds, rfl, upd_same, fun H1 l hs hS hl => ⟨rfl, ?_⟩⟩
    have hl0 := upd_none (upd_none hl)
    have s1 := made_keeps hs0 hds hs
    have hd1 := s1 _ _ hd
    walk_at "i"
    refine ⟨d, _, dx, _, rfl, hd1, T.cl_Desk, T.na_Desk_shop, by decide, ?_⟩
    have e1 : putF "shop" (.ref s0) [] = df s0 := rfl
    rw [e1]
    have nds : d ≠ s0 := ne_of_none hd hs0
    obtain ⟨dx2, kv, es, h1, h2, hok, h4, h5, h6⟩ := hS.ex
    have kl := KeepLT.ins hd1 (.ins (He.ga K "Desk") dx (df s0))
    have ndl : d ≠ l := ne_of hd1 h4 (fun e => by cases e)
    refine q _ s0 l ((SameX.of s1).put List.mem_cons_self _) ⟨nds, ndl, ⟨dx, upd_same⟩, dx2, kv, es, by rw [upd_ne nds.symm]; exact h1, h2.ex fun a xs e => (kl a xs).2 e, hok, by rw [upd_ne ndl.symm]; exact h4, h5, fun e he => ?_⟩ hs0 hl0
    obtain ⟨B', g1, g2⟩ := h6 e he
    exact ⟨B', g1.ex fun a xs e => (kl a xs).2 e, g2⟩
end
def spLaw (K : PySem.W.Frag) : Sp := fun vs H Q _ => ∃ (sc : Addr) (ns : List Int), vs = [.ref sc] ∧ ns.length ≤ 63 ∧ SqL K H sc (ns.map V.int) ∧ ∀ H', Q (.bl true) H'
section
variable {P : Program} {w : World} {K : PySem.W.Frag} {mg : Str → Option Value} {base : Heap}
theorem sc_law : FnScope ["script", "desk", "k", "pot", "some", "rows", "row", "odd", "thing", "ahead", "told"] ["script"] (defScope s_law) := ⟨rfl, rfl, rfl, by decide +kernel, rfl, by decide +kernel, by decide +kernel⟩
theorem c_law (T : Tx K w mg) : FnOk P w K mg base CX0 45 (He.ga K "law") (fdO K ("law", none)) ["script"] (spLaw K) := by
  have cS : Met P w K mg base (L2.CX P w) 43 (He.ga K "Desk") "say" (spSay K (He.ga K "Desk") (He.ga K "Shop")) := m_say T
  have cD : Mak P w K mg base CX0 3 "Desk" (He.ga K "Desk") (spDeskNew (He.ga K "Desk") (He.ga K "Shop")) := m_Desk_new T
  have cC : Cal P w K mg base CX0 1 "_law_cell_at" (spCell K) := c_cell_at T
  have cP : Cal P w K mg base CX0 1 "_law_pot" spPot := c_pot T
  have cT : Cal P w K mg base CX0 1 "_law_take" spTake := c_take T
  have cW : Cal P w K mg base CX0 3 "_law_plain_deed" (spDeed K) := c_deed T
  have cR : Cal P w K mg base CX0 1 "_law_row_of" spRowOf := c_row_of T
  have cB : Cal P w K mg base CX0 2 "_law_bent" spBent := c_bent T
  have cO : Cal P w K mg base CX0 44 "_law_desk_told" (spDTold K (He.ga K "Desk") (He.ga K "Shop")) := c_dtold T
  have cI : Cal P w K mg base CX0 3 "_law_is_row" spLRow := c_law_is_row T
  refine T.d_law.ok0 sc_law ?_ fun cdv A outer s H vs Q E hr h => ?_
  · rintro vs H Q E ⟨sc, ns, rfl, _⟩
    rfl
  · obtain ⟨sc, ns, rfl, h63, hsc, q⟩ := h
    refine ⟨_, (pss_cons (ps_set (i := 1) sc_law.nd rfl (.inl rfl) (pe_n0 cD hr (by decide) (by rfl)))
      (pss_cons (ps_for PassesOwn.never rfl (pi_range1 (by rfl) T.z_range (pa_cons pe_int pa_nil)) (pg_name (i := 2) sc_law.nd rfl (.inl rfl)) (pss_one (ps_expr (pe_mX (E := E0) cS hr (by decide) passL (pv 1) (pa_cons (pe_ix ix_list (pe_lst (pa_cons pe_str (pa_cons pe_str pa_nil))) (pe_callTy call_int1 (by rfl) T.z_int boot_int (pa_cons (pe_cmpR op_eq (pe_op op_and (pe_op op_shr (pe_c cC hr (by decide) (by rfl) (pa_cons (pv 0) (pa_cons pe_int pa_nil))) (pv 2)) pe_int) pe_int (nomark _)) pa_nil)) (fun _ _ => rfl)) pa_nil)))))
      (pss_cons (ps_for PassesOwn.never rfl (pi_range1 (by rfl) T.z_range (pa_cons pe_int pa_nil)) (pg_name (i := 2) sc_law.nd rfl (.inl rfl)) (pss_one (ps_expr (pe_mX (E := E0) cS hr (by decide) passL (pv 1) (pa_cons (pe_op op_add_str (pe_op op_add_str pe_str (pe_callTy call_str_int (by rfl) T.z_str boot_str (pa_cons (pe_op op_mod (pv 2) pe_int) pa_nil))) pe_str) pa_nil)))))
      (pss_cons (ps_for PassesOwn.never rfl (pi_range1 (by rfl) T.z_range (pa_cons (pe_callB (call_max2 rfl) (by rfl) T.z_max boot_max (pa_cons pe_int (pa_cons (pe_callB (call_min2 rfl) (by rfl) T.z_min boot_min (pa_cons (pe_callB call_len (by rfl) T.z_len PySem.boot_len (pa_cons (pv 0) pa_nil)) (pa_cons pe_int pa_nil))) pa_nil))) pa_nil)) (pg_name (i := 2) sc_law.nd rfl (.inl rfl)) (pss_cons (ps_set (i := 3) sc_law.nd rfl (.inl rfl) (pe_c cP hr (by decide) (by rfl) (pa_cons (pe_c cC hr (by decide) (by rfl) (pa_cons (pv 0) (pa_cons (pv 2) pa_nil))) pa_nil)))
      (pss_cons (ps_set (i := 4) sc_law.nd rfl (.inl rfl) (pe_tup (pa_cons pe_int (pa_cons (pe_tup pa_nil) (pa_cons (pe_op op_repT (pe_tup (pa_cons (pe_tup (pa_cons (pe_tup (pa_cons pe_int pa_nil)) (pa_cons pe_int pa_nil))) pa_nil)) pe_int) pa_nil)))))
      (pss_cons (ps_set (i := 5) sc_law.nd rfl (.inl rfl) (pe_lst (pa_cons pe_str (pa_cons pe_str (pa_cons pe_str (pa_cons pe_str (pa_cons pe_str (pa_cons (pe_c cR hr (by decide) (by rfl) (pa_cons (pe_c cW hr (by decide) (by rfl) (pa_cons (pv 3) (pa_cons (pv 4) (pa_cons pe_int pa_nil)))) pa_nil)) pa_nil))))))))
      (pss_cons (ps_set (i := 6) sc_law.nd rfl (.inl rfl) (pe_c cB hr (by decide) (by rfl) (pa_cons (pv 3) (pa_cons (pe_ix ix_list (pv 5) (pe_c cT hr (by decide) (by rfl) (pa_cons (pv 3) (pa_cons pe_int pa_nil))) (fun _ _ => rfl)) pa_nil))))
      (pss_cons (ps_set (i := 7) sc_law.nd rfl (.inl rfl) (pe_ix ix_list (pe_lst (pa_cons pe_non (pa_cons pe_int (pa_cons pe_bl (pa_cons (pe_lst (pa_cons (pv 6) pa_nil)) (pa_cons (pe_tup (pa_cons pe_str pa_nil)) (pa_cons pe_dnewK (pa_cons (pe_lst (pa_cons pe_str pa_nil)) pa_nil)))))))) (pe_c cT hr (by decide) (by rfl) (pa_cons (pv 3) (pa_cons pe_int pa_nil))) (fun _ _ => rfl)))
      (pss_one (ps_for PassesOwn.never rfl (pi_list (pe_lst (pa_cons (pv 6) (pa_cons (pv 7) pa_nil)))) (pg_name (i := 8) sc_law.nd rfl (.inl rfl)) (pss_cons (ps_set (i := 9) sc_law.nd rfl (.inl rfl) (pe_mX (E := E0) cS hr (by decide) passL (pv 1) (pa_cons pe_str pa_nil)))
      (pss_cons (ps_set (i := 10) sc_law.nd rfl (.inl rfl) (pe_c cO hr (by decide) (by rfl) (pa_cons (pv 1) (pa_cons (pv 8) pa_nil))))
      (pss_cons (ps_if (pt_cmpR op_ne (pe_cmpR (op_eqLS hr.units0) (pv 10) pe_str (nomark _)) (pe_or (pe_not (pe_callB call_isi (by rfl) T.z_isinstance boot_isi (pa_cons (pv 8) (pa_cons (pe_bltn (v := .ty "str") (by rfl) T.z_str (by decide +kernel) rfl) pa_nil)))) (pe_one (pe_not (pe_c cI hr (by decide) (by rfl) (pa_cons (pv 8) pa_nil))))) (nomark _)) (pss_one (ps_ret pe_bl)) pss_nil)
      (pss_one (ps_if (PW.pt (pw_or (pt_cmpR (op_eqLS hr.units0) (pv 10) pe_str (nomark _)) (pw_or1 (PW.pt (pw_and (pt_cmpR (op_eqLS hr.units0) (pv 10) pe_str (nomark _)) (pw_and1 (pt_cmpR op_ne (pe_mX (E := E0) cS hr (by decide) passL (pv 1) (pa_cons pe_str pa_nil)) (pv 9) (nomark _)))))))) (pss_one (ps_ret pe_bl)) pss_nil)))))))))))))
      (pss_one (ps_ret pe_bl)))))), ?_⟩
    walk_at "i"
    refine fun d dx hd0 hdx0 hne => ?_
    refine ⟨d, dx, rfl, upd_same, fun H1 s0 l hs hD hs0 hl0 => ⟨rfl, ?_⟩⟩
    have ks : Keeps H H1 := Keeps.of (made_keeps hd0 hdx0 hs)
    have hsN := upd_none (upd_none hs0)
    have hlN := upd_none (upd_none hl0)
    have scK : ∀ {H'}, Keeps H H' → SqL K H' sc (ns.map V.int) := fun {H'} k => by
      rcases hsc with (h | ⟨o, h⟩) | h
      · exact .inl (.inl (k _ _ h fun _ e => by cases e))
      · exact .inl (.inr ⟨o, k _ _ h fun _ e => by cases e⟩)
      · exact .inr h
    have kfr : ∀ {H1 H2}, Keeps H H1 → Fr s0 l H1 H2 → Keeps H H2 := fun {H1 H2} k f a o e g => f a o (k a o e g) (fun e2 => by rw [e2, hsN] at e; cases e) (fun e2 => by rw [e2, hlN] at e; cases e) g
    walk_at "i"
    have sayE : ∀ {B : Bx} {v : V} {C : Str} {H' : Hp}, ¬ SayE B (toldV v) C → SayE B (toldV v) C → (E0 : XK) (.ref (He.ga K C)) none H' := fun n h => absurd h n
    refine g_r1 ?_
    walk_at "i"
    refine ⟨6, rfl, by decide, by decide, for_range (n := 6) (fun i σ H' => ∃ (x2 : Option V) (B : Bx), σ = [some (.ref sc), some (.ref d), x2, none, none, none, none, none, none, none, none] ∧ Keeps H H' ∧ DeskAt (He.ga K "Desk") (He.ga K "Shop") H' d s0 l i B ∧ B.n = i ∧ B.pcs = []) ⟨none, ⟨0, [], []⟩, rfl, ks, hD, rfl, rfl⟩ (fun i σ H2 hi hP => ?_) (fun σ H2 hP => ?_)⟩
    · obtain ⟨x2, B, rfl, k2, hD2, hB, hBp⟩ := hP
      obtain ⟨t', ht'⟩ : ∃ t : Int, (0 : Int) + (i : Nat) = t := ⟨_, rfl⟩
      rw [ht']
      walk_at "i"
      obtain ⟨dx2, hdx2⟩ := hD2.ex
      refine ⟨d, dx2, _, rfl, hdx2, rfl, ?_⟩
      walk_at "i"
      refine ⟨sz_of (by simp), fun p hp => ?_⟩
      have k3 : Keeps H (upd H2 p (.lst [.str "must", .str "may"])) := k2.newer hp _
      have hD3 := hD2.keeps (Keeps.of (Same.new (o := (.lst [.str "must", .str "may"])) hp))
      have h3 : upd H2 p (.lst [.str "must", .str "may"]) p = some (.lst [.str "must", .str "may"]) := upd_same
      generalize upd H2 p (.lst [.str "must", .str "may"]) = H3 at k3 hD3 h3 ⊢
      walk_at "i"
      refine ⟨sc, ns, 0, rfl, scK k3, fun z => ?_⟩
      walk_at "i"
      refine g_I (by omega) ?_
      walk_at "i"
      refine .inr ⟨_, rfl, ?_⟩
      obtain ⟨n, hn, hn2⟩ : ∃ n : Str, ([.str "must", .str "may"] : List V)[(if decide (V.int (Builtin.bitAnd (z / 2 ^ t'.toNat) 1) = V.int 1) = true then (1 : Int) else 0).toNat]? = some (.str n) ∧ 0 ≤ (if decide (V.int (Builtin.bitAnd (z / 2 ^ t'.toNat) 1) = V.int 1) = true then (1 : Int) else 0) ∧ n.length ≤ 80000 ∧ ∃ r, toldV (.str n) = some r ∧ (r = .pl "must" ∨ r = .pl "may") := by
        split
        · exact ⟨"may", rfl, by decide, by decide +kernel, _, told_may, .inr rfl⟩
        · exact ⟨"must", rfl, by decide, by decide +kernel, _, told_must, .inl rfl⟩
      obtain ⟨hj, hlen, r0, hr0, hr1⟩ := hn2
      refine ⟨p, _, _, .str n, rfl, rfl, SqL.of h3, ati hj hn, ?_⟩
      walk_at "i"
      refine ⟨d, s0, l, i, B, .str n, rfl, hD3, by omega, .inl ⟨n, rfl, hlen⟩, fun H4 z B' r hr' fr hD' hS => ?_, fun C H4 hC hk => ?_⟩
      · rw [hr0] at hr'
        cases hr'
        obtain ⟨e1, e2⟩ := hS.2.1 hr1
        walk_at "i"
        exact ⟨_, B', rfl, kfr k3 fr, hD', by omega, by rw [e2, hBp]⟩
      · rw [hr0] at hC
        rcases hC with ⟨e, _⟩ | ⟨r, e, _, _, h16, _⟩
        · cases e
        · cases e
          have := h16 hr1
          omega
    · obtain ⟨x2, B, rfl, k2, hD2, hB, hBp⟩ := hP
      walk_at "i"
      refine g_r1 ?_
      walk_at "i"
      refine ⟨8, rfl, by decide, by decide, for_range (n := 8) (fun i σ H' => ∃ (x2 : Option V) (B : Bx), σ = [some (.ref sc), some (.ref d), x2, none, none, none, none, none, none, none, none] ∧ Keeps H H' ∧ DeskAt (He.ga K "Desk") (He.ga K "Shop") H' d s0 l (6 + i) B ∧ B.n = 6 ∧ B.pcs.length = i) ⟨x2, B, rfl, k2, hD2, hB, by rw [hBp]; rfl⟩ (fun i σ H2 hi hP => ?_) (fun σ H2 hP => ?_)⟩
      · obtain ⟨x2, B, rfl, k2, hD2, hB, hBp⟩ := hP
        obtain ⟨t', ht'⟩ : ∃ t : Int, (0 : Int) + (i : Nat) = t := ⟨_, rfl⟩
        rw [ht']
        walk_at "i"
        obtain ⟨dx2, hdx2⟩ := hD2.ex
        refine ⟨d, dx2, _, rfl, hdx2, rfl, ?_⟩
        walk_at "i"
        refine g_I (by decide) ?_
        walk_at "i"
        have hb := Int.emod_nonneg t' (show (6 : Int) ≠ 0 by decide)
        have hb2 := Int.emod_lt_of_pos t' (show (0 : Int) < 6 by decide)
        have hr0 := told_piece (t' % 6) hb hb2
        generalize t' % 6 = u at hb hb2 hr0 ⊢
        have hu := strI_len (i := u) (by omega)
        have e1 : Str.length "piece " = 6 := by decide +kernel
        have e2 : Str.length " 1" = 2 := by decide +kernel
        have hsl : sizeLine = 16777216 := rfl
        refine ⟨u, rfl, strI_log (by omega), _, _, rfl, rfl, ?_, ?_⟩
        · show Str.length "piece " + (strI u).length ≤ sizeLine
          omega
        walk_at "i"
        refine ⟨_, _, rfl, rfl, ?_, ?_⟩
        · show (("piece " : Str) ++ strI u).length + Str.length " 1" ≤ sizeLine
          rw [cat_len]
          omega
        walk_at "i"
        refine ⟨d, s0, l, 6 + i, B, _, rfl, hD2, by omega, .inl ⟨(("piece " : Str) ++ strI u) ++ (" 1" : Str), rfl, by rw [cat_len, cat_len]; omega⟩, fun H4 z B' r hr' fr hD' hS => ?_, fun C H4 hC hk => ?_⟩
        · have hr'' := hr0.symm.trans hr'
          cases hr''
          obtain ⟨f1, f2⟩ := hS.2.2 _ _ rfl
          walk_at "i"
          exact ⟨_, B', rfl, kfr k2 fr, hD', by omega, by omega⟩
        · have hC : SayE B (toldV (.str ((("piece " : Str) ++ strI u) ++ (" 1" : Str)))) C := hC
          rw [hr0] at hC
          rcases hC with ⟨e, _⟩ | ⟨r, e, _, _, _, h⟩
          · cases e
          · cases e
            refine absurd ⟨?_, ?_, ?_, ?_, ?_⟩ (h _ _ rfl)
            · omega
            · exact ⟨List.pairwise_singleton _ _, fun x hx => by rw [List.mem_singleton.mp hx, hB]; exact ⟨hb, hb2⟩⟩
            · exact fun h => nomatch h
            · decide
            · decide
      · obtain ⟨x2, B, rfl, k2, hD2, hB, hBp⟩ := hP
        walk_at "i"
        refine g_r1 ?_
        walk_at "i"
        refine ⟨.ref sc, _, rfl, .inl ⟨_, scK k2, rfl⟩, ?_⟩
        walk_at "i"
        refine ⟨_, _, rfl, ?_⟩
        walk_at "i"
        refine ⟨_, _, rfl, ?_⟩
        obtain ⟨m, hm, hm1, hm2⟩ : ∃ m : Nat, (if (if (30 : Int) < ((ns.map V.int).length : Nat) then (30 : Int) else ((ns.map V.int).length : Nat)) > 1 then (if (30 : Int) < ((ns.map V.int).length : Nat) then (30 : Int) else ((ns.map V.int).length : Nat)) else 1) = (m : Int) ∧ 1 ≤ m ∧ m ≤ 30 := by
          rw [List.length_map]
          by_cases c1 : (30 : Int) < (ns.length : Nat)
          · rw [if_pos c1]
            exact ⟨30, rfl, by decide, by decide⟩
          · rw [if_neg c1]
            by_cases c2 : ((ns.length : Nat) : Int) > 1
            · rw [if_pos c2]
              exact ⟨ns.length, rfl, by omega, by omega⟩
            · rw [if_neg c2]
              exact ⟨1, rfl, by decide, by decide⟩
        rw [hm]
        refine ⟨(m : Int), rfl, by omega, by omega, ?_⟩
        rw [Int.toNat_natCast]
        refine for_range (n := m) (fun i σ H' => ∃ (x2 x3 x4 x5 x6 x7 x8 x9 x10 : Option V) (N : Nat) (B : Bx), σ = [some (.ref sc), some (.ref d), x2, x3, x4, x5, x6, x7, x8, x9, x10] ∧ Keeps H H' ∧ DeskAt (He.ga K "Desk") (He.ga K "Shop") H' d s0 l N B ∧ N ≤ 14 + 6 * i) ⟨x2, _, _, _, _, _, _, _, _, 14, B, rfl, k2, hD2, by omega⟩ (fun i σ H2 hi hP => ?_) (fun σ H2 hP => ?_)
        · obtain ⟨x2, x3, x4, x5, x6, x7, x8, x9, x10, N, B, rfl, k2, hD2, hN⟩ := hP
          obtain ⟨t', ht'⟩ : ∃ t : Int, (0 : Int) + (i : Nat) = t := ⟨_, rfl⟩
          rw [ht']
          walk_at "i"
          have ht : t' = (i : Nat) := by omega
          refine ⟨sc, ns, i, by rw [ht]; rfl, scK k2, fun z => ?_⟩
          walk_at "i"
          refine ⟨z, rfl, fun H3 pt s3 hP3 hptN => ?_⟩
          have nP : ∀ o, H pt = some o → ¬ (∀ kvs, o ≠ .dT kvs) := fun o e g => by
            rw [k2 _ _ e g] at hptN
            cases hptN
          have kX : ∀ {Ha Hb}, Keeps H Ha → SameX [pt] Ha Hb → Keeps H Hb := fun {Ha Hb} k s a o e g => s a (fun hm => nP o (by rw [List.mem_singleton.mp hm] at e; exact e) g) o (k a o e g)
          have k3 := k2.trans (Keeps.of s3)
          have hD3 := hD2.keeps (Keeps.of s3)
          have t0 := Same.refl H3
          walk_at "i"
          refine ⟨sz_of (by simp), fun e1 he1 => ?_⟩
          have t1 := t0.trans (Same.new (o := .tup []) he1)
          have he1' : upd H3 e1 (.tup []) e1 = some (.tup []) := upd_same
          generalize upd H3 e1 (.tup []) = HA at t1 he1'  ⊢
          walk_at "i"
          refine ⟨sz_of (by simp), fun pa hpa => ?_⟩
          have t2 := t1.trans (Same.new (o := .tup [.int 0]) hpa)
          have hpa' : upd HA pa (.tup [.int 0]) pa = some (.tup [.int 0]) := upd_same
          generalize upd HA pa (.tup [.int 0]) = HB at t2 hpa'  ⊢
          walk_at "i"
          refine ⟨sz_of (by simp), fun pb hpb => ?_⟩
          have t3 := t2.trans (Same.new (o := .tup [.ref pa, .int 1]) hpb)
          have hpb' : upd HB pb (.tup [.ref pa, .int 1]) pb = some (.tup [.ref pa, .int 1]) := upd_same
          generalize upd HB pb (.tup [.ref pa, .int 1]) = HC at t3 hpb'  ⊢
          walk_at "i"
          refine ⟨sz_of (by simp), fun pc hpc => ?_⟩
          have t4 := t3.trans (Same.new (o := .tup [.ref pb]) hpc)
          have hpc' : upd HC pc (.tup [.ref pb]) pc = some (.tup [.ref pb]) := upd_same
          generalize upd HC pc (.tup [.ref pb]) = HD at t4 hpc'  ⊢
          refine ⟨pc, 8, [.ref pb], rfl, rfl, SqT.of hpc', by simp, by decide, by decide, by simp, fun e2 he2 => ?_⟩
          have t5 := t4.trans (Same.new (o := .tup (List.replicate (8 : Int).toNat [V.ref pb]).flatten) he2)
          have he2' : upd HD e2 (.tup (List.replicate (8 : Int).toNat [V.ref pb]).flatten) e2 = some (.tup (List.replicate (8 : Int).toNat [V.ref pb]).flatten) := upd_same
          generalize upd HD e2 (.tup (List.replicate (8 : Int).toNat [V.ref pb]).flatten) = HE at t5 he2'  ⊢
          walk_at "i"
          refine ⟨sz_of (by simp), fun bx hbx => ?_⟩
          have t6 := t5.trans (Same.new (o := .tup [.int 6, .ref e1, .ref e2]) hbx)
          have hbx' : upd HE bx (.tup [.int 6, .ref e1, .ref e2]) bx = some (.tup [.int 6, .ref e1, .ref e2]) := upd_same
          have he2q := Same.new (o := .tup [.int 6, .ref e1, .ref e2]) hbx _ _ he2'
          generalize upd HE bx (.tup [.int 6, .ref e1, .ref e2]) = HF at t6 hbx' he2q ⊢
          have kF := k3.trans (Keeps.of t6)
          have hDF := hD3.keeps (Keeps.of t6)
          have hPF := hP3.same t6
          walk_at "i"
          refine ⟨pt, bx, e1, e2, _, rfl, hPF, hbx', he2q, rfl, fun HG dd sG hPG hdd => ?_⟩
          have kG := kX kF sG
          have hDG := hDF.sx sG hPF
          walk_at "i"
          refine ⟨dd, rfl, hdd, fun HH z6 sH hz6 => ?_⟩
          have kH := kG.trans (Keeps.of sH)
          have hDH := hDG.keeps (Keeps.of sH)
          have hPH := hPG.same sH
          walk_at "i"
          refine ⟨sz_of (by simp), fun p5 hp5 => ?_⟩
          have t7 := Same.new (o := .lst [.str "box", .str "many", .str "lightest", .str "at 3", .str "bars", .str z6]) hp5
          have hp5' : upd HH p5 (.lst [.str "box", .str "many", .str "lightest", .str "at 3", .str "bars", .str z6]) p5 = some (.lst [.str "box", .str "many", .str "lightest", .str "at 3", .str "bars", .str z6]) := upd_same
          generalize upd HH p5 (.lst [.str "box", .str "many", .str "lightest", .str "at 3", .str "bars", .str z6]) = HI at t7 hp5' ⊢
          have kI := kH.trans (Keeps.of t7)
          have hDI := hDH.keeps (Keeps.of t7)
          have hPI := hPH.same t7
          walk_at "i"
          refine ⟨pt, 6, rfl, hPI, by decide, by decide, fun HJ r sJ hPJ r0 r1 => ?_⟩
          have kJ := kX kI sJ
          have hDJ := hDI.sx sJ hPI
          have hp5J := sJ.own hPH hp5 hp5'
          obtain ⟨zr, hzr, hzl⟩ : ∃ zr : Str, ([.str "box", .str "many", .str "lightest", .str "at 3", .str "bars", .str z6] : List V)[r.toNat]? = some (.str zr) ∧ zr.length ≤ 200 := by
            have : r = 0 ∨ r = 1 ∨ r = 2 ∨ r = 3 ∨ r = 4 ∨ r = 5 := by omega
            rcases this with rfl | rfl | rfl | rfl | rfl | rfl
            · exact ⟨_, rfl, by decide +kernel⟩
            · exact ⟨_, rfl, by decide +kernel⟩
            · exact ⟨_, rfl, by decide +kernel⟩
            · exact ⟨_, rfl, by decide +kernel⟩
            · exact ⟨_, rfl, by decide +kernel⟩
            · exact ⟨_, rfl, hz6⟩
          walk_at "i"
          refine ⟨p5, _, r, .str zr, rfl, rfl, SqL.of hp5J, ati r0 hzr, ?_⟩
          walk_at "i"
          refine ⟨pt, zr, rfl, hPJ, hzl, fun HK row sK hPK hrow => ?_⟩
          have kK := kX kJ sK
          have hDK := hDJ.sx sK hPJ
          walk_at "i"
          have nsl : ∀ {Hx : Hp} {p : Addr} {N : Nat} {B : Bx}, DeskAt (He.ga K "Desk") (He.ga K "Shop") Hx d s0 l N B → Hx p = none → p ≠ s0 ∧ p ≠ l := fun {Hx p N B} h hp => by
            obtain ⟨_, _, _, g1, _, _, g2, _⟩ := h.sh.ex
            exact ⟨fun e => (by rw [← e, hp] at g1; cases g1), fun e => (by rw [← e, hp] at g2; cases g2)⟩
          have nK : ∀ {Hx : Hp} {p : Addr}, Same HK Hx → Hx p = none → HK p = none := fun {Hx p} s h => by
            cases e : HK p with
            | none => rfl
            | some o => rw [s _ _ e] at h; cases h
          have u0 := Same.refl HK
          refine ⟨sz_of (by simp), fun q1 hq1 => ?_⟩
          have u1 := u0.trans (Same.new (o := .lst [.str row]) hq1)
          have nq1 := nsl (hDK.keeps (Keeps.of u0)) hq1
          have hq1' : upd HK q1 (.lst [.str row]) q1 = some (.lst [.str row]) := upd_same
          have hq10 : HK q1 = none := nK u0 hq1
          generalize upd HK q1 (.lst [.str row]) = HL at u1 hq1'  ⊢
          walk_at "i"
          refine ⟨sz_of (by simp), fun q2 hq2 => ?_⟩
          have u2 := u1.trans (Same.new (o := .tup [.str "must"]) hq2)
          have nq2 := nsl (hDK.keeps (Keeps.of u1)) hq2
          have hq2' : upd HL q2 (.tup [.str "must"]) q2 = some (.tup [.str "must"]) := upd_same
          have hq20 : HK q2 = none := nK u1 hq2
          replace hq1' := Same.new (o := .tup [.str "must"]) hq2 _ _ hq1'
          generalize upd HL q2 (.tup [.str "must"]) = HM at u2 hq2' hq1' ⊢
          walk_at "i"
          refine fun q3 hq3 => ?_
          have u3 := u2.trans (Same.new (o := .dK []) hq3)
          have nq3 := nsl (hDK.keeps (Keeps.of u2)) hq3
          have hq3' : upd HM q3 (.dK []) q3 = some (.dK []) := upd_same
          have hq30 : HK q3 = none := nK u2 hq3
          replace hq1' := Same.new (o := .dK []) hq3 _ _ hq1'
          replace hq2' := Same.new (o := .dK []) hq3 _ _ hq2'
          generalize upd HM q3 (.dK []) = HN at u3 hq3' hq1' hq2' ⊢
          walk_at "i"
          refine ⟨sz_of (by simp), fun q4 hq4 => ?_⟩
          have u4 := u3.trans (Same.new (o := .lst [.str "must"]) hq4)
          have nq4 := nsl (hDK.keeps (Keeps.of u3)) hq4
          have hq4' : upd HN q4 (.lst [.str "must"]) q4 = some (.lst [.str "must"]) := upd_same
          have hq40 : HK q4 = none := nK u3 hq4
          replace hq1' := Same.new (o := .lst [.str "must"]) hq4 _ _ hq1'
          replace hq2' := Same.new (o := .lst [.str "must"]) hq4 _ _ hq2'
          replace hq3' := Same.new (o := .lst [.str "must"]) hq4 _ _ hq3'
          generalize upd HN q4 (.lst [.str "must"]) = HO' at u4 hq4' hq1' hq2' hq3' ⊢
          walk_at "i"
          refine ⟨sz_of (by simp), fun q5 hq5 => ?_⟩
          have u5 := u4.trans (Same.new (o := .lst [.non, .int 3, .bl true, .ref q1, .ref q2, .ref q3, .ref q4]) hq5)
          have nq5 := nsl (hDK.keeps (Keeps.of u4)) hq5
          have hq5' : upd HO' q5 (.lst [.non, .int 3, .bl true, .ref q1, .ref q2, .ref q3, .ref q4]) q5 = some (.lst [.non, .int 3, .bl true, .ref q1, .ref q2, .ref q3, .ref q4]) := upd_same
          have hq50 : HK q5 = none := nK u4 hq5
          replace hq1' := Same.new (o := .lst [.non, .int 3, .bl true, .ref q1, .ref q2, .ref q3, .ref q4]) hq5 _ _ hq1'
          replace hq2' := Same.new (o := .lst [.non, .int 3, .bl true, .ref q1, .ref q2, .ref q3, .ref q4]) hq5 _ _ hq2'
          replace hq3' := Same.new (o := .lst [.non, .int 3, .bl true, .ref q1, .ref q2, .ref q3, .ref q4]) hq5 _ _ hq3'
          replace hq4' := Same.new (o := .lst [.non, .int 3, .bl true, .ref q1, .ref q2, .ref q3, .ref q4]) hq5 _ _ hq4'
          generalize upd HO' q5 (.lst [.non, .int 3, .bl true, .ref q1, .ref q2, .ref q3, .ref q4]) = HP' at u5 hq5' hq1' hq2' hq3' hq4' ⊢
          walk_at "i"
          have kP := kK.trans (Keeps.of u5)
          have hDP := hDK.keeps (Keeps.of u5)
          have hPP := hPK.same u5
          refine ⟨pt, 7, rfl, hPP, by decide, by decide, fun HQ r2 sQ hPQ r20 r21 => ?_⟩
          have kQ := kX kP sQ
          have hDQ := hDP.sx sQ hPP
          obtain ⟨od, hod, hodA⟩ : ∃ od : V, ([.non, .int 3, .bl true, .ref q1, .ref q2, .ref q3, .ref q4] : List V)[r2.toNat]? = some od ∧ OddAt s0 l HQ od := by
            have : r2 = 0 ∨ r2 = 1 ∨ r2 = 2 ∨ r2 = 3 ∨ r2 = 4 ∨ r2 = 5 ∨ r2 = 6 := by omega
            rcases this with rfl | rfl | rfl | rfl | rfl | rfl | rfl
            · exact ⟨_, rfl, .inl rfl⟩
            · exact ⟨_, rfl, .inr (.inl ⟨_, rfl⟩)⟩
            · exact ⟨_, rfl, .inr (.inr (.inl ⟨_, rfl⟩))⟩
            · exact ⟨_, rfl, .inr (.inr (.inr ⟨q1, _, rfl, nq1.1, nq1.2, sQ.own hPK hq10 hq1', .inl ⟨_, rfl⟩⟩))⟩
            · exact ⟨_, rfl, .inr (.inr (.inr ⟨q2, _, rfl, nq2.1, nq2.2, sQ.own hPK hq20 hq2', .inr (.inl ⟨_, rfl⟩)⟩))⟩
            · exact ⟨_, rfl, .inr (.inr (.inr ⟨q3, _, rfl, nq3.1, nq3.2, sQ.own hPK hq30 hq3', .inr (.inr ⟨_, rfl⟩)⟩))⟩
            · exact ⟨_, rfl, .inr (.inr (.inr ⟨q4, _, rfl, nq4.1, nq4.2, sQ.own hPK hq40 hq4', .inl ⟨_, rfl⟩⟩))⟩
          refine ⟨q5, _, r2, od, rfl, rfl, SqL.of (sQ.own hPK hq50 hq5'), ati r20 hod, ?_⟩
          walk_at "i"
          refine g_ls ?_
          walk_at "i"
          refine ⟨sz_of (by simp), fun p6 hp6 => ?_⟩
          have np6 := nsl hDQ hp6
          have s6 := Same.new (o := .lst [.str row, od]) hp6
          have hp6' : upd HQ p6 (.lst [.str row, od]) p6 = some (.lst [.str row, od]) := upd_same
          generalize upd HQ p6 (.lst [.str row, od]) = HR at s6 hp6' ⊢
          refine ⟨p6, rfl, ⟨_, SqL.of hp6'⟩, for_it walk_list (fun j σ H' => ∃ (x8 x9 x10 : Option V) (N : Nat) (B : Bx), σ = [some (.ref sc), some (.ref d), some (.int t'), some (.ref pt), some (.ref bx), some (.ref p5), some (.str row), some od, x8, x9, x10] ∧ Keeps H H' ∧ DeskAt (He.ga K "Desk") (He.ga K "Shop") H' d s0 l N B ∧ N ≤ 14 + 6 * i + 3 * j ∧ H' p6 = some (.lst [.str row, od]) ∧ OddAt s0 l H' od)
            ⟨x8, x9, x10, N, B, rfl, kQ.trans (Keeps.of s6), hDQ.keeps (Keeps.of s6), by omega, hp6', hodA.fr (Fr.of (Keeps.of s6))⟩ (fun _ _ _ _ ⟨_, _, _, _, _, _, _, _, _, e, _⟩ => SqL.of e) ?_ ?_⟩
          · rintro j y σ H4 H5 hj ⟨x8, x9, x10, N, B, rfl, k4, hD4, hN4, hp64, hod4⟩ ⟨rfl, hy⟩
            have hj2 : j < 2 := hj
            have vk : ∀ {H'}, OddAt s0 l H' od → KindV K H' y := fun {H'} h => by
              rcases Nat.lt_or_ge j 1 with e | e
              · have : j = 0 := by omega
                subst this
                cases hy
                exact .inl ⟨row, rfl, hrow⟩
              · have : j = 1 := by omega
                subst this
                cases hy
                exact h.kind
            have fr6 : ∀ {Ha Hb : Hp}, Fr s0 l Ha Hb → Ha p6 = some (.lst [.str row, od]) → Hb p6 = some (.lst [.str row, od]) := fun {Ha Hb} f e => f _ _ e np6.1 np6.2 (fun _ e => by cases e)
            walk_at "i"
            obtain ⟨dx4, hdx4⟩ := hD4.ex
            refine ⟨d, dx4, _, rfl, hdx4, rfl, ?_⟩
            walk_at "i"
            refine ⟨d, s0, l, N, B, .str "box", rfl, hD4, by omega, .inl ⟨"box", rfl, by decide +kernel⟩, fun H5 zb B' r hr' fr5 hD5 hS5 => ?_, fun C H5 hC hk => ?_⟩
            case refine_2 =>
              rw [told_box] at hC
              rcases hC with ⟨e, _⟩ | ⟨r, e, _, h, _⟩
              · cases e
              · exact absurd (Option.some.inj e).symm h
            rw [told_box] at hr'
            cases hr'
            obtain ⟨rfl, rfl⟩ := hS5.1 rfl
            have k5 := kfr k4 fr5
            have hod5 := hod4.fr fr5
            have hp65 := fr6 fr5 hp64
            have yS : ∀ {r}, toldV y = some r → ∃ x, y = .str x ∧ x.length ≤ 80000 ∧ toldW (Txt.split x blank) = some r := fun {r} e => by
              rcases vk hod5 with ⟨x, rfl, hx⟩ | ⟨hno, _⟩
              · exact ⟨x, rfl, hx, e⟩
              · rw [toldV_no hno] at e
                cases e
            walk_at "i"
            refine ⟨d, s0, l, N + 1, _, y, rfl, hD5, by omega, vk hod5, fun H6 p z B' r hr' fr6' hD6 hS6 hp => ?_, fun hno H6 k6 => ?_, fun H6 C u r hr' hC k6 u1 u2 => ?_⟩
            · walk_at "i"
              refine .inr ⟨p, _, _, rfl, rfl, SqL.of hp, ?_⟩
              walk_at "i"
              obtain ⟨x, rfl, hx, hxr⟩ := yS hr'
              refine ⟨_, _, _, _, _, rfl, .ty _, .base (.str x), kit_str_str, ?_⟩
              walk_at "i"
              refine ⟨x, rfl, hx, fun H7 s7 => ?_⟩
              rw [hxr]
              walk_at "i"
              rw [if_neg (show ¬ (!decide (V.bl false = V.bl !(Option.some r).isSome)) = true from by show ¬ (!decide (V.bl false = V.bl false)) = true; decide)]
              walk_at "i"
              refine .inr ⟨p, _, _, rfl, rfl, SqL.of (s7 _ _ hp), ?_⟩
              walk_at "i"
              refine .inr ⟨p, _, _, rfl, rfl, SqL.of (s7 _ _ hp), ?_⟩
              walk_at "i"
              have f7 := fr6'.trans (Fr.of (Keeps.of s7))
              exact ⟨_, _, _, N + 1 + 1, _, rfl, kfr k5 f7, hD6.keeps (Keeps.of s7), by omega, fr6 f7 hp65, hod5.fr f7⟩
            · walk_at "i"
              refine .inl ⟨rfl, ?_⟩
              rw [show decide (V.str "no row" = V.str "no row") = true from decide_eq_true rfl]
              walk_at "i"
              rcases vk (hod5.fr (Fr.of k6)) with ⟨x, rfl, hx⟩ | ⟨hnos, t, ty, ht⟩
              · refine ⟨_, _, _, _, _, rfl, .ty _, .base (.str x), kit_str_str, ?_⟩
                walk_at "i"
                refine ⟨x, rfl, hx, fun H7 s7 => ?_⟩
                have k7 := k6.trans (Keeps.of s7)
                have hno : toldW (Txt.split x blank) = none := hno
                rw [hno]
                walk_at "i"
                rw [if_neg (show ¬ (!decide (V.bl true = V.bl !(Option.none (α := Row)).isSome)) = true from by show ¬ (!decide (V.bl true = V.bl true)) = true; decide)]
                walk_at "i"
                refine .inl ⟨rfl, ?_⟩
                rw [show decide (V.str "no row" = V.str "odd") = false from decide_eq_false fun e => absurd (V.str.inj e) (by decide +kernel)]
                walk_at "i"
                refine .inl ⟨rfl, ?_⟩
                rw [show decide (V.str "no row" = V.str "no row") = true from decide_eq_true rfl]
                walk_at "i"
                have hD7 := hD5.keeps k7
                obtain ⟨dx7, hdx7⟩ := hD7.ex
                refine ⟨d, dx7, _, rfl, hdx7, rfl, ?_⟩
                walk_at "i"
                refine ⟨d, s0, l, N + 1, _, .str "box", rfl, hD7, by omega, .inl ⟨"box", rfl, by decide +kernel⟩, fun H8 zb B2 r hr' fr8 hD8 hS8 => ?_, fun C H8 hC hk => ?_⟩
                case refine_2 =>
                  rw [told_box] at hC
                  rcases hC with ⟨e, _⟩ | ⟨r, e, _, h, _⟩
                  · cases e
                  · exact absurd (Option.some.inj e).symm h
                rw [told_box] at hr'
                cases hr'
                obtain ⟨rfl, rfl⟩ := hS8.1 rfl
                walk_at "i"
                rw [show (!decide (V.str (writtenS B2) = V.str (writtenS B2))) = false from by rw [decide_eq_true rfl]; rfl]
                walk_at "i"
                have f8 := (Fr.of (s := s0) (l := l) k7).trans fr8
                exact ⟨_, _, _, N + 1 + 1, _, rfl, kfr k5 f8, hD8, by omega, fr6 f8 hp65, hod5.fr f8⟩
              · refine ⟨_, _, _, _, _, rfl, .ty _, .base ty, kit_str ht, ?_⟩
                walk_at "i"
                have k7 := k6
                rw [if_neg (show ¬ (!decide (V.bl true = V.bl true)) = true by decide)]
                walk_at "i"
                refine .inl ⟨rfl, ?_⟩
                rw [show decide (V.str "no row" = V.str "odd") = false from decide_eq_false fun e => absurd (V.str.inj e) (by decide +kernel)]
                walk_at "i"
                refine .inl ⟨rfl, ?_⟩
                rw [show decide (V.str "no row" = V.str "no row") = true from decide_eq_true rfl]
                walk_at "i"
                have hD7 := hD5.keeps k7
                obtain ⟨dx7, hdx7⟩ := hD7.ex
                refine ⟨d, dx7, _, rfl, hdx7, rfl, ?_⟩
                walk_at "i"
                refine ⟨d, s0, l, N + 1, _, .str "box", rfl, hD7, by omega, .inl ⟨"box", rfl, by decide +kernel⟩, fun H8 zb B2 r hr' fr8 hD8 hS8 => ?_, fun C H8 hC hk => ?_⟩
                case refine_2 =>
                  rw [told_box] at hC
                  rcases hC with ⟨e, _⟩ | ⟨r, e, _, h, _⟩
                  · cases e
                  · exact absurd (Option.some.inj e).symm h
                rw [told_box] at hr'
                cases hr'
                obtain ⟨rfl, rfl⟩ := hS8.1 rfl
                walk_at "i"
                rw [show (!decide (V.str (writtenS B2) = V.str (writtenS B2))) = false from by rw [decide_eq_true rfl]; rfl]
                walk_at "i"
                have f8 := (Fr.of (s := s0) (l := l) k7).trans fr8
                exact ⟨_, _, _, N + 1 + 1, _, rfl, kfr k5 f8, hD8, by omega, fr6 f8 hp65, hod5.fr f8⟩
            · walk_at "i"
              refine .inl ⟨rfl, ?_⟩
              rw [show decide (V.str u = V.str "no row") = false from decide_eq_false fun e => u2 (V.str.inj e)]
              walk_at "i"
              obtain ⟨x, rfl, hx, hxr⟩ := yS hr'
              refine ⟨_, _, _, _, _, rfl, .ty _, .base (.str x), kit_str_str, ?_⟩
              walk_at "i"
              refine ⟨x, rfl, hx, fun H7 s7 => ?_⟩
              rw [hxr]
              walk_at "i"
              rw [if_neg (show ¬ (!decide (V.bl false = V.bl !(Option.some r).isSome)) = true from by show ¬ (!decide (V.bl false = V.bl false)) = true; decide)]
              walk_at "i"
              refine .inl ⟨rfl, ?_⟩
              rw [show decide (V.str u = V.str "odd") = false from decide_eq_false fun e => u1 (V.str.inj e)]
              walk_at "i"
              refine .inl ⟨rfl, ?_⟩
              rw [show decide (V.str u = V.str "no row") = false from decide_eq_false fun e => u2 (V.str.inj e)]
              walk_at "i"
              have k7 := k6.trans (Keeps.of s7)
              have f7 := Fr.of (s := s0) (l := l) k7
              exact ⟨_, _, _, N + 1, _, rfl, kfr k5 f7, hD5.keeps k7, by omega, fr6 f7 hp65, hod5.fr f7⟩
          · rintro σ H4 ⟨x8, x9, x10, N, B, rfl, k4, hD4, hN4, hp64, hod4⟩
            walk_at "i"
            have : N ≤ 14 + 6 * i + 3 * 2 := hN4
            exact ⟨_, _, _, _, _, _, _, _, _, N, B, rfl, k4, hD4, by omega⟩
        · obtain ⟨x2, x3, x4, x5, x6, x7, x8, x9, x10, N, B, rfl, k2, hD2, hN⟩ := hP
          walk_at "i"
          exact q _
end
end Eo
open PySem PySem.W PySem.Calls PyProof.Rows
theorem PySem.Challenge.cw_eachonce_k97_rows_that_are_none_holds : PySem.Challenge.rw_eachonce_k97_rows_that_are_none.Holds := by
  w_on; o_law
  refine HandSHeadRun.head_any (r := OpenLaw.row PySem.Challenge.rw_eachonce_k97_rows_that_are_none) (q := view (OpenLaw.row PySem.Challenge.rw_eachonce_k97_rows_that_are_none).prog [71]) (H := Eo.hk) (ob := Eo.ob) (M := 6000) (loose := Eo.loose) (d := HandSHeadRun.topDef (OpenLaw.row PySem.Challenge.rw_eachonce_k97_rows_that_are_none).prog 71) (kwd := []) Eo.ob_eq
    (by kernel_rfl) (fun s => by kernel_rfl) Eo.run (by kernel_rfl) (by kernel_rfl) (by kernel_rfl) (by rfl) (by first | assumption | decide +kernel) (by decide +kernel) ⟨rfl, rfl, rfl, rfl, rfl, by decide +kernel⟩ ?hw ?hc
  case hw => w_witness2
  case hc =>
    refine L2.walk_ofE (l := PySem.Challenge.rw_eachonce_k97_rows_that_are_none) (n := 63) (k := 45) (x := "script") (CX := L2.CX0) rfl (by decide) (by kernel_rfl) ⟨rfl, by decide, by decide⟩ ?F (fun _ _ _ _ z => z)
    intro w mg fa h Y G hmg0
    obtain ⟨K, KX, c⟩ := Y
    have hmg : mg ("law" : PySem.Str) = some (.ref fa) := by
      have e : (HandSHeadRun.topDef (OpenLaw.row PySem.Challenge.rw_eachonce_k97_rows_that_are_none).prog 71).name = ("law" : PySem.Str) := by kernel_rfl
      rw [← e]
      exact hmg0
    have T : Eo.Tx K w mg := ⟨h, KX, G, c.t, c.more⟩
    have e := hmg.symm.trans T.g_law
    cases e
    obtain ⟨oc, od, kV, doc, pm, an, cdv, ct, osl, hfd, _, _⟩ := T.d_law.fn.ex
    exact ⟨K, _, Eo.spLaw K, KX, fun s v => (by rw [hfd]; exact .of_eq rfl), fun H a ns hl _ hS => ⟨a, ns, rfl, hl, hS, fun _ => rfl⟩, fun base _ _ => Eo.c_law T⟩
