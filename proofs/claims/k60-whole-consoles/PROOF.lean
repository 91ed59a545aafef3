import PyProof.Rows.All
import Wide.All
import OpenK.AllK
import Wide.FinOn
import KE.KStateDown
import Lean
import HandS.ForMost
import HandS.Exc
import HandS.Codes
import HandS.TryOnly
import HandS.Lambda
import HandS.Defaults
import HandS.Head0
import HandS.Head1
import HandS.Head2
import HandS.HeadEnd
import HandS.HeadHook1
import HandS.HeadHook2
import HandS.HeadHook3
import HandS.HeadHook4
import HandS.HeadWalk
import PySem.Challenge.RW_pulltree_k60_whole_consoles_and_live_pla
import HandS.Wide
import HandS.WideBits
import HandS.SetFor
import HandS.Zip
import HandS.Rev
import HandS.Conv
import HandS.TupAny
import HandS.TupMul
import HandS.IsInst
import HandS.DictComp
import HandS.TupSets
import HandS.MakeKw
import HandS.Style
import HandS.RaiseMore
import HandS.ReplaceLit
import HandS.NoneIn
import HandS.SortKw
import KE.DatumOrd
import KE.SortKeyHeap
import KE.GoesMore
import KE.GoesEnum
import KE.KEqDeep
import HandS.MakeKwOnly
import PyProof.StrLawsReplace
import HandS.EndTab
set_option Elab.async false
set_option linter.all false
set_option maxRecDepth 100000
set_option maxHeartbeats 4000000
/-! K6Top: the text by places (a def of the program, a method), the head's facts -/
namespace K6
open PySem PySem.Spec PyProof.Rows L2
def top (i : Nat) : Stmt := PySem.Challenge.pw_pulltree_k60_whole_consoles_and_live_pla.main.body.getD i (.Pass ⟨0, 0, 0, 0⟩)
abbrev sIsInt : Stmt := top 13
abbrev sInRange : Stmt := top 14
abbrev sIsPlant : Stmt := top 15
abbrev sRequirePlant : Stmt := top 16
abbrev sRequireStation : Stmt := top 17
abbrev sSupplierLists : Stmt := top 18
abbrev sValidStock : Stmt := top 20
abbrev sIsStock : Stmt := top 21
abbrev sRequireStock : Stmt := top 22
abbrev sRequireDays : Stmt := top 23
abbrev sRanks : Stmt := top 24
abbrev sChainOf : Stmt := top 25
abbrev sNextStock : Stmt := top 26
abbrev sFirstDays : Stmt := top 27
abbrev sWrongStations : Stmt := top 29
abbrev sOrderDays : Stmt := top 30
abbrev sDaysUntilOrdered : Stmt := top 31
abbrev sWordTable : Stmt := top 34
abbrev sRotatedBy : Stmt := top 35
abbrev sCountsAfter : Stmt := top 36
abbrev sRanksOfWords : Stmt := top 37
abbrev sGreatestDivisor : Stmt := top 40
abbrev sPeriodOf : Stmt := top 42
abbrev sLengthOf : Stmt := top 43
abbrev sCycleLength : Stmt := top 44
abbrev sStockAt : Stmt := top 47
abbrev sChainAt : Stmt := top 48
abbrev sMakerOn : Stmt := top 49
abbrev sOrderOfSales : Stmt := top 56
abbrev sSoldOn : Stmt := top 57
abbrev sParseNumber : Stmt := top 62
abbrev sParseBox : Stmt := top 63
abbrev sReadPlant : Stmt := top 64
abbrev sParseRow : Stmt := top 69
abbrev sLawFount : Stmt := top 72
abbrev sLawSip : Stmt := top 73
abbrev sLawMixed : Stmt := top 74
abbrev sLawGrown : Stmt := top 75
abbrev sLawFilled : Stmt := top 76
abbrev sLawOperation : Stmt := top 77
abbrev sLawRow : Stmt := top 78
abbrev sLawText : Stmt := top 79
abbrev sLawOpen : Stmt := top 80
abbrev sLawDone : Stmt := top 81
abbrev sLawAnswers : Stmt := top 82
abbrev sLawShown : Stmt := top 83
abbrev sLaw : Stmt := top 84
abbrev sLivePlantInit : Stmt := inClass (top 53) 0
abbrev sLivePlantCommit : Stmt := inClass (top 53) 3
abbrev sLivePlantSellFrom : Stmt := inClass (top 53) 4
abbrev sLivePlantDay : Stmt := inClass (top 53) 5
abbrev sLivePlantDays : Stmt := inClass (top 53) 6
abbrev sLivePlantSell : Stmt := inClass (top 53) 7
abbrev sLivePlantAdd : Stmt := inClass (top 53) 8
abbrev sLivePlantRemove : Stmt := inClass (top 53) 9
abbrev sLivePlantUndo : Stmt := inClass (top 53) 10
abbrev sLivePlantPlant : Stmt := inClass (top 53) 11
abbrev sLivePlantStock : Stmt := inClass (top 53) 12
abbrev sLivePlantLog : Stmt := inClass (top 53) 13
abbrev sConsoleInit : Stmt := inClass (top 70) 0
abbrev sConsoleSay : Stmt := inClass (top 70) 1
abbrev sConsoleOperate : Stmt := inClass (top 70) 2
abbrev sConsoleAnswer : Stmt := inClass (top 70) 3
abbrev FnP (K : PySem.W.Frag) (x : Str) (st : Stmt) (f : Addr) (fd : FuncData) : Prop := FunD K x x (defArgs st) (defBody st) (defScope st) [] [] f fd
abbrev FnM (K : PySem.W.Frag) (m q : Str) (st : Stmt) (f : Addr) (fd : FuncData) : Prop := FunD K m q (defArgs st) (defBody st) (defScope st) [] [] f fd
def dIsInt : He.DefD := ⟨("is_int", none), "is_int", "is_int", defArgs sIsInt, defBody sIsInt, defScope sIsInt, [], []⟩
def dInRange : He.DefD := ⟨("in_range", none), "in_range", "in_range", defArgs sInRange, defBody sInRange, defScope sInRange, [], []⟩
def dIsPlant : He.DefD := ⟨("is_plant", none), "is_plant", "is_plant", defArgs sIsPlant, defBody sIsPlant, defScope sIsPlant, [], []⟩
def dRequirePlant : He.DefD := ⟨("require_plant", none), "require_plant", "require_plant", defArgs sRequirePlant, defBody sRequirePlant, defScope sRequirePlant, [], []⟩
def dRequireStation : He.DefD := ⟨("require_station", none), "require_station", "require_station", defArgs sRequireStation, defBody sRequireStation, defScope sRequireStation, [], []⟩
def dSupplierLists : He.DefD := ⟨("supplier_lists", none), "supplier_lists", "supplier_lists", defArgs sSupplierLists, defBody sSupplierLists, defScope sSupplierLists, [], []⟩
def dValidStock : He.DefD := ⟨("valid_stock", none), "valid_stock", "valid_stock", defArgs sValidStock, defBody sValidStock, defScope sValidStock, [], []⟩
def dIsStock : He.DefD := ⟨("is_stock", none), "is_stock", "is_stock", defArgs sIsStock, defBody sIsStock, defScope sIsStock, [], []⟩
def dRequireStock : He.DefD := ⟨("require_stock", none), "require_stock", "require_stock", defArgs sRequireStock, defBody sRequireStock, defScope sRequireStock, [], []⟩
def dRequireDays : He.DefD := ⟨("require_days", none), "require_days", "require_days", defArgs sRequireDays, defBody sRequireDays, defScope sRequireDays, [], []⟩
def dRanks : He.DefD := ⟨("ranks", none), "ranks", "ranks", defArgs sRanks, defBody sRanks, defScope sRanks, [], []⟩
def dChainOf : He.DefD := ⟨("chain_of", none), "chain_of", "chain_of", defArgs sChainOf, defBody sChainOf, defScope sChainOf, [], []⟩
def dNextStock : He.DefD := ⟨("next_stock", none), "next_stock", "next_stock", defArgs sNextStock, defBody sNextStock, defScope sNextStock, [], []⟩
def dFirstDays : He.DefD := ⟨("first_days", none), "first_days", "first_days", defArgs sFirstDays, defBody sFirstDays, defScope sFirstDays, [], []⟩
def dWrongStations : He.DefD := ⟨("wrong_stations", none), "wrong_stations", "wrong_stations", defArgs sWrongStations, defBody sWrongStations, defScope sWrongStations, [], []⟩
def dOrderDays : He.DefD := ⟨("order_days", none), "order_days", "order_days", defArgs sOrderDays, defBody sOrderDays, defScope sOrderDays, [], []⟩
def dDaysUntilOrdered : He.DefD := ⟨("days_until_ordered", none), "days_until_ordered", "days_until_ordered", defArgs sDaysUntilOrdered, defBody sDaysUntilOrdered, defScope sDaysUntilOrdered, [], []⟩
def dWordTable : He.DefD := ⟨("word_table", none), "word_table", "word_table", defArgs sWordTable, defBody sWordTable, defScope sWordTable, [], []⟩
def dRotatedBy : He.DefD := ⟨("rotated_by", none), "rotated_by", "rotated_by", defArgs sRotatedBy, defBody sRotatedBy, defScope sRotatedBy, [], []⟩
def dCountsAfter : He.DefD := ⟨("counts_after", none), "counts_after", "counts_after", defArgs sCountsAfter, defBody sCountsAfter, defScope sCountsAfter, [], []⟩
def dRanksOfWords : He.DefD := ⟨("ranks_of_words", none), "ranks_of_words", "ranks_of_words", defArgs sRanksOfWords, defBody sRanksOfWords, defScope sRanksOfWords, [], []⟩
def dGreatestDivisor : He.DefD := ⟨("greatest_divisor", none), "greatest_divisor", "greatest_divisor", defArgs sGreatestDivisor, defBody sGreatestDivisor, defScope sGreatestDivisor, [], []⟩
def dPeriodOf : He.DefD := ⟨("period_of", none), "period_of", "period_of", defArgs sPeriodOf, defBody sPeriodOf, defScope sPeriodOf, [], []⟩
def dLengthOf : He.DefD := ⟨("length_of", none), "length_of", "length_of", defArgs sLengthOf, defBody sLengthOf, defScope sLengthOf, [], []⟩
def dCycleLength : He.DefD := ⟨("cycle_length", none), "cycle_length", "cycle_length", defArgs sCycleLength, defBody sCycleLength, defScope sCycleLength, [], []⟩
def dStockAt : He.DefD := ⟨("stock_at", none), "stock_at", "stock_at", defArgs sStockAt, defBody sStockAt, defScope sStockAt, [], []⟩
def dChainAt : He.DefD := ⟨("chain_at", none), "chain_at", "chain_at", defArgs sChainAt, defBody sChainAt, defScope sChainAt, [], []⟩
def dMakerOn : He.DefD := ⟨("maker_on", none), "maker_on", "maker_on", defArgs sMakerOn, defBody sMakerOn, defScope sMakerOn, [], []⟩
def dOrderOfSales : He.DefD := ⟨("order_of_sales", none), "order_of_sales", "order_of_sales", defArgs sOrderOfSales, defBody sOrderOfSales, defScope sOrderOfSales, [], []⟩
def dSoldOn : He.DefD := ⟨("sold_on", none), "sold_on", "sold_on", defArgs sSoldOn, defBody sSoldOn, defScope sSoldOn, [], []⟩
def dParseNumber : He.DefD := ⟨("parse_number", none), "parse_number", "parse_number", defArgs sParseNumber, defBody sParseNumber, defScope sParseNumber, [], []⟩
def dParseBox : He.DefD := ⟨("parse_box", none), "parse_box", "parse_box", defArgs sParseBox, defBody sParseBox, defScope sParseBox, [], []⟩
def dReadPlant : He.DefD := ⟨("read_plant", none), "read_plant", "read_plant", defArgs sReadPlant, defBody sReadPlant, defScope sReadPlant, [], []⟩
def dParseRow : He.DefD := ⟨("parse_row", none), "parse_row", "parse_row", defArgs sParseRow, defBody sParseRow, defScope sParseRow, [], []⟩
def dLawFount : He.DefD := ⟨("_law_fount", none), "_law_fount", "_law_fount", defArgs sLawFount, defBody sLawFount, defScope sLawFount, [], []⟩
def dLawSip : He.DefD := ⟨("_law_sip", none), "_law_sip", "_law_sip", defArgs sLawSip, defBody sLawSip, defScope sLawSip, [], []⟩
def dLawMixed : He.DefD := ⟨("_law_mixed", none), "_law_mixed", "_law_mixed", defArgs sLawMixed, defBody sLawMixed, defScope sLawMixed, [], []⟩
def dLawGrown : He.DefD := ⟨("_law_grown", none), "_law_grown", "_law_grown", defArgs sLawGrown, defBody sLawGrown, defScope sLawGrown, [], []⟩
def dLawFilled : He.DefD := ⟨("_law_filled", none), "_law_filled", "_law_filled", defArgs sLawFilled, defBody sLawFilled, defScope sLawFilled, [], []⟩
def dLawOperation : He.DefD := ⟨("_law_operation", none), "_law_operation", "_law_operation", defArgs sLawOperation, defBody sLawOperation, defScope sLawOperation, [], []⟩
def dLawRow : He.DefD := ⟨("_law_row", none), "_law_row", "_law_row", defArgs sLawRow, defBody sLawRow, defScope sLawRow, [], []⟩
def dLawText : He.DefD := ⟨("_law_text", none), "_law_text", "_law_text", defArgs sLawText, defBody sLawText, defScope sLawText, [], []⟩
def dLawOpen : He.DefD := ⟨("_law_open", none), "_law_open", "_law_open", defArgs sLawOpen, defBody sLawOpen, defScope sLawOpen, [], []⟩
def dLawDone : He.DefD := ⟨("_law_done", none), "_law_done", "_law_done", defArgs sLawDone, defBody sLawDone, defScope sLawDone, [], []⟩
def dLawAnswers : He.DefD := ⟨("_law_answers", none), "_law_answers", "_law_answers", defArgs sLawAnswers, defBody sLawAnswers, defScope sLawAnswers, [], []⟩
def dLawShown : He.DefD := ⟨("_law_shown", none), "_law_shown", "_law_shown", defArgs sLawShown, defBody sLawShown, defScope sLawShown, [], []⟩
def dLaw : He.DefD := ⟨("law", none), "law", "law", defArgs sLaw, defBody sLaw, defScope sLaw, [], []⟩
def dLivePlantInit : He.DefD := ⟨("LivePlant", some "__init__"), "__init__", "LivePlant.__init__", defArgs sLivePlantInit, defBody sLivePlantInit, defScope sLivePlantInit, [], [("stock", .non)]⟩
def dLivePlantCommit : He.DefD := ⟨("LivePlant", some "commit"), "commit", "LivePlant.commit", defArgs sLivePlantCommit, defBody sLivePlantCommit, defScope sLivePlantCommit, [], []⟩
def dLivePlantSellFrom : He.DefD := ⟨("LivePlant", some "sell_from"), "sell_from", "LivePlant.sell_from", defArgs sLivePlantSellFrom, defBody sLivePlantSellFrom, defScope sLivePlantSellFrom, [], []⟩
def dLivePlantDay : He.DefD := ⟨("LivePlant", some "day"), "day", "LivePlant.day", defArgs sLivePlantDay, defBody sLivePlantDay, defScope sLivePlantDay, [], []⟩
def dLivePlantDays : He.DefD := ⟨("LivePlant", some "days"), "days", "LivePlant.days", defArgs sLivePlantDays, defBody sLivePlantDays, defScope sLivePlantDays, [], []⟩
def dLivePlantSell : He.DefD := ⟨("LivePlant", some "sell"), "sell", "LivePlant.sell", defArgs sLivePlantSell, defBody sLivePlantSell, defScope sLivePlantSell, [], []⟩
def dLivePlantAdd : He.DefD := ⟨("LivePlant", some "add"), "add", "LivePlant.add", defArgs sLivePlantAdd, defBody sLivePlantAdd, defScope sLivePlantAdd, [], []⟩
def dLivePlantRemove : He.DefD := ⟨("LivePlant", some "remove"), "remove", "LivePlant.remove", defArgs sLivePlantRemove, defBody sLivePlantRemove, defScope sLivePlantRemove, [], []⟩
def dLivePlantUndo : He.DefD := ⟨("LivePlant", some "undo"), "undo", "LivePlant.undo", defArgs sLivePlantUndo, defBody sLivePlantUndo, defScope sLivePlantUndo, [], []⟩
def dLivePlantPlant : He.DefD := ⟨("LivePlant", some "plant"), "plant", "LivePlant.plant", defArgs sLivePlantPlant, defBody sLivePlantPlant, defScope sLivePlantPlant, [], []⟩
def dLivePlantStock : He.DefD := ⟨("LivePlant", some "stock"), "stock", "LivePlant.stock", defArgs sLivePlantStock, defBody sLivePlantStock, defScope sLivePlantStock, [], []⟩
def dLivePlantLog : He.DefD := ⟨("LivePlant", some "log"), "log", "LivePlant.log", defArgs sLivePlantLog, defBody sLivePlantLog, defScope sLivePlantLog, [], []⟩
def dConsoleInit : He.DefD := ⟨("Console", some "__init__"), "__init__", "Console.__init__", defArgs sConsoleInit, defBody sConsoleInit, defScope sConsoleInit, [], []⟩
def dConsoleSay : He.DefD := ⟨("Console", some "say"), "say", "Console.say", defArgs sConsoleSay, defBody sConsoleSay, defScope sConsoleSay, [], []⟩
def dConsoleOperate : He.DefD := ⟨("Console", some "operate"), "operate", "Console.operate", defArgs sConsoleOperate, defBody sConsoleOperate, defScope sConsoleOperate, [], []⟩
def dConsoleAnswer : He.DefD := ⟨("Console", some "answer"), "answer", "Console.answer", defArgs sConsoleAnswer, defBody sConsoleAnswer, defScope sConsoleAnswer, [], []⟩
def fn0 : List He.DefD := [dIsInt, dInRange, dIsPlant, dRequirePlant, dRequireStation, dSupplierLists, dValidStock, dIsStock, dRequireStock, dRequireDays, dRanks, dChainOf, dNextStock, dFirstDays, dWrongStations, dOrderDays, dDaysUntilOrdered, dWordTable, dRotatedBy, dCountsAfter, dRanksOfWords, dGreatestDivisor, dPeriodOf, dLengthOf, dCycleLength, dStockAt, dChainAt, dMakerOn, dOrderOfSales, dSoldOn]
def fn1 : List He.DefD := [dParseNumber, dParseBox, dReadPlant, dParseRow, dLawFount, dLawSip, dLawMixed, dLawGrown, dLawFilled, dLawOperation, dLawRow, dLawText, dLawOpen, dLawDone, dLawAnswers, dLawShown, dLaw, dLivePlantInit, dLivePlantCommit, dLivePlantSellFrom, dLivePlantDay, dLivePlantDays, dLivePlantSell, dLivePlantAdd, dLivePlantRemove, dLivePlantUndo, dLivePlantPlant, dLivePlantStock, dLivePlantLog, dConsoleInit]
def fn2 : List He.DefD := [dConsoleSay, dConsoleOperate, dConsoleAnswer]
def fn : List He.DefD := fn0 ++ (fn1 ++ (fn2))
def fa0 : List He.Fa := [.glo "is_int", .glo "in_range", .glo "is_plant", .glo "require_plant", .glo "require_station", .glo "supplier_lists", .glo "valid_stock", .glo "is_stock", .glo "require_stock", .glo "require_days", .glo "ranks", .glo "chain_of", .glo "next_stock", .glo "first_days", .glo "wrong_stations", .glo "order_days", .glo "days_until_ordered", .glo "word_table", .glo "rotated_by", .glo "counts_after", .glo "ranks_of_words", .glo "greatest_divisor", .glo "period_of", .glo "length_of", .glo "cycle_length", .glo "stock_at", .glo "chain_at", .glo "maker_on", .glo "order_of_sales", .glo "sold_on"]
def fa1 : List He.Fa := [.glo "parse_number", .glo "parse_box", .glo "read_plant", .glo "parse_row", .glo "_law_fount", .glo "_law_sip", .glo "_law_mixed", .glo "_law_grown", .glo "_law_filled", .glo "_law_operation", .glo "_law_row", .glo "_law_text", .glo "_law_open", .glo "_law_done", .glo "_law_answers", .glo "_law_shown", .glo "law", .glo "LivePlant", .glo "Console", .glo "FORMS", .free "isinstance", .free "int", .free "bool", .free "tuple", .free "len", .free "all", .free "enumerate", .free "range", .free "set", .free "sorted"]
def fa2 : List He.Fa := [.free "min", .free "list", .free "zip", .free "max", .free "divmod", .free "reversed", .free "str", .int "MOST_STATIONS_plants" 40, .int "MOST_FAR" 1000000000000000000000000000000, .int "MOST_DAYS" 1000000000000000000000000000000, .int "MOST_STATIONS_live" 40, .int "MOST_DAY" 1000000000000000000000000000000, .int "MOST_DIGITS_texts" 40, .int "MOST_DIGITS_console" 31, .str "DIGITS" "0123456789", .str "TOP" "shop", .str "OPEN" "open ", .cls "LivePlant", .cls "Console", .noat "LivePlant" "current", .noat "LivePlant" "history", .noat "Console" "live_plant", .mkr "LivePlant", .mkr "Console", .meth "LivePlant" "commit", .meth "LivePlant" "sell_from", .meth "LivePlant" "day", .meth "LivePlant" "days", .meth "LivePlant" "sell", .meth "LivePlant" "add"]
def fa3 : List He.Fa := [.meth "LivePlant" "remove", .meth "LivePlant" "undo", .meth "LivePlant" "plant", .meth "LivePlant" "stock", .meth "LivePlant" "log", .meth "Console" "say", .meth "Console" "operate", .meth "Console" "answer"]
def fa : List He.Fa := fa0 ++ (fa1 ++ (fa2 ++ (fa3)))
def ts : List He.Tab := [(fun K => He.ga K "FORMS", ["day", "remove", "undo", "stock", "wait", "cycle", "sell", "days", "add", "word", "sold", "maker"])]
def formsV : List (Str × He.Dv) := [("day", .int 0), ("remove", .int 0), ("undo", .int 0), ("stock", .int 0), ("wait", .int 0), ("cycle", .int 0), ("sell", .int 1), ("days", .int 1), ("add", .int 1), ("word", .int 1), ("sold", .int 1), ("maker", .int 1)]
def tf : List He.Defn := [("word_table", none)]
def ex (K : PySem.W.Frag) : Bool := He.valsB K (He.ga K "FORMS") formsV
def loose0 : List Str := ["__name__", "PlantError", "NoPlant", "NoStation", "NoStock", "NoDays", "NotOrdered", "Full", "Nothing", "NoText", "NoRow", "MOST_STATIONS_plants", "require_ordered", "word", "MOST_FAR", "MOST_DAYS", "MOST_STATIONS_live", "LivePlant", "MOST_DAY", "DIGITS", "MOST_DIGITS_texts", "TOP", "OPEN", "MOST_DIGITS_console", "FORMS", "Console", "is_int", "in_range", "is_plant", "require_plant"]
def loose1 : List Str := ["require_station", "supplier_lists", "valid_stock", "is_stock", "require_stock", "require_days", "ranks", "chain_of", "next_stock", "first_days", "wrong_stations", "order_days", "days_until_ordered", "word_table", "rotated_by", "counts_after", "ranks_of_words", "greatest_divisor", "period_of", "length_of", "cycle_length", "stock_at", "chain_at", "maker_on", "order_of_sales", "sold_on", "parse_number", "parse_box", "read_plant", "parse_row"]
def loose2 : List Str := ["_law_fount", "_law_sip", "_law_mixed", "_law_grown", "_law_filled", "_law_operation", "_law_row", "_law_text", "_law_open", "_law_done", "_law_answers", "_law_shown"]
def loose : List Str := loose0 ++ (loose1 ++ (loose2))
abbrev R : PySem.W.OpenRow := PySem.W.OpenLaw.row PySem.Challenge.rw_pulltree_k60_whole_consoles_and_live_pla
abbrev hk : PySem.W.Hook := He.hookX 5 fa fn ts tf ex
def ob (s : PySem.W.SharedT) : He.AlX := He.obsX 5 fa fn ts tf ex (HandSHeadRun.getT s)
theorem ob_eq (s : PySem.W.SharedT) : ob s = hk.obs s.abs := He.obsX_eq (HandSHeadRun.getT_eq s)
end K6

set_option Elab.async false
set_option linter.all false
set_option maxRecDepth 100000
set_option maxHeartbeats 0
namespace K6
open PySem PySem.Spec PyProof.Rows L2
theorem runF (w : World) : HandSHeadRun.RunEq R (PySem.W.view R.prog [84]) hk ob 40000 loose (w.withFollow "special-get-raises" false) := by
  intro os
  kernel_rfl
theorem runT (w : World) : HandSHeadRun.RunEq R (PySem.W.view R.prog [84]) hk ob 40000 loose (w.withFollow "special-get-raises" true) := by
  intro os
  kernel_rfl
theorem runHd (w : World) : HandSHeadRun.RunEq R (PySem.W.view R.prog [84]) hk ob 40000 loose w :=
  PySem.W.byRow2 "special-get-raises" (P := fun w => HandSHeadRun.RunEq R (PySem.W.view R.prog [84]) hk ob 40000 loose w) runF runT w
end K6

set_option Elab.async false
set_option linter.all false
set_option maxRecDepth 100000
set_option maxHeartbeats 4000000
/-! K6RulA: rules of our own: a ** n of great ints; max, sorted, len(set(..)) of a tuple of ints; min of a list of pairs -/
namespace K6
open PySem PySem.Spec PyProof.Rows L2
section
variable {X : Cx}
/-- a ** n, a below 2 ^ 1000, 0 ≤ n ≤ 1000 -/
def CPowW (i j : Int) : Prop := 0 ≤ j ∧ j ≤ 1000 ∧ i.natAbs.log2 < 1000
theorem op_powW : OpR X (binaryOp .Pow) (rI CPowW fun i j => .int (i ^ j.toNat)) := opI fun i j _ _ _ _ _ hc q => by
  refine pow_int hc.1 ?_ q
  have h1 : Builtin.Int.intBits i ≤ 1000 := by
    have h2 := hc.2.2
    unfold Builtin.Int.intBits
    split <;> omega
  have h3 : ((Builtin.Int.intBits i : Nat) : Int) * j ≤ 1000 * j := Int.mul_le_mul_of_nonneg_right (by omega) hc.1
  have h4 := hc.2.1
  have h5 : (1000 : Int) * j ≤ 1000000 := by omega
  have h6 : (2 : Int) ^ 27 = 134217728 := by decide
  omega

/-! ### max of a tuple -/
theorem foldMax (f : Int → Int → Int) (hf : ∀ a y, f a y = if a < y then y else a) : ∀ (xs : List Int) (x : Int), (xs.foldl f x) ∈ x :: xs ∧ ∀ y ∈ x :: xs, y ≤ xs.foldl f x
  | [], x => ⟨by simp, fun y hy => by simp at hy; rw [hy]; exact Int.le_refl _⟩
  | z :: r, x => by
    obtain ⟨h1, h2⟩ := foldMax f hf r (f x z)
    rw [List.foldl_cons]
    have e := hf x z
    have e2 : x ≤ f x z ∧ z ≤ f x z := by
      rw [e]
      split <;> omega
    refine ⟨?_, fun y hy => ?_⟩
    · rcases List.mem_cons.mp h1 with q | q
      · rw [q, e]
        split <;> simp
      · exact List.mem_cons_of_mem _ (List.mem_cons_of_mem _ q)
    · have h3 := h2 (f x z) (by simp)
      rcases List.mem_cons.mp hy with q | q
      · rw [q]; omega
      · rcases List.mem_cons.mp q with q | q
        · rw [q]; omega
        · exact h2 y (List.mem_cons_of_mem _ q)
def rMaxT (K : PySem.W.Frag) : List V → Hp → VK → Prop := fun vs H Q => ∃ (a : Addr) (ns : List Int), vs = [V.ref a] ∧ SqT K H a (ns.map V.int) ∧ ns ≠ [] ∧ ∀ m, m ∈ ns → (∀ y, y ∈ ns → y ≤ m) → Q (.int m) H
theorem cr_maxT (hc : X.calm = true) (hu : X.A.units + 64 < cLine) : CallR X (.builtin "max") (rMaxT X.K) := by
  intro pins s σ H vs us Q I r h
  obtain ⟨a, ns, rfl, hs, hne, q⟩ := h
  obtain ⟨its, rv, hl, _⟩ := I.tuple hs
  rw [Vals.ref1 r]
  cases ns with
  | nil => exact absurd rfl hne
  | cons x xs =>
    have hI : PySem.W.HoldAll s.heap its.toArray.toList (x :: xs) := PySem.W.HoldAll.of_ints (by rw [List.toList_toArray]; exact rv.ints)
    obtain ⟨ob, e1, e2, e3⟩ := hl
    refine PySem.W.max_tuple_datum (α := Int) (I.ok.hd hc) ⟨ob, e1, e2, e3⟩ hI (by show X.A.units + 1 + 0 < cLine; omega) fun i v h' tk hv hh hk => ?_
    obtain ⟨t, ev⟩ := PySem.W.int_of_holds hh
    rw [ev]
    obtain ⟨m1, m2⟩ := foldMax (fun a y => if PySem.W.DatumOrd.lt a y = true then y else a) (fun a y => by
      show (if decide (a < y) = true then y else a) = _
      by_cases z : a < y
      · rw [decide_eq_true z, if_pos rfl, if_pos z]
      · rw [decide_eq_false z, if_neg Bool.false_ne_true, if_neg z]) xs x
    exact ⟨.int _, H, I.kept hk, ⟨t, rfl⟩, q _ m1 m2⟩

/-! ### min of a list of pairs of ints, the first ones different -/
def prLt (p q : Int × Int) : Bool := if p.1 = q.1 then decide (p.2 < q.2) else decide (p.1 < q.1)
theorem foldMin (f : Int × Int → Int × Int → Int × Int) (hf : ∀ a y, f a y = if prLt y a = true then y else a) : ∀ (xs : List (Int × Int)) (x : Int × Int), (xs.foldl f x) ∈ x :: xs ∧ ∀ y ∈ x :: xs, (xs.foldl f x).1 ≤ y.1
  | [], x => ⟨by simp, fun y hy => by simp at hy; rw [hy]; exact Int.le_refl _⟩
  | z :: r, x => by
    obtain ⟨h1, h2⟩ := foldMin f hf r (f x z)
    rw [List.foldl_cons]
    have e := hf x z
    have e2 : (f x z).1 ≤ x.1 ∧ (f x z).1 ≤ z.1 := by
      rw [e]
      unfold prLt
      by_cases z1 : z.1 = x.1
      · rw [if_pos z1]
        split <;> omega
      · rw [if_neg z1]
        split
        · rename_i z2
          have := of_decide_eq_true z2
          omega
        · rename_i z2
          have z3 : ¬ z.1 < x.1 := fun q => z2 (decide_eq_true q)
          omega
    refine ⟨?_, fun y hy => ?_⟩
    · rcases List.mem_cons.mp h1 with q | q
      · rw [q, e]
        split <;> simp
      · exact List.mem_cons_of_mem _ (List.mem_cons_of_mem _ q)
    · have h3 := h2 (f x z) (by simp)
      rcases List.mem_cons.mp hy with q | q
      · rw [q]; omega
      · rcases List.mem_cons.mp q with q | q
        · rw [q]; omega
        · exact h2 y (List.mem_cons_of_mem _ q)
/-- the items: tuples at ts of the pairs ps -/
def rMinP (K : PySem.W.Frag) : List V → Hp → VK → Prop := fun vs H Q => ∃ (a : Addr) (tps : List (Addr × Int × Int)), vs = [V.ref a] ∧ SqL K H a (tps.map fun p => V.ref p.1) ∧ (∀ p ∈ tps, H p.1 = some (.tup [.int p.2.1, .int p.2.2])) ∧ tps ≠ [] ∧
  ∀ p, p ∈ tps → (∀ y, y ∈ tps → p.2.1 ≤ y.2.1) → Q (.ref p.1) H
theorem pairs_hold {P : Program} {w : World} {H : Hp} {h : Heap} (ok : HOk P w H h) : ∀ {tps : List (Addr × Int × Int)} {its : List Value}, (∀ p ∈ tps, H p.1 = some (.tup [.int p.2.1, .int p.2.2])) → Vals (tps.map fun p => V.ref p.1) its →
    PySem.W.HoldAll h its (tps.map (·.2)) ∧ its = tps.map fun p => Value.ref p.1
  | [], _, _, r => by
    cases r
    exact ⟨PySem.W.HoldAll.nil, rfl⟩
  | p :: ps, _, hp, r => by
    rw [List.map_cons] at r
    cases r with
    | cons r1 r2 =>
      obtain ⟨h1, h2⟩ := pairs_hold ok (fun q hq => hp q (List.mem_cons_of_mem _ hq)) r2
      cases r1
      obtain ⟨_, us, r3, ob, e1, e2, n, e3⟩ := ok _ _ (hp p (by simp))
      obtain ⟨u1, u2, rfl, ri, rj⟩ := vals2 r3
      obtain ⟨t1, rfl⟩ := ri
      obtain ⟨t2, rfl⟩ := rj
      refine ⟨PySem.W.HoldAll.cons (PySem.W.holds_pair ⟨ob, e1, e2, n, e3⟩ (PySem.W.holds_int _ _) (PySem.W.holds_int _ _)) h1, by rw [h2] <;> rfl⟩
theorem cr_minP (hc : X.calm = true) (hu : X.A.units + 64 < cLine) : CallR X (.builtin "min") (rMinP X.K) := by
  intro pins s σ H vs us Q I r h
  obtain ⟨a, tps, rfl, hs, hp, hne, q⟩ := h
  obtain ⟨its, rv, hl, _⟩ := I.list hs
  rw [Vals.ref1 r]
  obtain ⟨hA, eits⟩ := pairs_hold I.hok hp rv
  cases tps with
  | nil => exact absurd rfl hne
  | cons p0 ps =>
    have hI : PySem.W.HoldAll s.heap its.toArray.toList (p0.2 :: ps.map (·.2)) := by rw [List.toList_toArray]; exact hA
    refine PySem.W.min_list_datum (α := Int × Int) (I.ok.hd hc) hl.isList hI (by show X.A.units + 1 + (1 + max 0 0) < cLine; simp only [Nat.max_self]; omega) fun i v h' tk hv hh hk => ?_
    have hv2 : its[i]? = some v := by simpa using hv
    rw [eits, List.getElem?_map] at hv2
    cases e : (p0 :: ps)[i]? with
    | none => rw [e] at hv2; cases hv2
    | some p =>
      rw [e] at hv2
      have ev : v = Value.ref p.1 := (Option.some.inj hv2).symm
      have pm : p ∈ p0 :: ps := List.mem_of_getElem? e
      rw [ev] at hh ⊢
      obtain ⟨m1, m2⟩ := foldMin (fun a y => if PySem.W.DatumOrd.lt y a = true then y else a) (fun a y => rfl) (ps.map (·.2)) p0.2
      -- the pair at p is the fold
      obtain ⟨l, u1, u2, el, ⟨o2, f1, f2, n2, f3⟩, g1, g2⟩ := PySem.W.pair_of_holds hh
      cases el
      obtain ⟨_, us2, r3, ob, e1, e2, n, e3⟩ := I.hok _ _ (hp p pm)
      have k1 := hk _ _ e1
      rw [f1] at k1
      cases k1
      rw [e3] at f3
      obtain ⟨w1, w2, rfl, ri, rj⟩ := vals2 r3
      obtain ⟨t1, rfl⟩ := ri
      obtain ⟨t2, rfl⟩ := rj
      have f4 : ([Value.int p.2.1 t1, Value.int p.2.2 t2] : List Value).toArray = #[u1, u2] := by injection f3
      have f5 : [Value.int p.2.1 t1, Value.int p.2.2 t2] = [u1, u2] := by
        have := congrArg Array.toList f4
        simpa using this
      injection f5 with f6 f7
      injection f7 with f7 _
      obtain ⟨t3, g3⟩ := PySem.W.int_of_holds g1
      rw [← f6] at g3
      have g4 : p.2.1 = (PySem.W.minOf p0.2 (ps.map (·.2))).1 := by injection g3
      refine ⟨.ref p.1, H, I.kept hk, rfl, q p pm fun y hy => ?_⟩
      rw [g4]
      refine m2 y.2 ?_
      rcases List.mem_cons.mp hy with z | z
      · rw [z]; simp
      · exact List.mem_cons_of_mem _ (List.mem_map.mpr ⟨y, z, rfl⟩)
end
end K6

set_option Elab.async false
set_option linter.all false
set_option maxRecDepth 100000
set_option maxHeartbeats 4000000
/-! K6RulB: sorted of a tuple of ints; len(set(t)); list(reversed(xs)) -/
namespace K6
open PySem PySem.Spec PyProof.Rows L2
section
variable {prog : Program} {w : World} {A : Around} {E : Value → Shared → Prop} {s : Shared}
/-- what a tuple gives when it is collected -/
theorem colTup {l : Addr} {vs : List Value} {Q : List Value → Shared → Prop} (hl : s.heap.IsTuple l vs.toArray) (hsz : vs.length ≤ sizeLine)
    (h : ∀ h' : Heap, (∀ b o, s.heap.get? b = some o → h'.get? b = some o) → Q vs { s with heap := h' }) : wpAny (model prog w) A (collect (.ref l)) Q E s := by
  obtain ⟨o, ho, hc, n, hd⟩ := id hl
  have ho' : (s.heap.push (seqObj "list" #[] 0)).get? l = some o := Heap.get?_push_of_some _ ho
  have hnew : (s.heap.push (seqObj "list" #[] 0)).get? s.heap.objs.size = some (seqObj "list" #[] 0) := Heap.get?_push_size _ rfl
  unfold collect
  refine wpAny_bind (wpAny_runValue (codeAny_builtin entry_proto_collect' ?_))
  show wpAny _ _ (do again (.builtin "list.__iadd__" ⟨[← newList [], .ref l], []⟩)) _ _ s
  refine wpAny_bind (wpAny_newList (wpAny_pure ⟨Code.quiet_builtin _ (by decide +kernel), codeAny_builtin entry_list_iadd' ?_⟩))
  show wpAny _ _ (Builtin.List.listExtendWith (.ref s.heap.objs.size) (.ref l) (.ref s.heap.objs.size)) _ _ { s with heap := s.heap.push (seqObj "list" #[] 0) }
  unfold Builtin.List.listExtendWith
  refine wpAny_bind (wpAny_typeOf (T := "tuple") ⟨o, ho', hc⟩ ?_)
  have ht : (Value.type "tuple" == Value.type "tuple") = true := by rfl
  rw [if_pos (by rw [ht]; simp)]
  refine wpAny_bind (listItems_at ho' hd (wpAny_bind (listItems_at (xs := #[]) (n := 0) hnew rfl ?_)))
  rw [if_neg (by simp)]
  refine wpAny_bind (listUpdate_at (xs := #[]) (n := 0) hnew rfl (wpAny_pure ?_) (Nat.zero_le _) (by show (#[] ++ vs.toArray).size ≤ sizeLine + 1; simp only [Array.size_append, List.size_toArray, List.length_nil]; omega))
  show wpAny (model prog w) A (do
      let o ← load s.heap.objs.size
      match o.data with
      | .seq xs _ => pure xs.toList
      | _ => unsupported "internal:collect") Q E { s with heap := (s.heap.push (seqObj "list" #[] 0)).update s.heap.objs.size (Obj.mapSeq (· ++ vs.toArray)) }
  refine wpAny_bind (wpAny_load (get?_update_seq hnew _) ?_)
  show wpAny _ _ (pure ((#[] : Array Value) ++ vs.toArray).toList) Q E _
  rw [show ((#[] : Array Value) ++ vs.toArray).toList = vs by simp]
  refine wpAny_pure (h _ fun b ob e => ?_)
  rw [Heap.get?_update_ne _ _ _ _ (Nat.ne_of_lt (Heap.lt_size e))]
  exact Heap.get?_push_of_some _ e
/-- sorted(x, ..) by what collecting x gives and by what the sort of the new list gives -/
theorem sortedOf {x : Value} {vs : List Value} {kw : List (Str × Value)} {Q : Value → Shared → Prop} (hL : vs.length ≤ sizeLine) (ha1 : argsOk "sorted" ⟨[x], kw⟩) (ha2 : ∀ y, argsOk "list.sort" ⟨[y], kw⟩)
    {Pz : List Value → Prop} (hcol : ∀ (Q' : List Value → Shared → Prop), (∀ (vs : List Value) (h' : Heap) (tk : Nat), Pz vs → vs.length ≤ sizeLine → (∀ b o, s.heap.get? b = some o → h'.get? b = some o) → Q' vs { s with heap := h', toks := tk }) → ∀ E', wpAny (model prog w) A.in1 (collect x) Q' E' s)
    (body : ∀ (vs : List Value) (h' : Heap) (tk : Nat), Pz vs → vs.length ≤ sizeLine → (∀ b o, s.heap.get? b = some o → h'.get? b = some o) → ∀ E' : Value → Shared → Prop,
      wpAny (model prog w) A.in1.in1 (Builtin.«list.sort» ⟨[.ref h'.objs.size], kw⟩) (fun f s' => f = .done (.ret .none) ∧ Q (.ref h'.objs.size) s') E' { s with heap := h'.push (seqObj "list" vs.toArray 0), toks := tk }) :
    wpAny (model prog w) A (call (.builtin "sorted") [x] kw) Q E s := by
  refine call_function_entry_kw kind_sorted plain_sorted entry_sorted ha1 ?_
  unfold Builtin.«sorted»
  refine wpAny_bind (m := checkCount "sorted" 1 1 _) (wpAny_pure ?_)
  refine wpAny_bind (hcol _ (fun vs h' tk hz hL hk => ?_) _)
  refine wpAny_bind (wpAny_newList ?_ hL)
  have hoL : (h'.push (seqObj "list" vs.toArray 0)).get? h'.objs.size = some (seqObj "list" vs.toArray 0) := Heap.get?_push_size _ rfl
  show wpAny _ _ _ _ _ { s with heap := h'.push (seqObj "list" vs.toArray 0), toks := tk }
  refine wpAny_bind (wpAny_holding (wpAny_call_entry_kw slot_list_sort ⟨_, hoL, rfl⟩ entry_list_sort ?body (ha2 _)))
  case body =>
    refine wpAny_mono (body vs h' tk hz hL hk _) (fun f s' hf => ?_) fun _ _ e => e
    obtain ⟨rfl, hq⟩ := hf
    exact ⟨_, rfl, wpAny_pure ⟨_, rfl, hq⟩⟩
end
section
variable {X : Cx}
def rSortedT (K : PySem.W.Frag) : List V → Hp → VK → Prop := fun vs H Q => ∃ (a : Addr) (ns : List Int), vs = [V.ref a] ∧ SqT K H a (ns.map V.int) ∧ ns.length < 64 ∧
  ∀ (ns' : List Int) (p : Addr), ns'.Perm ns → ns'.Pairwise (· ≤ ·) → H p = none → Q (.ref p) (upd H p (.lst (ns'.map V.int)))
theorem cr_sortedT : CallR X (.builtin "sorted") (rSortedT X.K) := by
  intro pins s σ H vs us Q I r h
  obtain ⟨a, ns, rfl, hs, h64, q⟩ := h
  obtain ⟨its, rv, hl, hz⟩ := I.tuple hs
  rw [Vals.ref1 r]
  have hi := rv.ints
  have hlen : its.length = ns.length := by rw [← rv.length, List.length_map]
  obtain ⟨ob, e1, e2, e3⟩ := hl
  refine sortedOf (vs := its) (Pz := fun vs => vs = its) (by rw [sizeLine_eq]; omega) (args_sorted1 _) (fun _ => args_list_sort _) (fun Q' hQ E' => colTup ⟨ob, e1, e2, e3⟩ (by rw [sizeLine_eq]; omega) fun h' hk => hQ its h' s.toks rfl (by rw [sizeLine_eq]; omega) hk) (fun vs h' tk e _ hk E' => ?_)
  subst e
  have hoL : (h'.push (seqObj "list" vs.toArray 0)).get? h'.objs.size = some (seqObj "list" vs.toArray 0) := Heap.get?_push_size _ rfl
  refine list_sort_tree (s := { s with heap := h'.push (seqObj "list" vs.toArray 0), toks := tk }) hoL hi (by omega) fun out ns' h1 h2 h3 => ⟨rfl, ?_⟩
  obtain ⟨ep, he'⟩ := PyProof.Rows.sortedHeap_at (vs := vs) (out := out) hoL
  have I2 : Inv X pins σ H { s with heap := h', toks := tk } := I.kept hk
  have hlen : (ns'.map V.int).length ≤ sizeLine := by rw [List.length_map, h2.length_eq]; exact small64 h64
  have kp : ∀ b o, h'.get? b = some o → (PyProof.Rows.sortedHeap (h'.push (seqObj "list" vs.toArray 0)) h'.objs.size vs out).get? b = some o := fun b o e =>
    (PyProof.Rows.sortedHeap_old (Nat.ne_of_lt (Heap.lt_size e)) (Heap.lt_size (Heap.get?_push_of_some _ e))).trans (Heap.get?_push_of_some _ e)
  exact ⟨.ref _, upd H h'.objs.size (.lst (ns'.map V.int)), I2.laid (t' := tk) kp (Nat.le_refl _) ⟨hlen, out.toList, ep, vals_of_ints h1, he'⟩, rfl, q ns' _ h2 h3 (I2.hok.fresh (Nat.le_refl _))⟩

/-! ### len(set(t)), t a tuple of different ints -/
theorem nodup_len {α : Type} [DecidableEq α] : ∀ {xs ys : List α}, xs.Nodup → (∀ x ∈ xs, x ∈ ys) → xs.length ≤ ys.length
  | [], _, _, _ => Nat.zero_le _
  | x :: xs, ys, hn, hs => by
    obtain ⟨h1, h2⟩ := List.nodup_cons.mp hn
    have hx := hs x (by simp)
    have ih := nodup_len (ys := ys.erase x) h2 fun y hy => (List.mem_erase_of_ne (fun e => h1 (by rw [← e]; exact hy))).mpr (hs y (List.mem_cons_of_mem _ hy))
    rw [List.length_erase_of_mem hx] at ih
    have hp := List.length_pos_of_mem hx
    rw [List.length_cons]
    omega
def tLenSetT (K : PySem.W.Frag) (ta : TE) : TE := fun σ H Q => ta σ H fun x H1 => ∃ (l : Addr) (ns : List Int), x = .ref l ∧ SqT K H1 l (ns.map V.int) ∧ ns.Nodup ∧ ns.length ≤ 1000 ∧ Q (.int (ns.length : Nat)) H1
theorem pe_lenSetT {a : Expr} {ta : TE} {p p2 q pos : Pos} (hg : Gl X "len") (hm : X.mg "len" = none) (hg2 : Gl X "set") (hm2 : X.mg "set" = none) (ha : PE X a ta) (hc : X.calm = true := by rfl)
    (na : starEach [a] X.env = (false, eval a X.env) :: starEach [] X.env := by rfl) : PE X (.Call (.Name "len" p) [.Call (.Name "set" p2) [a] [] q] [] pos) (tLenSetT X.K ta) := by
  refine ⟨fun pins s σ H Q I h => Call_ (ld_blt I hg hm boot_len (PyProof.Rows.callWith_builtin1 (PyProof.Rows.args_cons (Call_ (ld_blt I hg2 hm2 boot_set (PyProof.Rows.callWith_type1 (PyProof.Rows.args_cons (thn (ha.run pins s σ H _ I h) fun v s1 ⟨x, H1, I1, r1, q1⟩ => PyProof.Rows.args_nil ?_) na) na rfl))) rfl) rfl rfl))⟩
  obtain ⟨l, ns, rfl, hq, hnd, hl, q1⟩ := q1
  cases r1
  obtain ⟨its, r, ⟨ob, e1, e2, e3⟩, hz⟩ := I1.tuple hq
  refine call_set_tupI (ns := ns) (I1.ok.hd hc) ⟨ob, e1, e2, e3⟩ (by rw [List.toList_toArray]; exact r.ints) (by unfold scanBound; omega) fun h' tk c hS hcl hk => PyProof.Rows.args_nil ?_
  obtain ⟨o, es, ep, t, ho, hex, hd, hge, hnn, hmem, hsb, hfit, hcz, _⟩ := hS
  have ec : es.size = ns.length := by
    have a1 : ns.length ≤ (es.toList.map keyOf).length := nodup_len hnd fun x hx => (hmem x).mp (decide_eq_true hx)
    have a2 : es.toList.length = es.size := by simp
    rw [List.length_map, a2] at a1
    omega
  have I2 : Inv X pins σ H1 { s1 with heap := h', toks := tk } := I1.kept hk
  exact call_len_set ho hex hd hfit (by rw [ec]; omega) ⟨.int ns.length, H1, I2.tok _, ⟨_, by rw [ec]⟩, q1⟩
end
end K6

set_option Elab.async false
set_option linter.all false
set_option maxRecDepth 100000
set_option maxHeartbeats 4000000
/-! K6RulC: list(reversed(xs)) -/
namespace K6
open PySem PySem.Spec PyProof.Rows L2 RT
section
variable {prog : Program} {w : World} {A : Around} {E : Value → Shared → Prop} {s : Shared}
theorem hintRev {it l : Addr} {i : Int} {Q : Bool → Shared → Prop} (hit : s.heap.IsRevIter it l i) (h : Q false s) : wpAny (model prog w) A (Builtin.List.listLengthHint (.ref it)) Q E s := by
  have hT : s.TypeIs (.ref it) "list_reverseiterator" := hit.typeIs
  unfold Builtin.List.listLengthHint
  refine wpAny_bind (wpAny_specialOf hT nolen_lri ?_)
  show wpAny _ A (specialOf (Value.ref it) (Str.ofString "__length_hint__") >>= _) _ _ _
  refine wpAny_bind (wpAny_specialOf hT hint_lri ?_)
  generalize hid : ("list_reverseiterator.__length_hint__" : String) = id0
  wp_delta
  rw [show splitId id0 = some ("list_reverseiterator", "__length_hint__") from by subst hid; decide +kernel]
  subst hid
  exact wpAny_bind (wpAny_isInstance (b := true) hT (by rw [isSubtype_type]; kernel_rfl) (wpAny_pure h))
theorem callListRev {it l : Addr} {items : Array Value} {Q : Value → Shared → Prop} (hh : A.handled = none) (hit : s.heap.IsRevIter it l ((items.size : Int) - 1)) (hl : s.heap.IsList l items) (hne : l ≠ it) (hn : items.size ≤ sizeLine)
    (hQ : ∀ (h' : Heap) (tk : Nat) (acc : Array Value) (c' : Nat), (∀ b o, b ≠ it → s.heap.get? b = some o → h'.get? b = some o) → h'.get? s.heap.objs.size = some { cls := .type "list", dict := none, data := .seq acc c', slots := #[] } → ItemsOf (fun i v => items[items.size - 1 - i]? = some v) acc items.size → Q (.ref s.heap.objs.size) { s with heap := h', toks := tk }) :
    wpAny (model prog w) A (call (.type "list") [.ref it]) Q E s := by
  refine callType_codes (Q₁ := fun obj s₁ => obj = .ref s.heap.objs.size ∧ s₁ = { s with heap := s.heap.push { cls := .type "list", data := .seq #[] } }) PySem.F.called_list (PySem.F.typeCall_list_1 _) PySem.F.entry_list_init
    (code_list_new _ ⟨rfl, rfl⟩) fun obj s₁ h₁ => ?_
  obtain ⟨rfl, rfl⟩ := h₁
  obtain ⟨oi, hoi, _⟩ := id hit
  obtain ⟨ol, hol, _⟩ := id hl
  have n1 : s.heap.objs.size ≠ it := Nat.ne_of_gt (Heap.lt_size hoi)
  have n2 : s.heap.objs.size ≠ l := Nat.ne_of_gt (Heap.lt_size hol)
  have nf : s.heap.objs.size ∉ [it, l] := by simp only [List.mem_cons, List.not_mem_nil, or_false, not_or]; exact ⟨n1, n2⟩
  have hS : (s.heap.push { cls := .type "list", data := .seq #[] }).get? s.heap.objs.size = some { cls := .type "list", data := .seq #[] } := Heap.get?_push_size _ rfl
  refine ⟨⟨_, hS, rfl⟩, PySem.F.args_list_init_2 _ _, ?_⟩
  show wpAny _ _ (do let old ← Builtin.List.listItems (.ref s.heap.objs.size); Builtin.List.listUpdate (.ref s.heap.objs.size) (fun _ => #[]); letGo old.toList.reverse; Builtin.List.listExtendWith (.ref s.heap.objs.size) (.ref it) .none) _ _ _
  refine wpAny_bind ?_
  unfold Builtin.List.listItems
  refine wpAny_bind (wpAny_seqItems hS rfl (wpAny_pure ?_))
  show wpAny _ _ (updateSeq s.heap.objs.size (fun _ => #[]) >>= fun _ => letGo (#[] : Array Value).toList.reverse >>= fun _ => Builtin.List.listExtendWith (.ref s.heap.objs.size) (.ref it) .none) _ _ _
  refine wpAny_bind (wpAny_updateSeq hS rfl ?_)
  have hS2 := Heap.get?_update_self (Obj.mapSeq (fun _ => (#[] : Array Value))) hS rfl
  have oth : ∀ b o, b ≠ s.heap.objs.size → s.heap.get? b = some o → ((s.heap.push { cls := .type "list", data := .seq #[] }).update s.heap.objs.size (Obj.mapSeq (fun _ => (#[] : Array Value)))).get? b = some o :=
    fun b o hb e => (Heap.get?_update_other _ _ (Ne.symm hb)).trans (Heap.get?_push_of_some _ e)
  refine wpAny_bind (wpAny_letGo ?_)
  generalize ((s.heap.push { cls := .type "list", data := .seq #[] }).update s.heap.objs.size (Obj.mapSeq (fun _ => (#[] : Array Value)))) = g at hS2 oth ⊢
  have hit1 : g.IsRevIter it l ((items.size : Int) - 1) := hit.at fun o e => oth _ _ n1.symm e
  have hl1 : g.IsList l items := let ⟨o, e, r⟩ := hl; ⟨o, oth _ _ n2.symm e, r⟩
  have hT : ({ s with heap := g } : Shared).TypeIs (.ref it) "list_reverseiterator" := Heap.IsRevIter.typeIs (s := { s with heap := g }) hit1
  have h1 : Builtin.List.listSameRef (.ref s.heap.objs.size) (.ref it) = false := by simp [Builtin.List.listSameRef, n1]
  unfold Builtin.List.listExtendWith
  refine wpAny_bind (wpAny_typeOf hT ?_)
  rw [if_neg (by rw [h1]; decide)]
  refine wpAny_bind (wpAny_pyIter_revIter (s := { s with heap := g }) hit1 (wpAny_bind (wpAny_holding (hintRev (s := { s with heap := g }) hit1 ?_))))
  rw [if_neg (by decide)]
  have e0 : ((items.size : Nat) : Int) - 1 - ((0 : Nat) : Int) = (items.size : Int) - 1 := by omega
  have W := (Walks.listRev (prog := prog) (w := w) (A := A.in1.in1) hh it l hne items).toS
  refine wpAny_pure ⟨plainId_quiet F.plain_extend_loop _, codeAny_extend_loopS W hn _ nf _ items.size 0 _ _ _ rfl (Nat.zero_le _) ⟨Nat.zero_le _, by rw [e0]; exact hit1, hl1⟩ hS2 (ItemsOf.nil _) fun s' acc' c' hm hS' hacc => ?_⟩
  refine ⟨rfl, ?_⟩
  rw [Moved.eq_with hm]
  refine hQ s'.heap s'.toks acc' c' (fun b o hb e => hm.heap b o (fun hmem => ?_) (oth b o (Nat.ne_of_lt (Heap.lt_size e)) e)) hS' hacc
  rcases List.mem_cons.mp hmem with e' | hmem
  · exact absurd (Heap.lt_size e) (by rw [e']; exact Nat.lt_irrefl _)
  · exact hb (List.mem_singleton.mp hmem)
end
def tListRev (K : PySem.W.Frag) (te : TE) : TE := fun σ H Q => te σ H fun v H1 => ∃ (a : Addr) (xs : List V), v = .ref a ∧ SqL K H1 a xs ∧ ∀ q, H1 q = none → Q (.ref q) (upd H1 q (.lst xs.reverse))
section
variable {X : Cx}
/-- list(reversed(xs)) -/
theorem pe_listRev {e : Expr} {te : TE} {p p2 pos pos2 : Pos} (hc : X.calm = true) (hg : Gl X "list") (hm : X.mg "list" = none) (hg2 : Gl X "reversed") (hm2 : X.mg "reversed" = none) (he : PE X e te)
    (hs : starEach [e] X.env = (false, eval e X.env) :: starEach [] X.env := by rfl) (hs2 : starEach [.Call (.Name "reversed" p2) [e] [] pos2] X.env = (false, eval (.Call (.Name "reversed" p2) [e] [] pos2) X.env) :: starEach [] X.env := by rfl) :
    PE X (.Call (.Name "list" p) [.Call (.Name "reversed" p2) [e] [] pos2] [] pos) (tListRev X.K te) := by
  refine ⟨fun pins s σ H Q I h => Call_ (ld_blt I hg hm boot_list (PyProof.Rows.callWith_type1 (PyProof.Rows.args_cons (Call_ (ld_blt I hg2 hm2 boot_reversed (PyProof.Rows.callWith_type1 (PyProof.Rows.args_cons (thn (he.run pins s σ H _ I h) fun v s1 ⟨x, H1, I1, r1, q1⟩ => PyProof.Rows.args_nil ?_) hs) hs rfl))) hs2) hs2 rfl))⟩
  obtain ⟨a, xs, rfl, hq, q⟩ := q1
  cases r1
  obtain ⟨its, rv, pl, hz⟩ := I1.list hq
  have hn : its.toArray.size ≤ sizeLine := by rw [List.size_toArray, ← rv.length]; exact hz
  refine call_reversed_list pl.isList (PyProof.Rows.args_nil ?_)
  have I2 : Inv X pins σ H1 { s1 with heap := s1.heap.push (revObj a ((its.toArray.size : Int) - 1)) } := I1.kept (t' := s1.toks) fun b o e => Heap.get?_push_of_some _ e
  obtain ⟨f0, f1, f2, f3, f4, f5⟩ := I1.fpOk (H' := H1) (b := s1.heap.objs.size) (Nat.le_refl _) (I1.hok.fresh (Nat.le_refl _))
  obtain ⟨ol, hol, _⟩ := id pl.isList
  have hsz : (s1.heap.push (revObj a ((its.toArray.size : Int) - 1))).objs.size = s1.heap.objs.size + 1 := size_push' _ _
  refine callListRev (s := { s1 with heap := s1.heap.push (revObj a ((its.toArray.size : Int) - 1)) }) (I1.ok.hd hc) ⟨_, Heap.get?_push_size _ rfl, rfl, rfl⟩ (pl.isList.push _) (Nat.ne_of_lt (Heap.lt_size hol)) hn fun h' tk acc c' hk hnew hi => ?_
  have new : ObjOk X.prog X.w (upd H1 (s1.heap.push (revObj a ((its.toArray.size : Int) - 1))).objs.size (.lst xs.reverse)) h' (s1.heap.push (revObj a ((its.toArray.size : Int) - 1))).objs.size (.lst xs.reverse) :=
    ⟨by rw [List.length_reverse]; exact hz, acc.toList, c', vals_rev rv hi, by rw [Array.toArray_toList]; exact hnew⟩
  have I3 := I2.turnedNew (t' := tk) (ch := [s1.heap.objs.size]) (fun b o hb e => hk b o (fun z => hb (by simp [z])) e) (fun b hb => by
    have e : b = s1.heap.objs.size := by simpa using hb
    rw [e]
    exact ⟨f0, f1, f2, f3, f4, f5⟩) (Nat.le_refl _) new
  exact ⟨.ref _, _, I3, rfl, q _ (I2.hok.fresh (Nat.le_refl _))⟩
end
end K6

set_option Elab.async false
set_option linter.all false
set_option maxRecDepth 100000
set_option maxHeartbeats 4000000
/-! K6RulD: d.update(e); d != {}; xs == [], xs != [] whatever xs holds -/
namespace K6
open PySem PySem.Spec PyProof.Rows L2
section
variable {X : Cx}
def rDUpd : V → List V → Hp → VK → Prop := fun x vs H Q => ∃ (a b : Addr) (kvs more : List (Key × V)), x = .ref a ∧ vs = [.ref b] ∧ a ≠ b ∧ H a = some (.dK kvs) ∧ H b = some (.dK more) ∧ kvs.length + more.length ≤ sizeLine ∧ Q .non (upd H a (.dK (mergeK kvs more)))
theorem putK_le {κ : Type} [DecidableEq κ] (kvs : List (κ × V)) (k : κ) (v : V) : (putK kvs k v).length ≤ kvs.length + 1 := by
  unfold putK
  split
  · rw [List.length_map]; omega
  · rw [List.length_append, List.length_singleton]; omega
theorem mergeK_le : ∀ (more kvs : List (Key × V)), (mergeK kvs more).length ≤ kvs.length + more.length
  | [], kvs => Nat.le_refl _
  | p :: r, kvs => by
    have h := mergeK_le r (putK kvs p.1 p.2)
    have h2 := putK_le kvs p.1 p.2
    show (mergeK (putK kvs p.1 p.2) r).length ≤ _
    rw [List.length_cons]
    omega
theorem mt_dupd : MtR X "dict.update" rDUpd := by
  intro pins s σ H x vs v us Q I rx rv h
  obtain ⟨a, b, kvs, more, rfl, rfl, hne, ha, hb, hsz, q⟩ := h
  obtain rfl : v = Value.ref a := rx
  obtain rfl := Vals.ref1 rv
  obtain ⟨za, ya, va, ra, da⟩ := (show ObjOk X.prog X.w H s.heap a (.dK kvs) from I.hok a _ ha)
  obtain ⟨zb, yb, vb, rb, db⟩ := (show ObjOk X.prog X.w H s.heap b (.dK more) from I.hok b _ hb)
  have la : va.length = kvs.length := ra.length.symm
  have lb : vb.length = more.length := rb.length.symm
  refine call_meetsIn PySem.F.slot_dict_update da.typeIs PySem.F.entry_dict_update (PySem.F.args_dict_update_2 _ _) (meets_dict_update (mixKind X.prog X.w) a b hne yb) ⟨va, vb, da, db, by omega, fun h' d1 d2 hs => ?_⟩
  have I1 := d_write (t' := s.toks) I (show Mut (H a) by rw [ha]; trivial) hs (let ⟨o, _, _, e, _⟩ := d1; ⟨o, e⟩) (dk_new (H' := upd H a (.dK (mergeK kvs more))) (Nat.le_trans (mergeK_le more kvs) hsz) ya (KV.merge rb ra) d1)
  exact ⟨.non, _, I1, rfl, q⟩
/-- a dict against an empty one -/
def rNeD0 : R2 := fun x y H Q => ∃ a b kvs, x = .ref a ∧ y = .ref b ∧ H a = some (.dK kvs) ∧ H b = some (.dK []) ∧ Q (.bl (!kvs.isEmpty)) H
theorem op_neD0 (hu : X.A.units < cLine) : OpR X (compareOp .NotEq) rNeD0 := by
  intro pins s σ H x y v u Q I rx ry h
  obtain ⟨a, b, kvs, rfl, rfl, ea, eb, q⟩ := h
  obtain rfl : v = Value.ref a := rx
  obtain rfl : u = Value.ref b := ry
  obtain ⟨_, ya, va, ra, da⟩ := (show ObjOk X.prog X.w H s.heap a (.dK kvs) from I.hok a _ ea)
  obtain ⟨_, yb, vb, rb, db⟩ := (show ObjOk X.prog X.w H s.heap b (.dK []) from I.hok b _ eb)
  have lb : vb = [] := List.eq_nil_of_length_eq_zero rb.length.symm
  subst lb
  cases kvs with
  | nil =>
    have la : va = [] := List.eq_nil_of_length_eq_zero ra.length.symm
    subst la
    exact PySem.W.keq_ne (knd := mixKind X.prog X.w) (r := true) ya yb da db hu (fun _ => .nil) ⟨.bl _, H, I, rfl, q⟩
  | cons p r =>
    have la : va.length ≠ 0 := by rw [← ra.length]; simp
    refine PySem.W.keq_ne (knd := mixKind X.prog X.w) (r := true) ya yb da db hu (fun z => absurd z la) ?_
    have e : (va.length == ([] : List (Key × Value)).length) = false := beq_eq_false_iff_ne.mpr la
    rw [e]
    exact ⟨.bl _, H, I, rfl, q⟩
/-- a list against an empty one -/
def rEqL0 (K : PySem.W.Frag) (neg : Bool) : R2 := fun x y H Q => ∃ a b xs, x = .ref a ∧ y = .ref b ∧ SqL K H a xs ∧ H b = some (.lst []) ∧ Q (.bl (if neg then !xs.isEmpty else xs.isEmpty)) H
theorem op_eqL0 (hu : X.A.units + 64 < cLine) : OpR X (compareOp .Eq) (rEqL0 X.K false) := by
  intro pins s σ H x y v u Q I rx ry h
  obtain ⟨a, b, xs, rfl, rfl, ha, hb, q⟩ := h
  obtain rfl : v = Value.ref a := rx
  obtain rfl : u = Value.ref b := ry
  obtain ⟨i1, r1, p1, _⟩ := I.list ha
  obtain ⟨i2, r2, p2, _⟩ := I.list (SqL.of hb)
  cases r2
  cases xs with
  | nil =>
    cases r1
    exact SeqAt.eq_listAt (e := fun _ => true) p1.isList p2.isList rfl (by omega) (fun j h1 _ => absurd h1 (Nat.not_lt_zero _)) ⟨.bl _, H, I, rfl, q⟩
  | cons z r =>
    refine SeqAt.eq_list_lengthsAt p1.isList p2.isList ?_ (by omega) ⟨.bl _, H, I, rfl, q⟩
    have l1 := r1.length
    rw [List.size_toArray, ← l1]
    rfl
theorem op_neL0 (hu : X.A.units + 64 < cLine) : OpR X (compareOp .NotEq) (rEqL0 X.K true) := by
  intro pins s σ H x y v u Q I rx ry h
  obtain ⟨a, b, xs, rfl, rfl, ha, hb, q⟩ := h
  obtain rfl : v = Value.ref a := rx
  obtain rfl : u = Value.ref b := ry
  obtain ⟨i1, r1, p1, _⟩ := I.list ha
  obtain ⟨i2, r2, p2, _⟩ := I.list (SqL.of hb)
  cases r2
  cases xs with
  | nil =>
    cases r1
    exact SeqAt.RcNeAt.lists (e := fun _ => true) p1.isList p2.isList rfl (by omega) (fun j h1 _ => absurd h1 (Nat.not_lt_zero _)) _ _ _ _ ⟨.bl _, H, I, rfl, q⟩
  | cons z r =>
    refine SeqAt.RcNeAt.lists_lengths p1.isList p2.isList ?_ (by omega) _ _ _ _ ⟨.bl _, H, I, rfl, q⟩
    have l1 := r1.length
    rw [List.size_toArray, ← l1]
    rfl
end
end K6

set_option Elab.async false
set_option linter.all false
set_option maxRecDepth 100000
set_option maxHeartbeats 4000000
/-! K6RulE: t[::-1], t a tuple; a target o.f in a tuple of targets; t * k, any k -/
namespace K6
open PySem PySem.Spec PyProof.Rows L2 HT
section
variable {prog : Program} {w : World} {A : Around} {E : Value → Shared → Prop} {s : Shared}
theorem appliedRev {sl : Addr} {t : Tok} {n : Nat} {Q : Int × Int × Nat → Shared → Prop} (hs : s.heap.IsSliceOf sl .none .none (.int (-1) t))
    (h : Q ((n : Int) - 1, -1, n) s) : wpAny (model prog w) A (Builtin.Slice.sliceApplied (.ref sl) (pure (n : Int))) Q E s := by
  obtain ⟨os, hos, hcs, hds⟩ := id hs
  unfold Builtin.Slice.sliceApplied Builtin.Slice.sliceFields
  refine wpAny_bind (wpAny_bind (wpAny_field hos hds (x := .none) rfl (wpAny_bind (wpAny_field hos hds (x := .none) rfl (wpAny_bind (wpAny_field hos hds (x := .int (-1) t) rfl (wpAny_pure ?_)))))))
  refine wpAny_bind (slicePart_int ?_)
  show wpAny _ _ (if ((-1 : Int) == 0) = true then _ else _) _ _ s
  rw [if_neg (by decide)]
  refine wpAny_bind (slicePart_none (wpAny_bind (slicePart_none (wpAny_bind (wpAny_pure ?_)))))
  show wpAny _ _ (pure ((n : Int) - 1, (-1 : Int), Builtin.Slice.slicePlaces ((n : Int) - 1) (-1) (-1))) _ _ s
  have e : Builtin.Slice.slicePlaces ((n : Int) - 1) (-1) (-1) = n := by
    unfold Builtin.Slice.slicePlaces
    rw [if_neg (by decide)]
    by_cases z : (n : Int) - 1 > -1
    · rw [if_pos z]
      have : ((n : Int) - 1 - -1 - 1) / (- -1) + 1 = (n : Int) := by
        rw [show (- -1 : Int) = 1 by decide, Int.ediv_one]
        omega
      rw [this]
      exact Int.toNat_natCast n
    · rw [if_neg z]
      omega
  rw [e]
  exact wpAny_pure h
theorem pickRev (xs : Array Value) : ((List.range xs.size).filterMap fun (m : Nat) => xs[(((xs.size : Int) - 1) + (m : Int) * (-1)).toNat]?).toArray = xs.toList.reverse.toArray := by
  have e : (fun (m : Nat) => xs[(((xs.size : Int) - 1) + (m : Int) * (-1)).toNat]?) = fun m => xs[xs.size - 1 - m]? := by
    funext m
    have : (((xs.size : Int) - 1) + (m : Int) * (-1)).toNat = xs.size - 1 - m := by omega
    rw [this]
  rw [e]
  congr 1
  have h1 := PySem.W.krv_all xs
  rw [← h1, ← List.filterMap_reverse, ← PySem.W.krv_range, List.filterMap_map]
  rfl
theorem getItemRev {t sl : Addr} {items : Array Value} {k : Tok} {Q : Value → Shared → Prop} (ht : IsTup s.heap t items) (hs : s.heap.IsSliceOf sl .none .none (.int (-1) k))
    (h : Q (.ref s.heap.objs.size) { s with heap := s.heap.push { cls := .type "tuple", data := .seq items.toList.reverse.toArray } }) (hsz : items.size ≤ sizeLine) : wpAny (model prog w) A (getItem (.ref t) (.ref sl)) Q E s := by
  have hso : sizeOk (.seq items.toList.reverse.toArray) := by
    show items.toList.reverse.toArray.size ≤ sizeLine
    rw [List.size_toArray, List.length_reverse, Array.length_toList]
    exact hsz
  obtain ⟨os, hos, hcs, hds⟩ := id hs
  have hTs : s.TypeIs (.ref sl) "slice" := ⟨os, hos, hcs⟩
  unfold getItem
  try with_reducible refine wpAny_holding ?_
  first | refine wpAny_bind (wpAny_pure ?_) | skip
  refine wpAny_bind (wpAny_sequenceKey ht.typeIs (by decide) (wpAny_bind (wpAny_callSpecial?_slot (name := Str.ofString "__getitem__") ht.typeIs PyProof.Rows.slot_tuple_getitem
    (wpAny_call_entry PyProof.Rows.slot_tuple_getitem ht.typeIs entry_tuple_getitem ?_ (args_tuple_getitem _ _)))))
  show wpAny _ _ (Builtin.Tuple.tupleItemsOf (.ref t) >>= _) _ _ s
  refine wpAny_bind (tupleItemsOf_ ht (wpAny_bind (wpAny_typeOf hTs ?_)))
  rw [if_pos (by decide)]
  refine wpAny_bind (appliedRev (n := items.size) hs ?_)
  show wpAny _ _ (if ((((items.size : Int) - 1) == 0 && (-1 : Int) == 1 && items.size == items.size) = true) then _ else _) _ _ s
  rw [if_neg (by simp)]
  rw [pickRev]
  first
    | exact wpAny_bind (m := Builtin.Tuple.tupleExact _) (wpAny_newObj_type (wpAny_pure ⟨_, rfl, wpAny_pure h⟩) hso)
    | exact wpAny_bind (m := Builtin.Tuple.tupleExact _) (wpAny_newObj_type (wpAny_bind (wpAny_pure (wpAny_pure ⟨_, rfl, wpAny_pure h⟩))) hso)
    | exact wpAny_bind (wpAny_bind (m := Builtin.Tuple.tupleExact _) (wpAny_newObj_type (wpAny_pure (wpAny_pure ⟨_, rfl, wpAny_pure h⟩)) hso))
    | exact wpAny_bind (wpAny_bind (m := Builtin.Tuple.tupleExact _) (wpAny_newObj_type (wpAny_pure ⟨_, rfl, wpAny_pure h⟩) hso))
end
section
variable {X : Cx}
def tRevT (K : PySem.W.Frag) (te : TE) : TE := fun σ H Q => te σ H fun x H1 => ∃ a xs, x = .ref a ∧ SqT K H1 a xs ∧ ∀ p, H1 p = none → Q (.ref p) (upd H1 p (.tup xs.reverse))
theorem pe_revT {e : Expr} {te : TE} {k : Nat} {p1 p2 p3 pos : Pos} (he : PE X e te) : PE X (.Subscript e (.Slice none none (some (.UnaryOp .USub (.Constant (.int 1) k p1) p2)) p3) pos) (tRevT X.K te) := by
  refine ⟨fun pins s σ H Q I h => Subscript_ (thn (he.run pins s σ H _ I h) fun v s1 ⟨x, H1, I1, r1, q1⟩ => ?_)⟩
  obtain ⟨a, xs, ex, hx, q⟩ := q1
  subst ex
  cases r1
  have hst : PO X (some (.UnaryOp .USub (.Constant (.int 1) k p1) p2)) (tPart (tUn (rU fun i => .int (-i)) (tC (.int 1)))) := po_some (pe_un un_neg pe_int)
  refine wpAny_Slice (thn (po_none.run pins s1 σ H1 (fun o H2 => o = none ∧ H2 = H1) I1 ⟨rfl, rfl⟩) fun vl s2 ⟨l, H2, I2, pl, el, e2⟩ => ?_)
  subst el e2
  refine thn (po_none.run pins s2 σ H2 (fun o H3 => o = none ∧ H3 = H2) I2 ⟨rfl, rfl⟩) fun vu s3 ⟨u, H3, I3, pu, eu, e3⟩ => ?_
  subst eu e3
  refine thn (hst.run pins s3 σ H3 (fun o H4 => o = some (-1) ∧ H4 = H3) I3 ⟨1, rfl, -1, rfl, rfl, rfl⟩) fun vs s4 ⟨o, H4, I4, ps, eo, e4⟩ => ?_
  subst eo e4
  cases pl
  cases pu
  cases ps with
  | int i t =>
    have I5 : Inv X pins σ H4 { s4 with heap := s4.heap.push { cls := .type "slice", data := .fields #[.none, .none, .int (-1) t] } } := I4.kept (t' := s4.toks) fun b ob q => Heap.get?_push_of_some _ q
    obtain ⟨its, r, ht, hz⟩ := I5.tuple hx
    show wpAny (model X.prog X.w) X.A (subscriptTail e (.Slice none none (some (.UnaryOp .USub (.Constant (.int 1) k p1) p2)) p3) (.ref a) (.ref s4.heap.objs.size)) (EP X pins σ Q) X.xe { s4 with heap := s4.heap.push { cls := .type "slice", data := .fields #[.none, .none, .int (-1) t] } }
    refine tail_any (ops := [.ref a, .ref s4.heap.objs.size]) ht.typeIs (PyProof.Rows.slot_tuple_getitem.lookup) ?_ (by with_unfolding_all rfl)
    refine getItemRev ht (Heap.IsSliceOf.new _ _ _ _) ?_ (by rw [List.size_toArray, ← r.length]; exact hz)
    refine ⟨.ref _, _, I5.laid (t' := s4.toks) (o := .tup xs.reverse) (fun b ob q => Heap.get?_push_of_some _ q) (Nat.le_refl _) ?_, rfl, q _ (I5.hok.fresh (Nat.le_refl _))⟩
    refine ⟨by rw [List.length_reverse]; exact hz, _, r.reverse, ?_⟩
    rw [List.toList_toArray]
    exact IsTup.new _ _
/-- o.f as a target -/
def gFld (K : PySem.W.Frag) (to : TE) (f : Str) : TG := fun v σ H Q => to σ H fun x H1 => ∃ a C dx fs, x = .ref a ∧ H1 a = some (.ins C dx fs) ∧ Cls K C ∧ NoAttr K C f ∧ fs.length < 1000 ∧ Q σ (upd H1 a (.ins C dx (putF f v fs)))
theorem pg_fld {o : Expr} {f : Str} {pos : Pos} {to : TE} (ho : PE X o to)
    (ha : ∀ v, assign (.Attribute o f pos) X.env v = (do
      let ov ← holding [v] (eval o X.env)
      standAt pos.atName
      holding [v, ov] (setAttr ov f v)
      release [v, ov] []) := by intro _; rfl) : PG X (.Attribute o f pos) (gFld X.K to f) := by
  refine ⟨fun pins s σ H v u Q I r h => ?_⟩
  rw [ha]
  refine wpAny_bind (wpAny_holding (thn (ho.run pins s σ H _ I h) fun ov s1 ⟨x, H1, I1, r1, q1⟩ => ?_))
  obtain ⟨a, C, dx, fs, rfl, ea, c, n, l, q⟩ := q1
  obtain rfl : ov = Value.ref a := r1
  refine wpAny_bind (wpAny_standAt (wpAny_bind (wpAny_holding (setattr_ok I1 ea c n l r fun s3 I3 => ?_))))
  exact wpAny_release ⟨σ, _, I3, q⟩
end
end K6

set_option Elab.async false
set_option linter.all false
set_option maxRecDepth 100000
set_option maxHeartbeats 4000000
/-! K6RulF: for i, x in enumerate(t), t a tuple -/
namespace K6
open PySem PySem.Spec PyProof.Rows L2
theorem enumB_new {v : Value} {o : Obj} {Hb : Heap → Prop} (B : Begins v o Hb) :
    Meets (Builtin.«enumerate.__new__» ⟨[.type "enumerate", v], []⟩) (fun _ R s => Hb s.heap ∧
      R (.ok (.ret (.ref (s.heap.push o).objs.size))) { s with heap := (s.heap.push o).push { cls := .type "enumerate", data := .fields #[.none, .bool false, .ref s.heap.objs.size, rawInt 0, .none, .none] } }) :=
  .of_wp fun prog w A R s q => by
    obtain ⟨hp, g, d, tk, os⟩ := s
    obtain ⟨qb, q⟩ := q
    have hsub := sub_enumerate
    have itr : ∀ {A2 : Around} {E2 : Value → Shared → Prop} {Q2 : Value → Shared → Prop}, Q2 (.ref hp.objs.size) ⟨(hp.push o), g, d, tk, os⟩ → wpAny (model prog w) A2 (pyIter v) Q2 E2 ⟨hp, g, d, tk, os⟩ :=
      fun q2 => B.iter prog w _ _ ⟨hp, g, d, tk, os⟩ _ (B.keeps _ _ qb fun b o2 e => e) q2
    wp_walk using itr
    refine wpAny_stack_any fun st => wpAny_pure ?_
    split
    · rename_i c _ _ _ _ _
      cases (c == Value.type "enumerate")
      · wp_walk using itr
        exact ⟨_, rfl, q⟩
      · wp_walk using itr
        exact ⟨_, rfl, q⟩
    · wp_walk using itr
      exact ⟨_, rfl, q⟩
section
variable {prog : Program} {w : World} {A : Around} {E : Value → Shared → Prop} {s : Shared}
theorem enumB_call {v : Value} {o : Obj} {Hb : Heap → Prop} {Q : Value → Shared → Prop} (B : Begins v o Hb) (q : Hb s.heap)
    (k : ∀ h2, IsEnum h2 (s.heap.objs.size + 1) s.heap.objs.size 0 .none → h2.get? s.heap.objs.size = some o → h2.objs.size = s.heap.objs.size + 2 →
      (∀ b ob, s.heap.get? b = some ob → h2.get? b = some ob) → Q (.ref (s.heap.objs.size + 1)) { s with heap := h2 }) :
    wpAny (model prog w) A (call (.type "enumerate") [v]) Q E s := by
  refine callType_new F.called_enumerate (by decide) (F.typeCall_enumerate_1 _) (F.newCall_enumerate_1 _) (fun ob => F.args_object_init_2 ob _) F.entry_enumerate_new (enumB_new B) ⟨q, ?_⟩
  have z1 : (s.heap.push o).objs.size = s.heap.objs.size + 1 := Heap.size_push ..
  show _ ∧ _
  rw [z1]
  have en : IsEnum ((s.heap.push o).push { cls := .type "enumerate", data := .fields #[.none, .bool false, .ref s.heap.objs.size, rawInt 0, .none, .none] }) (s.heap.objs.size + 1) s.heap.objs.size 0 .none := by
    have g1 := Heap.get?_push_size (s.heap.push o) (o := { cls := .type "enumerate", data := .fields #[.none, .bool false, .ref s.heap.objs.size, rawInt 0, .none, .none] }) rfl
    rw [z1] at g1
    exact g1
  exact ⟨⟨_, en, rfl⟩, k _ en (Heap.get?_push_of_some _ (Heap.get?_push_size _ B.free)) (by rw [Heap.size_push, z1]) fun b ob e => Heap.get?_push_of_some _ (Heap.get?_push_of_some _ e)⟩
end
/-- the tuple at a, each item in a new pair -/
def IteT (K : PySem.W.Frag) (a : Addr) : It :=
  ⟨fun i H => ∃ (xs : List V) (x : V), SqT K H a xs ∧ xs[i]? = some x,
   fun i H v H2 => ∃ p x, v = .ref p ∧ H p = none ∧ H2 = upd H p (.tup [.int (i : Nat), x]) ∧ ∀ xs, SqT K H a xs → xs[i]? = some x,
   fun i H => ∃ xs : List V, SqT K H a xs ∧ xs.length ≤ i⟩
theorem turn_enumT {P : Program} {w : World} {K : PySem.W.Frag} {elts : List Expr} {kk : Nat} {tpos : Pos} (a e it : Addr) :
    Turn P w K (.Tuple elts kk tpos) (IteT K a) [e, it] e (fun i h => (∃ old, IsEnum h e it ((i : Nat) : Int) old) ∧ h.IsTupleIter it a i ∧ e ≠ it ∧ a ≠ it ∧ a ≠ e) where
  mem := by simp
  obj := fun i h st b hb => by
    obtain ⟨⟨old, he⟩, ⟨o, ho, hc, hd⟩, _⟩ := st
    have z2 : b = e ∨ b = it := by simpa using hb
    rcases z2 with z | z
    · subst z; exact ⟨_, he, fun v q => nomatch q⟩
    · subst z; exact ⟨o, ho, fun v q => by rw [hd] at q; cases q⟩
  keep := fun i h h2 st k => by
    obtain ⟨⟨old, he⟩, hi, ne⟩ := st
    exact ⟨⟨old, k e (by simp) _ he⟩, hi.at fun o q => k it (by simp) o q, ne⟩
  item := by
    intro X hP hw hK hc i pins s σ H E I hf st go
    subst hP hw hK
    obtain ⟨⟨old, he⟩, hit, n1, n2, n3⟩ := st
    obtain ⟨xs, x, hq, hx⟩ := go
    obtain ⟨its, rv, p, hz⟩ := I.tuple hq
    obtain ⟨u, hu, ru⟩ := rv.get hx
    have hel : e < s.heap.objs.size := Heap.lt_size he
    have hil : it < s.heap.objs.size := by obtain ⟨_, q, _⟩ := hit; exact Heap.lt_size q
    have lt : i < its.toArray.size := by
      obtain ⟨l, _⟩ := List.getElem?_eq_some_iff.mp hu
      simpa using l
    refine wpAny_pyNext_enum_itemD (Draws.tuple (prog := X.prog) (w := X.w) (A := X.A.in1) (I.ok.hd hc) it a n2 its.toArray) he ⟨hit, p⟩ lt n1 (by simp [n1, Ne.symm n3]) fun y h2 tk hy ho hst hT hsz hk => ?_
    have ey : y = u := by
      have q1 : its[i]? = some y := by simpa using hy
      rw [hu] at q1
      exact (Option.some.inj q1).symm
    subst ey
    refine ⟨_, rfl, wpAny_letOwnedTupleGo_enum (s := { s with heap := h2, toks := tk + 1 }) ho fun h3 he3 sb => ?_⟩
    have hT2 : h3.get? s.heap.objs.size = some { cls := .type "tuple", data := .seq #[.int i tk, y] } := (sb.2 _ (Nat.ne_of_gt hel)).trans hT
    have nw : ObjOk X.prog X.w (upd H s.heap.objs.size (.tup [.int (i : Nat), x])) h3 s.heap.objs.size (.tup [.int (i : Nat), x]) :=
      ⟨by show 2 ≤ sizeLine; decide, [.int i tk, y], .cons ⟨_, rfl⟩ (.cons ru .nil), ⟨_, hT2, rfl, _, rfl⟩⟩
    have I1 : Inv X pins σ (upd H s.heap.objs.size (.tup [.int (i : Nat), x])) { s with heap := h3, toks := tk + 1 } :=
      I.turnedNew (ch := [e, it]) (fun b ob hb q => (sb.2 b (fun z => hb (by simp [z]))).trans (hk b ob (fun z => hb (by simp [z])) (fun z => hb (by simp [z])) q)) hf (Nat.le_refl _) nw
    refine ⟨.ref s.heap.objs.size, _, I1, rfl, ⟨_, x, rfl, I.hok.fresh (Nat.le_refl _), rfl, fun ys hy2 => by rw [I.tuple_inj hy2 hq]; exact hx⟩, ⟨⟨y, ?_⟩, hst.1.at fun o q => (sb.2 it (Ne.symm n1)).trans q, n1, n2, n3⟩, fun b hb => ?_⟩
    · have e1 : ((i + 1 : Nat) : Int) = (i : Int) + 1 := by omega
      rw [e1]; exact he3
    · have lb : b < s.heap.objs.size := by
        have z2 : b = e ∨ b = it := by simpa using hb
        rcases z2 with z | z
        · subst z; exact hel
        · subst z; exact hil
      rw [upd_ne (Nat.ne_of_lt lb)]
      exact (hf b hb).1
  done := by
    intro X hP hw hK hc i pins s σ H E I hf st go
    subst hP hw hK
    obtain ⟨⟨old, he⟩, hit, n1, n2, n3⟩ := st
    obtain ⟨xs, hq, hx⟩ := go
    obtain ⟨its, rv, p, hz⟩ := I.tuple hq
    obtain ⟨f0, f1, f2, f3, f4, f5⟩ := hf it (by simp)
    have hl := rv.length
    have hT : s.TypeIs (.ref e) "enumerate" := ⟨_, he, rfl⟩
    unfold pyNext
    refine wpAny_bind (wpAny_attempt (wpAny_callSpecial?_slot (name := Str.ofString "__next__") hT F.slot_enumerate_next
      (wpAny_call_entry F.slot_enumerate_next hT F.entry_enumerate_next ?_ (F.args_enumerate_next_1 _))))
    show wpAny _ _ (field (.ref e) 2 >>= _) _ _ _
    refine wpAny_bind (wpAny_field he rfl (x := .ref it) rfl ?_)
    refine wpAny_bind (wpAny_nextOf_tuple_end (I.ok.hd hc) hit p (by simp; omega) fun h2 x hx2 ho => ?_)
    obtain ⟨o, ho, hc2⟩ := ho
    refine wpAny_bind (wpAny_isInstance (T := "StopIteration") (b := true) ⟨o, ho, hc2⟩ isSubtype_stop ?_)
    exact wpAny_pure ⟨rfl, I.turned (t' := s.toks) (fun b o hb q => hx2 b o hb q) f0 f1 f3 f4 f5⟩
  self := fun A i s Q E st h => let ⟨⟨_, he⟩, _⟩ := st; wpAny_pyIter_enum he h
def iEnumT (K : PySem.W.Frag) (ta : TA) : TI := fun σ H R => ta σ H fun vs H1 => ∃ a xs, vs = [.ref a] ∧ SqT K H1 a xs ∧ R (IteT K a) H1
theorem pi_enumT {X : Cx} {e : Expr} {ta : TA} {p pos tpos : Pos} {elts : List Expr} {kk : Nat} (hg : Gl X "enumerate") (hm : X.mg "enumerate" = none) (ha : PA X [e] ta) (hs : starEach [e] X.env = [(false, eval e X.env)] := by rfl) :
    PI X (.Tuple elts kk tpos) (.Call (.Name "enumerate" p) [e] [] pos) (iEnumT X.K ta) := by
  refine ⟨fun pins s σ H R I h => ?_⟩
  refine Call_ (ld_blt I hg hm boot_enumerate (PyProof.Rows.callWith_type1 (thn (ha.run pos pins s σ H _ I h) fun us s1 ⟨vs, H1, I1, r1, q1⟩ => ?_) hs rfl))
  obtain ⟨a, xs, ex, hq, q⟩ := q1
  subst ex
  rw [Vals.ref1 r1]
  obtain ⟨its, rv, p2, hz⟩ := I1.tuple hq
  refine enumB_call (begins_tuple a its.toArray) p2 fun h2 he h0 hsz hk => wpAny_pyIter_enum he ?_
  have I2 : Inv X pins σ H1 { s1 with heap := h2 } := I1.kept (t' := s1.toks) hk
  have al : a < s1.heap.objs.size := by obtain ⟨o, q2, _⟩ := p2; exact Heap.lt_size q2
  refine ⟨s1.heap.objs.size + 1, [s1.heap.objs.size + 1, s1.heap.objs.size], _, _, H1, rfl, I2, turn_enumT a (s1.heap.objs.size + 1) s1.heap.objs.size,
    ⟨⟨.none, he⟩, ⟨_, h0, rfl, rfl⟩, Nat.succ_ne_self _, Nat.ne_of_lt al, Nat.ne_of_lt (Nat.lt_succ_of_lt al)⟩, fun b hb => ?_, q⟩
  have z2 : b = s1.heap.objs.size + 1 ∨ b = s1.heap.objs.size := by simpa using hb
  have hle : s1.heap.objs.size ≤ b := by
    rcases z2 with z | z
    · rw [z]; exact Nat.le_add_right _ _
    · rw [z]; exact Nat.le_refl _
  exact I1.fpOk hle (I1.hok.fresh hle)
/-! ### the forms one uses -/
/-- the pair is a new tuple at p -/
theorem for_enumT {K : PySem.W.Frag} {a : Addr} {xs : List V} {g : TG} {tb : TS} {D : Ends} {σ : L2.St} {H : Hp} (Pv : Nat → L2.St → Hp → Prop) (h0 : Pv 0 σ H) (hl : ∀ i σ H, i ≤ xs.length → Pv i σ H → SqT K H a xs)
    (hs : ∀ i x σ H p, xs[i]? = some x → Pv i σ H → H p = none → g (.ref p) σ (upd H p (.tup [.int (i : Nat), x])) fun σ2 H2 => tb { D with nx := Pv (i + 1), ct := Pv (i + 1), bk := D.nx } σ2 H2) (hd : ∀ σ H, Pv xs.length σ H → D.nx σ H) :
    ∃ W : Nat → Nat → L2.St → Hp → Prop, (∃ m, W 0 m σ H) ∧ ∀ i m σ H, W i m σ H →
      ((IteT K a).stop i H ∧ D.nx σ H) ∨ ((IteT K a).go i H ∧ ∃ N : L2.St → Hp → Prop, (∀ σ' H', N σ' H' → ∃ m', m' < m ∧ W (i + 1) m' σ' H') ∧ ∀ x H', (IteT K a).yld i H x H' → g x σ H' fun σ2 H2 => tb { D with nx := N, ct := N, bk := D.nx } σ2 H2) := by
  refine ⟨fun i m σ H => m = xs.length - i ∧ i ≤ xs.length ∧ Pv i σ H, ⟨xs.length, by simp, Nat.zero_le _, h0⟩, ?_⟩
  rintro i m σ H ⟨rfl, hi, p⟩
  have q := hl i σ H hi p
  by_cases hlt : i < xs.length
  · refine .inr ⟨⟨xs, xs[i], q, by simp [hlt]⟩, Pv (i + 1), fun σ' H' p' => ⟨xs.length - (i + 1), by omega, rfl, hlt, p'⟩, fun x H' y => ?_⟩
    obtain ⟨p2, x2, e1, e2, e3, y⟩ := y
    subst e1 e3
    exact hs i x2 σ _ p2 (y xs q) p e2
  · have e : i = xs.length := by omega
    subst e
    exact .inl ⟨⟨xs, q, Nat.le_refl _⟩, hd σ H p⟩
theorem lc_enumT {K : PySem.W.Frag} {a : Addr} {xs : List V} {g : TG} {tt : TT} {te : TE} {vs : List Nat} {σ : L2.St} {H1 : Hp} {D : Addr} {Qd : Hp → Prop} (Pv : Nat → Hp → Prop) (h0 : Pv 0 (upd H1 D (.lst []))) (hl : ∀ i H, i ≤ xs.length → Pv i H → SqT K H a xs)
    (hs : ∀ i x H p, xs[i]? = some x → Pv i H → H p = none → g (.ref p) (wipe σ vs) (upd H p (.tup [.int (i : Nat), x])) fun σ2 H2 => wipe σ2 vs = wipe σ vs ∧ tt σ2 H2 fun b H3 =>
      if b = true then te σ2 H3 fun y H4 => ∃ acc, H4 D = some (.lst acc) ∧ acc.length < sizeLine ∧ Pv (i + 1) (upd H4 D (.lst (acc ++ [y]))) else Pv (i + 1) H3) (hd : ∀ H, Pv xs.length H → Qd H) :
    ∃ W : Nat → Nat → Hp → Prop, (∃ m, W 0 m (upd H1 D (.lst []))) ∧ ∀ i m H, W i m H →
      ((IteT K a).stop i H ∧ Qd H) ∨ ((IteT K a).go i H ∧ ∃ Nx : Hp → Prop, (∀ H', Nx H' → ∃ m', m' < m ∧ W (i + 1) m' H') ∧ ∀ x H', (IteT K a).yld i H x H' → g x (wipe σ vs) H' fun σ2 H2 => wipe σ2 vs = wipe σ vs ∧ tt σ2 H2 fun b H3 =>
        if b = true then te σ2 H3 fun y H4 => ∃ acc, H4 D = some (.lst acc) ∧ acc.length < sizeLine ∧ Nx (upd H4 D (.lst (acc ++ [y]))) else Nx H3) := by
  refine ⟨fun i m H => m = xs.length - i ∧ i ≤ xs.length ∧ Pv i H, ⟨xs.length, by simp, Nat.zero_le _, h0⟩, ?_⟩
  rintro i m H ⟨rfl, hi, p⟩
  have q := hl i H hi p
  by_cases hlt : i < xs.length
  · refine .inr ⟨⟨xs, xs[i], q, by simp [hlt]⟩, Pv (i + 1), fun H' p' => ⟨xs.length - (i + 1), by omega, rfl, hlt, p'⟩, fun x H' y => ?_⟩
    obtain ⟨p2, x2, e1, e2, e3, y⟩ := y
    subst e1 e3
    exact hs i x2 _ p2 (y xs q) p e2
  · have e : i = xs.length := by omega
    subst e
    exact .inl ⟨⟨xs, q, Nat.le_refl _⟩, hd H p⟩
end K6

set_option Elab.async false
set_option linter.all false
set_option maxRecDepth 100000
set_option maxHeartbeats 4000000
/-! K6RulG: t * k with k 0 or 1 too; D.get(x) of a dict that the top wrote; e.replace in an if whose test writes a text; str(int or text) -/
namespace K6
open PySem PySem.Spec PyProof.Rows L2
theorem tuple_mul0 (l : Addr) (items : Array Value) (n : Nat) (dd : Option Addr) (sl : Array (Option Value)) (u : Tok) (ne : items.isEmpty = false) :
    Meets (Builtin.«tuple.__mul__» ⟨[.ref l, .int 0 u], []⟩) (fun _ R s => s.heap.get? l = some { cls := .type "tuple", dict := dd, data := .seq items n, slots := sl } ∧
      R (.ok (.ret (Value.ref s.heap.objs.size))) { s with heap := s.heap.push { cls := Value.type "tuple", data := Data.seq #[] }, toks := s.toks }) :=
  .of_wp fun prog w A R s h => by
    obtain ⟨hp, g, d, tk, os⟩ := s
    obtain ⟨hl, h⟩ := h
    have f1 := AutoSeq1.idx_int
    have c1 : (items.isEmpty || (0 : Int) == 1) = false := by rw [ne]; rfl
    have c2 : (decide ((0 : Int) ≤ 0) || items.isEmpty) = true := by rw [ne]; rfl
    have hsz : (#[] : Array Value).size ≤ sizeLine := Nat.zero_le _
    wp_walk using wpAny_loadPart' hl
    repeat (first
      | (refine wpAny_ite_false (decide_eq_false (by rw [c1]; exact Bool.false_ne_true)) ?_; wp_walk using wpAny_loadPart' hl)
      | (refine wpAny_ite_true (decide_eq_true (by rw [c2])) ?_; wp_walk using wpAny_loadPart' hl)
      | (refine wpAny_ite_false (decide_eq_false (Nat.not_lt.mpr hsz)) ?_; wp_walk using wpAny_loadPart' hl))
    exact ⟨_, rfl, h⟩
theorem tuple_mul1 (l : Addr) (items : Array Value) (n : Nat) (sl : Array (Option Value)) (dd : Option Addr) (u : Tok) :
    Meets (Builtin.«tuple.__mul__» ⟨[.ref l, .int 1 u], []⟩) (fun _ R s => s.heap.get? l = some { cls := .type "tuple", dict := dd, data := .seq items n, slots := sl } ∧
      R (.ok (.ret (Value.ref l))) s) :=
  .of_wp fun prog w A R s h => by
    obtain ⟨hp, g, d, tk, os⟩ := s
    obtain ⟨hl, h⟩ := h
    have f1 := AutoSeq1.idx_int
    have c1 : (items.isEmpty || (1 : Int) == 1) = true := by cases items.isEmpty <;> rfl
    wp_walk using wpAny_loadPart' hl
    repeat (first
      | (refine wpAny_ite_true (decide_eq_true (by rw [c1])) ?_; wp_walk using wpAny_loadPart' hl))
    exact ⟨_, rfl, h⟩
def rRepTA (K : PySem.W.Frag) : R2 := fun x y H Q => ∃ l xs, ∃ k : Nat, x = .ref l ∧ y = .int k ∧ SqT K H l xs ∧ xs ≠ [] ∧ k ≤ 1000 ∧ xs.length ≤ 1000 ∧
  if k = 1 then Q (.ref l) H else ∀ p, H p = none → Q (.ref p) (upd H p (.tup (List.replicate k xs).flatten))
section
variable {X : Cx}
theorem op_repTA : OpR X (binaryOp .Mult) (rRepTA X.K) := by
  intro pins s σ H x y v u Q I rx ry h
  obtain ⟨l, xs, k, rfl, rfl, hT, hne, h2, hz, q⟩ := h
  by_cases hk : 2 ≤ k
  · rw [if_neg (by omega)] at q
    exact op_repT pins s σ H _ _ v u Q I rx ry ⟨l, k, xs, rfl, rfl, hT, hne, by omega, by omega, hz, by rw [Int.toNat_natCast]; exact q⟩
  · cases rx
    obtain ⟨t, rfl⟩ := ry
    obtain ⟨its, r, ⟨⟨cls, dd, data, sl⟩, ho, hc, n, hd⟩, hs⟩ := I.tuple hT
    simp only at hc hd
    subst hc hd
    have hle : its.length = xs.length := r.length.symm
    have hi : its.toArray.isEmpty = false := by
      cases its with
      | nil => exact absurd (List.eq_nil_of_length_eq_zero hle.symm) hne
      | cons a b => rfl
    by_cases hk1 : k = 1
    · subst hk1
      rw [if_pos rfl] at q
      exact wpAny_binaryOp_repeat_ref (T := "tuple") (U := "int") (by decide) ⟨_, ho, rfl⟩ (fun s' => typeIs_int s' _ t) noFill_tuple_mul F.fills_int_mul F.slot_int_rmul repeat_tuple F.slot_int_index.lookup
        (call_meets F.slot_int_rmul (typeIs_int s _ t) F.entry_int_rmul (F.args_int_rmul_2 _ _) (int_rmul_tuple _ t l its.toArray n dd sl)
          ⟨ho, rfl, ⟨_, ho, rfl⟩, call_meets F.slot_tuple_mul ⟨_, ho, rfl⟩ F.entry_tuple_mul (F.args_tuple_mul_2 _ _) (tuple_mul1 l its.toArray n sl dd t) ⟨ho, ⟨.ref l, H, I, rfl, q⟩⟩⟩)
    · have hk0 : k = 0 := by omega
      subst hk0
      rw [if_neg (by omega)] at q
      refine wpAny_binaryOp_repeat_ref (T := "tuple") (U := "int") (by decide) ⟨_, ho, rfl⟩ (fun s' => typeIs_int s' _ t) noFill_tuple_mul F.fills_int_mul F.slot_int_rmul repeat_tuple F.slot_int_index.lookup
        (call_meets F.slot_int_rmul (typeIs_int s _ t) F.entry_int_rmul (F.args_int_rmul_2 _ _) (int_rmul_tuple _ t l its.toArray n dd sl)
          ⟨ho, rfl, ⟨_, ho, rfl⟩, call_meets F.slot_tuple_mul ⟨_, ho, rfl⟩ F.entry_tuple_mul (F.args_tuple_mul_2 _ _) (tuple_mul0 l its.toArray n dd sl t hi) ⟨ho, ?_⟩⟩)
      have nf := I.hok.fresh (Nat.le_refl s.heap.objs.size)
      refine ⟨.ref s.heap.objs.size, _, I.laid (t' := s.toks) (o := .tup (List.replicate 0 xs).flatten) (fun b o e => Heap.get?_push_of_some _ e) (Nat.le_refl _) ?_, rfl, q _ nf⟩
      exact ⟨Nat.zero_le _, [], .nil, IsTup.new _ _⟩

/-! ### D.get(x) -/
def tKGet (K : PySem.W.Frag) (w : World) (td ty : TE) : TE := fun σ H Q => td σ H fun x H1 => ∃ p es n, x = .ref p ∧ K.lookup p = some ⟨.type "dict", none, .dict es n, #[]⟩ ∧ PySem.W.KeysLit w.params es.toList ∧ (p == sysModules) = false ∧
  ty σ H1 fun y H2 => ∃ z u v, y = .str z ∧ PySem.W.nsIn K p z = some (some u) ∧ RelV v u ∧ Q v H2
theorem pe_kget {o e : Expr} {apos cpos : Pos} {td ty : TE} (ho : PE X o td) (he : PE X e ty) (m : M1 X o "get" apos e cpos) : PE X (.Call (.Attribute o "get" apos) [e] [] cpos) (tKGet X.K X.w td ty) := by
  refine ⟨fun pins s σ H Q I h => ?_⟩
  refine wpAny_Call_method m.base m.few m.line PySem.F.plainAttrs_dict PySem.F.slot_dict_get PySem.F.type_dict_get (thn (ho.run pins s σ H _ I h) fun u s1 ⟨x, H1, I1, rx, p, es, n, ex, hl, hk, hsm, q1⟩ => ?_)
  subst ex
  obtain rfl : u = Value.ref p := rx
  have hm := PySem.W.mapOf_K (prog := X.prog) (w := X.w) I1.kIn hl hk
  refine ⟨hm.typeIs, hm.noDict, ?_⟩
  rw [m.trees]
  refine Calls.callWith_builtin rfl (Calls.evalArgs_plain (Calls.spliced_cons (thn (he.run pins s1 σ H1 _ I1 q1) fun iv s2 ⟨y, H2, I2, ry, z, u0, v0, ey, hn, rv, q2⟩ => Calls.spliced_nil ?_)))
  subst ey
  obtain ⟨t, rfl⟩ := ry
  have hm2 := PySem.W.mapOf_K (prog := X.prog) (w := X.w) I2.kIn hl hk
  refine call_meetsIn PySem.F.slot_dict_get hm2.typeIs PySem.F.entry_dict_get (PySem.F.args_dict_get_2 _ _) (meets_dict_get (strKind X.prog X.w) p (strKind_is X.prog X.w z t) hsm) ⟨_, hm2, ?_⟩
  rw [PySem.W.find_K hl hn]
  exact ⟨v0, H2, I2.tok _, rv, q2⟩

/-! ### a text is written, then e.replace(..) -/
theorem ps_ifTok {a : Expr} {body other : List Stmt} {ta : TE} {t u : TS} {c : Str} {j : Nat} {cp pos p2 : Pos} (ha : PE X a ta) (hb : PSsT X body t) (ho : PSs X other u) :
    PS X (.If (.Compare a [.Eq] [.Constant (.str c) j cp] p2) body other pos) (tIfS (tTest (tOp rEq ta (tC (.str c)))) t u) := by
  refine ⟨fun pins s σ H D I h => ?_⟩
  refine wpAny_If (wpAny_isTrue_Compare1 (thn (ha.run pins s σ H _ I h) fun v s1 ⟨x, H1, I1, r1, q1⟩ => ?_) (nomark _))
  refine Calls.Constant_str ?_
  have I2 : Inv X pins σ H1 { s1 with toks := s1.toks + 1 } := I1.tok _
  refine wpAny_mono (PySem.wpAny_toks (op_eq pins _ σ H1 x (.str c) v (.str c s1.toks) (fun z H3 => ∃ k, z = .bl k ∧ (if k = true then t D σ H3 else u D σ H3)) I2 r1 ⟨_, rfl⟩ q1)) (fun z s3 q => ?_) fun _ _ z => z.2
  obtain ⟨hk, z2, H3, I3, r3, k, e, q3⟩ := q
  subst e
  cases r3
  refine wpAny_truthy_bool ?_
  cases k with
  | true => exact hb pins s3 σ H3 D (Nat.le_trans (Nat.le_add_left 1 s1.toks) hk) I3 q3
  | false => exact ho.run pins s3 σ H3 D I3 q3
/-- g = f(e), e wants a token -/
theorem pst_asgC {k j : Nat} {x : Str} {sp : Sp} {dvs : List V} {p cpos pos : Pos} {tg e : Expr} {te : TE} {g : TG} (c : C8.Cal X.prog X.w X.K X.mg X.base k x sp dvs) (hr : Room j X.A) (hk : k ≤ j) (hgl : Gl X x) (he : L2.PET X e te) (hg : PG X tg g)
    (hdb : (x == ("__debug__" : Str)) = false := by decide) (hst : starEach [e] X.env = (false, eval e X.env) :: starEach [] X.env := by rfl)
    (hs : swapsWithSole [tg] (.Call (.Name x p) [e] [] cpos) pos.line X.env = pure false := by rfl) (hw : swappedStores [tg] (.Call (.Name x p) [e] [] cpos) X.env = pure none := by rfl)
    (h1 : (assignEach [tg] X.env).map (·.2) = [assign tg X.env] := by rfl) :
    PST X (.Assign [tg] (.Call (.Name x p) [e] [] cpos) pos) (tAsg (tCall sp dvs C8.E0 (tCons te tNil)) g) := by
  intro pins s σ H D h0 I h
  obtain ⟨f, fd, ps, ds, F, hm, kp, b, d⟩ := c.ex
  refine wpAny_Assign_stores (wpAny_mono (show wpAny _ _ _ (EP X pins σ (fun x H1 => g x σ H1 D.nx)) X.xe s from ?_) (fun v s1 q => ?_) fun _ _ z => z) hs hw
  · refine wpAny_Call_Name_kw (ld_glob I hgl hm ?_ hdb)
    refine PySem.W.callWith_K (h₀ := X.base) I.ok.mod.kin kp ?_ hst (by rfl)
    refine thn ((pat_cons he pat_nil hst) cpos pins s σ H (fun vs H1 => sp (vs ++ dvs) H1 (fun x H2 => g x σ H2 D.nx) C8.E0) h0 I h) fun us s1 ⟨vs, H1, I1, r1, q1⟩ => ⟨I1.kIn, ?_⟩
    exact run_fn F (hr.mono hk) b d C8.pass0 I1 r1 q1
  · obtain ⟨y, H1, I1, r1, q1⟩ := q
    rw [h1]
    exact thn (hg.run pins s1 σ H1 y v _ I1 r1 q1) fun _ s2 q => q
/-- str(x): x an int or a text -/
def rStrA : List V → Hp → VK → Prop := fun xs H Q => (∃ i : Int, xs = [.int i] ∧ i.natAbs.log2 < 1920 ∧ Q (.str (toString i)) H) ∨ ∃ a, xs = [.str a] ∧ Q (.str a) H
theorem call_strA : CallR X (.type "str") rStrA := CallR.or call_str_int SkE.call_str_str
end
end K6

set_option Elab.async false
set_option linter.all false
set_option maxRecDepth 100000
set_option maxHeartbeats 4000000
/-! K6RulH: sorted(range(len(t)), key=lambda i: t[i]), t a tuple of ints -/
namespace K6
open PySem PySem.Spec PyProof.Rows L2 LamX
section
variable {P : Program} {w : World} {A : Around} {s : Shared}
/-- the lambda called with a place -/
theorem lam_key {f c' cR a : Addr} {qual x y : Str} {params : Arguments} {p1 p2 p3 : Pos} {sc : Scope} {clos : List (Str × Addr)} {pm ctv : Value} {items : List Value} {i : Nat} {k : Int} {u t : Tok}
    (ho : s.heap.get? f = some (PySem.W.kla_obj "<lambda>" qual params (.Subscript (.Name x p1) (.Name y p2) p3) sc clos pm c' ctv))
    (hc : ∃ (oc : Obj) (vs : Array Value) (t : Tok), s.heap.get? c' = some oc ∧ oc.data = .fields vs ∧ vs[1]? = some (.str qual t))
    (hclo : clos.lookup x = some cR) (hcell : s.heap.IsCell cR (some (.ref a))) (ht : IsTup s.heap a items.toArray) (hi : items[i]? = some (.int k t)) (hsmall : (i : Int) < 2 ^ 63)
    (lim : s.heap.NoLimit) (hroom : A.depth < recursionLimit)
    (hbind : ∀ v, bindArgs (PySem.W.kla_fn "<lambda>" qual params (.Subscript (.Name x p1) (.Name y p2) p3) sc clos pm (.ref c') ctv) ⟨[v], []⟩ = pure [(y, v)])
    (hk : sc.kind = .function) (hco : sc.isCoroutine = false) (hgen : sc.isGenerator = false) (hx : sc.names.lookup x = some .free) (hy : sc.names.lookup y = some .local) (hcl : ∀ z ∈ sc.names, z.2 ≠ .cell)
    (d1 : (x == ("__debug__" : Str)) = false) (d2 : (x == ("__classdict__" : Str)) = false) (d3 : (y == ("__debug__" : Str)) = false) :
    wpAny (model P w) A (call (.ref f) [.int (i : Nat) u]) (PySem.W.KeyPure (.int k) s) (fun _ _ => False) s := by
  obtain ⟨oc, vs, t', hoc, hdc, hvc⟩ := hc
  refine wpAny_call (PySem.W.kla_callFunE hroom ho rfl hco hgen rfl ⟨c', oc, vs, t', rfl, hoc, hdc, hvc⟩ ?_)
  rw [hbind]
  refine wpAny_pure (wpAny_newFunctionEnv hcl (fun z hz => by
    have e : z = (y, Value.int (i : Nat) u) := by simpa using hz
    rw [e]
    exact hy) (fun h1 hns hsb => ⟨lim.fresh _ hsb, ?_⟩) hk)
  have kp : ∀ b o, s.heap.get? b = some o → h1.get? b = some o := fun b o e => hsb.extBut b o (Nat.ne_of_lt (Heap.lt_size e)) (Heap.get?_push_of_some _ e)
  refine PySem.W.kla_codeExpr ?_
  refine Subscript_ (wpAny_Name (wpAny_loadName_free hk hx hclo (hcell.keeps kp) ?_ d2) d1)
  refine wpAny_Name (wpAny_loadName_local (v := .int (i : Nat) u) hk hy hns (by show List.lookup y [(y, Value.int (i : Nat) u)] = _; simp) ?_) d3
  have hlt : i < items.length := (List.getElem?_eq_some_iff.mp hi).1
  have ht1 : IsTup h1 a items.toArray := by
    obtain ⟨o, e1, e2, n, e3⟩ := ht
    exact ⟨o, kp _ _ e1, e2, n, e3⟩
  refine item_tupleT (j := i) ht1 (by omega) hsmall ?_ hi ?_ (by with_unfolding_all rfl)
  · unfold seqIndex?
    rw [if_neg (by omega : ¬ ((i : Nat) : Int) < 0)]
    have e1 : (decide (0 ≤ ((i : Nat) : Int)) && decide (((i : Nat) : Int) < ((items.length : Nat) : Int))) = true := by
      rw [decide_eq_true (by omega), decide_eq_true (by omega)]
      rfl
    show (if (decide (0 ≤ ((i : Nat) : Int)) && decide (((i : Nat) : Int) < ((items.length : Nat) : Int))) = true then some ((i : Nat) : Int).toNat else none) = some i
    rw [e1, if_pos rfl, Int.toNat_natCast]
  · exact ⟨_, _, rfl, kp, Reads.int _ _⟩
end
/-- the places of t in the order of its items -/
def ordI (ns : List Int) : List Nat := (List.range ns.length).mergeSort (PySem.W.dataLe false fun i => PyData.int (ns.getD i 0))
theorem ordI_perm (ns : List Int) : (ordI ns).Perm (List.range ns.length) := List.mergeSort_perm _ _
theorem vals_of_each : ∀ {out : List Value} {bs : List Nat}, PySem.W.EachIs (fun v (i : Nat) => ∃ t, v = .int (i : Nat) t) out bs → Vals (bs.map fun (i : Nat) => V.int (i : Nat)) out
  | _, _, .nil => .nil
  | _, _, .cons h r => .cons h (vals_of_each r)
theorem each_of_items : ∀ {vs : List Value} {n j : Nat}, vs.length = n → (∀ i v, vs[i]? = some v → ∃ t, v = Value.int ((j + i : Nat) : Int) t) → PySem.W.EachIs (fun v (i : Nat) => ∃ t, v = Value.int (i : Nat) t) vs (List.range' j n)
  | [], n, j, e, _ => by
    subst e
    exact .nil
  | v :: r, n, j, e, h => by
    subst e
    rw [List.length_cons, List.range'_succ]
    refine .cons (h 0 v rfl) (each_of_items rfl fun i z q => ?_)
    obtain ⟨t, e⟩ := h (i + 1) z (by simpa using q)
    exact ⟨t, by rw [e, show j + 1 + i = j + (i + 1) by omega]⟩
def tSortLam (K : PySem.W.Frag) (T : List (Addr × Str)) (i : Nat) : TE := fun σ H Q => ∃ (a : Addr) (ns : List Int), σ[i]? = some (some (.ref a)) ∧ H a = some (.tup (ns.map V.int)) ∧ ns.length ≤ 1000 ∧ Tabs T H ∧
  ∀ H1 p, ExtN H H1 → Tabs T H1 → H1 p = none → Q (.ref p) (upd H1 p (.lst ((ordI ns).map fun (i : Nat) => V.int (i : Nat))))
section
variable {X : Cx}
/-- range(e), the new object told as new -/
theorem prgF {a : Expr} {ta : TE} {p pos : Pos} (hg : Gl X "range") (hm : X.mg "range" = none) (ha : PE X a ta) {pins : List (Addr × Obj)} {s : Shared} {σ : L2.St} {H : Hp} {R : Int → Hp → Prop} (I : Inv X pins σ H s) (h : ta σ H fun x H1 => ∃ n, x = .int n ∧ R n H1)
    (na : starEach [a] X.env = (false, eval a X.env) :: starEach [] X.env := by rfl) :
    wpAny (model X.prog X.w) X.A (eval (.Call (.Name "range" p) [a] [] pos) X.env) (fun x s' => ∃ r n t u v H', x = .ref r ∧ IsRange s'.heap r 0 n 1 t u v ∧ Inv X pins σ H' s' ∧ FpOk X pins H' r ∧ R n H') X.xe s := by
  refine Call_ (ld_blt I hg hm boot_range (PyProof.Rows.callWith_type1 (one_arg ha I h (fun v s2 x H2 I2 r q => ?_) na) na))
  obtain ⟨n, rfl, q⟩ := q
  obtain ⟨t, rfl⟩ := r
  exact call_range_1 ⟨_, n, _, _, _, H2, rfl, IsRange.new _ _ _ _ _ _ _, I2.kept fun b u e => Heap.get?_push_of_some _ e, I2.fpOk (Nat.le_refl _) (I2.hok.fresh (Nat.le_refl _)), q⟩
theorem ksort_args (v f : Value) : argsOk "sorted" ⟨[v], [(Str.ofString "key", f)]⟩ := by unfold argsOk; kernel_rfl
theorem ksort_args2 (v f : Value) : argsOk "list.sort" ⟨[v], [(Str.ofString "key", f)]⟩ := by unfold argsOk; kernel_rfl
theorem pe_sortLam {T : List (Addr × Str)} {c P : Addr} {i : Nat} {x y : Str} {params : Arguments} {scope : Scope} {p0 p1 p2 p3 p4 p5 p6 p7 p8 lpos kpos : Pos} {j : Nat}
    (hc : X.calm = true) (hr : Room (j + 2) X.A) (gS : Gl X "sorted") (mS : X.mg "sorted" = none) (gR : Gl X "range") (mR : X.mg "range" = none) (gL : Gl X "len") (mL : X.mg "len" = none)
    (hN : X.N[i]? = some x) (hcellX : X.env.scope.names.lookup x = some .cell)
    (TB : TabB X.base X.mg c P) (hcode : X.env.code = .ref c) (hmT : (P, X.env.qual ++ "<lambda>") ∈ T) (hu : ∀ p ∈ T, p.1 = P → p.2 = X.env.qual ++ "<lambda>")
    (hdef : defaultsOf params X.env = ([], [])) (hnames : scope.names = [(y, .local), (x, .free)]) (hxy : x ≠ y) (hkd : scope.kind = .function) (hco : scope.isCoroutine = false) (hgen : scope.isGenerator = false)
    (hbind : ∀ (q : Str) (cl : List (Str × Addr)) (pm cv ctv : Value) v, bindArgs (PySem.W.kla_fn "<lambda>" q params (.Subscript (.Name x p1) (.Name y p2) p3) scope cl pm cv ctv) ⟨[v], []⟩ = pure [(y, v)])
    (d1 : (x == ("__debug__" : Str)) = false := by decide) (d2 : (x == ("__classdict__" : Str)) = false := by decide) (d3 : (y == ("__debug__" : Str)) = false := by decide) :
    PE X (.Call (.Name "sorted" p0) [.Call (.Name "range" p4) [.Call (.Name "len" p5) [.Name x p6] [] p7] [] p8] [⟨some "key", .Lambda params (.Subscript (.Name x p1) (.Name y p2) p3) scope lpos, kpos⟩] pos) (tSortLam X.K T i) := by
  refine ⟨fun pins s σ H Q I h => ?_⟩
  obtain ⟨a, ns, hσ, hs, hz, hT, q⟩ := h
  refine wpAny_Call_Name_kw (ld_blt (u := .builtin "sorted") I gS mS (by decide +kernel) ?_ (by decide) (by decide))
  refine PyProof.Rows.callWith_kw ?_ (by rfl) (by rfl) (by rfl) (by rfl)
  have hlen : PE X (.Call (.Name "len" p5) [.Name x p6] [] p7) _ := pe_callB call_len_seq gL mL PySem.boot_len (pa_cons (pe_var hN (.inr (.inl hcellX)) d1 d2) pa_nil)
  refine args_cons (thn (prgF (R := fun n H' => n = ((ns.map V.int).length : Nat) ∧ H' = H) gR mR hlen I ⟨_, hσ, _, _, rfl, .inr (SqT.of hs), _, rfl, rfl, rfl⟩) fun rv s1 hr1 => args_nil ?_) (by rfl)
  obtain ⟨r, n, t0, u0, v0, H1, er, hR, I0, fpr, e1, e2⟩ := hr1
  subst er e1 e2
  rw [List.length_map] at hR
  have I1 := I0.pinned (fp := [r]) (fun b hb => by
    obtain rfl : b = r := by simpa using hb
    exact fpr) (fun b hb => by
    obtain rfl : b = r := by simpa using hb
    exact ⟨_, hR, fun v z => by cases z⟩)
  -- the lambda
  obtain ⟨cR, hcR⟩ := I1.ok.has x (.inl hcellX)
  have hfreeR : ∀ z ∈ scope.names, z.2 = .free → ∃ c, X.env.cells.lookup z.1 = some c := fun z hz e => by
    rw [hnames] at hz
    rcases List.mem_cons.mp hz with q1 | q1
    · rw [q1] at e
      cases e
    · have q2 : z = (x, .free) := by simpa using q1
      rw [q2]
      exact ⟨cR, hcR⟩
  show wpAny _ _ (evalAll [(do let v ← eval (.Lambda params (.Subscript (.Name x p1) (.Name y p2) p3) scope lpos) X.env; standAt _; pure v)]) _ _ _
  refine wpAny_evalAll_cons (wpAny_bind (lam_make2 I1 TB hcode hmT hu hT hdef hfreeR fun f c' pm ctv H2 s2 I2 eN T2 hf hfn hfr hco2 => ?_))
  refine wpAny_bind (wpAny_standAt (wpAny_pure (wpAny_evalAll_nil ?_)))
  show wpAny _ _ (call (.builtin "sorted") [.ref r] [("key", .ref f)]) _ _ s2
  have hR2 : IsRange s2.heap r 0 ((ns.length : Nat) : Int) 1 t0 u0 v0 := (I2.pin _ (List.mem_append_right _ (List.mem_append_right _ (mem_pinsAt (fp := [r]) (by simp) hR)))).1
  have J : Inv X pins σ H2 s2 := I2.unpinned
  have hs2 : H2 a = some (.tup (ns.map V.int)) := eN _ _ hs (fun ps z => by cases z)
  obtain ⟨its, rv, htup, hsz⟩ := J.tuple (SqT.of hs2)
  have hcc : s2.heap.IsCell cR (some (.ref a)) := by
    obtain ⟨m, hn, hl⟩ := J.loc
    obtain ⟨u, r1, l1⟩ := hl i x _ hN hσ (.inr (.inl hcellX))
    obtain rfl : u = Value.ref a := r1
    rcases l1 with ⟨k1, _⟩ | ⟨_, cR2, h1, h2⟩
    · have k1 : X.env.scope.names.lookup x = some .local := k1
      rw [hcellX] at k1
      cases k1
    · rw [hcR] at h1
      cases h1
      exact h2
  have hclo : (cloFrom X.env.cells scope.names []).lookup x = some cR := by
    rw [hnames]
    have e1 : cloFrom X.env.cells [(y, .local), (x, .free)] [] = [(x, (X.env.cells.lookup x).getD 0)] := rfl
    rw [e1, hcR]
    simp [List.lookup]
  have hints := rv.ints
  have hli : its.length = ns.length := by rw [← rv.length, List.length_map]
  obtain ⟨⟨oc, ovs, ot, hoc, hdc, hvc⟩, _, _⟩ := J.hok c' _ hco2
  have lim : s2.heap.NoLimit := J.nolimit
  refine sortedOf (vs := []) (Nat.zero_le _) (ksort_args _ _) (fun y => ksort_args2 _ _) (Pz := fun vs => vs.length = ns.length ∧ ∀ (i : Nat) v, vs[i]? = some v → ∃ t, v = Value.int (i : Nat) t)
    (fun Q' hQ E' => L2.collect_range (A := X.A.in1) (n := ns.length) (J.ok.hd hc) hR2 (small_one (by omega) (by omega) (by omega) (by omega)) (by rw [rangeSize_nat]; omega) (by omega) fun h' tk acc hk hacc => hQ acc.toList h' tk ⟨by rw [Array.length_toList]; exact hacc.1, fun i v hv => by
      obtain ⟨t, e⟩ := hacc.2 i v (by rw [← hv, Array.getElem?_toList])
      exact ⟨t, by rw [e]; congr 1; omega⟩⟩ (by rw [Array.length_toList, hacc.1, sizeLine_eq]; omega) hk)
    (fun vs h' tk pz hL hk E' => ?_)
  rw [show Builtin.«list.sort» ⟨[.ref h'.objs.size], [(Str.ofString "key", .ref f)]⟩ = PyProof.Rows.ksk_tree h'.objs.size (.ref f) false from rfl]
  have hoL : (h'.push (seqObj "list" vs.toArray 0)).get? h'.objs.size = some (seqObj "list" vs.toArray 0) := Heap.get?_push_size _ rfl
  have each : PySem.W.EachIs (fun v (i : Nat) => ∃ t, v = Value.int (i : Nat) t) vs (List.range ns.length) := by
    rw [List.range_eq_range']
    exact each_of_items pz.1 fun i v hv => by
      obtain ⟨t, e⟩ := pz.2 i v hv
      exact ⟨t, by rw [e, Nat.zero_add]⟩
  have old : ∀ {g : Heap}, PySem.W.KeepsBut h'.objs.size (h'.push (seqObj "list" vs.toArray 0)) g → ∀ b o, s2.heap.get? b = some o → g.get? b = some o := fun {g} kb b o e =>
    kb b o (Nat.ne_of_lt (Heap.lt_size (hk _ _ e))) (Heap.get?_push_of_some _ (hk _ _ e))
  refine PySem.W.keyH_tree (kz := (List.range ns.length).map fun i => PyData.int (ns.getD i 0)) (s := { s2 with heap := h'.push (seqObj "list" vs.toArray 0), toks := tk }) hoL (by rw [List.length_map, List.length_range]; exact pz.1.symm) hL
    (PySem.W.AllAlike.of fun _ _ => rfl) (PySem.W.Sortable.others fun _ => ⟨(fun z => by cases z), (fun _ z => by cases z)⟩) (PySem.W.bound_map (A := X.A.in1.in1) fun _ _ => by have := hr.units; show X.A.units + 1 + 1 + _ < cLine; simp only [PyData.depth]; omega)
    (PySem.W.keyH_turns (s := { s2 with heap := h'.push (seqObj "list" vs.toArray 0), toks := tk }) each fun v i hv hi h3 tk3 kb => ?turn) fun g tk4 out c kb hD ko => ⟨rfl, ?_⟩
  case turn =>
    obtain ⟨t, rfl⟩ := hv
    have hi2 : i < ns.length := List.mem_range.mp hi
    have k3 := old kb
    obtain ⟨t2, hit⟩ : ∃ t2, its[i]? = some (.int (ns.getD i 0) t2) := by
      obtain ⟨n2, t2, e1, e2⟩ := hints.at i its[i] (List.getElem?_eq_getElem (by omega))
      refine ⟨t2, ?_⟩
      rw [List.getElem?_eq_getElem (by omega), e1, List.getD_eq_getElem?_getD, e2]
      rfl
    obtain ⟨otu, q1, q2, q3, q4⟩ := htup
    obtain ⟨ocl, c1, c2⟩ := hcc
    refine lam_key (k3 _ _ hf) ⟨oc, ovs, ot, k3 _ _ hoc, hdc, hvc⟩ hclo ⟨ocl, k3 _ _ c1, c2⟩ ⟨otu, k3 _ _ q1, q2, q3, q4⟩ hit (by omega) (lim.keeps k3) hr.depth (hbind _ _ _ _ _) hkd hco hgen ?_ ?_ ?_ d1 d2 d3
    · rw [hnames]
      have hxy2 : (x == y) = false := beq_eq_false_iff_ne.mpr hxy
      simp [List.lookup, hxy2]
    · rw [hnames]
      simp [List.lookup]
    · rw [hnames]
      simp
  have eo := PySem.W.keyedOut_each (fun i => PyData.int (ns.getD i 0)) ko each
  have J3 : Inv X pins σ H2 { s2 with heap := h', toks := tk } := J.kept hk
  have kp : ∀ b o, h'.get? b = some o → g.get? b = some o := fun b o e => kb b o (Nat.ne_of_lt (Heap.lt_size e)) (Heap.get?_push_of_some _ e)
  have hvo := vals_of_each eo
  have hlen2 : ((ordI ns).map fun (i : Nat) => V.int (i : Nat)).length ≤ sizeLine := by rw [List.length_map, (ordI_perm ns).length_eq, List.length_range, sizeLine_eq]; omega
  exact ⟨.ref _, upd H2 h'.objs.size (.lst ((ordI ns).map fun (i : Nat) => V.int (i : Nat))), J3.laid (t' := tk4) kp (Nat.le_refl _) ⟨hlen2, out, c, hvo, hD⟩, rfl, q H2 _ eN T2 (J3.hok.fresh (Nat.le_refl _))⟩
end
end K6

set_option Elab.async false
set_option linter.all false
set_option maxRecDepth 100000
set_option maxHeartbeats 4000000
/-! K6Fac: the head's facts by name; each def's names by slot, its scope, how it binds (printed by gen_fac.py) -/
namespace K6
open PySem PySem.Spec PyProof.Rows L2
/-- the table of the lambda's code object -/
abbrev TK (K : PySem.W.Frag) : List (Addr × Str) := [((He.cT K ("word_table", none)).2, "word_table.<locals>.<lambda>")]
structure Cz (P : Program) (w : World) (K : PySem.W.Frag) (mg : Str → Option Value) (base : Heap) : Prop where
  d : He.SaysD fa fn K
  kin : K.In base
  ns : base.Ns mainGlobals mg
  forms : ∃ es n, KDict K w (He.ga K "FORMS") es n
  fv : ex K = true
  tb : LamX.TabB base mg (He.cT K ("word_table", none)).1 (He.cT K ("word_table", none)).2
/-- every parameter is given -/
abbrev Bd (x q : Str) (st : Stmt) (ps : List Str) : Prop := ∀ (kV doc pm : Value) (an : Option Addr) (cdv ct : Value) (us : List Value), us.length = ps.length →
  bindArgs (PySem.W.fnOf x q (defArgs st) (defBody st) (defScope st) .none kV doc pm an cdv ct) ⟨us, []⟩ = pure (ps.zip us)
section
variable {P : Program} {w : World} {K : PySem.W.Frag} {mg : Str → Option Value} {base : Heap}
/-- a def with its promise, by its body -/
theorem mkCal {x : Str} {st : Stmt} {f : Addr} {N ps : List Str} {k : Nat} {sp : Sp} (F : ∃ fd, FnP K x st f fd) (g : mg x = some (.ref f)) (S : FnScope N ps (defScope st)) (hb : Bd x x st ps) (len : ∀ vs H Q E, sp vs H Q E → vs.length = ps.length)
    (hbody : ∀ (cdv : Value) (A : Around) (outer : List Env) (s : Shared) (H : Hp) (vs : List V) (Q : VK) (E : XK), Room k (A.deeper (envOfC x (defScope st) s.heap.objs.size f cdv)) → sp vs H Q E →
      ∃ t, PSs (cxOf C8.CX0 P w K mg base N x (defScope st) f cdv A outer s H E).nox (defBody st) t ∧ t { nx := fun _ H' => Q .non H', rt := Q } (start N vs) H) : C8.Cal P w K mg base (k + 1) x sp [] := by
  obtain ⟨fd, F⟩ := F
  refine ⟨f, fd, ps, [], F.ok S len fun cdv A outer s H vs Q E hr h => ?_, g, F.kp, F.bindsN hb, .nil⟩
  obtain ⟨t, h1, h2⟩ := hbody cdv A outer s H vs Q E hr h
  exact ⟨t, h1.nox, h2⟩
theorem mkMet {m q : Str} {C : Addr} {st : Stmt} {f : Addr} {N ps : List Str} {k : Nat} {sp : Sp} (c : Cls K C) (me : Meth K C m f) (F : ∃ fd, FnM K m q st f fd) (S : FnScope N ps (defScope st)) (hb : Bd m q st ps) (len : ∀ vs H Q E, sp vs H Q E → vs.length = ps.length)
    (hbody : ∀ (cdv : Value) (A : Around) (outer : List Env) (s : Shared) (H : Hp) (vs : List V) (Q : VK) (E : XK), Room k (A.deeper (envOfC q (defScope st) s.heap.objs.size f cdv)) → sp vs H Q E →
      ∃ t, PSs (cxOf C8.CX0 P w K mg base N q (defScope st) f cdv A outer s H E).nox (defBody st) t ∧ t { nx := fun _ H' => Q .non H', rt := Q } (start N vs) H) : C8.Met P w K mg base (k + 1) C m sp [] := by
  obtain ⟨fd, F⟩ := F
  refine ⟨f, fd, ps, [], c, me, F.ok S len fun cdv A outer s H vs Q E hr h => ?_, F.bindsN hb, .nil⟩
  obtain ⟨t, h1, h2⟩ := hbody cdv A outer s H vs Q E hr h
  exact ⟨t, h1.nox, h2⟩
theorem mkFn {m q : Str} {st : Stmt} {f : Addr} {fd : FuncData} {kw : List (Str × V)} {N ps : List Str} {k : Nat} {sp : Sp} (F : FunD K m q (defArgs st) (defBody st) (defScope st) [] kw f fd) (S : FnScope N ps (defScope st)) (len : ∀ vs H Q E, sp vs H Q E → vs.length = ps.length)
    (hbody : ∀ (cdv : Value) (A : Around) (outer : List Env) (s : Shared) (H : Hp) (vs : List V) (Q : VK) (E : XK), Room k (A.deeper (envOfC q (defScope st) s.heap.objs.size f cdv)) → sp vs H Q E →
      ∃ t, PSs (cxOf C8.CX0 P w K mg base N q (defScope st) f cdv A outer s H E).nox (defBody st) t ∧ t { nx := fun _ H' => Q .non H', rt := Q } (start N vs) H) : FnOk P w K mg base C8.CX0 (k + 1) f fd ps sp :=
  F.ok S len fun cdv A outer s H vs Q E hr h => by
    obtain ⟨t, h1, h2⟩ := hbody cdv A outer s H vs Q E hr h
    exact ⟨t, h1.nox, h2⟩

theorem Cz.gIsInt (z : Cz P w K mg base) : mg "is_int" = some (.ref (He.ga K "is_int")) := He.glo_ok z.kin z.ns (z.d.fact 0 (f := .glo "is_int") rfl)
theorem Cz.gInRange (z : Cz P w K mg base) : mg "in_range" = some (.ref (He.ga K "in_range")) := He.glo_ok z.kin z.ns (z.d.fact 1 (f := .glo "in_range") rfl)
theorem Cz.gIsPlant (z : Cz P w K mg base) : mg "is_plant" = some (.ref (He.ga K "is_plant")) := He.glo_ok z.kin z.ns (z.d.fact 2 (f := .glo "is_plant") rfl)
theorem Cz.gRequirePlant (z : Cz P w K mg base) : mg "require_plant" = some (.ref (He.ga K "require_plant")) := He.glo_ok z.kin z.ns (z.d.fact 3 (f := .glo "require_plant") rfl)
theorem Cz.gRequireStation (z : Cz P w K mg base) : mg "require_station" = some (.ref (He.ga K "require_station")) := He.glo_ok z.kin z.ns (z.d.fact 4 (f := .glo "require_station") rfl)
theorem Cz.gSupplierLists (z : Cz P w K mg base) : mg "supplier_lists" = some (.ref (He.ga K "supplier_lists")) := He.glo_ok z.kin z.ns (z.d.fact 5 (f := .glo "supplier_lists") rfl)
theorem Cz.gValidStock (z : Cz P w K mg base) : mg "valid_stock" = some (.ref (He.ga K "valid_stock")) := He.glo_ok z.kin z.ns (z.d.fact 6 (f := .glo "valid_stock") rfl)
theorem Cz.gIsStock (z : Cz P w K mg base) : mg "is_stock" = some (.ref (He.ga K "is_stock")) := He.glo_ok z.kin z.ns (z.d.fact 7 (f := .glo "is_stock") rfl)
theorem Cz.gRequireStock (z : Cz P w K mg base) : mg "require_stock" = some (.ref (He.ga K "require_stock")) := He.glo_ok z.kin z.ns (z.d.fact 8 (f := .glo "require_stock") rfl)
theorem Cz.gRequireDays (z : Cz P w K mg base) : mg "require_days" = some (.ref (He.ga K "require_days")) := He.glo_ok z.kin z.ns (z.d.fact 9 (f := .glo "require_days") rfl)
theorem Cz.gRanks (z : Cz P w K mg base) : mg "ranks" = some (.ref (He.ga K "ranks")) := He.glo_ok z.kin z.ns (z.d.fact 10 (f := .glo "ranks") rfl)
theorem Cz.gChainOf (z : Cz P w K mg base) : mg "chain_of" = some (.ref (He.ga K "chain_of")) := He.glo_ok z.kin z.ns (z.d.fact 11 (f := .glo "chain_of") rfl)
theorem Cz.gNextStock (z : Cz P w K mg base) : mg "next_stock" = some (.ref (He.ga K "next_stock")) := He.glo_ok z.kin z.ns (z.d.fact 12 (f := .glo "next_stock") rfl)
theorem Cz.gFirstDays (z : Cz P w K mg base) : mg "first_days" = some (.ref (He.ga K "first_days")) := He.glo_ok z.kin z.ns (z.d.fact 13 (f := .glo "first_days") rfl)
theorem Cz.gWrongStations (z : Cz P w K mg base) : mg "wrong_stations" = some (.ref (He.ga K "wrong_stations")) := He.glo_ok z.kin z.ns (z.d.fact 14 (f := .glo "wrong_stations") rfl)
theorem Cz.gOrderDays (z : Cz P w K mg base) : mg "order_days" = some (.ref (He.ga K "order_days")) := He.glo_ok z.kin z.ns (z.d.fact 15 (f := .glo "order_days") rfl)
theorem Cz.gDaysUntilOrdered (z : Cz P w K mg base) : mg "days_until_ordered" = some (.ref (He.ga K "days_until_ordered")) := He.glo_ok z.kin z.ns (z.d.fact 16 (f := .glo "days_until_ordered") rfl)
theorem Cz.gWordTable (z : Cz P w K mg base) : mg "word_table" = some (.ref (He.ga K "word_table")) := He.glo_ok z.kin z.ns (z.d.fact 17 (f := .glo "word_table") rfl)
theorem Cz.gRotatedBy (z : Cz P w K mg base) : mg "rotated_by" = some (.ref (He.ga K "rotated_by")) := He.glo_ok z.kin z.ns (z.d.fact 18 (f := .glo "rotated_by") rfl)
theorem Cz.gCountsAfter (z : Cz P w K mg base) : mg "counts_after" = some (.ref (He.ga K "counts_after")) := He.glo_ok z.kin z.ns (z.d.fact 19 (f := .glo "counts_after") rfl)
theorem Cz.gRanksOfWords (z : Cz P w K mg base) : mg "ranks_of_words" = some (.ref (He.ga K "ranks_of_words")) := He.glo_ok z.kin z.ns (z.d.fact 20 (f := .glo "ranks_of_words") rfl)
theorem Cz.gGreatestDivisor (z : Cz P w K mg base) : mg "greatest_divisor" = some (.ref (He.ga K "greatest_divisor")) := He.glo_ok z.kin z.ns (z.d.fact 21 (f := .glo "greatest_divisor") rfl)
theorem Cz.gPeriodOf (z : Cz P w K mg base) : mg "period_of" = some (.ref (He.ga K "period_of")) := He.glo_ok z.kin z.ns (z.d.fact 22 (f := .glo "period_of") rfl)
theorem Cz.gLengthOf (z : Cz P w K mg base) : mg "length_of" = some (.ref (He.ga K "length_of")) := He.glo_ok z.kin z.ns (z.d.fact 23 (f := .glo "length_of") rfl)
theorem Cz.gCycleLength (z : Cz P w K mg base) : mg "cycle_length" = some (.ref (He.ga K "cycle_length")) := He.glo_ok z.kin z.ns (z.d.fact 24 (f := .glo "cycle_length") rfl)
theorem Cz.gStockAt (z : Cz P w K mg base) : mg "stock_at" = some (.ref (He.ga K "stock_at")) := He.glo_ok z.kin z.ns (z.d.fact 25 (f := .glo "stock_at") rfl)
theorem Cz.gChainAt (z : Cz P w K mg base) : mg "chain_at" = some (.ref (He.ga K "chain_at")) := He.glo_ok z.kin z.ns (z.d.fact 26 (f := .glo "chain_at") rfl)
theorem Cz.gMakerOn (z : Cz P w K mg base) : mg "maker_on" = some (.ref (He.ga K "maker_on")) := He.glo_ok z.kin z.ns (z.d.fact 27 (f := .glo "maker_on") rfl)
theorem Cz.gOrderOfSales (z : Cz P w K mg base) : mg "order_of_sales" = some (.ref (He.ga K "order_of_sales")) := He.glo_ok z.kin z.ns (z.d.fact 28 (f := .glo "order_of_sales") rfl)
theorem Cz.gSoldOn (z : Cz P w K mg base) : mg "sold_on" = some (.ref (He.ga K "sold_on")) := He.glo_ok z.kin z.ns (z.d.fact 29 (f := .glo "sold_on") rfl)
theorem Cz.gParseNumber (z : Cz P w K mg base) : mg "parse_number" = some (.ref (He.ga K "parse_number")) := He.glo_ok z.kin z.ns (z.d.fact 30 (f := .glo "parse_number") rfl)
theorem Cz.gParseBox (z : Cz P w K mg base) : mg "parse_box" = some (.ref (He.ga K "parse_box")) := He.glo_ok z.kin z.ns (z.d.fact 31 (f := .glo "parse_box") rfl)
theorem Cz.gReadPlant (z : Cz P w K mg base) : mg "read_plant" = some (.ref (He.ga K "read_plant")) := He.glo_ok z.kin z.ns (z.d.fact 32 (f := .glo "read_plant") rfl)
theorem Cz.gParseRow (z : Cz P w K mg base) : mg "parse_row" = some (.ref (He.ga K "parse_row")) := He.glo_ok z.kin z.ns (z.d.fact 33 (f := .glo "parse_row") rfl)
theorem Cz.gLawFount (z : Cz P w K mg base) : mg "_law_fount" = some (.ref (He.ga K "_law_fount")) := He.glo_ok z.kin z.ns (z.d.fact 34 (f := .glo "_law_fount") rfl)
theorem Cz.gLawSip (z : Cz P w K mg base) : mg "_law_sip" = some (.ref (He.ga K "_law_sip")) := He.glo_ok z.kin z.ns (z.d.fact 35 (f := .glo "_law_sip") rfl)
theorem Cz.gLawMixed (z : Cz P w K mg base) : mg "_law_mixed" = some (.ref (He.ga K "_law_mixed")) := He.glo_ok z.kin z.ns (z.d.fact 36 (f := .glo "_law_mixed") rfl)
theorem Cz.gLawGrown (z : Cz P w K mg base) : mg "_law_grown" = some (.ref (He.ga K "_law_grown")) := He.glo_ok z.kin z.ns (z.d.fact 37 (f := .glo "_law_grown") rfl)
theorem Cz.gLawFilled (z : Cz P w K mg base) : mg "_law_filled" = some (.ref (He.ga K "_law_filled")) := He.glo_ok z.kin z.ns (z.d.fact 38 (f := .glo "_law_filled") rfl)
theorem Cz.gLawOperation (z : Cz P w K mg base) : mg "_law_operation" = some (.ref (He.ga K "_law_operation")) := He.glo_ok z.kin z.ns (z.d.fact 39 (f := .glo "_law_operation") rfl)
theorem Cz.gLawRow (z : Cz P w K mg base) : mg "_law_row" = some (.ref (He.ga K "_law_row")) := He.glo_ok z.kin z.ns (z.d.fact 40 (f := .glo "_law_row") rfl)
theorem Cz.gLawText (z : Cz P w K mg base) : mg "_law_text" = some (.ref (He.ga K "_law_text")) := He.glo_ok z.kin z.ns (z.d.fact 41 (f := .glo "_law_text") rfl)
theorem Cz.gLawOpen (z : Cz P w K mg base) : mg "_law_open" = some (.ref (He.ga K "_law_open")) := He.glo_ok z.kin z.ns (z.d.fact 42 (f := .glo "_law_open") rfl)
theorem Cz.gLawDone (z : Cz P w K mg base) : mg "_law_done" = some (.ref (He.ga K "_law_done")) := He.glo_ok z.kin z.ns (z.d.fact 43 (f := .glo "_law_done") rfl)
theorem Cz.gLawAnswers (z : Cz P w K mg base) : mg "_law_answers" = some (.ref (He.ga K "_law_answers")) := He.glo_ok z.kin z.ns (z.d.fact 44 (f := .glo "_law_answers") rfl)
theorem Cz.gLawShown (z : Cz P w K mg base) : mg "_law_shown" = some (.ref (He.ga K "_law_shown")) := He.glo_ok z.kin z.ns (z.d.fact 45 (f := .glo "_law_shown") rfl)
theorem Cz.gLaw (z : Cz P w K mg base) : mg "law" = some (.ref (He.ga K "law")) := He.glo_ok z.kin z.ns (z.d.fact 46 (f := .glo "law") rfl)
theorem Cz.gLivePlant (z : Cz P w K mg base) : mg "LivePlant" = some (.ref (He.ga K "LivePlant")) := He.glo_ok z.kin z.ns (z.d.fact 47 (f := .glo "LivePlant") rfl)
theorem Cz.gConsole (z : Cz P w K mg base) : mg "Console" = some (.ref (He.ga K "Console")) := He.glo_ok z.kin z.ns (z.d.fact 48 (f := .glo "Console") rfl)
theorem Cz.gFORMS (z : Cz P w K mg base) : mg "FORMS" = some (.ref (He.ga K "FORMS")) := He.glo_ok z.kin z.ns (z.d.fact 49 (f := .glo "FORMS") rfl)
theorem Cz.nisinstance (z : Cz P w K mg base) : mg "isinstance" = none := He.free_ok z.kin z.ns (z.d.fact 50 (f := .free "isinstance") rfl)
theorem Cz.nint (z : Cz P w K mg base) : mg "int" = none := He.free_ok z.kin z.ns (z.d.fact 51 (f := .free "int") rfl)
theorem Cz.nbool (z : Cz P w K mg base) : mg "bool" = none := He.free_ok z.kin z.ns (z.d.fact 52 (f := .free "bool") rfl)
theorem Cz.ntuple (z : Cz P w K mg base) : mg "tuple" = none := He.free_ok z.kin z.ns (z.d.fact 53 (f := .free "tuple") rfl)
theorem Cz.nlen (z : Cz P w K mg base) : mg "len" = none := He.free_ok z.kin z.ns (z.d.fact 54 (f := .free "len") rfl)
theorem Cz.nall (z : Cz P w K mg base) : mg "all" = none := He.free_ok z.kin z.ns (z.d.fact 55 (f := .free "all") rfl)
theorem Cz.nenumerate (z : Cz P w K mg base) : mg "enumerate" = none := He.free_ok z.kin z.ns (z.d.fact 56 (f := .free "enumerate") rfl)
theorem Cz.nrange (z : Cz P w K mg base) : mg "range" = none := He.free_ok z.kin z.ns (z.d.fact 57 (f := .free "range") rfl)
theorem Cz.nset (z : Cz P w K mg base) : mg "set" = none := He.free_ok z.kin z.ns (z.d.fact 58 (f := .free "set") rfl)
theorem Cz.nsorted (z : Cz P w K mg base) : mg "sorted" = none := He.free_ok z.kin z.ns (z.d.fact 59 (f := .free "sorted") rfl)
theorem Cz.nmin (z : Cz P w K mg base) : mg "min" = none := He.free_ok z.kin z.ns (z.d.fact 60 (f := .free "min") rfl)
theorem Cz.nlist (z : Cz P w K mg base) : mg "list" = none := He.free_ok z.kin z.ns (z.d.fact 61 (f := .free "list") rfl)
theorem Cz.nzip (z : Cz P w K mg base) : mg "zip" = none := He.free_ok z.kin z.ns (z.d.fact 62 (f := .free "zip") rfl)
theorem Cz.nmax (z : Cz P w K mg base) : mg "max" = none := He.free_ok z.kin z.ns (z.d.fact 63 (f := .free "max") rfl)
theorem Cz.ndivmod (z : Cz P w K mg base) : mg "divmod" = none := He.free_ok z.kin z.ns (z.d.fact 64 (f := .free "divmod") rfl)
theorem Cz.nreversed (z : Cz P w K mg base) : mg "reversed" = none := He.free_ok z.kin z.ns (z.d.fact 65 (f := .free "reversed") rfl)
theorem Cz.nstr (z : Cz P w K mg base) : mg "str" = none := He.free_ok z.kin z.ns (z.d.fact 66 (f := .free "str") rfl)
theorem Cz.cMOST_STATIONS_plants (z : Cz P w K mg base) : ∃ t, mg "MOST_STATIONS_plants" = some (.int 40 t) := He.int_ok z.kin z.ns (z.d.fact 67 (f := .int "MOST_STATIONS_plants" 40) rfl)
theorem Cz.cMOST_FAR (z : Cz P w K mg base) : ∃ t, mg "MOST_FAR" = some (.int 1000000000000000000000000000000 t) := He.int_ok z.kin z.ns (z.d.fact 68 (f := .int "MOST_FAR" 1000000000000000000000000000000) rfl)
theorem Cz.cMOST_DAYS (z : Cz P w K mg base) : ∃ t, mg "MOST_DAYS" = some (.int 1000000000000000000000000000000 t) := He.int_ok z.kin z.ns (z.d.fact 69 (f := .int "MOST_DAYS" 1000000000000000000000000000000) rfl)
theorem Cz.cMOST_STATIONS_live (z : Cz P w K mg base) : ∃ t, mg "MOST_STATIONS_live" = some (.int 40 t) := He.int_ok z.kin z.ns (z.d.fact 70 (f := .int "MOST_STATIONS_live" 40) rfl)
theorem Cz.cMOST_DAY (z : Cz P w K mg base) : ∃ t, mg "MOST_DAY" = some (.int 1000000000000000000000000000000 t) := He.int_ok z.kin z.ns (z.d.fact 71 (f := .int "MOST_DAY" 1000000000000000000000000000000) rfl)
theorem Cz.cMOST_DIGITS_texts (z : Cz P w K mg base) : ∃ t, mg "MOST_DIGITS_texts" = some (.int 40 t) := He.int_ok z.kin z.ns (z.d.fact 72 (f := .int "MOST_DIGITS_texts" 40) rfl)
theorem Cz.cMOST_DIGITS_console (z : Cz P w K mg base) : ∃ t, mg "MOST_DIGITS_console" = some (.int 31 t) := He.int_ok z.kin z.ns (z.d.fact 73 (f := .int "MOST_DIGITS_console" 31) rfl)
theorem Cz.cDIGITS (z : Cz P w K mg base) : ∃ t, mg "DIGITS" = some (.str "0123456789" t) := He.str_ok z.kin z.ns (z.d.fact 74 (f := .str "DIGITS" "0123456789") rfl)
theorem Cz.cTOP (z : Cz P w K mg base) : ∃ t, mg "TOP" = some (.str "shop" t) := He.str_ok z.kin z.ns (z.d.fact 75 (f := .str "TOP" "shop") rfl)
theorem Cz.cOPEN (z : Cz P w K mg base) : ∃ t, mg "OPEN" = some (.str "open " t) := He.str_ok z.kin z.ns (z.d.fact 76 (f := .str "OPEN" "open ") rfl)
theorem Cz.kLivePlant (z : Cz P w K mg base) : Cls K (He.ga K "LivePlant") := He.cls_ok (z.d.fact 77 (f := .cls "LivePlant") rfl)
theorem Cz.kConsole (z : Cz P w K mg base) : Cls K (He.ga K "Console") := He.cls_ok (z.d.fact 78 (f := .cls "Console") rfl)
theorem Cz.aCurrent (z : Cz P w K mg base) : NoAttr K (He.ga K "LivePlant") "current" := He.noat_ok (z.d.fact 79 (f := .noat "LivePlant" "current") rfl)
theorem Cz.aHistory (z : Cz P w K mg base) : NoAttr K (He.ga K "LivePlant") "history" := He.noat_ok (z.d.fact 80 (f := .noat "LivePlant" "history") rfl)
theorem Cz.aLivePlant (z : Cz P w K mg base) : NoAttr K (He.ga K "Console") "live_plant" := He.noat_ok (z.d.fact 81 (f := .noat "Console" "live_plant") rfl)
theorem Cz.mLivePlant (z : Cz P w K mg base) : Mk K (He.ga K "LivePlant") (He.ma K (He.ga K "LivePlant") "__init__") := He.mkr_ok (z.d.fact 82 (f := .mkr "LivePlant") rfl)
theorem Cz.mConsole (z : Cz P w K mg base) : Mk K (He.ga K "Console") (He.ma K (He.ga K "Console") "__init__") := He.mkr_ok (z.d.fact 83 (f := .mkr "Console") rfl)
theorem Cz.tLivePlantCommit (z : Cz P w K mg base) : Meth K (He.ga K "LivePlant") "commit" (He.ma K (He.ga K "LivePlant") "commit") := He.meth_ok (z.d.fact 84 (f := .meth "LivePlant" "commit") rfl)
theorem Cz.tLivePlantSellFrom (z : Cz P w K mg base) : Meth K (He.ga K "LivePlant") "sell_from" (He.ma K (He.ga K "LivePlant") "sell_from") := He.meth_ok (z.d.fact 85 (f := .meth "LivePlant" "sell_from") rfl)
theorem Cz.tLivePlantDay (z : Cz P w K mg base) : Meth K (He.ga K "LivePlant") "day" (He.ma K (He.ga K "LivePlant") "day") := He.meth_ok (z.d.fact 86 (f := .meth "LivePlant" "day") rfl)
theorem Cz.tLivePlantDays (z : Cz P w K mg base) : Meth K (He.ga K "LivePlant") "days" (He.ma K (He.ga K "LivePlant") "days") := He.meth_ok (z.d.fact 87 (f := .meth "LivePlant" "days") rfl)
theorem Cz.tLivePlantSell (z : Cz P w K mg base) : Meth K (He.ga K "LivePlant") "sell" (He.ma K (He.ga K "LivePlant") "sell") := He.meth_ok (z.d.fact 88 (f := .meth "LivePlant" "sell") rfl)
theorem Cz.tLivePlantAdd (z : Cz P w K mg base) : Meth K (He.ga K "LivePlant") "add" (He.ma K (He.ga K "LivePlant") "add") := He.meth_ok (z.d.fact 89 (f := .meth "LivePlant" "add") rfl)
theorem Cz.tLivePlantRemove (z : Cz P w K mg base) : Meth K (He.ga K "LivePlant") "remove" (He.ma K (He.ga K "LivePlant") "remove") := He.meth_ok (z.d.fact 90 (f := .meth "LivePlant" "remove") rfl)
theorem Cz.tLivePlantUndo (z : Cz P w K mg base) : Meth K (He.ga K "LivePlant") "undo" (He.ma K (He.ga K "LivePlant") "undo") := He.meth_ok (z.d.fact 91 (f := .meth "LivePlant" "undo") rfl)
theorem Cz.tLivePlantPlant (z : Cz P w K mg base) : Meth K (He.ga K "LivePlant") "plant" (He.ma K (He.ga K "LivePlant") "plant") := He.meth_ok (z.d.fact 92 (f := .meth "LivePlant" "plant") rfl)
theorem Cz.tLivePlantStock (z : Cz P w K mg base) : Meth K (He.ga K "LivePlant") "stock" (He.ma K (He.ga K "LivePlant") "stock") := He.meth_ok (z.d.fact 93 (f := .meth "LivePlant" "stock") rfl)
theorem Cz.tLivePlantLog (z : Cz P w K mg base) : Meth K (He.ga K "LivePlant") "log" (He.ma K (He.ga K "LivePlant") "log") := He.meth_ok (z.d.fact 94 (f := .meth "LivePlant" "log") rfl)
theorem Cz.tConsoleSay (z : Cz P w K mg base) : Meth K (He.ga K "Console") "say" (He.ma K (He.ga K "Console") "say") := He.meth_ok (z.d.fact 95 (f := .meth "Console" "say") rfl)
theorem Cz.tConsoleOperate (z : Cz P w K mg base) : Meth K (He.ga K "Console") "operate" (He.ma K (He.ga K "Console") "operate") := He.meth_ok (z.d.fact 96 (f := .meth "Console" "operate") rfl)
theorem Cz.tConsoleAnswer (z : Cz P w K mg base) : Meth K (He.ga K "Console") "answer" (He.ma K (He.ga K "Console") "answer") := He.meth_ok (z.d.fact 97 (f := .meth "Console" "answer") rfl)
theorem Cz.fIsInt (z : Cz P w K mg base) : ∃ fd, FnP K "is_int" sIsInt (He.ga K "is_int") fd := z.d.def_ 0 (d := dIsInt) rfl
theorem Cz.fInRange (z : Cz P w K mg base) : ∃ fd, FnP K "in_range" sInRange (He.ga K "in_range") fd := z.d.def_ 1 (d := dInRange) rfl
theorem Cz.fIsPlant (z : Cz P w K mg base) : ∃ fd, FnP K "is_plant" sIsPlant (He.ga K "is_plant") fd := z.d.def_ 2 (d := dIsPlant) rfl
theorem Cz.fRequirePlant (z : Cz P w K mg base) : ∃ fd, FnP K "require_plant" sRequirePlant (He.ga K "require_plant") fd := z.d.def_ 3 (d := dRequirePlant) rfl
theorem Cz.fRequireStation (z : Cz P w K mg base) : ∃ fd, FnP K "require_station" sRequireStation (He.ga K "require_station") fd := z.d.def_ 4 (d := dRequireStation) rfl
theorem Cz.fSupplierLists (z : Cz P w K mg base) : ∃ fd, FnP K "supplier_lists" sSupplierLists (He.ga K "supplier_lists") fd := z.d.def_ 5 (d := dSupplierLists) rfl
theorem Cz.fValidStock (z : Cz P w K mg base) : ∃ fd, FnP K "valid_stock" sValidStock (He.ga K "valid_stock") fd := z.d.def_ 6 (d := dValidStock) rfl
theorem Cz.fIsStock (z : Cz P w K mg base) : ∃ fd, FnP K "is_stock" sIsStock (He.ga K "is_stock") fd := z.d.def_ 7 (d := dIsStock) rfl
theorem Cz.fRequireStock (z : Cz P w K mg base) : ∃ fd, FnP K "require_stock" sRequireStock (He.ga K "require_stock") fd := z.d.def_ 8 (d := dRequireStock) rfl
theorem Cz.fRequireDays (z : Cz P w K mg base) : ∃ fd, FnP K "require_days" sRequireDays (He.ga K "require_days") fd := z.d.def_ 9 (d := dRequireDays) rfl
theorem Cz.fRanks (z : Cz P w K mg base) : ∃ fd, FnP K "ranks" sRanks (He.ga K "ranks") fd := z.d.def_ 10 (d := dRanks) rfl
theorem Cz.fChainOf (z : Cz P w K mg base) : ∃ fd, FnP K "chain_of" sChainOf (He.ga K "chain_of") fd := z.d.def_ 11 (d := dChainOf) rfl
theorem Cz.fNextStock (z : Cz P w K mg base) : ∃ fd, FnP K "next_stock" sNextStock (He.ga K "next_stock") fd := z.d.def_ 12 (d := dNextStock) rfl
theorem Cz.fFirstDays (z : Cz P w K mg base) : ∃ fd, FnP K "first_days" sFirstDays (He.ga K "first_days") fd := z.d.def_ 13 (d := dFirstDays) rfl
theorem Cz.fWrongStations (z : Cz P w K mg base) : ∃ fd, FnP K "wrong_stations" sWrongStations (He.ga K "wrong_stations") fd := z.d.def_ 14 (d := dWrongStations) rfl
theorem Cz.fOrderDays (z : Cz P w K mg base) : ∃ fd, FnP K "order_days" sOrderDays (He.ga K "order_days") fd := z.d.def_ 15 (d := dOrderDays) rfl
theorem Cz.fDaysUntilOrdered (z : Cz P w K mg base) : ∃ fd, FnP K "days_until_ordered" sDaysUntilOrdered (He.ga K "days_until_ordered") fd := z.d.def_ 16 (d := dDaysUntilOrdered) rfl
theorem Cz.fWordTable (z : Cz P w K mg base) : ∃ fd, FnP K "word_table" sWordTable (He.ga K "word_table") fd := z.d.def_ 17 (d := dWordTable) rfl
theorem Cz.fRotatedBy (z : Cz P w K mg base) : ∃ fd, FnP K "rotated_by" sRotatedBy (He.ga K "rotated_by") fd := z.d.def_ 18 (d := dRotatedBy) rfl
theorem Cz.fCountsAfter (z : Cz P w K mg base) : ∃ fd, FnP K "counts_after" sCountsAfter (He.ga K "counts_after") fd := z.d.def_ 19 (d := dCountsAfter) rfl
theorem Cz.fRanksOfWords (z : Cz P w K mg base) : ∃ fd, FnP K "ranks_of_words" sRanksOfWords (He.ga K "ranks_of_words") fd := z.d.def_ 20 (d := dRanksOfWords) rfl
theorem Cz.fGreatestDivisor (z : Cz P w K mg base) : ∃ fd, FnP K "greatest_divisor" sGreatestDivisor (He.ga K "greatest_divisor") fd := z.d.def_ 21 (d := dGreatestDivisor) rfl
theorem Cz.fPeriodOf (z : Cz P w K mg base) : ∃ fd, FnP K "period_of" sPeriodOf (He.ga K "period_of") fd := z.d.def_ 22 (d := dPeriodOf) rfl
theorem Cz.fLengthOf (z : Cz P w K mg base) : ∃ fd, FnP K "length_of" sLengthOf (He.ga K "length_of") fd := z.d.def_ 23 (d := dLengthOf) rfl
theorem Cz.fCycleLength (z : Cz P w K mg base) : ∃ fd, FnP K "cycle_length" sCycleLength (He.ga K "cycle_length") fd := z.d.def_ 24 (d := dCycleLength) rfl
theorem Cz.fStockAt (z : Cz P w K mg base) : ∃ fd, FnP K "stock_at" sStockAt (He.ga K "stock_at") fd := z.d.def_ 25 (d := dStockAt) rfl
theorem Cz.fChainAt (z : Cz P w K mg base) : ∃ fd, FnP K "chain_at" sChainAt (He.ga K "chain_at") fd := z.d.def_ 26 (d := dChainAt) rfl
theorem Cz.fMakerOn (z : Cz P w K mg base) : ∃ fd, FnP K "maker_on" sMakerOn (He.ga K "maker_on") fd := z.d.def_ 27 (d := dMakerOn) rfl
theorem Cz.fOrderOfSales (z : Cz P w K mg base) : ∃ fd, FnP K "order_of_sales" sOrderOfSales (He.ga K "order_of_sales") fd := z.d.def_ 28 (d := dOrderOfSales) rfl
theorem Cz.fSoldOn (z : Cz P w K mg base) : ∃ fd, FnP K "sold_on" sSoldOn (He.ga K "sold_on") fd := z.d.def_ 29 (d := dSoldOn) rfl
theorem Cz.fParseNumber (z : Cz P w K mg base) : ∃ fd, FnP K "parse_number" sParseNumber (He.ga K "parse_number") fd := z.d.def_ 30 (d := dParseNumber) rfl
theorem Cz.fParseBox (z : Cz P w K mg base) : ∃ fd, FnP K "parse_box" sParseBox (He.ga K "parse_box") fd := z.d.def_ 31 (d := dParseBox) rfl
theorem Cz.fReadPlant (z : Cz P w K mg base) : ∃ fd, FnP K "read_plant" sReadPlant (He.ga K "read_plant") fd := z.d.def_ 32 (d := dReadPlant) rfl
theorem Cz.fParseRow (z : Cz P w K mg base) : ∃ fd, FnP K "parse_row" sParseRow (He.ga K "parse_row") fd := z.d.def_ 33 (d := dParseRow) rfl
theorem Cz.fLawFount (z : Cz P w K mg base) : ∃ fd, FnP K "_law_fount" sLawFount (He.ga K "_law_fount") fd := z.d.def_ 34 (d := dLawFount) rfl
theorem Cz.fLawSip (z : Cz P w K mg base) : ∃ fd, FnP K "_law_sip" sLawSip (He.ga K "_law_sip") fd := z.d.def_ 35 (d := dLawSip) rfl
theorem Cz.fLawMixed (z : Cz P w K mg base) : ∃ fd, FnP K "_law_mixed" sLawMixed (He.ga K "_law_mixed") fd := z.d.def_ 36 (d := dLawMixed) rfl
theorem Cz.fLawGrown (z : Cz P w K mg base) : ∃ fd, FnP K "_law_grown" sLawGrown (He.ga K "_law_grown") fd := z.d.def_ 37 (d := dLawGrown) rfl
theorem Cz.fLawFilled (z : Cz P w K mg base) : ∃ fd, FnP K "_law_filled" sLawFilled (He.ga K "_law_filled") fd := z.d.def_ 38 (d := dLawFilled) rfl
theorem Cz.fLawOperation (z : Cz P w K mg base) : ∃ fd, FnP K "_law_operation" sLawOperation (He.ga K "_law_operation") fd := z.d.def_ 39 (d := dLawOperation) rfl
theorem Cz.fLawRow (z : Cz P w K mg base) : ∃ fd, FnP K "_law_row" sLawRow (He.ga K "_law_row") fd := z.d.def_ 40 (d := dLawRow) rfl
theorem Cz.fLawText (z : Cz P w K mg base) : ∃ fd, FnP K "_law_text" sLawText (He.ga K "_law_text") fd := z.d.def_ 41 (d := dLawText) rfl
theorem Cz.fLawOpen (z : Cz P w K mg base) : ∃ fd, FnP K "_law_open" sLawOpen (He.ga K "_law_open") fd := z.d.def_ 42 (d := dLawOpen) rfl
theorem Cz.fLawDone (z : Cz P w K mg base) : ∃ fd, FnP K "_law_done" sLawDone (He.ga K "_law_done") fd := z.d.def_ 43 (d := dLawDone) rfl
theorem Cz.fLawAnswers (z : Cz P w K mg base) : ∃ fd, FnP K "_law_answers" sLawAnswers (He.ga K "_law_answers") fd := z.d.def_ 44 (d := dLawAnswers) rfl
theorem Cz.fLawShown (z : Cz P w K mg base) : ∃ fd, FnP K "_law_shown" sLawShown (He.ga K "_law_shown") fd := z.d.def_ 45 (d := dLawShown) rfl
theorem Cz.fLaw (z : Cz P w K mg base) : ∃ fd, FnP K "law" sLaw (He.ga K "law") fd := z.d.def_ 46 (d := dLaw) rfl
theorem Cz.fLivePlantInit (z : Cz P w K mg base) : ∃ fd, FunD K "__init__" "LivePlant.__init__" (defArgs sLivePlantInit) (defBody sLivePlantInit) (defScope sLivePlantInit) [] [("stock", .non)] (He.ma K (He.ga K "LivePlant") "__init__") fd := z.d.def_ 47 (d := dLivePlantInit) rfl
theorem Cz.fLivePlantCommit (z : Cz P w K mg base) : ∃ fd, FnM K "commit" "LivePlant.commit" sLivePlantCommit (He.ma K (He.ga K "LivePlant") "commit") fd := z.d.def_ 48 (d := dLivePlantCommit) rfl
theorem Cz.fLivePlantSellFrom (z : Cz P w K mg base) : ∃ fd, FnM K "sell_from" "LivePlant.sell_from" sLivePlantSellFrom (He.ma K (He.ga K "LivePlant") "sell_from") fd := z.d.def_ 49 (d := dLivePlantSellFrom) rfl
theorem Cz.fLivePlantDay (z : Cz P w K mg base) : ∃ fd, FnM K "day" "LivePlant.day" sLivePlantDay (He.ma K (He.ga K "LivePlant") "day") fd := z.d.def_ 50 (d := dLivePlantDay) rfl
theorem Cz.fLivePlantDays (z : Cz P w K mg base) : ∃ fd, FnM K "days" "LivePlant.days" sLivePlantDays (He.ma K (He.ga K "LivePlant") "days") fd := z.d.def_ 51 (d := dLivePlantDays) rfl
theorem Cz.fLivePlantSell (z : Cz P w K mg base) : ∃ fd, FnM K "sell" "LivePlant.sell" sLivePlantSell (He.ma K (He.ga K "LivePlant") "sell") fd := z.d.def_ 52 (d := dLivePlantSell) rfl
theorem Cz.fLivePlantAdd (z : Cz P w K mg base) : ∃ fd, FnM K "add" "LivePlant.add" sLivePlantAdd (He.ma K (He.ga K "LivePlant") "add") fd := z.d.def_ 53 (d := dLivePlantAdd) rfl
theorem Cz.fLivePlantRemove (z : Cz P w K mg base) : ∃ fd, FnM K "remove" "LivePlant.remove" sLivePlantRemove (He.ma K (He.ga K "LivePlant") "remove") fd := z.d.def_ 54 (d := dLivePlantRemove) rfl
theorem Cz.fLivePlantUndo (z : Cz P w K mg base) : ∃ fd, FnM K "undo" "LivePlant.undo" sLivePlantUndo (He.ma K (He.ga K "LivePlant") "undo") fd := z.d.def_ 55 (d := dLivePlantUndo) rfl
theorem Cz.fLivePlantPlant (z : Cz P w K mg base) : ∃ fd, FnM K "plant" "LivePlant.plant" sLivePlantPlant (He.ma K (He.ga K "LivePlant") "plant") fd := z.d.def_ 56 (d := dLivePlantPlant) rfl
theorem Cz.fLivePlantStock (z : Cz P w K mg base) : ∃ fd, FnM K "stock" "LivePlant.stock" sLivePlantStock (He.ma K (He.ga K "LivePlant") "stock") fd := z.d.def_ 57 (d := dLivePlantStock) rfl
theorem Cz.fLivePlantLog (z : Cz P w K mg base) : ∃ fd, FnM K "log" "LivePlant.log" sLivePlantLog (He.ma K (He.ga K "LivePlant") "log") fd := z.d.def_ 58 (d := dLivePlantLog) rfl
theorem Cz.fConsoleInit (z : Cz P w K mg base) : ∃ fd, FnM K "__init__" "Console.__init__" sConsoleInit (He.ma K (He.ga K "Console") "__init__") fd := z.d.def_ 59 (d := dConsoleInit) rfl
theorem Cz.fConsoleSay (z : Cz P w K mg base) : ∃ fd, FnM K "say" "Console.say" sConsoleSay (He.ma K (He.ga K "Console") "say") fd := z.d.def_ 60 (d := dConsoleSay) rfl
theorem Cz.fConsoleOperate (z : Cz P w K mg base) : ∃ fd, FnM K "operate" "Console.operate" sConsoleOperate (He.ma K (He.ga K "Console") "operate") fd := z.d.def_ 61 (d := dConsoleOperate) rfl
theorem Cz.fConsoleAnswer (z : Cz P w K mg base) : ∃ fd, FnM K "answer" "Console.answer" sConsoleAnswer (He.ma K (He.ga K "Console") "answer") fd := z.d.def_ 62 (d := dConsoleAnswer) rfl
end
abbrev nIsInt : List Str := ["value"]
abbrev pIsInt : List Str := ["value"]
theorem scIsInt : FnScope nIsInt pIsInt (defScope sIsInt) := ⟨rfl, rfl, rfl, by decide +kernel, rfl, by decide +kernel, by decide +kernel⟩
theorem bIsInt : Bd "is_int" "is_int" sIsInt pIsInt := fun _ _ _ _ _ _ us hl => match us, hl with | [_], _ => rfl
abbrev nInRange : List Str := ["value", "low", "high"]
abbrev pInRange : List Str := ["value", "low", "high"]
theorem scInRange : FnScope nInRange pInRange (defScope sInRange) := ⟨rfl, rfl, rfl, by decide +kernel, rfl, by decide +kernel, by decide +kernel⟩
theorem bInRange : Bd "in_range" "in_range" sInRange pInRange := fun _ _ _ _ _ _ us hl => match us, hl with | [_, _, _], _ => rfl
abbrev nIsPlant : List Str := ["value", "index", "station"]
abbrev pIsPlant : List Str := ["value"]
theorem scIsPlant : FnScope nIsPlant pIsPlant (defScope sIsPlant) := ⟨rfl, rfl, rfl, by decide +kernel, rfl, by decide +kernel, by decide +kernel⟩
theorem bIsPlant : Bd "is_plant" "is_plant" sIsPlant pIsPlant := fun _ _ _ _ _ _ us hl => match us, hl with | [_], _ => rfl
abbrev nRequirePlant : List Str := ["value"]
abbrev pRequirePlant : List Str := ["value"]
theorem scRequirePlant : FnScope nRequirePlant pRequirePlant (defScope sRequirePlant) := ⟨rfl, rfl, rfl, by decide +kernel, rfl, by decide +kernel, by decide +kernel⟩
theorem bRequirePlant : Bd "require_plant" "require_plant" sRequirePlant pRequirePlant := fun _ _ _ _ _ _ us hl => match us, hl with | [_], _ => rfl
abbrev nRequireStation : List Str := ["plant", "value"]
abbrev pRequireStation : List Str := ["plant", "value"]
theorem scRequireStation : FnScope nRequireStation pRequireStation (defScope sRequireStation) := ⟨rfl, rfl, rfl, by decide +kernel, rfl, by decide +kernel, by decide +kernel⟩
theorem bRequireStation : Bd "require_station" "require_station" sRequireStation pRequireStation := fun _ _ _ _ _ _ us hl => match us, hl with | [_, _], _ => rfl
abbrev nSupplierLists : List Str := ["plant", "found", "index", "station"]
abbrev pSupplierLists : List Str := ["plant"]
theorem scSupplierLists : FnScope nSupplierLists pSupplierLists (defScope sSupplierLists) := ⟨rfl, rfl, rfl, by decide +kernel, rfl, by decide +kernel, by decide +kernel⟩
theorem bSupplierLists : Bd "supplier_lists" "supplier_lists" sSupplierLists pSupplierLists := fun _ _ _ _ _ _ us hl => match us, hl with | [_], _ => rfl
abbrev nValidStock : List Str := ["plant", "value", "box"]
abbrev pValidStock : List Str := ["plant", "value"]
theorem scValidStock : FnScope nValidStock pValidStock (defScope sValidStock) := ⟨rfl, rfl, rfl, by decide +kernel, rfl, by decide +kernel, by decide +kernel⟩
theorem bValidStock : Bd "valid_stock" "valid_stock" sValidStock pValidStock := fun _ _ _ _ _ _ us hl => match us, hl with | [_, _], _ => rfl
abbrev nIsStock : List Str := ["plant", "value"]
abbrev pIsStock : List Str := ["plant", "value"]
theorem scIsStock : FnScope nIsStock pIsStock (defScope sIsStock) := ⟨rfl, rfl, rfl, by decide +kernel, rfl, by decide +kernel, by decide +kernel⟩
theorem bIsStock : Bd "is_stock" "is_stock" sIsStock pIsStock := fun _ _ _ _ _ _ us hl => match us, hl with | [_, _], _ => rfl
abbrev nRequireStock : List Str := ["plant", "value"]
abbrev pRequireStock : List Str := ["plant", "value"]
theorem scRequireStock : FnScope nRequireStock pRequireStock (defScope sRequireStock) := ⟨rfl, rfl, rfl, by decide +kernel, rfl, by decide +kernel, by decide +kernel⟩
theorem bRequireStock : Bd "require_stock" "require_stock" sRequireStock pRequireStock := fun _ _ _ _ _ _ us hl => match us, hl with | [_, _], _ => rfl
abbrev nRequireDays : List Str := ["value", "low", "high"]
abbrev pRequireDays : List Str := ["value", "low", "high"]
theorem scRequireDays : FnScope nRequireDays pRequireDays (defScope sRequireDays) := ⟨rfl, rfl, rfl, by decide +kernel, rfl, by decide +kernel, by decide +kernel⟩
theorem bRequireDays : Bd "require_days" "require_days" sRequireDays pRequireDays := fun _ _ _ _ _ _ us hl => match us, hl with | [_, _, _], _ => rfl
abbrev nRanks : List Str := ["stock", "rank", "index", "box"]
abbrev pRanks : List Str := ["stock"]
theorem scRanks : FnScope nRanks pRanks (defScope sRanks) := ⟨rfl, rfl, rfl, by decide +kernel, rfl, by decide +kernel, by decide +kernel⟩
theorem bRanks : Bd "ranks" "ranks" sRanks pRanks := fun _ _ _ _ _ _ us hl => match us, hl with | [_], _ => rfl
abbrev nChainOf : List Str := ["plant", "stock", "station", "lists", "found", "other"]
abbrev pChainOf : List Str := ["plant", "stock", "station"]
theorem scChainOf : FnScope nChainOf pChainOf (defScope sChainOf) := ⟨rfl, rfl, rfl, by decide +kernel, rfl, by decide +kernel, by decide +kernel⟩
theorem bChainOf : Bd "chain_of" "chain_of" sChainOf pChainOf := fun _ _ _ _ _ _ us hl => match us, hl with | [_, _, _], _ => rfl
abbrev nNextStock : List Str := ["plant", "stock", "chain", "found", "station", "other"]
abbrev pNextStock : List Str := ["plant", "stock", "chain"]
theorem scNextStock : FnScope nNextStock pNextStock (defScope sNextStock) := ⟨rfl, rfl, rfl, by decide +kernel, rfl, by decide +kernel, by decide +kernel⟩
theorem bNextStock : Bd "next_stock" "next_stock" sNextStock pNextStock := fun _ _ _ _ _ _ us hl => match us, hl with | [_, _, _], _ => rfl
abbrev nFirstDays : List Str := ["plant", "stock", "days", "found", "turn", "chain"]
abbrev pFirstDays : List Str := ["plant", "stock", "days"]
theorem scFirstDays : FnScope nFirstDays pFirstDays (defScope sFirstDays) := ⟨rfl, rfl, rfl, by decide +kernel, rfl, by decide +kernel, by decide +kernel⟩
theorem bFirstDays : Bd "first_days" "first_days" sFirstDays pFirstDays := fun _ _ _ _ _ _ us hl => match us, hl with | [_, _, _], _ => rfl
abbrev nWrongStations : List Str := ["plant", "stock", "index", "station"]
abbrev pWrongStations : List Str := ["plant", "stock"]
theorem scWrongStations : FnScope nWrongStations pWrongStations (defScope sWrongStations) := ⟨rfl, rfl, rfl, by decide +kernel, rfl, by decide +kernel, by decide +kernel⟩
theorem bWrongStations : Bd "wrong_stations" "wrong_stations" sWrongStations pWrongStations := fun _ _ _ _ _ _ us hl => match us, hl with | [_, _], _ => rfl
abbrev nOrderDays : List Str := ["plant", "stock", "days"]
abbrev pOrderDays : List Str := ["plant", "stock"]
theorem scOrderDays : FnScope nOrderDays pOrderDays (defScope sOrderDays) := ⟨rfl, rfl, rfl, by decide +kernel, rfl, by decide +kernel, by decide +kernel⟩
theorem bOrderDays : Bd "order_days" "order_days" sOrderDays pOrderDays := fun _ _ _ _ _ _ us hl => match us, hl with | [_, _], _ => rfl
abbrev nDaysUntilOrdered : List Str := ["plant", "stock"]
abbrev pDaysUntilOrdered : List Str := ["plant", "stock"]
theorem scDaysUntilOrdered : FnScope nDaysUntilOrdered pDaysUntilOrdered (defScope sDaysUntilOrdered) := ⟨rfl, rfl, rfl, by decide +kernel, rfl, by decide +kernel, by decide +kernel⟩
theorem bDaysUntilOrdered : Bd "days_until_ordered" "days_until_ordered" sDaysUntilOrdered pDaysUntilOrdered := fun _ _ _ _ _ _ us hl => match us, hl with | [_, _], _ => rfl
abbrev nWordTable : List Str := ["plant", "ranked", "found", "station", "here", "upper", "rank"]
abbrev pWordTable : List Str := ["plant", "ranked"]
theorem scWordTable : FnScope nWordTable pWordTable (defScope sWordTable) := ⟨rfl, rfl, rfl, by decide +kernel, rfl, by decide +kernel, by decide +kernel⟩
theorem bWordTable : Bd "word_table" "word_table" sWordTable pWordTable := fun _ _ _ _ _ _ us hl => match us, hl with | [_, _], _ => rfl
abbrev nRotatedBy : List Str := ["words", "counts", "found", "row", "count", "left"]
abbrev pRotatedBy : List Str := ["words", "counts"]
theorem scRotatedBy : FnScope nRotatedBy pRotatedBy (defScope sRotatedBy) := ⟨rfl, rfl, rfl, by decide +kernel, rfl, by decide +kernel, by decide +kernel⟩
theorem bRotatedBy : Bd "rotated_by" "rotated_by" sRotatedBy pRotatedBy := fun _ _ _ _ _ _ us hl => match us, hl with | [_, _], _ => rfl
abbrev nCountsAfter : List Str := ["plant", "words", "days", "found", "station", "lists", "row", "full", "left", "supplier"]
abbrev pCountsAfter : List Str := ["plant", "words", "days"]
theorem scCountsAfter : FnScope nCountsAfter pCountsAfter (defScope sCountsAfter) := ⟨rfl, rfl, rfl, by decide +kernel, rfl, by decide +kernel, by decide +kernel⟩
theorem bCountsAfter : Bd "counts_after" "counts_after" sCountsAfter pCountsAfter := fun _ _ _ _ _ _ us hl => match us, hl with | [_, _, _], _ => rfl
abbrev nRanksOfWords : List Str := ["plant", "words", "lists", "parts", "station", "waiting", "supplier"]
abbrev pRanksOfWords : List Str := ["plant", "words"]
theorem scRanksOfWords : FnScope nRanksOfWords pRanksOfWords (defScope sRanksOfWords) := ⟨rfl, rfl, rfl, by decide +kernel, rfl, by decide +kernel, by decide +kernel⟩
theorem bRanksOfWords : Bd "ranks_of_words" "ranks_of_words" sRanksOfWords pRanksOfWords := fun _ _ _ _ _ _ us hl => match us, hl with | [_, _], _ => rfl
abbrev nGreatestDivisor : List Str := ["one", "other"]
abbrev pGreatestDivisor : List Str := ["one", "other"]
theorem scGreatestDivisor : FnScope nGreatestDivisor pGreatestDivisor (defScope sGreatestDivisor) := ⟨rfl, rfl, rfl, by decide +kernel, rfl, by decide +kernel, by decide +kernel⟩
theorem bGreatestDivisor : Bd "greatest_divisor" "greatest_divisor" sGreatestDivisor pGreatestDivisor := fun _ _ _ _ _ _ us hl => match us, hl with | [_, _], _ => rfl
abbrev nPeriodOf : List Str := ["row", "many"]
abbrev pPeriodOf : List Str := ["row"]
theorem scPeriodOf : FnScope nPeriodOf pPeriodOf (defScope sPeriodOf) := ⟨rfl, rfl, rfl, by decide +kernel, rfl, by decide +kernel, by decide +kernel⟩
theorem bPeriodOf : Bd "period_of" "period_of" sPeriodOf pPeriodOf := fun _ _ _ _ _ _ us hl => match us, hl with | [_], _ => rfl
abbrev nLengthOf : List Str := ["plant", "ordered", "words", "lists", "found", "station", "row", "period", "turns", "supplier", "needed"]
abbrev pLengthOf : List Str := ["plant", "ordered"]
theorem scLengthOf : FnScope nLengthOf pLengthOf (defScope sLengthOf) := ⟨rfl, rfl, rfl, by decide +kernel, rfl, by decide +kernel, by decide +kernel⟩
theorem bLengthOf : Bd "length_of" "length_of" sLengthOf pLengthOf := fun _ _ _ _ _ _ us hl => match us, hl with | [_, _], _ => rfl
abbrev nCycleLength : List Str := ["plant", "stock"]
abbrev pCycleLength : List Str := ["plant", "stock"]
theorem scCycleLength : FnScope nCycleLength pCycleLength (defScope sCycleLength) := ⟨rfl, rfl, rfl, by decide +kernel, rfl, by decide +kernel, by decide +kernel⟩
theorem bCycleLength : Bd "cycle_length" "cycle_length" sCycleLength pCycleLength := fun _ _ _ _ _ _ us hl => match us, hl with | [_, _], _ => rfl
abbrev nStockAt : List Str := ["plant", "stock", "days", "early", "ordered", "words", "later", "oldest", "rank"]
abbrev pStockAt : List Str := ["plant", "stock", "days"]
theorem scStockAt : FnScope nStockAt pStockAt (defScope sStockAt) := ⟨rfl, rfl, rfl, by decide +kernel, rfl, by decide +kernel, by decide +kernel⟩
theorem bStockAt : Bd "stock_at" "stock_at" sStockAt pStockAt := fun _ _ _ _ _ _ us hl => match us, hl with | [_, _, _], _ => rfl
abbrev nChainAt : List Str := ["plant", "stock", "day"]
abbrev pChainAt : List Str := ["plant", "stock", "day"]
theorem scChainAt : FnScope nChainAt pChainAt (defScope sChainAt) := ⟨rfl, rfl, rfl, by decide +kernel, rfl, by decide +kernel, by decide +kernel⟩
theorem bChainAt : Bd "chain_at" "chain_at" sChainAt pChainAt := fun _ _ _ _ _ _ us hl => match us, hl with | [_, _, _], _ => rfl
abbrev nMakerOn : List Str := ["plant", "stock", "day"]
abbrev pMakerOn : List Str := ["plant", "stock", "day"]
theorem scMakerOn : FnScope nMakerOn pMakerOn (defScope sMakerOn) := ⟨rfl, rfl, rfl, by decide +kernel, rfl, by decide +kernel, by decide +kernel⟩
theorem bMakerOn : Bd "maker_on" "maker_on" sMakerOn pMakerOn := fun _ _ _ _ _ _ us hl => match us, hl with | [_, _, _], _ => rfl
abbrev nOrderOfSales : List Str := ["plant", "stock", "below", "found", "reached", "box", "station", "supplier"]
abbrev pOrderOfSales : List Str := ["plant", "stock"]
theorem scOrderOfSales : FnScope nOrderOfSales pOrderOfSales (defScope sOrderOfSales) := ⟨rfl, rfl, rfl, by decide +kernel, rfl, by decide +kernel, by decide +kernel⟩
theorem bOrderOfSales : Bd "order_of_sales" "order_of_sales" sOrderOfSales pOrderOfSales := fun _ _ _ _ _ _ us hl => match us, hl with | [_, _], _ => rfl
abbrev nSoldOn : List Str := ["plant", "stock", "day"]
abbrev pSoldOn : List Str := ["plant", "stock", "day"]
theorem scSoldOn : FnScope nSoldOn pSoldOn (defScope sSoldOn) := ⟨rfl, rfl, rfl, by decide +kernel, rfl, by decide +kernel, by decide +kernel⟩
theorem bSoldOn : Bd "sold_on" "sold_on" sSoldOn pSoldOn := fun _ _ _ _ _ _ us hl => match us, hl with | [_, _, _], _ => rfl
abbrev nParseNumber : List Str := ["digits", "most", "digit"]
abbrev pParseNumber : List Str := ["digits", "most"]
theorem scParseNumber : FnScope nParseNumber pParseNumber (defScope sParseNumber) := ⟨rfl, rfl, rfl, by decide +kernel, rfl, by decide +kernel, by decide +kernel⟩
theorem bParseNumber : Bd "parse_number" "parse_number" sParseNumber pParseNumber := fun _ _ _ _ _ _ us hl => match us, hl with | [_, _], _ => rfl
abbrev nParseBox : List Str := ["signs", "number"]
abbrev pParseBox : List Str := ["signs"]
theorem scParseBox : FnScope nParseBox pParseBox (defScope sParseBox) := ⟨rfl, rfl, rfl, by decide +kernel, rfl, by decide +kernel, by decide +kernel⟩
theorem bParseBox : Bd "parse_box" "parse_box" sParseBox pParseBox := fun _ _ _ _ _ _ us hl => match us, hl with | [_], _ => rfl
abbrev nReadPlant : List Str := ["text", "lines", "plant", "stock", "line"]
abbrev pReadPlant : List Str := ["text"]
theorem scReadPlant : FnScope nReadPlant pReadPlant (defScope sReadPlant) := ⟨rfl, rfl, rfl, by decide +kernel, rfl, by decide +kernel, by decide +kernel⟩
theorem bReadPlant : Bd "read_plant" "read_plant" sReadPlant pReadPlant := fun _ _ _ _ _ _ us hl => match us, hl with | [_], _ => rfl
abbrev nParseRow : List Str := ["row", "parts", "number"]
abbrev pParseRow : List Str := ["row"]
theorem scParseRow : FnScope nParseRow pParseRow (defScope sParseRow) := ⟨rfl, rfl, rfl, by decide +kernel, rfl, by decide +kernel, by decide +kernel⟩
theorem bParseRow : Bd "parse_row" "parse_row" sParseRow pParseRow := fun _ _ _ _ _ _ us hl => match us, hl with | [_], _ => rfl
abbrev nLawFount : List Str := ["script", "k", "cell"]
abbrev pLawFount : List Str := ["script", "k"]
theorem scLawFount : FnScope nLawFount pLawFount (defScope sLawFount) := ⟨rfl, rfl, rfl, by decide +kernel, rfl, by decide +kernel, by decide +kernel⟩
theorem bLawFount : Bd "_law_fount" "_law_fount" sLawFount pLawFount := fun _ _ _ _ _ _ us hl => match us, hl with | [_, _], _ => rfl
abbrev nLawSip : List Str := ["fount", "many", "found", "mixed"]
abbrev pLawSip : List Str := ["fount", "many"]
theorem scLawSip : FnScope nLawSip pLawSip (defScope sLawSip) := ⟨rfl, rfl, rfl, by decide +kernel, rfl, by decide +kernel, by decide +kernel⟩
theorem bLawSip : Bd "_law_sip" "_law_sip" sLawSip pLawSip := fun _ _ _ _ _ _ us hl => match us, hl with | [_, _], _ => rfl
abbrev nLawMixed : List Str := ["fount", "items", "left", "turn"]
abbrev pLawMixed : List Str := ["fount", "items"]
theorem scLawMixed : FnScope nLawMixed pLawMixed (defScope sLawMixed) := ⟨rfl, rfl, rfl, by decide +kernel, rfl, by decide +kernel, by decide +kernel⟩
theorem bLawMixed : Bd "_law_mixed" "_law_mixed" sLawMixed pLawMixed := fun _ _ _ _ _ _ us hl => match us, hl with | [_, _], _ => rfl
abbrev nLawGrown : List Str := ["fount", "most", "count", "way", "found", "station", "any_one"]
abbrev pLawGrown : List Str := ["fount", "most"]
theorem scLawGrown : FnScope nLawGrown pLawGrown (defScope sLawGrown) := ⟨rfl, rfl, rfl, by decide +kernel, rfl, by decide +kernel, by decide +kernel⟩
theorem bLawGrown : Bd "_law_grown" "_law_grown" sLawGrown pLawGrown := fun _ _ _ _ _ _ us hl => match us, hl with | [_, _], _ => rfl
abbrev nLawFilled : List Str := ["fount", "plant", "count", "style", "way", "last", "found", "at", "wide"]
abbrev pLawFilled : List Str := ["fount", "plant"]
theorem scLawFilled : FnScope nLawFilled pLawFilled (defScope sLawFilled) := ⟨rfl, rfl, rfl, by decide +kernel, rfl, by decide +kernel, by decide +kernel⟩
theorem bLawFilled : Bd "_law_filled" "_law_filled" sLawFilled pLawFilled := fun _ _ _ _ _ _ us hl => match us, hl with | [_, _], _ => rfl
abbrev nLawOperation : List Str := ["fount", "state", "most", "great", "count", "way"]
abbrev pLawOperation : List Str := ["fount", "state", "most", "great"]
theorem scLawOperation : FnScope nLawOperation pLawOperation (defScope sLawOperation) := ⟨rfl, rfl, rfl, by decide +kernel, rfl, by decide +kernel, by decide +kernel⟩
theorem bLawOperation : Bd "_law_operation" "_law_operation" sLawOperation pLawOperation := fun _ _ _ _ _ _ us hl => match us, hl with | [_, _, _, _], _ => rfl
abbrev nLawRow : List Str := ["operation", "part"]
abbrev pLawRow : List Str := ["operation"]
theorem scLawRow : FnScope nLawRow pLawRow (defScope sLawRow) := ⟨rfl, rfl, rfl, by decide +kernel, rfl, by decide +kernel, by decide +kernel⟩
theorem bLawRow : Bd "_law_row" "_law_row" sLawRow pLawRow := fun _ _ _ _ _ _ us hl => match us, hl with | [_], _ => rfl
abbrev nLawText : List Str := ["plant", "boxes", "lines", "boss", "box", "line"]
abbrev pLawText : List Str := ["plant", "boxes"]
theorem scLawText : FnScope nLawText pLawText (defScope sLawText) := ⟨rfl, rfl, rfl, by decide +kernel, rfl, by decide +kernel, by decide +kernel⟩
theorem bLawText : Bd "_law_text" "_law_text" sLawText pLawText := fun _ _ _ _ _ _ us hl => match us, hl with | [_, _], _ => rfl
abbrev nLawOpen : List Str := ["plant", "boxes"]
abbrev pLawOpen : List Str := ["plant", "boxes"]
theorem scLawOpen : FnScope nLawOpen pLawOpen (defScope sLawOpen) := ⟨rfl, rfl, rfl, by decide +kernel, rfl, by decide +kernel, by decide +kernel⟩
theorem bLawOpen : Bd "_law_open" "_law_open" sLawOpen pLawOpen := fun _ _ _ _ _ _ us hl => match us, hl with | [_, _], _ => rfl
abbrev nLawDone : List Str := ["live_here", "operation"]
abbrev pLawDone : List Str := ["live_here", "operation"]
theorem scLawDone : FnScope nLawDone pLawDone (defScope sLawDone) := ⟨rfl, rfl, rfl, by decide +kernel, rfl, by decide +kernel, by decide +kernel⟩
theorem bLawDone : Bd "_law_done" "_law_done" sLawDone pLawDone := fun _ _ _ _ _ _ us hl => match us, hl with | [_, _], _ => rfl
abbrev nLawAnswers : List Str := ["console", "row"]
abbrev pLawAnswers : List Str := ["console"]
theorem scLawAnswers : FnScope nLawAnswers pLawAnswers (defScope sLawAnswers) := ⟨rfl, rfl, rfl, by decide +kernel, rfl, by decide +kernel, by decide +kernel⟩
theorem bLawAnswers : Bd "_law_answers" "_law_answers" sLawAnswers pLawAnswers := fun _ _ _ _ _ _ us hl => match us, hl with | [_], _ => rfl
abbrev nLawShown : List Str := ["told"]
abbrev pLawShown : List Str := ["told"]
theorem scLawShown : FnScope nLawShown pLawShown (defScope sLawShown) := ⟨rfl, rfl, rfl, by decide +kernel, rfl, by decide +kernel, by decide +kernel⟩
theorem bLawShown : Bd "_law_shown" "_law_shown" sLawShown pLawShown := fun _ _ _ _ _ _ us hl => match us, hl with | [_], _ => rfl
abbrev nLaw : List Str := ["script", "k", "fount", "plant", "boxes", "console", "other", "live_here", "operations", "told", "one", "turn", "operation", "box"]
abbrev pLaw : List Str := ["script"]
theorem scLaw : FnScope nLaw pLaw (defScope sLaw) := ⟨rfl, rfl, rfl, by decide +kernel, rfl, by decide +kernel, by decide +kernel⟩
theorem bLaw : Bd "law" "law" sLaw pLaw := fun _ _ _ _ _ _ us hl => match us, hl with | [_], _ => rfl
abbrev nLivePlantInit : List Str := ["self", "plant", "stock"]
abbrev pLivePlantInit : List Str := ["self", "plant", "stock"]
theorem scLivePlantInit : FnScope nLivePlantInit pLivePlantInit (defScope sLivePlantInit) := ⟨rfl, rfl, rfl, by decide +kernel, rfl, by decide +kernel, by decide +kernel⟩
abbrev nLivePlantCommit : List Str := ["self", "operation", "plant", "stock"]
abbrev pLivePlantCommit : List Str := ["self", "operation", "plant", "stock"]
theorem scLivePlantCommit : FnScope nLivePlantCommit pLivePlantCommit (defScope sLivePlantCommit) := ⟨rfl, rfl, rfl, by decide +kernel, rfl, by decide +kernel, by decide +kernel⟩
theorem bLivePlantCommit : Bd "commit" "LivePlant.commit" sLivePlantCommit pLivePlantCommit := fun _ _ _ _ _ _ us hl => match us, hl with | [_, _, _, _], _ => rfl
abbrev nLivePlantSellFrom : List Str := ["self", "station", "operation", "plant", "stock"]
abbrev pLivePlantSellFrom : List Str := ["self", "station", "operation"]
theorem scLivePlantSellFrom : FnScope nLivePlantSellFrom pLivePlantSellFrom (defScope sLivePlantSellFrom) := ⟨rfl, rfl, rfl, by decide +kernel, rfl, by decide +kernel, by decide +kernel⟩
theorem bLivePlantSellFrom : Bd "sell_from" "LivePlant.sell_from" sLivePlantSellFrom pLivePlantSellFrom := fun _ _ _ _ _ _ us hl => match us, hl with | [_, _, _], _ => rfl
abbrev nLivePlantDay : List Str := ["self"]
abbrev pLivePlantDay : List Str := ["self"]
theorem scLivePlantDay : FnScope nLivePlantDay pLivePlantDay (defScope sLivePlantDay) := ⟨rfl, rfl, rfl, by decide +kernel, rfl, by decide +kernel, by decide +kernel⟩
theorem bLivePlantDay : Bd "day" "LivePlant.day" sLivePlantDay pLivePlantDay := fun _ _ _ _ _ _ us hl => match us, hl with | [_], _ => rfl
abbrev nLivePlantDays : List Str := ["self", "days", "plant", "stock"]
abbrev pLivePlantDays : List Str := ["self", "days"]
theorem scLivePlantDays : FnScope nLivePlantDays pLivePlantDays (defScope sLivePlantDays) := ⟨rfl, rfl, rfl, by decide +kernel, rfl, by decide +kernel, by decide +kernel⟩
theorem bLivePlantDays : Bd "days" "LivePlant.days" sLivePlantDays pLivePlantDays := fun _ _ _ _ _ _ us hl => match us, hl with | [_, _], _ => rfl
abbrev nLivePlantSell : List Str := ["self", "station"]
abbrev pLivePlantSell : List Str := ["self", "station"]
theorem scLivePlantSell : FnScope nLivePlantSell pLivePlantSell (defScope sLivePlantSell) := ⟨rfl, rfl, rfl, by decide +kernel, rfl, by decide +kernel, by decide +kernel⟩
theorem bLivePlantSell : Bd "sell" "LivePlant.sell" sLivePlantSell pLivePlantSell := fun _ _ _ _ _ _ us hl => match us, hl with | [_, _], _ => rfl
abbrev nLivePlantAdd : List Str := ["self", "station", "plant", "stock"]
abbrev pLivePlantAdd : List Str := ["self", "station"]
theorem scLivePlantAdd : FnScope nLivePlantAdd pLivePlantAdd (defScope sLivePlantAdd) := ⟨rfl, rfl, rfl, by decide +kernel, rfl, by decide +kernel, by decide +kernel⟩
theorem bLivePlantAdd : Bd "add" "LivePlant.add" sLivePlantAdd pLivePlantAdd := fun _ _ _ _ _ _ us hl => match us, hl with | [_, _], _ => rfl
abbrev nLivePlantRemove : List Str := ["self", "plant", "stock"]
abbrev pLivePlantRemove : List Str := ["self"]
theorem scLivePlantRemove : FnScope nLivePlantRemove pLivePlantRemove (defScope sLivePlantRemove) := ⟨rfl, rfl, rfl, by decide +kernel, rfl, by decide +kernel, by decide +kernel⟩
theorem bLivePlantRemove : Bd "remove" "LivePlant.remove" sLivePlantRemove pLivePlantRemove := fun _ _ _ _ _ _ us hl => match us, hl with | [_], _ => rfl
abbrev nLivePlantUndo : List Str := ["self", "operation"]
abbrev pLivePlantUndo : List Str := ["self"]
theorem scLivePlantUndo : FnScope nLivePlantUndo pLivePlantUndo (defScope sLivePlantUndo) := ⟨rfl, rfl, rfl, by decide +kernel, rfl, by decide +kernel, by decide +kernel⟩
theorem bLivePlantUndo : Bd "undo" "LivePlant.undo" sLivePlantUndo pLivePlantUndo := fun _ _ _ _ _ _ us hl => match us, hl with | [_], _ => rfl
abbrev nLivePlantPlant : List Str := ["self"]
abbrev pLivePlantPlant : List Str := ["self"]
theorem scLivePlantPlant : FnScope nLivePlantPlant pLivePlantPlant (defScope sLivePlantPlant) := ⟨rfl, rfl, rfl, by decide +kernel, rfl, by decide +kernel, by decide +kernel⟩
theorem bLivePlantPlant : Bd "plant" "LivePlant.plant" sLivePlantPlant pLivePlantPlant := fun _ _ _ _ _ _ us hl => match us, hl with | [_], _ => rfl
abbrev nLivePlantStock : List Str := ["self"]
abbrev pLivePlantStock : List Str := ["self"]
theorem scLivePlantStock : FnScope nLivePlantStock pLivePlantStock (defScope sLivePlantStock) := ⟨rfl, rfl, rfl, by decide +kernel, rfl, by decide +kernel, by decide +kernel⟩
theorem bLivePlantStock : Bd "stock" "LivePlant.stock" sLivePlantStock pLivePlantStock := fun _ _ _ _ _ _ us hl => match us, hl with | [_], _ => rfl
abbrev nLivePlantLog : List Str := ["self", "operation", "before"]
abbrev pLivePlantLog : List Str := ["self"]
theorem scLivePlantLog : FnScope nLivePlantLog pLivePlantLog (defScope sLivePlantLog) := ⟨rfl, rfl, rfl, by decide +kernel, rfl, by decide +kernel, by decide +kernel⟩
theorem bLivePlantLog : Bd "log" "LivePlant.log" sLivePlantLog pLivePlantLog := fun _ _ _ _ _ _ us hl => match us, hl with | [_], _ => rfl
abbrev nConsoleInit : List Str := ["self"]
abbrev pConsoleInit : List Str := ["self"]
theorem scConsoleInit : FnScope nConsoleInit pConsoleInit (defScope sConsoleInit) := ⟨rfl, rfl, rfl, by decide +kernel, rfl, by decide +kernel, by decide +kernel⟩
theorem bConsoleInit : Bd "__init__" "Console.__init__" sConsoleInit pConsoleInit := fun _ _ _ _ _ _ us hl => match us, hl with | [_], _ => rfl
abbrev nConsoleSay : List Str := ["self", "row", "name", "argument", "plant", "stock"]
abbrev pConsoleSay : List Str := ["self", "row"]
theorem scConsoleSay : FnScope nConsoleSay pConsoleSay (defScope sConsoleSay) := ⟨rfl, rfl, rfl, by decide +kernel, rfl, by decide +kernel, by decide +kernel⟩
theorem bConsoleSay : Bd "say" "Console.say" sConsoleSay pConsoleSay := fun _ _ _ _ _ _ us hl => match us, hl with | [_, _], _ => rfl
abbrev nConsoleOperate : List Str := ["self", "name", "argument"]
abbrev pConsoleOperate : List Str := ["self", "name", "argument"]
theorem scConsoleOperate : FnScope nConsoleOperate pConsoleOperate (defScope sConsoleOperate) := ⟨rfl, rfl, rfl, by decide +kernel, rfl, by decide +kernel, by decide +kernel⟩
theorem bConsoleOperate : Bd "operate" "Console.operate" sConsoleOperate pConsoleOperate := fun _ _ _ _ _ _ us hl => match us, hl with | [_, _, _], _ => rfl
abbrev nConsoleAnswer : List Str := ["self", "name", "argument", "plant", "stock", "box", "supplier"]
abbrev pConsoleAnswer : List Str := ["self", "name", "argument"]
theorem scConsoleAnswer : FnScope nConsoleAnswer pConsoleAnswer (defScope sConsoleAnswer) := ⟨rfl, rfl, rfl, by decide +kernel, rfl, by decide +kernel, by decide +kernel⟩
theorem bConsoleAnswer : Bd "answer" "Console.answer" sConsoleAnswer pConsoleAnswer := fun _ _ _ _ _ _ us hl => match us, hl with | [_, _, _], _ => rfl
end K6

set_option Elab.async false
set_option linter.all false
set_option maxRecDepth 100000
set_option maxHeartbeats 4000000
/-! K6Lib: what stays of the heap; loops and comprehensions over any source -/
namespace K6
open PySem PySem.Spec PyProof.Rows L2
abbrev iV (xs : List Int) : List V := xs.map V.int
abbrev nI (xs : List Nat) : List Int := xs.map fun n => ((n : Nat) : Int)
abbrev TL : Type := List (Addr × Str)
/-! ### what stays -/
/-- not there, or a table -/
def Fr (H : Hp) (a : Addr) : Prop := ∀ o, H a = some o → ∃ ps, o = .tbl ps
structure Gx (T : TL) (ex : List Addr) (H H' : Hp) : Prop where
  tup : ∀ {b xs}, H b = some (.tup xs) → H' b = some (.tup xs)
  oth : ∀ {b o}, H b = some o → (∀ ps, o ≠ .tbl ps) → b ∉ ex → H' b = some o
  tab : LamX.Tabs T H → LamX.Tabs T H'
/-- what may be written: a list, a dict, an instance -/
def Mb : HO → Prop
  | .lst _ => True
  | .dK _ => True
  | .ins _ _ _ => True
  | _ => False
section
variable {T : TL} {e1 e2 ex : List Addr} {H H0 H1 H2 : Hp} {l p : Addr} {o u : HO}
theorem Fr.of (h : H l = none) : Fr H l := fun o e => by rw [h] at e; cases e
theorem Gx.refl : Gx T [] H H := ⟨fun h => h, fun h _ _ => h, fun h => h⟩
theorem Gx.refl' : Gx T ex H H := ⟨fun h => h, fun h _ _ => h, fun h => h⟩
theorem Gx.trans (a : Gx T e1 H H1) (b : Gx T e2 H1 H2) (c : ∀ x ∈ e2, x ∈ e1 ∨ Fr H x) : Gx T e1 H H2 := by
  refine ⟨fun h => b.tup (a.tup h), fun {x o} h n ne => ?_, fun h => b.tab (a.tab h)⟩
  refine b.oth (a.oth h n ne) n fun hx => ?_
  rcases c x hx with q | q
  · exact ne q
  · obtain ⟨ps, z⟩ := q o h
    exact n ps z
theorem Gx.then (a : Gx T ex H H1) (b : Gx T [] H1 H2) : Gx T ex H H2 := a.trans b fun x hx => absurd hx (by simp)
theorem Gx.new (hp : H p = none) : Gx T [] H (upd H p o) := by
  have k : ∀ b u, H b = some u → upd H p o b = some u := fun b u e => by rw [upd_ne (ne_of_none e hp)]; exact e
  exact ⟨fun h => k _ _ h, fun h _ _ => k _ _ h, fun h => h.ext k⟩
theorem Gx.more (a : Gx T ex H H1) (hp : H1 p = none) : Gx T ex H (upd H1 p o) := a.then (Gx.new hp)
theorem Gx.wide (a : Gx T e1 H H1) (h : ∀ x ∈ e1, x ∈ e2) : Gx T e2 H H1 := ⟨a.tup, fun e n ne => a.oth e n fun q => ne (h _ q), a.tab⟩
theorem Gx.set (hl : H l = some u) (m : Mb u) : Gx T [l] H (upd H l o) := by
  have nt : ∀ {b xs}, H b = some (.tup xs) → b ≠ l := fun {b xs} e z => by
    rw [z, hl] at e
    cases e
    exact m
  refine ⟨fun h => by rw [upd_ne (nt h)]; exact h, fun h _ ne => by rw [upd_ne (fun z => ne (by rw [z]; simp))]; exact h, fun h q hq => ?_⟩
  obtain ⟨ps, h1, h2, h3⟩ := h q hq
  refine ⟨ps, ?_, h2, fun pos cv hc => ?_⟩
  · rw [upd_ne]
    · exact h1
    · intro z
      rw [z, hl] at h1
      cases h1
      exact m
  · obtain ⟨c, e, e3⟩ := h3 pos cv hc
    refine ⟨c, e, ?_⟩
    rw [upd_ne]
    · exact e3
    · intro z
      rw [z, hl] at e3
      cases e3
      exact m
theorem Gx.fr (a : Gx T [] H0 H) (hp : H p = none) : Fr H0 p := fun o e => by
  apply Classical.byContradiction
  intro hn
  have := a.oth e (fun ps z => hn ⟨ps, z⟩) (by simp)
  rw [hp] at this
  cases this
theorem Gx.frX (a : Gx T ex H0 H) (hp : H p = none) (hx : p ∉ ex) : Fr H0 p := fun o e => by
  apply Classical.byContradiction
  intro hn
  have := a.oth e (fun ps z => hn ⟨ps, z⟩) hx
  rw [hp] at this
  cases this
theorem Gx.put (a : Gx T ex H0 H) (c : l ∈ ex ∨ Fr H0 l) (hl : H l = some u) (m : Mb u) : Gx T ex H0 (upd H l o) := a.trans (Gx.set hl m) fun x hx => by
  have : x = l := by simpa using hx
  rw [this]
  exact c
theorem Gx.lst {xs : List V} (a : Gx T [] H H1) (h : H l = some (.lst xs)) : H1 l = some (.lst xs) := a.oth h (fun ps z => by cases z) (by simp)
theorem Gx.dK {xs : List (Key × V)} (a : Gx T [] H H1) (h : H l = some (.dK xs)) : H1 l = some (.dK xs) := a.oth h (fun ps z => by cases z) (by simp)
theorem Gx.ins {C dx : Addr} {fs : List (Str × V)} (a : Gx T [] H H1) (h : H l = some (.ins C dx fs)) : H1 l = some (.ins C dx fs) := a.oth h (fun ps z => by cases z) (by simp)
theorem Gx.lstX {xs : List V} (a : Gx T ex H H1) (h : H l = some (.lst xs)) (n : l ∉ ex) : H1 l = some (.lst xs) := a.oth h (fun ps z => by cases z) n
theorem Gx.insX {C dx : Addr} {fs : List (Str × V)} (a : Gx T ex H H1) (h : H l = some (.ins C dx fs)) (n : l ∉ ex) : H1 l = some (.ins C dx fs) := a.oth h (fun ps z => by cases z) n
theorem Gx.ofExt (a : LamX.ExtN H H1) (t : LamX.Tabs T H1) : Gx T [] H H1 := ⟨fun h => a _ _ h (fun ps z => by cases z), fun h n _ => a _ _ h n, fun _ => t⟩
end
/-! ### sources -/
/-- J gives n items, the i-th from the heap H in H' told by Y, as long as Src holds -/
structure Gives (J : It) (n : Nat) (Y : Nat → Hp → V → Hp → Prop) (Src : Hp → Prop) : Prop where
  go : ∀ i H, i < n → Src H → J.go i H
  yld : ∀ i H x H', i < n → Src H → J.yld i H x H' → Y i H x H'
  stop : ∀ H, Src H → J.stop n H
abbrev Y1 (xs : List V) (i : Nat) (H : Hp) (x : V) (H' : Hp) : Prop := H' = H ∧ xs[i]? = some x
/-- a new pair of x and the i-th of ys -/
abbrev Y2 (f : Nat → V) (ys : List V) (i : Nat) (H : Hp) (x : V) (H' : Hp) : Prop := ∃ p y, x = .ref p ∧ H p = none ∧ H' = upd H p (.tup [f i, y]) ∧ ys[i]? = some y
abbrev Y3 (xs ys : List V) (i : Nat) (H : Hp) (x : V) (H' : Hp) : Prop := ∃ p a b, x = .ref p ∧ H p = none ∧ H' = upd H p (.tup [a, b]) ∧ xs[i]? = some a ∧ ys[i]? = some b
theorem gv_list {K : PySem.W.Frag} {a : Addr} {xs : List V} : Gives (Itl K a) xs.length (Y1 xs) fun H => SqL K H a xs where
  go := fun i H hi h => ⟨xs, xs[i], h, by simp [hi]⟩
  yld := fun i H x H' hi h y => ⟨y.1, y.2 _ h⟩
  stop := fun H h => ⟨xs, h, Nat.le_refl _⟩
theorem gv_tup {K : PySem.W.Frag} {a : Addr} {xs : List V} : Gives (Itt K a) xs.length (Y1 xs) fun H => SqT K H a xs where
  go := fun i H hi h => ⟨xs, xs[i], h, by simp [hi]⟩
  yld := fun i H x H' hi h y => ⟨y.1, y.2 _ h⟩
  stop := fun H h => ⟨xs, h, Nat.le_refl _⟩
theorem gv_range {lo : Int} {n : Nat} : Gives (Itr lo n) n (fun i H x H' => H' = H ∧ x = .int (lo + (i : Nat))) fun _ => True where
  go := fun i H hi _ => hi
  yld := fun i H x H' hi _ y => y
  stop := fun H _ => Nat.le_refl _
theorem gv_rangeC {lo c : Int} {n : Nat} : Gives (Itc lo c n) n (fun i H x H' => H' = H ∧ x = .int (lo + (i : Nat) * c)) fun _ => True where
  go := fun i H hi _ => hi
  yld := fun i H x H' hi _ y => y
  stop := fun H _ => Nat.le_refl _
theorem gv_enumT {K : PySem.W.Frag} {a : Addr} {xs : List V} : Gives (IteT K a) xs.length (Y2 (fun i => .int (i : Nat)) xs) fun H => SqT K H a xs where
  go := fun i H hi h => ⟨xs, xs[i], h, by simp [hi]⟩
  yld := fun i H x H' hi h y => by
    obtain ⟨p, v, e1, e2, e3, y⟩ := y
    exact ⟨p, v, e1, e2, e3, y _ h⟩
  stop := fun H h => ⟨xs, h, Nat.le_refl _⟩
theorem gv_enum {K : PySem.W.Frag} {a : Addr} {xs : List V} : Gives (Ite K a) xs.length (Y2 (fun i => .int (i : Nat)) xs) fun H => SqL K H a xs where
  go := fun i H hi h => ⟨xs, xs[i], h, by simp [hi]⟩
  yld := fun i H x H' hi h y => by
    obtain ⟨p, v, e1, e2, e3, y⟩ := y
    exact ⟨p, v, e1, e2, e3, y _ h⟩
  stop := fun H h => ⟨xs, h, Nat.le_refl _⟩
theorem gv_zip {K : PySem.W.Frag} {a b : Addr} {xs ys : List V} : Gives (Itz K a b) (min xs.length ys.length) (Y3 xs ys) fun H => SqL K H a xs ∧ SqL K H b ys where
  go := fun i H hi h => ⟨xs, ys, xs[i]'(by omega), ys[i]'(by omega), h.1, h.2, by simp, by simp⟩
  yld := fun i H x H' hi h y => by
    obtain ⟨p, v, u, e1, e2, e3, y1, y2⟩ := y
    exact ⟨p, v, u, e1, e2, e3, y1 _ h.1, y2 _ h.2⟩
  stop := fun H h => ⟨xs, ys, h.1, h.2, by omega⟩
theorem gv_zipT {K : PySem.W.Frag} {a b : Addr} {xs ys : List V} : Gives (RZ.ItzT K a b) (min xs.length ys.length) (Y3 xs ys) fun H => SqT K H a xs ∧ SqT K H b ys where
  go := fun i H hi h => ⟨xs, ys, xs[i]'(by omega), ys[i]'(by omega), h.1, h.2, by simp, by simp⟩
  yld := fun i H x H' hi h y => by
    obtain ⟨p, v, u, e1, e2, e3, y1, y2⟩ := y
    exact ⟨p, v, u, e1, e2, e3, y1 _ h.1, y2 _ h.2⟩
  stop := fun H h => ⟨xs, ys, h.1, h.2, by omega⟩
section
variable {J : It} {n : Nat} {Y : Nat → Hp → V → Hp → Prop} {Src : Hp → Prop}
theorem for_gen {g : TG} {tb : TS} {D : Ends} {σ : L2.St} {H : Hp} (G : Gives J n Y Src) (Pv : Nat → L2.St → Hp → Prop) (h0 : Pv 0 σ H) (hl : ∀ i σ H, i ≤ n → Pv i σ H → Src H)
    (hs : ∀ i x σ H H', i < n → Pv i σ H → Y i H x H' → g x σ H' fun σ2 H2 => tb { D with nx := Pv (i + 1), ct := Pv (i + 1), bk := D.nx } σ2 H2) (hd : ∀ σ H, Pv n σ H → D.nx σ H) :
    ∃ W : Nat → Nat → L2.St → Hp → Prop, (∃ m, W 0 m σ H) ∧ ∀ i m σ H, W i m σ H →
      (J.stop i H ∧ D.nx σ H) ∨ (J.go i H ∧ ∃ N : L2.St → Hp → Prop, (∀ σ' H', N σ' H' → ∃ m', m' < m ∧ W (i + 1) m' σ' H') ∧ ∀ x H', J.yld i H x H' → g x σ H' fun σ2 H2 => tb { D with nx := N, ct := N, bk := D.nx } σ2 H2) := by
  refine ⟨fun i m σ H => m = n - i ∧ i ≤ n ∧ Pv i σ H, ⟨n, by simp, Nat.zero_le _, h0⟩, ?_⟩
  rintro i m σ H ⟨rfl, hi, p⟩
  have q := hl i σ H hi p
  by_cases lt : i < n
  · exact .inr ⟨G.go i H lt q, Pv (i + 1), fun σ2 H2 p2 => ⟨n - (i + 1), by omega, rfl, lt, p2⟩, fun x H2 y => hs i x σ H H2 lt p (G.yld i H x H2 lt q y)⟩
  · have e : i = n := by omega
    subst e
    exact .inl ⟨G.stop H q, hd σ H p⟩
theorem lc_gen {g : TG} {tt : TT} {te : TE} {vs : List Nat} {σ : L2.St} {H1 : Hp} {D : Addr} {Qd : Hp → Prop} (G : Gives J n Y Src) (Pv : Nat → Hp → Prop) (h0 : Pv 0 (upd H1 D (.lst []))) (hl : ∀ i H, i ≤ n → Pv i H → Src H)
    (hs : ∀ i x H H', i < n → Pv i H → Y i H x H' → g x (wipe σ vs) H' fun σ2 H2 => wipe σ2 vs = wipe σ vs ∧ tt σ2 H2 fun b H3 =>
      if b = true then te σ2 H3 fun y H4 => ∃ acc, H4 D = some (.lst acc) ∧ acc.length < sizeLine ∧ Pv (i + 1) (upd H4 D (.lst (acc ++ [y]))) else Pv (i + 1) H3) (hd : ∀ H, Pv n H → Qd H) :
    ∃ W : Nat → Nat → Hp → Prop, (∃ m, W 0 m (upd H1 D (.lst []))) ∧ ∀ i m H, W i m H →
      (J.stop i H ∧ Qd H) ∨ (J.go i H ∧ ∃ Nx : Hp → Prop, (∀ H', Nx H' → ∃ m', m' < m ∧ W (i + 1) m' H') ∧ ∀ x H', J.yld i H x H' → g x (wipe σ vs) H' fun σ2 H2 => wipe σ2 vs = wipe σ vs ∧ tt σ2 H2 fun b H3 =>
        if b = true then te σ2 H3 fun y H4 => ∃ acc, H4 D = some (.lst acc) ∧ acc.length < sizeLine ∧ Nx (upd H4 D (.lst (acc ++ [y]))) else Nx H3) := by
  refine ⟨fun i m H => m = n - i ∧ i ≤ n ∧ Pv i H, ⟨n, by simp, Nat.zero_le _, h0⟩, ?_⟩
  rintro i m H ⟨rfl, hi, p⟩
  have q := hl i H hi p
  by_cases lt : i < n
  · exact .inr ⟨G.go i H lt q, Pv (i + 1), fun H2 p2 => ⟨n - (i + 1), by omega, rfl, lt, p2⟩, fun x H2 y => hs i x H H2 lt p (G.yld i H x H2 lt q y)⟩
  · have e : i = n := by omega
    subst e
    exact .inl ⟨G.stop H q, hd H p⟩
theorem dc_gen {g : TG} {tt : TT} {tk tv : TE} {vs : List Nat} {σ : L2.St} {H1 : Hp} {D : Addr} {Qd : Hp → Prop} (G : Gives J n Y Src) (Pv : Nat → Hp → Prop) (h0 : Pv 0 (upd H1 D (.dK []))) (hl : ∀ i H, i ≤ n → Pv i H → Src H)
    (hs : ∀ i x H H', i < n → Pv i H → Y i H x H' → g x (wipe σ vs) H' fun σ2 H2 => wipe σ2 vs = wipe σ vs ∧ tt σ2 H2 fun b H3 =>
      if b = true then tk σ2 H3 fun y H4 => tv σ2 H4 fun z H5 => ∃ kvs k, y = kV k ∧ H5 D = some (.dK kvs) ∧ kvs.length < sizeLine ∧ Pv (i + 1) (upd H5 D (.dK (putK kvs k z))) else Pv (i + 1) H3) (hd : ∀ H, Pv n H → Qd H) :
    ∃ W : Nat → Nat → Hp → Prop, (∃ m, W 0 m (upd H1 D (.dK []))) ∧ ∀ i m H, W i m H →
      (J.stop i H ∧ Qd H) ∨ (J.go i H ∧ ∃ Nx : Hp → Prop, (∀ H', Nx H' → ∃ m', m' < m ∧ W (i + 1) m' H') ∧ ∀ x H', J.yld i H x H' → g x (wipe σ vs) H' fun σ2 H2 => wipe σ2 vs = wipe σ vs ∧ tt σ2 H2 fun b H3 =>
        if b = true then tk σ2 H3 fun y H4 => tv σ2 H4 fun z H5 => ∃ kvs k, y = kV k ∧ H5 D = some (.dK kvs) ∧ kvs.length < sizeLine ∧ Nx (upd H5 D (.dK (putK kvs k z))) else Nx H3) := by
  refine ⟨fun i m H => m = n - i ∧ i ≤ n ∧ Pv i H, ⟨n, by simp, Nat.zero_le _, h0⟩, ?_⟩
  rintro i m H ⟨rfl, hi, p⟩
  have q := hl i H hi p
  by_cases lt : i < n
  · exact .inr ⟨G.go i H lt q, Pv (i + 1), fun H2 p2 => ⟨n - (i + 1), by omega, rfl, lt, p2⟩, fun x H2 y => hs i x H H2 lt p (G.yld i H x H2 lt q y)⟩
  · have e : i = n := by omega
    subst e
    exact .inl ⟨G.stop H q, hd H p⟩
theorem fm_le (f : Nat → Option V) : ∀ n, ((List.range n).filterMap f).length ≤ n := fun n => by
  have := List.length_filterMap_le f (List.range n)
  rw [List.length_range] at this
  exact this
/-- the list of what f gives; the items leave the heap that was, but for new objects -/
theorem lc_fm {T : TL} {g : TG} {tt : TT} {te : TE} {vs : List Nat} {σ : L2.St} {H1 : Hp} {D : Addr} {Qd : Hp → Prop} (G : Gives J n Y Src) (hD : H1 D = none) (hsrc : ∀ H, Gx T [] H1 H → Src H) (hn : n ≤ 1000000) (f : Nat → Option V)
    (hs : ∀ i x H H' (Ny : V → Hp → Prop) (Nn : Hp → Prop), i < n → Gx T [] H1 H → Y i H x H' → (∀ y H4, f i = some y → Gx T [] H H4 → Ny y H4) → (∀ H4, f i = none → Gx T [] H H4 → Nn H4) →
      g x (wipe σ vs) H' fun σ2 H2 => wipe σ2 vs = wipe σ vs ∧ tt σ2 H2 fun b H3 => if b = true then te σ2 H3 Ny else Nn H3)
    (hd : ∀ H, Gx T [] H1 H → H D = some (.lst ((List.range n).filterMap f)) → Qd H) :
    ∃ W : Nat → Nat → Hp → Prop, (∃ m, W 0 m (upd H1 D (.lst []))) ∧ ∀ i m H, W i m H →
      (J.stop i H ∧ Qd H) ∨ (J.go i H ∧ ∃ Nx : Hp → Prop, (∀ H', Nx H' → ∃ m', m' < m ∧ W (i + 1) m' H') ∧ ∀ x H', J.yld i H x H' → g x (wipe σ vs) H' fun σ2 H2 => wipe σ2 vs = wipe σ vs ∧ tt σ2 H2 fun b H3 =>
        if b = true then te σ2 H3 fun y H4 => ∃ acc, H4 D = some (.lst acc) ∧ acc.length < sizeLine ∧ Nx (upd H4 D (.lst (acc ++ [y]))) else Nx H3) := by
  have fD : Fr H1 D := Fr.of hD
  refine lc_gen G (fun i H => Gx T [] H1 H ∧ H D = some (.lst ((List.range i).filterMap f))) ⟨Gx.new hD, upd_same⟩ (fun i H _ p => hsrc H p.1) (fun i x H H' hi p y => ?_) fun H p => hd H p.1 p.2
  refine hs i x H H' _ _ hi p.1 y (fun y H4 hf g4 => ?_) fun H4 hf g4 => ?_
  · have h4 := g4.lst p.2
    refine ⟨_, h4, ?_, (p.1.then g4).put (.inr fD) h4 trivial, ?_⟩
    · have := fm_le f i
      rw [sizeLine_eq]
      omega
    · rw [upd_same, List.range_succ, List.filterMap_append]
      simp [hf]
  · refine ⟨p.1.then g4, ?_⟩
    rw [g4.lst p.2, List.range_succ, List.filterMap_append]
    simp [hf]
theorem fm_get (ys : List V) : (List.range ys.length).filterMap (fun i => ys[i]?) = ys := by
  apply List.ext_getElem?
  intro j
  have e : ∀ n, n ≤ ys.length → (List.range n).filterMap (fun i => ys[i]?) = ys.take n := by
    intro n
    induction n with
    | zero => intro _; rfl
    | succ n ih =>
      intro hn
      have hl : n < ys.length := hn
      rw [List.range_succ, List.filterMap_append, ih (by omega), List.take_add_one]
      simp [hl]
  rw [e _ (Nat.le_refl _), List.take_length]
/-- one item for each -/
theorem lc_map {T : TL} {g : TG} {te : TE} {vs : List Nat} {σ : L2.St} {H1 : Hp} {D : Addr} {Qd : Hp → Prop} (G : Gives J n Y Src) (hD : H1 D = none) (hsrc : ∀ H, Gx T [] H1 H → Src H) (hn : n ≤ 1000000) (ys : List V) (hy : ys.length = n)
    (hs : ∀ i x y H H' (Ny : V → Hp → Prop), i < n → Gx T [] H1 H → Y i H x H' → ys[i]? = some y → (∀ H4, Gx T [] H H4 → Ny y H4) →
      g x (wipe σ vs) H' fun σ2 H2 => wipe σ2 vs = wipe σ vs ∧ te σ2 H2 Ny)
    (mono : ∀ x (σ : L2.St) H (Q Q' : L2.St → Hp → Prop), (∀ σ2 H2, Q σ2 H2 → Q' σ2 H2) → g x σ H Q → g x σ H Q')
    (hd : ∀ H, Gx T [] H1 H → H D = some (.lst ys) → Qd H) :
    ∃ W : Nat → Nat → Hp → Prop, (∃ m, W 0 m (upd H1 D (.lst []))) ∧ ∀ i m H, W i m H →
      (J.stop i H ∧ Qd H) ∨ (J.go i H ∧ ∃ Nx : Hp → Prop, (∀ H', Nx H' → ∃ m', m' < m ∧ W (i + 1) m' H') ∧ ∀ x H', J.yld i H x H' → g x (wipe σ vs) H' fun σ2 H2 => wipe σ2 vs = wipe σ vs ∧ tYes σ2 H2 fun b H3 =>
        if b = true then te σ2 H3 fun y H4 => ∃ acc, H4 D = some (.lst acc) ∧ acc.length < sizeLine ∧ Nx (upd H4 D (.lst (acc ++ [y]))) else Nx H3) := by
  subst hy
  refine lc_fm (T := T) G hD hsrc hn (fun i => ys[i]?) (fun i x H H' Ny Nn hi gg y h1 h2 => ?_) fun H g h => hd H g (by rw [h, fm_get])
  refine mono _ _ _ _ _ (fun σ2 H2 q => ⟨q.1, ?_⟩) (hs i x ys[i] H H' Ny hi gg y (List.getElem?_eq_getElem hi) fun H4 g4 => h1 _ _ (List.getElem?_eq_getElem hi) g4)
  show if true = true then te σ2 H2 Ny else Nn H2
  exact iteT q.2
theorem mono_name {i : Nat} : ∀ (x : V) (σ : L2.St) (H : Hp) (Q Q' : L2.St → Hp → Prop), (∀ σ2 H2, Q σ2 H2 → Q' σ2 H2) → gName i x σ H Q → gName i x σ H Q' := fun x σ H Q Q' h q => h _ _ q
theorem mono_pair {K : PySem.W.Frag} {i j : Nat} : ∀ (x : V) (σ : L2.St) (H : Hp) (Q Q' : L2.St → Hp → Prop), (∀ σ2 H2, Q σ2 H2 → Q' σ2 H2) → gTup K 2 (gCons (gName i) (gCons (gName j) gNil)) x σ H Q → gTup K 2 (gCons (gName i) (gCons (gName j) gNil)) x σ H Q' :=
  fun x σ H Q Q' h q => by
    obtain ⟨a, xs, e, s, l, v, r, e1, v2, r2, e2, e3, q⟩ := q
    exact ⟨a, xs, e, s, l, v, r, e1, v2, r2, e2, e3, h _ _ q⟩
/-- a pair at p taken apart -/
theorem pair_to {K : PySem.W.Frag} {i j : Nat} {p : Addr} {a b : V} {σ : L2.St} {H : Hp} {Q : L2.St → Hp → Prop} (h : H p = some (.tup [a, b])) (q : Q ((σ.set i (some a)).set j (some b)) H) :
    gTup K 2 (gCons (gName i) (gCons (gName j) gNil)) (.ref p) σ H Q := ⟨p, [a, b], rfl, SqT.of h, rfl, a, [b], rfl, b, [], rfl, rfl, q⟩
end
end K6

set_option Elab.async false
set_option linter.all false
set_option maxRecDepth 100000
set_option maxHeartbeats 4000000
/-! K6RulI: isinstance of an int, a tuple, a text; tuples put together and cut, whatever object comes out -/
namespace K6
open PySem PySem.Spec PyProof.Rows L2
def rIsA : List V → Hp → VK → Prop := fun xs H Q => (∃ (i : Int) (n : String) (b : Bool), xs = [.int i, .ty n] ∧ kitB "int" n = some b ∧ Q (.bl b) H) ∨ (∃ (a : Addr) (ys : List V), xs = [.ref a, .ty "tuple"] ∧ H a = some (.tup ys) ∧ Q (.bl true) H) ∨ ∃ x, xs = [.str x, .ty "str"] ∧ Q (.bl true) H
theorem call_isA {X : Cx} : CallR X (.builtin "isinstance") rIsA := by
  intro pins s σ H xs us Q I r h
  refine call_isi pins s σ H xs us Q I r ?_
  rcases h with ⟨i, n, b, rfl, hk, q⟩ | ⟨a, ys, rfl, ha, q⟩ | ⟨x, rfl, q⟩
  · exact ⟨_, _, .type "int", .type n, b, rfl, .ty _, .base (.int i), kit_ty hk, q⟩
  · exact ⟨_, _, .type "tuple", .type "tuple", true, rfl, .ty _, .base (.tup ha), kit_ty (by decide +kernel), q⟩
  · exact ⟨_, _, .type "str", .type "str", true, rfl, .ty _, .base (.str x), kit_ty (by decide +kernel), q⟩
section
variable {T : TL} {K : PySem.W.Frag} {H : Hp} {Q : VK} {a b : Addr} {xs ys : List V}
theorem catA_to (h1 : H a = some (.tup xs)) (h2 : H b = some (.tup ys)) (hz : xs.length + ys.length ≤ 1000000) (q : ∀ p H', Gx T [] H H' → H' p = some (.tup (xs ++ ys)) → Q (.ref p) H') : rCatA K (.ref a) (.ref b) H Q := by
  refine ⟨a, b, xs, ys, rfl, rfl, SqT.of h1, SqT.of h2, by rw [sizeLine_eq]; omega, fun e => ?_, fun _ e => ?_, fun _ _ p hp => q p _ (Gx.new hp) upd_same⟩
  · exact q b H Gx.refl (by rw [e, List.nil_append]; exact h2)
  · exact q a H Gx.refl (by rw [e, List.append_nil]; exact h1)
theorem cutV_all (lo hi : Option Int) (h : HT.sIx xs.length 0 lo = 0 ∧ HT.sIx xs.length xs.length hi = xs.length) : cutV xs lo hi = xs := by
  unfold cutV
  rw [h.1, h.2]
  simp
theorem slA_to (lo hi : Option Int) (h1 : H a = some (.tup xs)) (q : ∀ p H', Gx T [] H H' → H' p = some (.tup (cutV xs lo hi)) → Q (.ref p) H') : rSlA K (.ref a) lo hi H Q := by
  refine ⟨a, xs, rfl, SqT.of h1, fun e => ?_, fun _ p hp => q p _ (Gx.new hp) upd_same⟩
  exact q a H Gx.refl (by rw [cutV_all lo hi e]; exact h1)
theorem repA_to (k : Nat) (h1 : H a = some (.tup xs)) (hx : xs ≠ []) (hk : k ≤ 1000) (hl : xs.length ≤ 1000) (q : ∀ p H', Gx T [] H H' → H' p = some (.tup (List.replicate k xs).flatten) → Q (.ref p) H') : rRepTA K (.ref a) (.int (k : Nat)) H Q := by
  refine ⟨a, xs, k, rfl, rfl, SqT.of h1, hx, hk, hl, ?_⟩
  split
  · rename_i e
    subst e
    exact q a H Gx.refl (by simpa using h1)
  · exact fun p hp => q p _ (Gx.new hp) upd_same
end
/-- a, b as a target -/
theorem pg_pair {X : Cx} {i j k : Nat} {x y : Str} {p1 p2 pos : Pos} (hc : X.calm = true) (hN : X.N.Nodup) (hi : X.N[i]? = some x) (hx : Loc X.env.scope x) (hj : X.N[j]? = some y) (hy : Loc X.env.scope y)
    (hf : X.fn x = true ∨ X.env.scope.names.lookup x = some .local := by first | exact .inl rfl | exact .inr rfl) (hf2 : X.fn y = true ∨ X.env.scope.names.lookup y = some .local := by first | exact .inl rfl | exact .inr rfl) :
    PG X (.Tuple [.Name x p1, .Name y p2] k pos) (gTup X.K 2 (gCons (gName i) (gCons (gName j) gNil))) :=
  pg_tup hc (pgs_cons (pg_name hN hi hx (hf := hf)) (pgs_cons (pg_name hN hj hy (hf := hf2)) pgs_nil))
/-! ### some rules with their readings as structures (so that a lemma about the reading is found by unification) -/
structure rLenQ (K : PySem.W.Frag) (xs : List V) (H : Hp) (Q : VK) : Prop where
  h : ∃ p ys, xs = [.ref p] ∧ (SqL K H p ys ∨ SqT K H p ys) ∧ Q (.int ys.length) H
theorem call_lenQ {X : Cx} : CallR X (.builtin "len") (rLenQ X.K) := fun pins s σ H xs us Q I r h => call_len_seq pins s σ H xs us Q I r h.h
structure rTupQ (K : PySem.W.Frag) (xs : List V) (H : Hp) (Q : VK) : Prop where
  h : ∃ p ys, xs = [.ref p] ∧ ((SqL K H p ys ∧ ∀ l, H l = none → Q (.ref l) (upd H l (.tup ys))) ∨ (SqT K H p ys ∧ Q (.ref p) H))
theorem call_tupQ {X : Cx} : CallR X (.type "tuple") (rTupQ X.K) := fun pins s σ H xs us Q I r h => call_tuple_of pins s σ H xs us Q I r h.h
structure rMax2Q (xs : List V) (H : Hp) (Q : VK) : Prop where
  h : ∃ i j : Int, xs = [.int i, .int j] ∧ Q (.int (if j > i then j else i)) H
theorem call_max2Q {X : Cx} (hc : X.calm = true) : CallR X (.builtin "max") rMax2Q := fun pins s σ H xs us Q I r h => call_max2 hc pins s σ H xs us Q I r h.h
structure rModQ (x y : V) (H : Hp) (Q : VK) : Prop where
  h : ∃ i j : Int, x = .int i ∧ y = .int j ∧ 0 < j ∧ Q (.int (i % j)) H
theorem op_modQ {X : Cx} : OpR X (binaryOp .Mod) rModQ := fun pins s σ H x y v u Q I rx ry h => op_mod pins s σ H x y v u Q I rx ry h.h
structure rMulQ (x y : V) (H : Hp) (Q : VK) : Prop where
  h : ∃ i j : Int, x = .int i ∧ y = .int j ∧ CMulW i j ∧ Q (.int (i * j)) H
theorem op_mulQ {X : Cx} : OpR X (binaryOp .Mult) rMulQ := fun pins s σ H x y v u Q I rx ry h => op_mulW pins s σ H x y v u Q I rx ry h.h
structure rDivQ (x y : V) (H : Hp) (Q : VK) : Prop where
  h : ∃ i j : Int, x = .int i ∧ y = .int j ∧ CDivW i j ∧ Q (.int (i / j)) H
theorem op_divQ {X : Cx} : OpR X (binaryOp .FloorDiv) rDivQ := fun pins s σ H x y v u Q I rx ry h => op_fdivW pins s σ H x y v u Q I rx ry h.h
structure rCatQ (x y : V) (H : Hp) (Q : VK) : Prop where
  h : rCat x y H Q
theorem op_catQ {X : Cx} : OpR X (binaryOp .Add) rCatQ := fun pins s σ H x y v u Q I rx ry h => op_cat pins s σ H x y v u Q I rx ry h.h
structure rCntQ (K : PySem.W.Frag) (x : V) (xs : List V) (H : Hp) (Q : VK) : Prop where
  h : rCntI K x xs H Q
theorem mt_lcntQ {X : Cx} : MtR X "list.count" (rCntQ X.K) := fun pins s σ H x xs v us Q I r1 r2 h => mt_lcount pins s σ H x xs v us Q I r1 r2 h.h
structure rSlQ (K : PySem.W.Frag) (x : V) (lo hi : Option Int) (H : Hp) (Q : VK) : Prop where
  h : rSlL K x lo hi H Q
theorem sl_listQ {X : Cx} : SlR X (rSlQ X.K) := fun pins s σ H x v vl vu lo hi sl Q I r hs pl pu h => sl_list pins s σ H x v vl vu lo hi sl Q I r hs pl pu h.h
structure rSlAQ (K : PySem.W.Frag) (x : V) (lo hi : Option Int) (H : Hp) (Q : VK) : Prop where
  h : rSlA K x lo hi H Q
theorem sl_tupQ {X : Cx} : SlR X (rSlAQ X.K) := fun pins s σ H x v vl vu lo hi sl Q I r hs pl pu h => sl_tupA pins s σ H x v vl vu lo hi sl Q I r hs pl pu h.h
structure rCatAQ (K : PySem.W.Frag) (x y : V) (H : Hp) (Q : VK) : Prop where
  h : rCatA K x y H Q
theorem op_catAQ {X : Cx} : OpR X (binaryOp .Add) (rCatAQ X.K) := fun pins s σ H x y v u Q I rx ry h => op_catA pins s σ H x y v u Q I rx ry h.h
structure rRepAQ (K : PySem.W.Frag) (x y : V) (H : Hp) (Q : VK) : Prop where
  h : rRepTA K x y H Q
theorem op_repAQ {X : Cx} : OpR X (binaryOp .Mult) (rRepAQ X.K) := fun pins s σ H x y v u Q I rx ry h => op_repTA pins s σ H x y v u Q I rx ry h.h
structure rSlSQ (x : V) (lo hi : Option Int) (H : Hp) (Q : VK) : Prop where
  h : C8.rSlX x lo hi H Q
theorem sl_txtQ {X : Cx} : SlR X rSlSQ := fun pins s σ H x v vl vu lo hi sl Q I r hs pl pu h => C8.sl_txt pins s σ H x v vl vu lo hi sl Q I r hs pl pu h.h
structure rDmQ (xs : List V) (H : Hp) (Q : VK) : Prop where
  h : ∃ i j, xs = [.int i, .int j] ∧ CDiv i j ∧ ∀ p, H p = none → Q (.ref p) (upd H p (.tup [.int (i / j), .int (i % j)]))
theorem call_dmQ {X : Cx} : CallR X (.builtin "divmod") rDmQ := fun pins s σ H xs us Q I r h => call_divmod pins s σ H xs us Q I r h.h
end K6

set_option Elab.async false
set_option linter.all false
set_option maxRecDepth 100000
set_option maxHeartbeats 4000000
/-! K6Wa: is_int .. supplier_lists -/
namespace K6
open PySem PySem.Spec PyProof.Rows L2
/-- a plant: station 0 has no row -/
def PlOk (pl : List Nat) : Prop := pl.length < 40 ∧ ∀ i, i < pl.length → pl.getD i 0 ≤ i
section
variable {P : Program} {w : World} {K : PySem.W.Frag} {mg : Str → Option Value} {base : Heap}
def spIsInt : Sp := fun vs H Q _ => ∃ n : Int, vs = [.int n] ∧ Q (.bl true) H
theorem calIsInt (z : Cz P w K mg base) : C8.Cal P w K mg base 1 "is_int" spIsInt [] := by
  refine mkCal z.fIsInt z.gIsInt scIsInt bIsInt (fun vs H Q E h => ?_) fun cdv A outer s H vs Q E hr h => ⟨_, (pss_one (ps_ret (pe_and (pe_callB call_isA (by rfl) z.nisinstance (by decide +kernel) (pa_cons (pv 0) (pa_cons (pe_bltn (v := .ty "int") (u := .type "int") (by rfl) z.nint (by decide +kernel) rfl) pa_nil))) (pe_one (pe_not (pe_callB call_isA (by rfl) z.nisinstance (by decide +kernel) (pa_cons (pv 0) (pa_cons (pe_bltn (v := .ty "bool") (u := .type "bool") (by rfl) z.nbool (by decide +kernel) rfl) pa_nil)))))))), ?_⟩
  · obtain ⟨n, rfl, _⟩ := h
    rfl
  · obtain ⟨n, rfl, q⟩ := h
    refine ⟨_, rfl, .inl ⟨n, _, true, rfl, by decide +kernel, _, rfl, iteT ⟨_, rfl, .inl ⟨n, _, false, rfl, by decide +kernel, _, rfl, q⟩⟩⟩⟩
def spInRange : Sp := fun vs H Q _ => ∃ n a b : Int, vs = [.int n, .int a, .int b] ∧ Q (.bl (decide (a ≤ n) && decide (n ≤ b))) H
theorem calInRange (z : Cz P w K mg base) : C8.Cal P w K mg base 2 "in_range" spInRange [] := by
  refine mkCal z.fInRange z.gInRange scInRange bInRange (fun vs H Q E h => ?_) fun cdv A outer s H vs Q E hr h => ⟨_, (pss_one (ps_ret (pe_and (C8.pe_c (calIsInt z) hr (by decide) rfl (pa_cons (pv 0) pa_nil)) (pe_one (pe_chain op_le op_le (pv 1) (pv 0) (pv 2)))))), ?_⟩
  · obtain ⟨n, a, b, rfl, _⟩ := h
    rfl
  · obtain ⟨n, a, b, rfl, q⟩ := h
    refine ⟨_, rfl, n, rfl, _, rfl, iteT ⟨_, rfl, _, rfl, _, _, rfl, rfl, _, rfl, ?_⟩⟩
    by_cases h1 : a ≤ n
    · rw [decide_eq_true h1] at q ⊢
      exact iteT ⟨_, rfl, _, _, rfl, rfl, q⟩
    · rw [decide_eq_false h1] at q ⊢
      exact iteF q
def spIsPlant : Sp := fun vs H Q _ => ∃ (a : Addr) (pl : List Nat), vs = [.ref a] ∧ H a = some (.tup (iV (nI pl))) ∧ PlOk pl ∧ ∀ H', Gx (TK K) [] H H' → Q (.bl true) H'
theorem len_iV (xs : List Int) : (iV xs).length = xs.length := List.length_map ..
theorem len_nI (xs : List Nat) : (nI xs).length = xs.length := List.length_map ..
theorem get_iV {xs : List Int} {i : Nat} {x : V} (h : (iV xs)[i]? = some x) : ∃ n, xs[i]? = some n ∧ x = .int n := by
  rw [List.getElem?_map] at h
  cases e : xs[i]? with
  | none => rw [e] at h; cases h
  | some n => rw [e] at h; exact ⟨n, rfl, (Option.some.inj h).symm⟩
theorem get_nI {xs : List Nat} {i : Nat} {x : Int} (h : (nI xs)[i]? = some x) : ∃ n, xs[i]? = some n ∧ x = ((n : Nat) : Int) := by
  rw [List.getElem?_map] at h
  cases e : xs[i]? with
  | none => rw [e] at h; cases h
  | some n => rw [e] at h; exact ⟨n, rfl, (Option.some.inj h).symm⟩
theorem get_nV {xs : List Nat} {i : Nat} {x : V} (h : (iV (nI xs))[i]? = some x) : ∃ n, xs[i]? = some n ∧ x = .int ((n : Nat) : Int) := by
  obtain ⟨m, h1, h2⟩ := get_iV h
  obtain ⟨n, h3, h4⟩ := get_nI h1
  exact ⟨n, h3, by rw [h2, h4]⟩
theorem calIsPlant (z : Cz P w K mg base) : C8.Cal P w K mg base 3 "is_plant" (spIsPlant (K := K)) [] := by
  refine mkCal z.fIsPlant z.gIsPlant scIsPlant bIsPlant (fun vs H Q E h => ?_) fun cdv A outer s H vs Q E hr h => ⟨_, (pss_cons (ps_if (PW.pt (pw_or (pt_not (pt_val (pe_callB call_isA (by rfl) z.nisinstance (by decide +kernel) (pa_cons (pv 0) (pa_cons (pe_bltn (v := .ty "tuple") (u := .type "tuple") (by rfl) z.ntuple (by decide +kernel) rfl) pa_nil))))) (pw_or1 (pt_cmpR op_ge (pe_callB call_lenQ (by rfl) z.nlen PySem.boot_len (pa_cons (pv 0) pa_nil)) (pe_glob (v := .int 40) rfl z.cMOST_STATIONS_plants.choose_spec ⟨_, rfl⟩) (nomark _))))) (pss_one (ps_ret pe_bl)) pss_nil)
  (pss_one (ps_ret (pe_callB (cr_all rfl) (by rfl) z.nall (by decide +kernel) (pa_cons (pe_lc (own := [("index", 1), ("station", 2)]) (g := gTup K 2 (gCons (gName 1) (gCons (gName 2) gNil))) (tt := tYes) rfl scIsPlant.nd (pi_enumT (by rfl) z.nenumerate (pa_cons (pv 0) pa_nil)) (blkOk_by (own := [("index", 1), ("station", 2)]) (N := nIsPlant) (sc := defScope sIsPlant) (by decide +kernel)) (fun _ _ _ _ _ => (pg_pair (i := 1) (j := 2) rfl scIsPlant.nd rfl (Or.inl rfl) rfl (Or.inl rfl))) (fun _ _ _ _ _ => pts_nil) (fun _ _ _ _ _ => (C8.pe_c (calInRange z) hr (by decide) rfl (pa_cons (pv 2) (pa_cons pe_int (pa_cons (pv 1) pa_nil)))))) pa_nil))))), ?_⟩
  · obtain ⟨a, pl, rfl, _⟩ := h
    rfl
  · obtain ⟨a, pl, rfl, ha, ok, q⟩ := h
    have hlen : (iV (nI pl)).length = pl.length := by rw [len_iV, len_nI]
    refine ⟨_, rfl, .inr (.inl ⟨a, _, rfl, ha, _, rfl, iteF ⟨_, rfl, _, _, rfl, .inr (SqT.of ha), _, _, rfl, rfl, _, rfl, ?_⟩⟩)⟩
    rw [decide_eq_false (by rw [hlen]; have := ok.1; omega)]
    refine iteF ⟨_, rfl, _, _, rfl, SqT.of ha, fun D hD => lc_map (T := TK K) gv_enumT hD (fun H g => SqT.of (g.tup ha)) (by rw [hlen]; have := ok.1; omega) (List.replicate pl.length (.bl true)) (by rw [List.length_replicate, hlen]) (fun i x y H1 H2 Ny hi g hy hys hN => ?_) mono_pair fun H1 g hD1 => ?_⟩
    · obtain ⟨p, v, rfl, np, rfl, hv⟩ := hy
      obtain ⟨n, hn, rfl⟩ := get_nV hv
      obtain rfl : y = .bl true := by
        rw [List.getElem?_replicate] at hys
        split at hys <;> simp_all
      refine pair_to upd_same ⟨rfl, _, rfl, _, rfl, n, 0, i, rfl, ?_⟩
      have h1 : n ≤ i := by
        have h2 := ok.2 i (by omega)
        rw [List.getD_eq_getElem?_getD, hn] at h2
        exact h2
      rw [decide_eq_true (by omega), decide_eq_true (by omega)]
      exact hN _ (Gx.new np)
    · refine ⟨_, List.replicate pl.length true, rfl, SqL.of (by rw [hD1, List.map_replicate]), ?_⟩
      rw [show (List.replicate pl.length true).all id = true by simp]
      exact q H1 g
end
end K6

set_option Elab.async false
set_option linter.all false
set_option maxRecDepth 100000
set_option maxHeartbeats 4000000
/-! K6Wb: require_plant .. require_days, supplier_lists -/
namespace K6
open PySem PySem.Spec PyProof.Rows L2
/-! ### lists of lists of ints -/
structure LLm (H : Hp) (a : Addr) (rs : List Addr) (xss : List (List Int)) : Prop where
  top : H a = some (.lst (rs.map V.ref))
  len : rs.length = xss.length
  nd : (a :: rs).Nodup
  it : ∀ (i : Nat) (r : Addr) (xs : List Int), rs[i]? = some r → xss[i]? = some xs → H r = some (.lst (iV xs))
theorem at_ref {rs : List Addr} {v : Nat} {r : Addr} (h : rs[v]? = some r) : atI (rs.map V.ref) ((v : Nat) : Int) = some (.ref r) := atI_nat (by rw [List.getElem?_map, h]; rfl)
theorem at_iV {xs : List Int} {v : Nat} {n : Int} (h : xs[v]? = some n) : atI (iV xs) ((v : Nat) : Int) = some (.int n) := atI_nat (by rw [List.getElem?_map, h]; rfl)
theorem at_nV {xs : List Nat} {v : Nat} {n : Nat} (h : xs[v]? = some n) : atI (iV (nI xs)) ((v : Nat) : Int) = some (.int ((n : Nat) : Int)) := at_iV (by rw [List.getElem?_map, h]; rfl)
theorem at_pred {α : Type} {xs : List α} {v : Nat} {x : α} (h : xs[v]? = some x) : atI xs ((v : Nat) : Int) = some x := atI_nat h
section
variable {T : TL} {H H' H1 : Hp} {a : Addr} {rs : List Addr} {xss : List (List Int)}
theorem LLm.keep (l : LLm H a rs xss) (g : Gx T [] H H') : LLm H' a rs xss := ⟨g.lst l.top, l.len, l.nd, fun i r xs h1 h2 => g.lst (l.it i r xs h1 h2)⟩
theorem LLm.get (l : LLm H a rs xss) {v : Nat} (hv : v < xss.length) : ∃ r, rs[v]? = some r ∧ H r = some (.lst (iV xss[v])) ∧ r ≠ a := by
  have hr : v < rs.length := by rw [l.len]; exact hv
  refine ⟨rs[v], List.getElem?_eq_getElem hr, l.it v _ _ (List.getElem?_eq_getElem hr) (List.getElem?_eq_getElem hv), fun e => ?_⟩
  have := (List.nodup_cons.mp l.nd).1
  exact this (e ▸ List.getElem_mem hr)
/-- one of them changes -/
theorem LLm.put (l : LLm H a rs xss) {v : Nat} {r : Addr} {ys : List Int} (hr : rs[v]? = some r) : LLm (upd H r (.lst (iV ys))) a rs (xss.set v ys) := by
  have hlt := (List.getElem?_eq_some_iff.mp hr).1
  obtain ⟨n1, n2⟩ := List.nodup_cons.mp l.nd
  have rm : r ∈ rs := List.mem_of_getElem? hr
  refine ⟨by rw [upd_ne (fun e => n1 (by rw [e]; exact rm))]; exact l.top, by rw [List.length_set]; exact l.len, l.nd, fun i q xs h1 h2 => ?_⟩
  by_cases e : v = i
  · subst e
    rw [hr] at h1
    cases h1
    rw [List.getElem?_set_self (by rw [← l.len]; exact hlt)] at h2
    cases h2
    exact upd_same
  · rw [List.getElem?_set_ne e] at h2
    have hq : q ≠ r := fun z => by
      subst z
      have hi := (List.getElem?_eq_some_iff.mp h1).1
      have e1 : rs[i] = rs[v] := by rw [(List.getElem?_eq_some_iff.mp h1).2, (List.getElem?_eq_some_iff.mp hr).2]
      exact e ((List.getElem_inj n2).mp e1).symm
    rw [upd_ne hq]
    exact l.it i q xs h1 h2
end
/-- n new empty lists -/
theorem lc_nils {T : TL} {J : It} {n : Nat} {Y : Nat → Hp → V → Hp → Prop} {Src : Hp → Prop} {j : Nat} {vs : List Nat} {σ : L2.St} {H1 : Hp} {D : Addr} {Qd : Hp → Prop} (G : Gives J n Y Src) (hY : ∀ i H x H', Y i H x H' → H' = H) (hD : H1 D = none) (hsrc : ∀ H, Gx T [] H1 H → Src H) (hn : n ≤ 1000000)
    (hw : ∀ x, wipe ((wipe σ vs).set j (some x)) vs = wipe σ vs)
    (hd : ∀ H rs, Gx T [] H1 H → LLm H D rs (List.replicate n []) → (∀ r ∈ rs, Fr H1 r) → Qd H) :
    ∃ W : Nat → Nat → Hp → Prop, (∃ m, W 0 m (upd H1 D (.lst []))) ∧ ∀ i m H, W i m H →
      (J.stop i H ∧ Qd H) ∨ (J.go i H ∧ ∃ Nx : Hp → Prop, (∀ H', Nx H' → ∃ m', m' < m ∧ W (i + 1) m' H') ∧ ∀ x H', J.yld i H x H' → gName j x (wipe σ vs) H' fun σ2 H2 => wipe σ2 vs = wipe σ vs ∧ tYes σ2 H2 fun b H3 =>
        if b = true then (tLst tNil) σ2 H3 fun y H4 => ∃ acc, H4 D = some (.lst acc) ∧ acc.length < sizeLine ∧ Nx (upd H4 D (.lst (acc ++ [y]))) else Nx H3) := by
  have fD : Fr H1 D := Fr.of hD
  refine lc_gen G (fun i H => Gx T [] H1 H ∧ ∃ rs, LLm H D rs (List.replicate i []) ∧ ∀ r ∈ rs, Fr H1 r) ⟨Gx.new hD, [], ⟨upd_same, rfl, by simp, fun i r xs h => by simp at h⟩, by simp⟩ (fun i H _ p => hsrc H p.1) (fun i x H H' hi p y => ?_) fun H p => by
      obtain ⟨g, rs, l, f⟩ := p
      exact hd H rs g l f
  obtain ⟨g, rs, l, f⟩ := p
  have e := (hY _ _ _ _ y).symm
  subst e
  refine ⟨hw x, iteT (B := True) ⟨Nat.zero_le _, fun p np => ?_⟩⟩
  have nD : D ≠ p := ne_of_none l.top np
  have nr : ∀ r ∈ rs, r ≠ p := fun r hr => by
    obtain ⟨k, hk, e⟩ := List.mem_iff_getElem.mp hr
    exact ne_of_none (l.it k r [] (by rw [← e]; exact List.getElem?_eq_getElem hk) (by rw [List.getElem?_replicate, if_pos (by rw [l.len, List.length_replicate] at hk; exact hk)])) np
  have ltop : upd H p (.lst []) D = some (.lst (rs.map V.ref)) := by rw [upd_ne nD]; exact l.top
  have hl := l.len
  rw [List.length_replicate] at hl
  refine ⟨_, ltop, by rw [List.length_map, hl, sizeLine_eq]; omega, (g.more np).put (.inr fD) ltop trivial, rs ++ [p], ⟨by rw [upd_same, List.map_append]; rfl, by rw [List.length_append, hl, List.length_replicate]; rfl, ?_, fun k r xs h1 h2 => ?_⟩, fun r hr => ?_⟩
  · obtain ⟨n1, n2⟩ := List.nodup_cons.mp l.nd
    refine List.nodup_cons.mpr ⟨fun hm => ?_, List.nodup_append.mpr ⟨n2, by simp, fun a ha b hb => by
      have : b = p := by simpa using hb
      rw [this]
      exact nr a ha⟩⟩
    rcases List.mem_append.mp hm with q | q
    · exact n1 q
    · exact nD (by simpa using q)
  · have hxs : xs = [] := by
      rw [List.getElem?_replicate] at h2
      split at h2
      · exact (Option.some.inj h2).symm
      · cases h2
    subst hxs
    have hrD : r ≠ D := fun z => by
      have hm := List.mem_of_getElem? h1
      rw [z] at hm
      rcases List.mem_append.mp hm with q | q
      · exact (List.nodup_cons.mp l.nd).1 q
      · exact nD (by simpa using q)
    rw [upd_ne hrD]
    by_cases e : r = p
    · rw [e]
      exact upd_same
    · rw [upd_ne e]
      have hk : k < rs.length := by
        apply Classical.byContradiction
        intro hk
        rw [List.getElem?_append_right (by omega)] at h1
        have hm := List.mem_of_getElem? h1
        exact e (by simpa using hm)
      rw [List.getElem?_append_left hk] at h1
      exact l.it k r [] h1 (by rw [List.getElem?_replicate, if_pos (by omega)])
  · rcases List.mem_append.mp hr with q | q
    · exact f r q
    · have : r = p := by simpa using q
      rw [this]
      exact g.fr np
/-! ### suppliers -/
def sups (pl : List Nat) (v : Nat) : List Nat := ((List.range pl.length).filter fun i => pl.getD i 0 == v).map (· + 1)
def supsTo (pl : List Nat) (k v : Nat) : List Nat := ((List.range k).filter fun i => pl.getD i 0 == v).map (· + 1)
def supL (pl : List Nat) : List (List Nat) := (List.range (pl.length + 1)).map (sups pl)
abbrev nL (xss : List (List Nat)) : List (List Int) := xss.map nI
theorem supsTo_step (pl : List Nat) (k v : Nat) : supsTo pl (k + 1) v = if pl.getD k 0 = v then supsTo pl k v ++ [k + 1] else supsTo pl k v := by
  unfold supsTo
  rw [List.range_succ, List.filter_append, List.map_append]
  by_cases h : pl.getD k 0 = v
  · rw [if_pos h, List.filter_cons_of_pos (by rw [h]; simp)]
    rfl
  · rw [if_neg h, List.filter_cons_of_neg (by simpa using h)]
    simp
section
variable {P : Program} {w : World} {K : PySem.W.Frag} {mg : Str → Option Value} {base : Heap}
def spReqPlant (K : PySem.W.Frag) : Sp := fun vs H Q _ => ∃ (a : Addr) (pl : List Nat), vs = [.ref a] ∧ H a = some (.tup (iV (nI pl))) ∧ PlOk pl ∧ ∀ H', Gx (TK K) [] H H' → Q .non H'
theorem calRequirePlant (z : Cz P w K mg base) : C8.Cal P w K mg base 4 "require_plant" (spReqPlant K) [] := by
  refine mkCal z.fRequirePlant z.gRequirePlant scRequirePlant bRequirePlant (fun vs H Q E h => ?_) fun cdv A outer s H vs Q E hr h => ⟨_, (pss_one (ps_if (pt_not (pt_val (C8.pe_c (calIsPlant z) hr (by decide) rfl (pa_cons (pv 0) pa_nil)))) (pss_one ps_never) pss_nil)), ?_⟩
  · obtain ⟨a, pl, rfl, _⟩ := h
    rfl
  · obtain ⟨a, pl, rfl, ha, ok, q⟩ := h
    exact ⟨_, rfl, a, pl, rfl, ha, ok, fun H' g => ⟨_, rfl, iteF (q H' g)⟩⟩
def spReqStation (K : PySem.W.Frag) : Sp := fun vs H Q _ => ∃ (a : Addr) (pl : List Nat) (v : Nat), vs = [.ref a, .int (v : Nat)] ∧ H a = some (.tup (iV (nI pl))) ∧ v ≤ pl.length ∧ Q .non H
theorem calRequireStation (z : Cz P w K mg base) : C8.Cal P w K mg base 3 "require_station" (spReqStation K) [] := by
  refine mkCal z.fRequireStation z.gRequireStation scRequireStation bRequireStation (fun vs H Q E h => ?_) fun cdv A outer s H vs Q E hr h => ⟨_, (pss_one (ps_if (pt_not (pt_val (C8.pe_c (calInRange z) hr (by decide) rfl (pa_cons (pv 1) (pa_cons pe_int (pa_cons (pe_callB call_lenQ (by rfl) z.nlen PySem.boot_len (pa_cons (pv 0) pa_nil)) pa_nil)))))) (pss_one ps_never) pss_nil)), ?_⟩
  · obtain ⟨a, pl, v, rfl, _⟩ := h
    rfl
  · obtain ⟨a, pl, v, rfl, ha, hv, q⟩ := h
    refine ⟨_, rfl, _, rfl, _, _, rfl, .inr (SqT.of ha), _, _, _, rfl, _, rfl, ?_⟩
    rw [decide_eq_true (by omega), decide_eq_true (by rw [len_iV, len_nI]; omega)]
    exact iteF q
def spReqDays : Sp := fun vs H Q _ => ∃ n a b : Int, vs = [.int n, .int a, .int b] ∧ a ≤ n ∧ n ≤ b ∧ Q .non H
theorem calRequireDays (z : Cz P w K mg base) : C8.Cal P w K mg base 3 "require_days" spReqDays [] := by
  refine mkCal z.fRequireDays z.gRequireDays scRequireDays bRequireDays (fun vs H Q E h => ?_) fun cdv A outer s H vs Q E hr h => ⟨_, (pss_one (ps_if (pt_not (pt_val (C8.pe_c (calInRange z) hr (by decide) rfl (pa_cons (pv 0) (pa_cons (pv 1) (pa_cons (pv 2) pa_nil)))))) (pss_one ps_never) pss_nil)), ?_⟩
  · obtain ⟨n, a, b, rfl, _⟩ := h
    rfl
  · obtain ⟨n, a, b, rfl, h1, h2, q⟩ := h
    refine ⟨_, rfl, _, rfl, _, rfl, n, a, b, rfl, _, rfl, ?_⟩
    rw [decide_eq_true h1, decide_eq_true h2]
    exact iteF q
def spValidStock (K : PySem.W.Frag) : Sp := fun vs H Q _ => ∃ (a b : Addr) (pl : List Nat) (st : List Int), vs = [.ref a, .ref b] ∧ H a = some (.tup (iV (nI pl))) ∧ H b = some (.tup (iV st)) ∧ st.length = pl.length + 1 ∧ pl.length < 40 ∧ st.Nodup ∧ ∀ H', Gx (TK K) [] H H' → Q (.bl true) H'
theorem calValidStock (z : Cz P w K mg base) : C8.Cal P w K mg base 2 "valid_stock" (spValidStock K) [] := by
  refine mkCal z.fValidStock z.gValidStock scValidStock bValidStock (fun vs H Q E h => ?_) fun cdv A outer s H vs Q E hr h => ⟨_, (pss_cons (ps_if (PW.pt (pw_or (pt_not (pt_val (pe_callB call_isA (by rfl) z.nisinstance (by decide +kernel) (pa_cons (pv 1) (pa_cons (pe_bltn (v := .ty "tuple") (u := .type "tuple") (by rfl) z.ntuple (by decide +kernel) rfl) pa_nil))))) (pw_or (pt_cmpR op_ne (pe_callB call_lenQ (by rfl) z.nlen PySem.boot_len (pa_cons (pv 1) pa_nil)) (pe_op op_add (pe_callB call_lenQ (by rfl) z.nlen PySem.boot_len (pa_cons (pv 0) pa_nil)) pe_int) (nomark _)) (pw_or1 (pt_not (pt_val (pe_callB (cr_all rfl) (by rfl) z.nall (by decide +kernel) (pa_cons (pe_lc (own := [("box", 2)]) (g := gName 2) (tt := tYes) rfl scValidStock.nd (pi_tup (pv 1)) (blkOk_by (own := [("box", 2)]) (N := nValidStock) (sc := defScope sValidStock) (by decide +kernel)) (fun _ _ _ _ _ => (pg_name (i := 2) scValidStock.nd rfl (Or.inl rfl))) (fun _ _ _ _ _ => pts_nil) (fun _ _ _ _ _ => (C8.pe_c (calIsInt z) hr (by decide) rfl (pa_cons (pv 2) pa_nil)))) pa_nil)))))))) (pss_one (ps_ret pe_bl)) pss_nil)
  (pss_one (ps_ret (pe_cmpR op_eq (pe_lenSetT rfl z.nlen rfl z.nset (pv 1)) (pe_callB call_lenQ (by rfl) z.nlen PySem.boot_len (pa_cons (pv 1) pa_nil)) (nomark _))))), ?_⟩
  · obtain ⟨a, b, pl, st, rfl, _⟩ := h
    rfl
  · obtain ⟨a, b, pl, st, rfl, ha, hb, hl, h40, nd, q⟩ := h
    refine ⟨_, rfl, .inr (.inl ⟨b, _, rfl, hb, _, rfl, iteF ⟨_, rfl, _, _, rfl, .inr (SqT.of hb), _, rfl, _, _, rfl, .inr (SqT.of ha), _, _, rfl, rfl, rfl, _, rfl, ?_⟩⟩)⟩
    rw [len_iV, len_iV, len_nI, hl]
    have e1 : decide (V.int ((pl.length + 1 : Nat) : Int) = V.int (((pl.length : Nat) : Int) + 1)) = true := decide_eq_true (by congr 1)
    rw [e1]
    refine iteF ⟨_, rfl, b, rfl, ⟨_, SqT.of hb⟩, fun D hD => lc_map (T := TK K) gv_tup hD (fun H g => SqT.of (g.tup hb)) (by rw [len_iV]; omega) (List.replicate st.length (.bl true)) (by rw [List.length_replicate, len_iV]) (fun i x y H1 H2 Ny hi g hy hys hN => ?_) mono_name fun H1 g hD1 => ?_⟩
    · obtain ⟨rfl, hv⟩ := hy
      obtain ⟨n, hn, rfl⟩ := get_iV hv
      obtain rfl : y = .bl true := by
        rw [List.getElem?_replicate] at hys
        split at hys <;> simp_all
      exact ⟨rfl, _, rfl, n, rfl, hN _ Gx.refl⟩
    · refine ⟨_, List.replicate st.length true, rfl, SqL.of (by rw [hD1, List.map_replicate]), _, rfl, ?_⟩
      rw [show (List.replicate st.length true).all id = true by simp]
      refine iteF ⟨_, rfl, b, st, rfl, SqT.of (g.tup hb), nd, by omega, _, rfl, _, _, rfl, .inr (SqT.of (g.tup hb)), rfl, ?_⟩
      rw [len_iV]
      have e2 : decide (V.int ((st.length : Nat) : Int) = V.int ((st.length : Nat) : Int)) = true := decide_eq_true rfl
      show Q (.bl (decide (V.int ((st.length : Nat) : Int) = V.int ((st.length : Nat) : Int)))) H1
      rw [e2]
      exact q H1 g
end
end K6

set_option Elab.async false
set_option linter.all false
set_option maxRecDepth 100000
set_option maxHeartbeats 4000000
/-! K6Ma: plants and stocks in plain Lean: chains, days, the days until a stock is ordered -/
namespace K6
/-- the box of a station -/
abbrev bx (st : List Int) (s : Nat) : Int := st.getD s 0
abbrev cu (pl : List Nat) (s : Nat) : Nat := pl.getD (s - 1) 0
theorem mem_sups {pl : List Nat} {v s : Nat} : s ∈ sups pl v ↔ 1 ≤ s ∧ s ≤ pl.length ∧ cu pl s = v := by
  unfold sups cu
  simp only [List.mem_map, List.mem_filter, List.mem_range, beq_iff_eq]
  constructor
  · rintro ⟨i, ⟨h1, h2⟩, rfl⟩
    exact ⟨by omega, by omega, by simpa using h2⟩
  · rintro ⟨h1, h2, h3⟩
    exact ⟨s - 1, ⟨by omega, h3⟩, by omega⟩
theorem cu_lt {pl : List Nat} (ok : PlOk pl) {s : Nat} (h1 : 1 ≤ s) (h2 : s ≤ pl.length) : cu pl s < s := by
  have := ok.2 (s - 1) (by omega)
  unfold cu
  omega
theorem sups_gt {pl : List Nat} (ok : PlOk pl) {v s : Nat} (h : s ∈ sups pl v) : v < s := by
  obtain ⟨h1, h2, h3⟩ := mem_sups.mp h
  have := cu_lt ok h1 h2
  omega
theorem nodup_map_inj {α β : Type} {f : α → β} (hf : ∀ a b, f a = f b → a = b) : ∀ {l : List α}, l.Nodup → (l.map f).Nodup
  | [], _ => by simp
  | a :: l, h => by
    obtain ⟨h1, h2⟩ := List.nodup_cons.mp h
    rw [List.map_cons]
    refine List.nodup_cons.mpr ⟨fun q => ?_, nodup_map_inj hf h2⟩
    obtain ⟨b, hb, e⟩ := List.mem_map.mp q
    rw [hf _ _ e] at hb
    exact h1 hb
theorem nodup_range : ∀ n, (List.range n).Nodup := fun n => List.nodup_range
theorem sups_nodup (pl : List Nat) (v : Nat) : (sups pl v).Nodup := nodup_map_inj (fun a b h => by omega) ((nodup_range _).filter _)
theorem sups_len (pl : List Nat) (v : Nat) : (sups pl v).length ≤ pl.length := by
  unfold sups
  rw [List.length_map]
  have := List.length_filter_le (fun i => pl.getD i 0 == v) (List.range pl.length)
  rw [List.length_range] at this
  exact this
/-! ### least and greatest -/
def best (st : List Int) : List Nat → Nat
  | [] => 0
  | [s] => s
  | s :: r => if bx st s ≤ bx st (best st r) then s else best st r
theorem best_mem (st : List Int) : ∀ {l : List Nat}, l ≠ [] → best st l ∈ l
  | [], h => absurd rfl h
  | [s], _ => by simp [best]
  | s :: t :: r, _ => by
    have ih := best_mem st (l := t :: r) (by simp)
    unfold best
    split
    · simp
    · exact List.mem_cons_of_mem _ ih
theorem best_le (st : List Int) : ∀ {l : List Nat} {s : Nat}, s ∈ l → bx st (best st l) ≤ bx st s
  | [], s, h => by cases h
  | [t], s, h => by
    have : s = t := by simpa using h
    rw [this]
    exact Int.le_refl _
  | t :: u :: r, s, h => by
    have ih : ∀ s ∈ u :: r, bx st (best st (u :: r)) ≤ bx st s := fun s hs => best_le st hs
    unfold best
    rcases List.mem_cons.mp h with e | e
    · rw [e]
      split
      · exact Int.le_refl _
      · omega
    · have := ih s e
      split
      · omega
      · exact this
def maxI : List Int → Int
  | [] => 0
  | [x] => x
  | x :: r => if maxI r ≤ x then x else maxI r
theorem maxI_mem : ∀ {l : List Int}, l ≠ [] → maxI l ∈ l
  | [], h => absurd rfl h
  | [x], _ => by simp [maxI]
  | x :: y :: r, _ => by
    have ih := maxI_mem (l := y :: r) (by simp)
    unfold maxI
    split
    · simp
    · exact List.mem_cons_of_mem _ ih
theorem le_maxI : ∀ {l : List Int} {x : Int}, x ∈ l → x ≤ maxI l
  | [], x, h => by cases h
  | [y], x, h => by
    have : x = y := by simpa using h
    rw [this]
    exact Int.le_refl _
  | y :: z :: r, x, h => by
    have ih : ∀ x ∈ z :: r, x ≤ maxI (z :: r) := fun x hx => le_maxI hx
    unfold maxI
    rcases List.mem_cons.mp h with e | e
    · rw [e]
      split <;> omega
    · have := ih x e
      split <;> omega
theorem maxI_uniq {l : List Int} {m : Int} (h1 : m ∈ l) (h2 : ∀ y ∈ l, y ≤ m) : m = maxI l := by
  have a := le_maxI h1
  have b := h2 _ (maxI_mem (l := l) (fun e => by rw [e] at h1; cases h1))
  omega
/-- a stock of the plant -/
structure StOk (pl : List Nat) (st : List Int) : Prop where
  plok : PlOk pl
  len : st.length = pl.length + 1
  nd : st.Nodup
theorem bx_mem {st : List Int} {s : Nat} (h : s < st.length) : bx st s ∈ st := by
  unfold bx
  rw [List.getD_eq_getElem?_getD, List.getElem?_eq_getElem h]
  exact List.getElem_mem h
theorem bx_inj {st : List Int} (nd : st.Nodup) {s t : Nat} (hs : s < st.length) (ht : t < st.length) (e : bx st s = bx st t) : s = t := by
  unfold bx at e
  rw [List.getD_eq_getElem?_getD, List.getD_eq_getElem?_getD, List.getElem?_eq_getElem hs, List.getElem?_eq_getElem ht] at e
  exact (List.getElem_inj nd).mp e
theorem best_uniq {pl : List Nat} {st : List Int} (ok : StOk pl st) {v s : Nat} (h1 : s ∈ sups pl v) (h2 : ∀ t ∈ sups pl v, bx st s ≤ bx st t) : s = best st (sups pl v) := by
  have hm := best_mem st (l := sups pl v) (fun e => by rw [e] at h1; cases h1)
  have a := best_le st h1
  have b := h2 _ hm
  have e : bx st s = bx st (best st (sups pl v)) := by omega
  have r1 := mem_sups.mp h1
  have r2 := mem_sups.mp hm
  exact bx_inj ok.nd (by rw [ok.len]; omega) (by rw [ok.len]; omega) e
/-! ### chains -/
def chain (pl : List Nat) (st : List Int) : Nat → Nat → List Nat
  | 0, v => [v]
  | f + 1, v => if sups pl v = [] then [v] else v :: chain pl st f (best st (sups pl v))
abbrev chainOf (pl : List Nat) (st : List Int) (v : Nat) : List Nat := chain pl st (pl.length + 1) v
section
variable {pl : List Nat} {st : List Int}
theorem sups_last (ok : PlOk pl) {v : Nat} (h : pl.length ≤ v) : sups pl v = [] := by
  apply List.eq_nil_iff_forall_not_mem.mpr
  intro s hs
  have := sups_gt ok hs
  have := (mem_sups.mp hs).2.1
  omega
theorem chain_ne (f v : Nat) : chain pl st f v ≠ [] := by
  cases f with
  | zero => simp [chain]
  | succ f =>
    unfold chain
    split <;> simp
theorem chain_head (f v : Nat) : ∃ r, chain pl st f v = v :: r := by
  cases f with
  | zero => exact ⟨[], rfl⟩
  | succ f =>
    unfold chain
    split
    · exact ⟨[], rfl⟩
    · exact ⟨_, rfl⟩
theorem chain_ge (ok : PlOk pl) : ∀ (f v : Nat), ∀ p ∈ chain pl st f v, v ≤ p
  | 0, v, p, h => by
    have : p = v := by simpa [chain] using h
    omega
  | f + 1, v, p, h => by
    unfold chain at h
    split at h
    · have : p = v := by simpa using h
      omega
    · rename_i hne
      rcases List.mem_cons.mp h with e | e
      · omega
      · have h1 := chain_ge ok f _ p e
        have h2 := sups_gt ok (best_mem st hne)
        omega
theorem chain_le (ok : PlOk pl) : ∀ (f v : Nat), v ≤ pl.length → ∀ p ∈ chain pl st f v, p ≤ pl.length
  | 0, v, hv, p, h => by
    have : p = v := by simpa [chain] using h
    omega
  | f + 1, v, hv, p, h => by
    unfold chain at h
    split at h
    · have : p = v := by simpa using h
      omega
    · rename_i hne
      rcases List.mem_cons.mp h with e | e
      · omega
      · exact chain_le ok f _ (mem_sups.mp (best_mem st hne)).2.1 p e
theorem chain_nodup (ok : PlOk pl) : ∀ (f v : Nat), (chain pl st f v).Nodup
  | 0, v => by simp [chain]
  | f + 1, v => by
    unfold chain
    split
    · simp
    · rename_i hne
      refine List.nodup_cons.mpr ⟨fun h => ?_, chain_nodup ok f _⟩
      have h1 := chain_ge ok f _ v h
      have h2 := sups_gt ok (best_mem st hne)
      omega
theorem chain_len (ok : PlOk pl) (f v : Nat) (hv : v ≤ pl.length) : (chain pl st f v).length ≤ pl.length + 1 := by
  have := nodup_len (ys := List.range (pl.length + 1)) (chain_nodup (st := st) ok f v) fun x hx => List.mem_range.mpr (by have := chain_le (st := st) ok f v hv x hx; omega)
  rw [List.length_range] at this
  exact this
/-- behind p stands the best of its suppliers -/
theorem chain_next (ok : PlOk pl) : ∀ (f v : Nat), pl.length ≤ v + f → ∀ p ∈ chain pl st f v, sups pl p ≠ [] → best st (sups pl p) ∈ chain pl st f v
  | 0, v, hf, p, h, hs => by
    have : p = v := by simpa [chain] using h
    rw [this] at hs
    exact absurd (sups_last ok (by omega)) hs
  | f + 1, v, hf, p, h, hs => by
    unfold chain at h ⊢
    split at h
    · rename_i e
      have : p = v := by simpa using h
      rw [this] at hs
      exact absurd e hs
    · rename_i hne
      rw [if_neg hne]
      have hb := sups_gt ok (best_mem st hne)
      rcases List.mem_cons.mp h with e | e
      · rw [e]
        obtain ⟨r, hr⟩ := chain_head (pl := pl) (st := st) f (best st (sups pl v))
        rw [hr]
        simp
      · exact List.mem_cons_of_mem _ (chain_next ok f _ (by omega) p e hs)
/-- ahead of p stands its customer, of which p is the best supplier -/
theorem chain_prev (ok : PlOk pl) : ∀ (f v : Nat), ∀ p ∈ chain pl st f v, p = v ∨ (cu pl p ∈ chain pl st f v ∧ p = best st (sups pl (cu pl p)))
  | 0, v, p, h => .inl (by simpa [chain] using h)
  | f + 1, v, p, h => by
    unfold chain at h ⊢
    split at h
    · exact .inl (by simpa using h)
    · rename_i hne
      rw [if_neg hne]
      rcases List.mem_cons.mp h with e | e
      · exact .inl e
      · rcases chain_prev ok f _ p e with q | ⟨q1, q2⟩
        · have hm := (mem_sups.mp (best_mem st hne)).2.2
          rw [← q] at hm
          exact .inr ⟨by rw [hm]; simp, by rw [hm]; exact q⟩
        · exact .inr ⟨List.mem_cons_of_mem _ q1, q2⟩
/-! ### the stock of the next day -/
def putGo (st : List Int) (m : Int) : List Nat → List Int → List Int
  | [], acc => acc
  | [a], acc => acc.set a m
  | a :: b :: r, acc => putGo st m (b :: r) (acc.set a (bx st b))
def nextSt (st : List Int) (c : List Nat) : List Int := putGo st (maxI st + 1) c st
theorem putGo_len (st : List Int) (m : Int) : ∀ (c : List Nat) (acc : List Int), (putGo st m c acc).length = acc.length
  | [], acc => rfl
  | [a], acc => List.length_set
  | a :: b :: r, acc => by
    unfold putGo
    rw [putGo_len st m (b :: r), List.length_set]
theorem nextSt_len (st : List Int) (c : List Nat) : (nextSt st c).length = st.length := putGo_len _ _ _ _
theorem getD_set (l : List Int) (i j : Nat) (x : Int) (hi : i < l.length) : (l.set i x).getD j 0 = if j = i then x else l.getD j 0 := by
  rw [List.getD_eq_getElem?_getD, List.getD_eq_getElem?_getD, List.getElem?_set]
  by_cases h : j = i
  · subst h
    simp [hi]
  · rw [if_neg h, if_neg (fun e => h e.symm)]
/-- the new box of a station of the chain -/
def nv (pl : List Nat) (st : List Int) (m : Int) (p : Nat) : Int := if sups pl p = [] then m else bx st (best st (sups pl p))
theorem putGo_at (ok : PlOk pl) (m : Int) : ∀ (f v : Nat) (acc : List Int), pl.length ≤ v + f → v ≤ pl.length → acc.length = pl.length + 1 → ∀ p, bx (putGo st m (chain pl st f v) acc) p = if p ∈ chain pl st f v then nv pl st m p else bx acc p
  | 0, v, acc, hf, hv, hl, p => by
    have hs : sups pl v = [] := sups_last ok (by omega)
    have e : bx (putGo st m (chain pl st 0 v) acc) p = (acc.set v m).getD p 0 := rfl
    rw [e, getD_set _ _ _ _ (by omega)]
    by_cases h : p = v
    · subst h
      rw [if_pos rfl, if_pos (by simp [chain])]
      unfold nv
      rw [if_pos hs]
    · rw [if_neg h, if_neg (by simpa [chain] using h)]
  | f + 1, v, acc, hf, hv, hl, p => by
    unfold chain
    split
    · rename_i hs
      have e : bx (putGo st m [v] acc) p = (acc.set v m).getD p 0 := rfl
      rw [e, getD_set _ _ _ _ (by omega)]
      by_cases h : p = v
      · subst h
        rw [if_pos rfl, if_pos (by simp)]
        unfold nv
        rw [if_pos hs]
      · rw [if_neg h, if_neg (by simpa using h)]
    · rename_i hne
      have hb := best_mem st hne
      have hg := sups_gt ok hb
      obtain ⟨r, hr⟩ := chain_head (pl := pl) (st := st) f (best st (sups pl v))
      have e : putGo st m (v :: chain pl st f (best st (sups pl v))) acc = putGo st m (chain pl st f (best st (sups pl v))) (acc.set v (bx st (best st (sups pl v)))) := by
        rw [hr]
        rfl
      have hvn : v ∉ chain pl st f (best st (sups pl v)) := fun h => by
        have := chain_ge ok f _ v h
        omega
      rw [e, putGo_at ok m f _ _ (by omega) (mem_sups.mp hb).2.1 (by rw [List.length_set]; exact hl) p]
      by_cases h : p = v
      · subst h
        rw [if_neg hvn, if_pos (by simp)]
        show (acc.set p _).getD p 0 = _
        rw [getD_set _ _ _ _ (by omega), if_pos rfl]
        unfold nv
        rw [if_neg hne]
      · by_cases h2 : p ∈ chain pl st f (best st (sups pl v))
        · rw [if_pos h2, if_pos (List.mem_cons_of_mem _ h2)]
        · rw [if_neg h2, if_neg (by simp [h, h2])]
          show (acc.set v _).getD p 0 = _
          rw [getD_set _ _ _ _ (by omega), if_neg h]
theorem putGo_perm (st : List Int) (m : Int) : ∀ (c : List Nat) (a : Nat) (acc : List Int), (a :: c).Nodup → (∀ x ∈ a :: c, x < acc.length) → (∀ x ∈ a :: c, bx acc x = bx st x) → (putGo st m (a :: c) acc).Perm (acc.set a m)
  | [], a, acc, _, _, _ => List.Perm.refl _
  | b :: r, a, acc, nd, hl, he => by
    obtain ⟨n1, n2⟩ := List.nodup_cons.mp nd
    have hab : a ≠ b := fun e => n1 (by rw [e]; simp)
    have ha := hl a (by simp)
    have hb := hl b (by simp)
    unfold putGo
    have ih := putGo_perm st m r b (acc.set a (bx st b)) n2 (fun x hx => by rw [List.length_set]; exact hl x (List.mem_cons_of_mem _ hx)) (fun x hx => by
      have hxa : x ≠ a := fun e => n1 (by rw [← e]; exact hx)
      show (acc.set a _).getD x 0 = _
      rw [getD_set _ _ _ _ ha, if_neg hxa]
      exact he x (List.mem_cons_of_mem _ hx))
    refine ih.trans ?_
    have p1 := List.set_set_perm (as := acc.set a m) (i := a) (j := b) (by rw [List.length_set]; exact ha) (by rw [List.length_set]; exact hb)
    have e1 : (acc.set a m)[b]'(by rw [List.length_set]; exact hb) = bx st b := by
      rw [List.getElem_set_ne hab, ← he b (by simp)]
      unfold bx
      rw [List.getD_eq_getElem?_getD, List.getElem?_eq_getElem hb]
      rfl
    have e2 : (acc.set a m)[a]'(by rw [List.length_set]; exact ha) = m := List.getElem_set_self ..
    rw [e1, e2, List.set_set] at p1
    exact p1
theorem nextSt_perm (ok : StOk pl st) (v : Nat) (hv : v ≤ pl.length) : (nextSt st (chainOf pl st v)).Perm (st.set v (maxI st + 1)) := by
  obtain ⟨r, hr⟩ := chain_head (pl := pl) (st := st) (pl.length + 1) v
  have nd := chain_nodup (st := st) ok.plok (pl.length + 1) v
  have le := chain_le (st := st) ok.plok (pl.length + 1) v hv
  unfold nextSt
  show (putGo st (maxI st + 1) (chain pl st (pl.length + 1) v) st).Perm _
  rw [hr] at nd le ⊢
  exact putGo_perm st _ r v st nd (fun x hx => by rw [ok.len]; have := le x hx; omega) fun _ _ => rfl
theorem nodup_setnew {l : List Int} (nd : l.Nodup) {i : Nat} {x : Int} (hx : x ∉ l) : (l.set i x).Nodup := by
  induction l generalizing i with
  | nil => simp
  | cons y l ih =>
    obtain ⟨h1, h2⟩ := List.nodup_cons.mp nd
    cases i with
    | zero => exact List.nodup_cons.mpr ⟨fun h => hx (List.mem_cons_of_mem _ h), h2⟩
    | succ i =>
      refine List.nodup_cons.mpr ⟨fun h => ?_, ih h2 fun h => hx (List.mem_cons_of_mem _ h)⟩
      rcases List.mem_or_eq_of_mem_set h with q | q
      · exact h1 q
      · exact hx (by rw [q]; simp)
theorem max_not_mem (st : List Int) : maxI st + 1 ∉ st := fun h => by
  have := le_maxI h
  omega
theorem nextSt_ok (ok : StOk pl st) {v : Nat} (hv : v ≤ pl.length) : StOk pl (nextSt st (chainOf pl st v)) :=
  ⟨ok.plok, by rw [nextSt_len]; exact ok.len, (nextSt_perm ok v hv).nodup_iff.mpr (nodup_setnew ok.nd (max_not_mem st))⟩
end
end K6

set_option Elab.async false
set_option linter.all false
set_option maxRecDepth 100000
set_option maxHeartbeats 4000000
/-! K6Mb: days, and the days until a stock is ordered -/
namespace K6
section
variable {pl : List Nat} {st : List Int}
def wrong (pl : List Nat) (st : List Int) : List Nat := ((List.range pl.length).filter fun i => decide (bx st (i + 1) < bx st (pl.getD i 0))).map (· + 1)
def Ordered (pl : List Nat) (st : List Int) : Prop := ∀ s, 1 ≤ s → s ≤ pl.length → bx st (cu pl s) ≤ bx st s
theorem wrong_nil : wrong pl st = [] ↔ Ordered pl st := by
  unfold wrong Ordered
  rw [List.map_eq_nil_iff, List.filter_eq_nil_iff]
  constructor
  · intro h s h1 h2
    have := h (s - 1) (List.mem_range.mpr (by omega))
    simp only [decide_eq_true_eq] at this
    rw [show s - 1 + 1 = s by omega] at this
    unfold cu
    omega
  · intro h i hi
    have := h (i + 1) (by omega) (by have := List.mem_range.mp hi; omega)
    simp only [decide_eq_true_eq]
    unfold cu at this
    rw [show i + 1 - 1 = i by omega] at this
    omega
abbrev dayS (pl : List Nat) (st : List Int) : List Int := nextSt st (chainOf pl st 0)
def ordGo (pl : List Nat) : Nat → Nat → List Int → Nat × List Int
  | 0, d, st => (d, st)
  | f + 1, d, st => if wrong pl st = [] then (d, st) else ordGo pl f (d + 1) (dayS pl st)
def lo (m : Int) (st : List Int) : Nat := st.countP fun b => decide (b ≤ m)
def ordDays (pl : List Nat) (st : List Int) : Nat × List Int := ordGo pl (lo (maxI st) st + 1) 0 st
/-- above m a station's box is younger than its customer's -/
structure Gr (pl : List Nat) (m : Int) (st : List Int) : Prop where
  ok : StOk pl st
  le : m ≤ maxI st
  g : ∀ s, 1 ≤ s → s ≤ pl.length → m < bx st (cu pl s) → bx st (cu pl s) < bx st s
theorem st_ne (ok : StOk pl st) : st ≠ [] := fun e => by
  have := ok.len
  rw [e] at this
  cases this
theorem Gr.start (ok : StOk pl st) : Gr pl (maxI st) st := ⟨ok, Int.le_refl _, fun s h1 h2 h => by
  have h3 : cu pl s < st.length := by
    have := cu_lt ok.plok h1 h2
    rw [ok.len]
    omega
  have := le_maxI (bx_mem h3)
  omega⟩
theorem Gr.old {m : Int} (g : Gr pl m st) (h : m < bx st 0) : Ordered pl st := by
  have up : ∀ s, s ≤ pl.length → m < bx st s := by
    intro s
    induction s using Nat.strongRecOn with
    | _ s ih =>
      intro hs
      by_cases h0 : s = 0
      · rw [h0]
        exact h
      · have h1 : 1 ≤ s := by omega
        have hc := cu_lt g.ok.plok h1 hs
        have h2 := ih _ hc (by omega)
        have := g.g s h1 hs h2
        omega
  intro s h1 h2
  have hc := cu_lt g.ok.plok h1 h2
  have := g.g s h1 h2 (up _ (by omega))
  omega
theorem day_at (ok : StOk pl st) (p : Nat) : bx (dayS pl st) p = if p ∈ chainOf pl st 0 then nv pl st (maxI st + 1) p else bx st p :=
  putGo_at ok.plok _ (pl.length + 1) 0 st (by omega) (by omega) ok.len p
theorem day_max (ok : StOk pl st) : maxI st + 1 ∈ dayS pl st ∧ ∀ b ∈ dayS pl st, b = maxI st + 1 ∨ b ∈ st := by
  have hp := nextSt_perm ok 0 (Nat.zero_le _)
  refine ⟨hp.mem_iff.mpr (List.mem_set (by rw [ok.len]; omega) _), fun b hb => ?_⟩
  rcases List.mem_or_eq_of_mem_set (hp.mem_iff.mp hb) with q | q
  · exact .inr q
  · exact .inl q
theorem Gr.day {m : Int} (g : Gr pl m st) : Gr pl m (dayS pl st) := by
  have ok := g.ok
  have ok2 : StOk pl (dayS pl st) := nextSt_ok ok (Nat.zero_le _)
  refine ⟨ok2, ?_, fun s h1 h2 h => ?_⟩
  · have := le_maxI (day_max ok).1
    have := g.le
    omega
  · have hc := cu_lt ok.plok h1 h2
    have hs : s ∈ sups pl (cu pl s) := mem_sups.mpr ⟨h1, h2, rfl⟩
    have hne : sups pl (cu pl s) ≠ [] := fun e => by rw [e] at hs; cases hs
    have prev := chain_prev (st := st) ok.plok (pl.length + 1) 0
    have next := chain_next (st := st) ok.plok (pl.length + 1) 0 (by omega)
    by_cases hv : cu pl s ∈ chainOf pl st 0
    · have e1 : bx (dayS pl st) (cu pl s) = bx st (best st (sups pl (cu pl s))) := by
        rw [day_at ok, if_pos hv]
        unfold nv
        rw [if_neg hne]
      rw [e1] at h ⊢
      by_cases hb : s = best st (sups pl (cu pl s))
      · have hsc : s ∈ chainOf pl st 0 := by
          have := next _ hv hne
          rw [← hb] at this
          exact this
        rw [← hb] at h ⊢
        rw [day_at ok, if_pos hsc]
        unfold nv
        by_cases hn : sups pl s = []
        · rw [if_pos hn]
          have := le_maxI (bx_mem (st := st) (s := s) (by rw [ok.len]; omega))
          omega
        · rw [if_neg hn]
          have hm := mem_sups.mp (best_mem st hn)
          have := g.g _ hm.1 hm.2.1 (by rw [hm.2.2]; exact h)
          rw [hm.2.2] at this
          exact this
      · have hsn : s ∉ chainOf pl st 0 := fun q => by
          rcases prev s q with z | ⟨_, z⟩
          · omega
          · exact hb z
        rw [day_at ok, if_neg hsn]
        have h3 := best_le st hs
        have hbm := mem_sups.mp (best_mem st hne)
        have h4 : bx st (best st (sups pl (cu pl s))) ≠ bx st s := fun e => hb (bx_inj ok.nd (by rw [ok.len]; omega) (by rw [ok.len]; omega) e.symm)
        omega
    · have hsn : s ∉ chainOf pl st 0 := fun q => by
        rcases prev s q with z | ⟨z, _⟩
        · omega
        · exact hv z
      rw [day_at ok, if_neg hv] at h ⊢
      rw [day_at ok, if_neg hsn]
      exact g.g s h1 h2 h
theorem countP_set (q : Int → Bool) : ∀ (l : List Int) (i : Nat) (x : Int), i < l.length → q x = false → q (l.getD i 0) = true → (l.set i x).countP q + 1 = l.countP q
  | [], i, x, h, _, _ => by cases h
  | y :: l, 0, x, _, h1, h2 => by
    have h2 : q y = true := h2
    rw [List.set_cons_zero, List.countP_cons, List.countP_cons, h1, h2]
    simp
  | y :: l, i + 1, x, h, h1, h2 => by
    have ih := countP_set q l i x (by simpa using h) h1 (by simpa using h2)
    rw [List.set_cons_succ, List.countP_cons, List.countP_cons]
    omega
theorem Gr.less {m : Int} (g : Gr pl m st) (h : wrong pl st ≠ []) : lo m (dayS pl st) < lo m st := by
  have h0 : bx st 0 ≤ m := by
    apply Classical.byContradiction
    intro q
    exact h (wrong_nil.mpr (g.old (by omega)))
  have hp := nextSt_perm g.ok 0 (Nat.zero_le _)
  have := g.le
  unfold lo
  rw [hp.countP_eq]
  have := countP_set (fun b => decide (b ≤ m)) st 0 (maxI st + 1) (by rw [g.ok.len]; omega) (decide_eq_false (by omega)) (decide_eq_true h0)
  omega
theorem ordGo_fuel {m : Int} : ∀ (k : Nat) (st : List Int), Gr pl m st → lo m st = k → ∀ f f' d, k < f → k < f' → ordGo pl f d st = ordGo pl f' d st := by
  intro k
  induction k using Nat.strongRecOn with
  | _ k ih =>
    intro st g hk f f' d hf hf'
    obtain ⟨f, rfl⟩ : ∃ n, f = n + 1 := ⟨f - 1, by omega⟩
    obtain ⟨f', rfl⟩ : ∃ n, f' = n + 1 := ⟨f' - 1, by omega⟩
    unfold ordGo
    split
    · rfl
    · rename_i hne
      have hl := g.less hne
      exact ih _ (by rw [hk] at hl; exact hl) _ g.day rfl _ _ _ (by omega) (by omega)
theorem ord_step {m : Int} (g : Gr pl m st) (d : Nat) (h : wrong pl st ≠ []) : ordGo pl (lo m st + 1) d st = ordGo pl (lo m (dayS pl st) + 1) (d + 1) (dayS pl st) := by
  have hl := g.less h
  have e : ordGo pl (lo m st + 1) d st = ordGo pl (lo m st) (d + 1) (dayS pl st) := by
    rw [ordGo]
    rw [if_neg h]
  rw [e]
  exact ordGo_fuel _ _ g.day rfl _ _ _ hl (by omega)
theorem ord_end (f d : Nat) (h : wrong pl st = []) : ordGo pl (f + 1) d st = (d, st) := by
  rw [ordGo, if_pos h]
/-- between two numbers -/
def Bnd (a b : Int) (st : List Int) : Prop := ∀ x ∈ st, a ≤ x ∧ x ≤ b
theorem Bnd.mono {a b a' b' : Int} (h : Bnd a b st) (h1 : a' ≤ a) (h2 : b ≤ b') : Bnd a' b' st := fun x hx => by
  have := h x hx
  omega
theorem nextSt_bnd (ok : StOk pl st) {v : Nat} (hv : v ≤ pl.length) {a b : Int} (h : Bnd a b st) : Bnd a (b + 1) (nextSt st (chainOf pl st v)) := fun x hx => by
  have hm := h _ (maxI_mem (st_ne ok))
  rcases List.mem_or_eq_of_mem_set ((nextSt_perm ok v hv).mem_iff.mp hx) with q | q
  · have := h x q
    omega
  · omega
theorem ordGo_all {m : Int} : ∀ (f d : Nat) (st : List Int) (a b : Int), Gr pl m st → lo m st < f → Bnd a b st →
    StOk pl (ordGo pl f d st).2 ∧ Ordered pl (ordGo pl f d st).2 ∧ d ≤ (ordGo pl f d st).1 ∧ (ordGo pl f d st).1 ≤ d + lo m st ∧ Bnd a (b + lo m st) (ordGo pl f d st).2
  | 0, d, st, a, b, g, h, hb => by omega
  | f + 1, d, st, a, b, g, h, hb => by
    unfold ordGo
    split
    · rename_i hw
      exact ⟨g.ok, wrong_nil.mp hw, by omega, by omega, hb.mono (Int.le_refl _) (by omega)⟩
    · rename_i hw
      have hl := g.less hw
      obtain ⟨h1, h2, h3, h4, h5⟩ := ordGo_all f (d + 1) (dayS pl st) a (b + 1) g.day (by omega) (nextSt_bnd g.ok (Nat.zero_le _) hb)
      exact ⟨h1, h2, by omega, by omega, h5.mono (Int.le_refl _) (by omega)⟩
theorem lo_le (m : Int) (st : List Int) : lo m st ≤ st.length := List.countP_le_length
theorem ord_all (ok : StOk pl st) {a b : Int} (hb : Bnd a b st) : StOk pl (ordDays pl st).2 ∧ Ordered pl (ordDays pl st).2 ∧ (ordDays pl st).1 ≤ pl.length + 1 ∧ Bnd a (b + 40) (ordDays pl st).2 := by
  obtain ⟨h1, h2, h3, h4, h5⟩ := ordGo_all (m := maxI st) (lo (maxI st) st + 1) 0 st a b (Gr.start ok) (by omega) hb
  have hl := lo_le (maxI st) st
  have := ok.len
  have := ok.plok.1
  exact ⟨h1, h2, by unfold ordDays; omega, h5.mono (Int.le_refl _) (by omega)⟩
/-- k days -/
def dayN (pl : List Nat) : Nat → List Int → List Int
  | 0, st => st
  | k + 1, st => dayS pl (dayN pl k st)
theorem dayN_ok (ok : StOk pl st) : ∀ k, StOk pl (dayN pl k st)
  | 0 => ok
  | k + 1 => nextSt_ok (dayN_ok ok k) (Nat.zero_le _)
theorem dayN_bnd (ok : StOk pl st) {a b : Int} (h : Bnd a b st) : ∀ k : Nat, Bnd a (b + k) (dayN pl k st)
  | 0 => h.mono (Int.le_refl _) (by omega)
  | k + 1 => (nextSt_bnd (dayN_ok ok k) (Nat.zero_le _) (dayN_bnd ok h k)).mono (Int.le_refl _) (by omega)
end
end K6

set_option Elab.async false
set_option linter.all false
set_option maxRecDepth 100000
set_option maxHeartbeats 4000000
/-! K6Wc: is_stock, require_stock, supplier_lists, chain_of -/
namespace K6
open PySem PySem.Spec PyProof.Rows L2
theorem iV_snoc (xs : List Int) (x : Int) : iV xs ++ [V.int x] = iV (xs ++ [x]) := (List.map_append (f := V.int) (l₁ := xs) (l₂ := [x])).symm
theorem nI_snoc (xs : List Nat) (x : Nat) : nI xs ++ [((x : Nat) : Int)] = nI (xs ++ [x]) := (List.map_append (f := fun n => ((n : Nat) : Int)) (l₁ := xs) (l₂ := [x])).symm
theorem sl_le {n : Nat} (h : n ≤ 1000) : n < sizeLine := by rw [sizeLine_eq]; omega
section
variable {P : Program} {w : World} {K : PySem.W.Frag} {mg : Str → Option Value} {base : Heap}
/-- a plant and its stock -/
structure PS2 (H : Hp) (a b : Addr) (pl : List Nat) (st : List Int) : Prop where
  pa : H a = some (.tup (iV (nI pl)))
  sb : H b = some (.tup (iV st))
  ok : StOk pl st
theorem PS2.keep {T : TL} {ex : List Addr} {H H' : Hp} {a b : Addr} {pl : List Nat} {st : List Int} (h : PS2 H a b pl st) (g : Gx T ex H H') : PS2 H' a b pl st := ⟨g.tup h.pa, g.tup h.sb, h.ok⟩
def spIsStock (K : PySem.W.Frag) : Sp := fun vs H Q _ => ∃ a b pl st, vs = [.ref a, .ref b] ∧ PS2 H a b pl st ∧ ∀ H', Gx (TK K) [] H H' → Q (.bl true) H'
theorem calIsStock (z : Cz P w K mg base) : C8.Cal P w K mg base 5 "is_stock" (spIsStock K) [] := by
  refine mkCal z.fIsStock z.gIsStock scIsStock bIsStock (fun vs H Q E h => ?_) fun cdv A outer s H vs Q E hr h => ⟨_, (pss_cons (ps_expr (C8.pe_c (calRequirePlant z) hr (by decide) rfl (pa_cons (pv 0) pa_nil)))
  (pss_one (ps_ret (C8.pe_c (calValidStock z) hr (by decide) rfl (pa_cons (pv 0) (pa_cons (pv 1) pa_nil)))))), ?_⟩
  · obtain ⟨a, b, pl, st, rfl, _⟩ := h
    rfl
  · obtain ⟨a, b, pl, st, rfl, h, q⟩ := h
    refine ⟨_, rfl, a, pl, rfl, h.pa, h.ok.plok, fun H1 g1 => ?_⟩
    have h1 := h.keep g1
    exact ⟨_, rfl, _, rfl, a, b, pl, st, rfl, h1.pa, h1.sb, h.ok.len, h.ok.plok.1, h.ok.nd, fun H2 g2 => q H2 (g1.then g2)⟩
def spReqStock (K : PySem.W.Frag) : Sp := fun vs H Q _ => ∃ a b pl st, vs = [.ref a, .ref b] ∧ PS2 H a b pl st ∧ ∀ H', Gx (TK K) [] H H' → Q .non H'
theorem calRequireStock (z : Cz P w K mg base) : C8.Cal P w K mg base 3 "require_stock" (spReqStock K) [] := by
  refine mkCal z.fRequireStock z.gRequireStock scRequireStock bRequireStock (fun vs H Q E h => ?_) fun cdv A outer s H vs Q E hr h => ⟨_, (pss_one (ps_if (pt_not (pt_val (C8.pe_c (calValidStock z) hr (by decide) rfl (pa_cons (pv 0) (pa_cons (pv 1) pa_nil))))) (pss_one ps_never) pss_nil)), ?_⟩
  · obtain ⟨a, b, pl, st, rfl, _⟩ := h
    rfl
  · obtain ⟨a, b, pl, st, rfl, h, q⟩ := h
    exact ⟨_, rfl, _, rfl, a, b, pl, st, rfl, h.pa, h.sb, h.ok.len, h.ok.plok.1, h.ok.nd, fun H2 g2 => ⟨_, rfl, iteF (q H2 g2)⟩⟩
def supsT (pl : List Nat) (k : Nat) : List (List Nat) := (List.range (pl.length + 1)).map (supsTo pl k)
theorem supsT_len (pl : List Nat) (k : Nat) : (supsT pl k).length = pl.length + 1 := by unfold supsT; rw [List.length_map, List.length_range]
theorem supsT_get (pl : List Nat) (k v : Nat) (hv : v ≤ pl.length) : (supsT pl k)[v]? = some (supsTo pl k v) := by
  unfold supsT
  rw [List.getElem?_map, List.getElem?_range (by omega)]
  rfl
theorem supsT_zero (pl : List Nat) : nL (supsT pl 0) = List.replicate (pl.length + 1) [] := by
  apply List.ext_getElem?
  intro i
  rw [List.getElem?_map, List.getElem?_replicate]
  by_cases h : i < pl.length + 1
  · rw [supsT_get pl 0 i (by omega), if_pos h]
    rfl
  · rw [if_neg h, List.getElem?_eq_none (by rw [supsT_len]; omega)]
    rfl
theorem supsT_step (pl : List Nat) (k v : Nat) (hv : v ≤ pl.length) (e : pl.getD k 0 = v) : (nL (supsT pl k)).set v (nI (supsTo pl k v ++ [k + 1])) = nL (supsT pl (k + 1)) := by
  apply List.ext_getElem?
  intro i
  rw [List.getElem?_set, List.getElem?_map, List.getElem?_map]
  by_cases h : i ≤ pl.length
  · rw [supsT_get pl k i h, supsT_get pl (k + 1) i h]
    by_cases hi : v = i
    · subst hi
      rw [if_pos rfl, if_pos (by rw [List.length_map, supsT_len]; omega), supsTo_step, if_pos e]
      rfl
    · rw [if_neg hi, supsTo_step, if_neg (by rw [e]; exact hi)]
  · rw [List.getElem?_eq_none (by rw [supsT_len]; omega), List.getElem?_eq_none (l := supsT pl (k + 1)) (by rw [supsT_len]; omega), if_neg (by omega)]
theorem supsT_end (pl : List Nat) : supsT pl pl.length = supL pl := rfl
theorem supsTo_len (pl : List Nat) (k v : Nat) : (supsTo pl k v).length ≤ k := by
  unfold supsTo
  rw [List.length_map]
  have := List.length_filter_le (fun i => pl.getD i 0 == v) (List.range k)
  rw [List.length_range] at this
  exact this
def spSupL (K : PySem.W.Frag) : Sp := fun vs H Q _ => ∃ a pl, vs = [.ref a] ∧ H a = some (.tup (iV (nI pl))) ∧ PlOk pl ∧ ∀ H' D rs, Gx (TK K) [] H H' → LLm H' D rs (nL (supL pl)) → (∀ r ∈ D :: rs, Fr H r) → Q (.ref D) H'
theorem calSupplierLists (z : Cz P w K mg base) : C8.Cal P w K mg base 1 "supplier_lists" (spSupL K) [] := by
  refine mkCal z.fSupplierLists z.gSupplierLists scSupplierLists bSupplierLists (fun vs H Q E h => ?_) fun cdv A outer s H vs Q E hr h => ⟨_, (pss_cons (ps_setLc (i := 1) (own := [("station", 3)]) (g := gName 3) (tt := tYes) rfl scSupplierLists.nd rfl rfl (sw_true rfl rfl rfl (by decide +kernel)) (pi_range1 rfl z.nrange (pa_cons (pe_op op_add (pe_callB call_lenQ (by rfl) z.nlen PySem.boot_len (pa_cons (pv 0) pa_nil)) pe_int) pa_nil)) (blkOk_by (own := [("station", 3)]) (N := nSupplierLists) (sc := defScope sSupplierLists) (by decide +kernel)) (fun _ _ _ _ _ => (pg_name (i := 3) scSupplierLists.nd rfl (Or.inl rfl))) (fun _ _ _ _ _ => pts_nil) (fun _ _ _ _ _ => (pe_lst pa_nil)))
  (pss_cons (ps_for PassesOwn.never rfl (pi_enumT (by rfl) z.nenumerate (pa_cons (pv 0) pa_nil)) (pg_pair (i := 2) (j := 3) rfl scSupplierLists.nd rfl (Or.inl rfl) rfl (Or.inl rfl)) (pss_one (ps_expr (pe_bm PySem.F.plainAttrs_list PySem.F.slot_list_append PySem.F.type_list_append mt_append (pe_ix ix_list (pv 1) (pv 3) (fun _ _ => rfl)) (pa_cons (pe_op op_add (pv 2) pe_int) pa_nil)))))
  (pss_one (ps_ret (pv 1))))), ?_⟩
  · obtain ⟨a, pl, rfl, _⟩ := h
    rfl
  · obtain ⟨a, pl, rfl, ha, ok, q⟩ := h
    have h40 := ok.1
    refine ⟨_, rfl, _, _, rfl, .inr (SqT.of ha), _, _, rfl, rfl, _, rfl, by omega, by rw [len_iV, len_nI]; omega, fun D hD => lc_nils (T := TK K) gv_range (fun _ _ _ _ y => y.1) hD (fun _ _ => trivial) (by rw [len_iV, len_nI]; omega) (fun _ => rfl) fun H1 rs g1 l1 f1 => ?_⟩
    have e1 : (((iV (nI pl)).length : Nat) + (1 : Int)).toNat = pl.length + 1 := by rw [len_iV, len_nI]; omega
    rw [e1, ← supsT_zero] at l1
    refine ⟨_, rfl, a, _, rfl, SqT.of (g1.tup ha), for_gen gv_enumT (fun i σ H2 => (∃ s1 s2, σ = [some (.ref a), some (.ref D), s1, s2]) ∧ Gx (TK K) [] H H2 ∧ LLm H2 D rs (nL (supsT pl i))) ⟨⟨_, _, rfl⟩, g1, l1⟩ (fun i σ H2 _ p => SqT.of (p.2.1.tup ha)) (fun i x σ H2 H3 hi p y => ?_) fun σ H2 p => ?_⟩
    · obtain ⟨⟨s1, s2, rfl⟩, g2, l2⟩ := p
      obtain ⟨p, v, rfl, np, rfl, hv⟩ := y
      obtain ⟨n, hn, rfl⟩ := get_nV hv
      have hil : i < pl.length := (List.getElem?_eq_some_iff.mp hn).1
      have en : pl.getD i 0 = n := by rw [List.getD_eq_getElem?_getD, hn]; rfl
      have hnl : n ≤ pl.length := by
        have := ok.2 i hil
        omega
      have g3 : Gx (TK K) [] H2 (upd H2 p (.tup [.int (i : Nat), .int (n : Nat)])) := Gx.new np
      have l3 := l2.keep g3
      obtain ⟨r, hr, hrl, hne⟩ := l3.get (v := n) (by rw [List.length_map, supsT_len]; omega)
      have ev : (nL (supsT pl i))[n]'(by rw [List.length_map, supsT_len]; omega) = nI (supsTo pl i n) := by
        rw [List.getElem_map]
        congr 1
        exact (List.getElem?_eq_some_iff.mp (supsT_get pl i n hnl)).2
      rw [ev] at hrl
      have hlen : (iV (nI (supsTo pl i n))).length < sizeLine := by
        rw [len_iV, len_nI]
        have := supsTo_len pl i n
        exact sl_le (by omega)
      refine pair_to upd_same ⟨_, rfl, _, rfl, _, _, _, _, rfl, rfl, SqL.of l3.top, at_ref hr, .inl ⟨rfl, _, SqL.of hrl⟩, _, rfl, _, _, rfl, rfl, _, _, _, rfl, rfl, hrl, hlen, ⟨_, _, rfl⟩, ?_, ?_⟩
      · refine (g2.then g3).put (.inr ?_) hrl trivial
        exact f1 r (List.mem_of_getElem? hr)
      · rw [iV_snoc, show (((i : Nat) : Int) + 1) = ((i + 1 : Nat) : Int) by omega, nI_snoc, ← supsT_step pl i n hnl en]
        exact l3.put hr
    · obtain ⟨⟨s1, s2, rfl⟩, g2, l2⟩ := p
      rw [len_iV, len_nI] at l2
      refine ⟨_, rfl, q H2 D rs g2 l2 fun r hr => ?_⟩
      rcases List.mem_cons.mp hr with e | e
      · rw [e]
        exact Fr.of hD
      · exact f1 r e
end
end K6

set_option Elab.async false
set_option linter.all false
set_option maxRecDepth 100000
set_option maxHeartbeats 4000000
/-! K6Wd: chain_of -/
namespace K6
open PySem PySem.Spec PyProof.Rows L2
theorem at_lastN (pre : List Nat) (v : Nat) : atI (iV (nI (pre ++ [v]))) (-1) = some (.int ((v : Nat) : Int)) := by
  rw [← nI_snoc, ← iV_snoc]
  exact atI_last _ _
theorem nL_get {xss : List (List Nat)} {i : Nat} (h : i < xss.length) : (nL xss)[i]'(by rw [List.length_map]; exact h) = nI xss[i] := List.getElem_map _
theorem supL_len (pl : List Nat) : (supL pl).length = pl.length + 1 := by unfold supL; rw [List.length_map, List.length_range]
theorem supL_get (pl : List Nat) (v : Nat) (hv : v < (supL pl).length) : (supL pl)[v] = sups pl v := by
  show ((List.range (pl.length + 1)).map (sups pl))[v]'(by simpa [supL] using hv) = sups pl v
  rw [List.getElem_map, List.getElem_range]
/-- the list of the suppliers of v -/
theorem LLm.sup {H : Hp} {D : Addr} {rs : List Addr} {pl : List Nat} (l : LLm H D rs (nL (supL pl))) {v : Nat} (hv : v ≤ pl.length) : ∃ r, rs[v]? = some r ∧ H r = some (.lst (iV (nI (sups pl v)))) := by
  have h1 : v < (supL pl).length := by rw [supL_len]; omega
  obtain ⟨r, hr, hl, _⟩ := l.get (v := v) (by rw [List.length_map]; exact h1)
  rw [nL_get h1, supL_get] at hl
  exact ⟨r, hr, hl⟩
theorem Fr.ne {H : Hp} {a b : Addr} {o : HO} (f : Fr H a) (h : H b = some o) (n : ∀ ps, o ≠ .tbl ps) : a ≠ b := fun e => by
  obtain ⟨ps, z⟩ := f o (by rw [e]; exact h)
  exact n ps z
theorem Fr.lst {H : Hp} {a b : Addr} {xs : List V} (f : Fr H a) (h : H b = some (.lst xs)) : a ≠ b := f.ne h (fun ps z => by cases z)
theorem LLm.fresh {H : Hp} {D p : Addr} {rs : List Addr} {xss : List (List Int)} (l : LLm H D rs xss) (np : H p = none) : p ≠ D ∧ p ∉ rs := by
  refine ⟨(ne_of_none l.top np).symm, fun hm => ?_⟩
  obtain ⟨k, hk, e⟩ := List.mem_iff_getElem.mp hm
  have h1 := l.it k p (xss[k]'(by rw [← l.len]; exact hk)) (by rw [← e]; exact List.getElem?_eq_getElem hk) (List.getElem?_eq_getElem _)
  rw [np] at h1
  cases h1
theorem LLm.other {H : Hp} {D p : Addr} {rs : List Addr} {xss : List (List Int)} {o : HO} (l : LLm H D rs xss) (h : p ≠ D ∧ p ∉ rs) : LLm (upd H p o) D rs xss :=
  ⟨by rw [upd_ne (Ne.symm h.1)]; exact l.top, l.len, l.nd, fun i r xs h1 h2 => by
    rw [upd_ne (fun e => h.2 (by rw [← e]; exact List.mem_of_getElem? h1))]
    exact l.it i r xs h1 h2⟩
section
variable {P : Program} {w : World} {K : PySem.W.Frag} {mg : Str → Option Value} {base : Heap}
def spChain (K : PySem.W.Frag) : Sp := fun vs H Q _ => ∃ a b pl st, ∃ v : Nat, vs = [.ref a, .ref b, .int (v : Nat)] ∧ PS2 H a b pl st ∧ v ≤ pl.length ∧
  ∀ H' D, Gx (TK K) [] H H' → Fr H D → H' D = some (.lst (iV (nI (chainOf pl st v)))) → Q (.ref D) H'
theorem calChainOf (z : Cz P w K mg base) : C8.Cal P w K mg base 2 "chain_of" (spChain K) [] := by
  refine mkCal z.fChainOf z.gChainOf scChainOf bChainOf (fun vs H Q E h => ?_) fun cdv A outer s H vs Q E hr h => ?_
  · obtain ⟨a, b, pl, st, v, rfl, _⟩ := h
    rfl
  · refine ⟨_, (pss_cons (ps_set (i := 3) scChainOf.nd rfl (Or.inl rfl) (C8.pe_c (calSupplierLists z) hr (by decide) rfl (pa_cons (pv 0) pa_nil)))
  (pss_cons (ps_set (i := 4) scChainOf.nd rfl (Or.inl rfl) (pe_lst (pa_cons (pv 2) pa_nil)))
  (pss_cons (ps_while PassesOwn.never (pt_cmpR (op_neL0 hr.units) (pe_ix ix_list (pv 3) (pe_ix ix_list (pv 4) (pe_un un_neg pe_int) (fun _ _ => rfl)) (fun _ _ => rfl)) (pe_lst pa_nil) (nomark _)) (pss_one (ps_expr (pe_bm PySem.F.plainAttrs_list PySem.F.slot_list_append PySem.F.type_list_append mt_append (pv 4) (pa_cons (pe_ix ix_tup (pe_callB (cr_minP rfl hr.units) (by rfl) z.nmin (by decide +kernel) (pa_cons (pe_lc (own := [("other", 5)]) (g := gName 5) (tt := tYes) rfl scChainOf.nd (pi_list (pe_ix ix_list (pv 3) (pe_ix ix_list (pv 4) (pe_un un_neg pe_int) (fun _ _ => rfl)) (fun _ _ => rfl))) (blkOk_by (own := [("other", 5)]) (N := nChainOf) (sc := defScope sChainOf) (by decide +kernel)) (fun _ _ _ _ _ => (pg_name (i := 5) scChainOf.nd rfl (Or.inl rfl))) (fun _ _ _ _ _ => pts_nil) (fun _ _ _ _ _ => (pe_tup (pa_cons (pe_ix (r := rIxT K) ix_tup (pv 1) (pv 5) (fun _ _ => rfl)) (pa_cons (pv 5) pa_nil))))) pa_nil)) pe_int (fun _ _ => rfl)) pa_nil)))))
  (pss_one (ps_ret (pv 4)))))), ?_⟩
    obtain ⟨a, b, pl, st, v, rfl, h, hv, q⟩ := h
    have ok := h.ok
    have h40 := ok.plok.1
    refine ⟨_, rfl, a, pl, rfl, h.pa, ok.plok, fun H1 Dl rs g1 l1 _ => ?_⟩
    refine ⟨_, rfl, by show 1 ≤ sizeLine; decide, fun p np => ?_⟩
    have g2 : Gx (TK K) [] H (upd H1 p (.lst [.int (v : Nat)])) := g1.more np
    have fp : Fr H p := g1.fr np
    have pf := l1.fresh np
    refine ⟨fun m σ H2 => σ = [some (.ref a), some (.ref b), some (.int (v : Nat)), some (.ref Dl), some (.ref p), none] ∧ Gx (TK K) [] H H2 ∧ LLm H2 Dl rs (nL (supL pl)) ∧
      ∃ pre u f, H2 p = some (.lst (iV (nI (pre ++ [u])))) ∧ pre ++ chain pl st f u = chainOf pl st v ∧ pl.length ≤ u + f ∧ u ≤ pl.length ∧ m = pl.length - u,
      ⟨_, rfl, g2, l1.keep (Gx.new (T := TK K) np), [], v, pl.length + 1, upd_same, rfl, by omega, hv, rfl⟩, ?_⟩
    rintro m σ H2 ⟨rfl, g2, l2, pre, u, f, hp, hc, hf, hu, rfl⟩
    obtain ⟨r, hr, hrl⟩ := l2.sup hu
    have h2 := h.keep g2
    have clen : (pre ++ [u]).length ≤ pl.length + 1 := by
      obtain ⟨t, ht⟩ := chain_head (pl := pl) (st := st) f u
      have : (chainOf pl st v).length ≤ pl.length + 1 := chain_len (st := st) ok.plok (pl.length + 1) v hv
      have e : chainOf pl st v = pre ++ (u :: t) := by rw [← hc, ht]
      have e2 : (chainOf pl st v).length = (pre ++ (u :: t)).length := by rw [e]
      simp only [List.length_append, List.length_cons, List.length_nil] at e2 ⊢
      omega
    refine ⟨_, rfl, _, rfl, _, rfl, p, _, _, _, rfl, rfl, SqL.of hp, at_lastN pre u, Dl, _, _, _, rfl, rfl, SqL.of l2.top, at_ref hr, Nat.zero_le _, fun p0 np0 => ?_⟩
    have g3 : Gx (TK K) [] H2 (upd H2 p0 (.lst [])) := Gx.new np0
    refine ⟨r, p0, _, rfl, rfl, SqL.of (g3.lst hrl), upd_same, _, rfl, ?_⟩
    by_cases hs : sups pl u = []
    · rw [hs]
      refine iteF ⟨_, rfl, q _ p (g2.then g3) fp ?_⟩
      obtain ⟨f, rfl⟩ | rfl : (∃ n, f = n + 1) ∨ f = 0 := by
        cases f with
        | zero => exact .inr rfl
        | succ n => exact .inl ⟨n, rfl⟩
      · rw [chain, if_pos hs] at hc
        rw [← hc]
        exact g3.lst hp
      · rw [chain] at hc
        rw [← hc]
        exact g3.lst hp
    · have hne : (!(iV (nI (sups pl u))).isEmpty) = true := by
        cases e : sups pl u with
        | nil => exact absurd e hs
        | cons x y => rfl
      simp only [if_true]
      rw [hne]
      have g4 := g2.then g3
      have hp3 := g3.lst hp
      have l3 := l2.keep g3
      have hr3 := g3.lst hrl
      refine iteT ⟨_, fun _ _ hh => hh, _, rfl, .inl ⟨rfl, _, SqL.of hp3⟩, _, rfl, _, rfl, _, rfl, p, _, _, _, rfl, rfl, SqL.of hp3, at_lastN pre u, Dl, _, _, _, rfl, rfl, SqL.of l3.top, at_ref hr, r, rfl, ⟨_, SqL.of hr3⟩, fun D hD => ?_⟩
      have fD : Fr H2 D := g3.fr hD
      refine lc_gen gv_list (fun i H3 => Gx (TK K) [] (upd H2 p0 (.lst [])) H3 ∧ ∃ tps : List (Addr × Int × Int), H3 D = some (.lst (tps.map fun t => V.ref t.1)) ∧ tps.map (·.2) = ((sups pl u).take i).map (fun s => (bx st s, ((s : Nat) : Int))) ∧ ∀ t ∈ tps, H3 t.1 = some (.tup [.int t.2.1, .int t.2.2]))
        ⟨Gx.new hD, [], upd_same, by simp, by simp⟩ (fun i H3 _ pv => SqL.of (pv.1.lst hr3)) (fun i x H3 H4 hi pv y => ?_) fun H3 pv => ?_
      · obtain ⟨g5, tps, t1, t2, t3⟩ := pv
        obtain ⟨rfl, hx⟩ := y
        obtain ⟨o, ho, rfl⟩ := get_nV hx
        have hol : o ∈ sups pl u := List.mem_of_getElem? ho
        have hos := mem_sups.mp hol
        have h3 := h.keep (g4.then g5)
        have hbo : st[o]? = some (bx st o) := by
          unfold bx
          rw [List.getD_eq_getElem?_getD, List.getElem?_eq_getElem (by rw [ok.len]; omega)]
          rfl
        have tlen : tps.length ≤ 40 := by
          have e := congrArg List.length t2
          rw [List.length_map, List.length_map, List.length_take] at e
          have := sups_len pl u
          omega
        refine ⟨rfl, iteT (B := True) ⟨_, rfl, _, rfl, b, _, _, _, rfl, rfl, SqT.of h3.sb, at_iV hbo, _, rfl, by show 2 ≤ sizeLine; decide, fun pr npr => ?_⟩⟩
        have g6 : Gx (TK K) [] H4 (upd H4 pr (.tup [.int (bx st o), .int (o : Nat)])) := Gx.new npr
        refine ⟨_, g6.lst t1, by rw [List.length_map]; exact sl_le (by omega), (g5.then g6).put (.inr (Fr.of hD)) (g6.lst t1) trivial, tps ++ [(pr, bx st o, ((o : Nat) : Int))], ?_, ?_, fun t ht => ?_⟩
        · rw [upd_same, List.map_append]
          rfl
        · rw [List.map_append, t2, List.take_add_one, ho, List.map_append]
          rfl
        · have hDne : t.1 ≠ D := by
            rcases List.mem_append.mp ht with q1 | q1
            · exact ne_of (t3 t q1) t1 (by intro z; cases z)
            · have : t = (pr, bx st o, ((o : Nat) : Int)) := by simpa using q1
              rw [this]
              exact (ne_of_none t1 npr).symm
          rw [upd_ne hDne]
          rcases List.mem_append.mp ht with q1 | q1
          · exact g6.tup (t3 t q1)
          · have : t = (pr, bx st o, ((o : Nat) : Int)) := by simpa using q1
            rw [this]
            exact upd_same
      · obtain ⟨g5, tps, t1, t2, t3⟩ := pv
        have hl : (iV (nI (sups pl u))).length = (sups pl u).length := by rw [len_iV, len_nI]
        rw [hl, List.take_length] at t2
        refine ⟨D, tps, rfl, SqL.of t1, t3, fun e => ?_, fun t ht hle => ?_⟩
        · rw [e] at t2
          cases hq : sups pl u with
          | nil => exact hs hq
          | cons x y => rw [hq] at t2; cases t2
        · obtain ⟨o, ho, eo⟩ : ∃ o ∈ sups pl u, (bx st o, ((o : Nat) : Int)) = t.2 := by
            have : t.2 ∈ tps.map (·.2) := List.mem_map.mpr ⟨t, ht, rfl⟩
            rw [t2] at this
            obtain ⟨o, ho, e⟩ := List.mem_map.mp this
            exact ⟨o, ho, e⟩
          have hbest : o = best st (sups pl u) := best_uniq ok ho fun s hs2 => by
            have : (bx st s, ((s : Nat) : Int)) ∈ tps.map (·.2) := by
              rw [t2]
              exact List.mem_map.mpr ⟨s, hs2, rfl⟩
            obtain ⟨t', ht', e'⟩ := List.mem_map.mp this
            have := hle t' ht'
            rw [e', ← eo] at this
            exact this
          have hu2 := sups_gt ok.plok ho
          have ho2 := mem_sups.mp ho
          obtain ⟨f, rfl⟩ : ∃ n, f = n + 1 := by
            cases f with
            | zero => omega
            | succ n => exact ⟨n, rfl⟩
          have tt := t3 t ht
          rw [← eo] at tt
          have hp5 := g5.lst hp3
          refine ⟨t.1, _, 1, _, rfl, rfl, SqT.of tt, rfl, p, _, _, rfl, rfl, hp5, by rw [len_iV, len_nI]; exact sl_le (by omega), pl.length - o, by omega, rfl, ?_, ?_, pre ++ [u], o, f, ?_, ?_, by omega, ho2.2.1, rfl⟩
          · exact (g4.then g5).put (.inr fp) hp5 trivial
          · exact (l3.keep g5).other pf
          · rw [upd_same, iV_snoc, nI_snoc]
          · rw [chain, if_neg hs] at hc
            rw [List.append_assoc, hbest]
            exact hc
end
end K6

set_option Elab.async false
set_option linter.all false
set_option maxRecDepth 100000
set_option maxHeartbeats 4000000
/-! K6We: next_stock, first_days, wrong_stations, order_days, days_until_ordered -/
namespace K6
open PySem PySem.Spec PyProof.Rows L2
theorem Gx.wide0 {T : TL} {ex : List Addr} {H H1 : Hp} (a : Gx T [] H H1) : Gx T ex H H1 := ⟨a.tup, fun e n _ => a.oth e n (by simp), a.tab⟩
theorem cut_from (xs : List V) (k : Nat) : cutV xs (some ((k : Nat) : Int)) none = xs.drop k := by
  unfold cutV
  rw [HT.sIx_nat, HT.sIx_none]
  by_cases h : k ≤ xs.length
  · rw [Nat.min_eq_left h]
    exact List.take_of_length_le (by rw [List.length_drop]; exact Nat.le_refl _)
  · rw [Nat.min_eq_right (by omega), List.drop_eq_nil_of_le (Nat.le_refl _), List.drop_eq_nil_of_le (by omega)]
    simp
theorem cut_to (xs : List V) (k : Nat) : cutV xs none (some ((k : Nat) : Int)) = xs.take k := by
  unfold cutV
  rw [HT.sIx_nat, HT.sIx_none, List.drop_zero, Nat.sub_zero]
  by_cases h : k ≤ xs.length
  · rw [Nat.min_eq_left h]
  · rw [Nat.min_eq_right (by omega), List.take_of_length_le (Nat.le_refl _), List.take_of_length_le (by omega)]
theorem cut_last (xs : List V) : cutV xs none (some (-1)) = xs.dropLast := by
  unfold cutV
  rw [HT.sIx_none, List.drop_zero, Nat.sub_zero, List.dropLast_eq_take]
  congr 1
  show (if (-1 : Int) < 0 then ((-1 : Int) + (xs.length : Int)).toNat else min (-1 : Int).toNat xs.length) = xs.length - 1
  rw [if_pos (by decide)]
  omega
theorem ixN_nat {n k : Nat} (h : k < n) : ixN n ((k : Nat) : Int) = some k := by
  unfold ixN
  rw [if_pos (by omega), if_pos (by omega), Int.toNat_natCast]
theorem drop_iV (xs : List Int) (k : Nat) : (iV xs).drop k = iV (xs.drop k) := (List.map_drop ..).symm
theorem drop_nI (xs : List Nat) (k : Nat) : (nI xs).drop k = nI (xs.drop k) := (List.map_drop ..).symm
theorem set_iV (xs : List Int) (k : Nat) (x : Int) : (iV xs).set k (.int x) = iV (xs.set k x) := (List.map_set ..).symm
theorem bx_get {st : List Int} {s : Nat} (h : s < st.length) : st[s]? = some (bx st s) := by
  unfold bx
  rw [List.getD_eq_getElem?_getD, List.getElem?_eq_getElem h]
  rfl
section
variable {P : Program} {w : World} {K : PySem.W.Frag} {mg : Str → Option Value} {base : Heap}
def spNext (K : PySem.W.Frag) : Sp := fun vs H Q _ => ∃ a b c pl st, ∃ v : Nat, vs = [.ref a, .ref b, .ref c] ∧ PS2 H a b pl st ∧ v ≤ pl.length ∧ H c = some (.lst (iV (nI (chainOf pl st v)))) ∧
  ∀ H' D, Gx (TK K) [] H H' → PS2 H' a D pl (nextSt st (chainOf pl st v)) → Q (.ref D) H'
theorem calNextStock (z : Cz P w K mg base) : C8.Cal P w K mg base 1 "next_stock" (spNext K) [] := by
  refine mkCal z.fNextStock z.gNextStock scNextStock bNextStock (fun vs H Q E h => ?_) fun cdv A outer s H vs Q E hr h => ?_
  · obtain ⟨a, b, c, pl, st, v, rfl, _⟩ := h
    rfl
  · refine ⟨_, (pss_cons (ps_set (i := 3) scNextStock.nd rfl (Or.inl rfl) (pe_callTy call_list_of (by rfl) z.nlist (by decide +kernel) (pa_cons (pv 1) pa_nil)))
  (pss_cons (ps_for PassesOwn.never rfl (pi_zip (by rfl) z.nzip (pa_cons (pv 2) (pa_cons (pe_slice sl_listQ (pv 2) (po_some pe_int) po_none) pa_nil))) (pg_pair (i := 4) (j := 5) rfl scNextStock.nd rfl (Or.inl rfl) rfl (Or.inl rfl)) (pss_one (ps_asg (pe_ix ix_tup (pv 1) (pv 5) (fun _ _ => rfl)) (pg_sub (pv 3) (pv 4) set_list))))
  (pss_cons (ps_asg (pe_op op_add (pe_callB (cr_maxT rfl hr.units) (by rfl) z.nmax (by decide +kernel) (pa_cons (pv 1) pa_nil)) pe_int) (pg_sub (pv 3) (pe_ix ix_list (pv 2) (pe_un un_neg pe_int) (fun _ _ => rfl)) set_list))
  (pss_one (ps_ret (pe_callTy call_tupQ (by rfl) z.ntuple (by decide +kernel) (pa_cons (pv 3) pa_nil))))))), ?_⟩
    obtain ⟨a, b, c, pl, st, v, rfl, h, hv, hc, q⟩ := h
    have ok := h.ok
    have clen : (chainOf pl st v).length ≤ pl.length + 1 := chain_len (st := st) ok.plok (pl.length + 1) v hv
    have cle : ∀ p ∈ chainOf pl st v, p ≤ pl.length := chain_le (st := st) ok.plok (pl.length + 1) v hv
    have cne : chainOf pl st v ≠ [] := chain_ne _ _
    have ok2 := nextSt_ok ok hv
    have e0 : nextSt st (chainOf pl st v) = putGo st (maxI st + 1) (chainOf pl st v) st := rfl
    generalize chainOf pl st v = ch at *
    have h40 := ok.plok.1
    refine ⟨_, rfl, b, _, rfl, .inr (SqT.of h.sb), fun l nl => ?_⟩
    have g1 : Gx (TK K) [] H (upd H l (.lst (iV st))) := Gx.new nl
    have fl : Fr H l := Fr.of nl
    refine ⟨_, rfl, _, rfl, _, rfl, c, _, rfl, SqL.of (g1.lst hc), fun l2 nl2 => ?_⟩
    have g2 := g1.more (o := .lst (cutV (iV (nI ch)) (some ((1 : Nat) : Int)) none)) nl2
    have hl2 : upd (upd H l (.lst (iV st))) l2 (.lst (cutV (iV (nI ch)) (some ((1 : Nat) : Int)) none)) l2 = some (.lst (iV (nI (ch.drop 1)))) := by
      rw [upd_same, cut_from, drop_iV, drop_nI]
    have hl1 : upd (upd H l (.lst (iV st))) l2 (.lst (cutV (iV (nI ch)) (some ((1 : Nat) : Int)) none)) l = some (.lst (iV st)) := by
      rw [upd_ne (ne_of_none upd_same nl2)]
      exact upd_same
    have hne : l ≠ c ∧ l ≠ l2 := ⟨(ne_of_none hc nl).symm, ne_of_none upd_same nl2⟩
    refine ⟨c, l2, _, _, rfl, SqL.of (g2.lst hc), SqL.of hl2, for_gen gv_zip (fun i σ H2 => (∃ s4 s5, σ = [some (.ref a), some (.ref b), some (.ref c), some (.ref l), s4, s5]) ∧ Gx (TK K) [] H H2 ∧ H2 l2 = some (.lst (iV (nI (ch.drop 1)))) ∧
      ∃ acc, H2 l = some (.lst (iV acc)) ∧ acc.length = pl.length + 1 ∧ putGo st (maxI st + 1) (ch.drop i) acc = nextSt st ch) ⟨⟨_, _, rfl⟩, g2, hl2, st, hl1, ok.len, by rw [List.drop_zero]; exact e0.symm⟩ (fun i σ H2 _ p => ⟨SqL.of (p.2.1.lst hc), SqL.of p.2.2.1⟩) (fun i x σ H2 H3 hi p y => ?_) fun σ H2 p => ?_⟩
    · obtain ⟨⟨s4, s5, rfl⟩, g3, hb, acc, hacc, alen, hp⟩ := p
      obtain ⟨p, v1, v2, rfl, np, rfl, h1, h2⟩ := y
      obtain ⟨n1, hn1, rfl⟩ := get_nV h1
      obtain ⟨n2, hn2, rfl⟩ := get_nV h2
      rw [List.getElem?_drop, Nat.add_comm] at hn2
      have m1 := cle n1 (List.mem_of_getElem? hn1)
      have m2 := cle n2 (List.mem_of_getElem? hn2)
      have g4 : Gx (TK K) [] H2 (upd H2 p (.tup [.int (n1 : Nat), .int (n2 : Nat)])) := Gx.new np
      have hs4 := (h.keep (g3.then g4)).sb
      have hacc4 := g4.lst hacc
      have nlp : l ≠ p := ne_of_none hacc np
      refine pair_to upd_same ⟨_, rfl, _, rfl, b, _, _, _, rfl, rfl, SqT.of hs4, at_iV (bx_get (by rw [ok.len]; omega)), _, rfl, _, rfl, l, _, _, _, rfl, rfl, hacc4, ixN_nat (by rw [len_iV, alen]; omega), ⟨_, _, rfl⟩, (g3.then g4).put (.inr fl) hacc4 trivial, ?_, acc.set n1 (bx st n2), by rw [upd_same, set_iV], by rw [List.length_set]; exact alen, ?_⟩
      · rw [upd_ne (Ne.symm hne.2)]
        exact g4.lst hb
      · have d1 := List.drop_eq_getElem_cons (List.getElem?_eq_some_iff.mp hn1).1
        have d2 := List.drop_eq_getElem_cons (List.getElem?_eq_some_iff.mp hn2).1
        rw [d1, d2, (List.getElem?_eq_some_iff.mp hn1).2, (List.getElem?_eq_some_iff.mp hn2).2] at hp
        rw [d2, (List.getElem?_eq_some_iff.mp hn2).2]
        exact hp
    · obtain ⟨⟨s4, s5, rfl⟩, g3, hb, acc, hacc, alen, hp⟩ := p
      have hmin : min (iV (nI ch)).length (iV (nI (ch.drop 1))).length = ch.length - 1 := by
        rw [len_iV, len_nI, len_iV, len_nI, List.length_drop]
        omega
      have h3 := h.keep g3
      rw [hmin] at hp
      obtain ⟨pre, lst, rfl⟩ : ∃ pre x, ch = pre ++ [x] := ⟨ch.dropLast, ch.getLast cne, (List.dropLast_concat_getLast cne).symm⟩
      have hd : (pre ++ [lst]).drop ((pre ++ [lst]).length - 1) = [lst] := by
        rw [List.length_append, List.length_singleton, Nat.add_sub_cancel, List.drop_left]
      rw [hd] at hp
      have hlast := cle lst (by simp)
      refine ⟨_, rfl, b, st, rfl, SqT.of h3.sb, st_ne ok, fun m hm hle => ?_⟩
      have em := maxI_uniq hm hle
      subst em
      refine ⟨_, _, rfl, rfl, _, rfl, _, rfl, _, rfl, c, _, _, _, rfl, rfl, SqL.of (g3.lst hc), at_lastN pre lst, l, _, _, lst, rfl, rfl, hacc, ixN_nat (by rw [len_iV, alen]; omega), ?_⟩
      have g5 := g3.put (o := .lst ((iV acc).set lst (V.int (maxI st + 1)))) (.inr fl) hacc trivial
      refine ⟨_, rfl, l, _, rfl, .inl ⟨SqL.of upd_same, fun D nD => ?_⟩⟩
      have g6 := g5.more (o := .tup ((iV acc).set lst (V.int (maxI st + 1)))) nD
      refine q _ D g6 ⟨g6.tup h.pa, ?_, ok2⟩
      rw [upd_same, set_iV]
      have : acc.set lst (maxI st + 1) = nextSt st (pre ++ [lst]) := hp
      rw [this]
def spFirst (K : PySem.W.Frag) : Sp := fun vs H Q _ => ∃ a b pl st, ∃ k : Nat, vs = [.ref a, .ref b, .int (k : Nat)] ∧ PS2 H a b pl st ∧ k ≤ 1000 ∧
  ∀ H' p D u, Gx (TK K) [] H H' → H' p = some (.tup [.ref D, u]) → PS2 H' a D pl (dayN pl k st) → Q (.ref p) H'
theorem calFirstDays (z : Cz P w K mg base) : C8.Cal P w K mg base 3 "first_days" (spFirst K) [] := by
  refine mkCal z.fFirstDays z.gFirstDays scFirstDays bFirstDays (fun vs H Q E h => ?_) fun cdv A outer s H vs Q E hr h => ?_
  · obtain ⟨a, b, pl, st, k, rfl, _⟩ := h
    rfl
  · refine ⟨_, (pss_cons (ps_set (i := 3) scFirstDays.nd rfl (Or.inl rfl) (pe_lst pa_nil))
  (pss_cons (ps_for PassesOwn.never rfl (pi_range1 rfl z.nrange (pa_cons (pv 2) pa_nil)) (pg_name (i := 4) scFirstDays.nd rfl (Or.inl rfl)) (pss_cons (ps_set (i := 5) scFirstDays.nd rfl (Or.inl rfl) (C8.pe_c (calChainOf z) hr (by decide) rfl (pa_cons (pv 0) (pa_cons (pv 1) (pa_cons pe_int pa_nil)))))
  (pss_cons (ps_expr (pe_bm PySem.F.plainAttrs_list PySem.F.slot_list_append PySem.F.type_list_append mt_append (pv 3) (pa_cons (pe_tup (pa_cons (pe_ix ix_tup (pv 1) pe_int (fun _ _ => rfl)) (pa_cons (pe_callTy call_tupQ (by rfl) z.ntuple (by decide +kernel) (pa_cons (pv 5) pa_nil)) pa_nil))) pa_nil)))
  (pss_one (ps_set (i := 1) scFirstDays.nd rfl (Or.inl rfl) (C8.pe_c (calNextStock z) hr (by decide) rfl (pa_cons (pv 0) (pa_cons (pv 1) (pa_cons (pv 5) pa_nil)))))))))
  (pss_one (ps_ret (pe_tup (pa_cons (pv 1) (pa_cons (pv 3) pa_nil))))))), ?_⟩
    obtain ⟨a, b, pl, st, k, rfl, h, hk, q⟩ := h
    refine ⟨Nat.zero_le _, fun l nl => ?_⟩
    have g1 : Gx (TK K) [] H (upd H l (.lst [])) := Gx.new nl
    have fl : Fr H l := Fr.of nl
    refine ⟨_, rfl, _, rfl, by omega, by omega, for_gen gv_range (fun i σ H2 => (∃ b' s4 s5, σ = [some (.ref a), some (.ref b'), some (.int (k : Nat)), some (.ref l), s4, s5] ∧ PS2 H2 a b' pl (dayN pl i st)) ∧ Gx (TK K) [] H H2 ∧ ∃ xs, H2 l = some (.lst xs) ∧ xs.length = i) ⟨⟨b, _, _, rfl, h.keep g1⟩, g1, [], upd_same, rfl⟩ (fun _ _ _ _ _ => trivial) (fun i x σ H2 H3 hi p y => ?_) fun σ H2 p => ?_⟩
    · obtain ⟨⟨b', s4, s5, rfl, h2⟩, g2, xs, hl, xl⟩ := p
      obtain ⟨rfl, rfl⟩ := y
      have ok2 := h2.ok
      rw [Int.toNat_natCast] at hi
      refine ⟨_, rfl, _, rfl, a, b', pl, _, 0, rfl, h2, Nat.zero_le _, fun H4 c g4 fc hc => ?_⟩
      have h4 := h2.keep g4
      have hl4 := g4.lst hl
      refine ⟨_, rfl, .inl ⟨rfl, _, SqL.of hl4⟩, _, rfl, b', _, _, _, rfl, rfl, SqT.of h4.sb, at_iV (bx_get (s := 0) (by rw [ok2.len]; omega)), _, rfl, c, _, rfl, .inl ⟨SqL.of hc, fun p np => ?_⟩⟩
      have g5 := g4.more (o := .tup (iV (nI (chainOf pl (dayN pl i st) 0)))) np
      refine ⟨by show 2 ≤ sizeLine; decide, fun p2 np2 => ?_⟩
      have g6 := g5.more (o := .tup [V.int (bx (dayN pl i st) 0), V.ref p]) np2
      have hl6 := g6.lst hl
      refine ⟨l, xs, _, rfl, rfl, hl6, sl_le (by omega), ?_⟩
      have g7 := (g2.then g6).put (o := .lst (xs ++ [V.ref p2])) (.inr fl) hl6 trivial
      have nlc : c ≠ l := fc.lst hl
      have g8 : Gx (TK K) [l] H3 (upd (upd (upd H4 p (.tup (iV (nI (chainOf pl (dayN pl i st) 0))))) p2 (.tup [V.int (bx (dayN pl i st) 0), V.ref p])) l (.lst (xs ++ [V.ref p2]))) := (g6.wide0 (ex := [l])).put (.inl (List.mem_singleton.mpr rfl)) hl6 trivial
      refine ⟨_, rfl, _, rfl, _, rfl, a, b', c, pl, _, 0, rfl, h2.keep g8, Nat.zero_le _, ?_, fun H5 D g9 h5 => ⟨⟨D, _, _, rfl, h5⟩, g7.then g9, _, g9.lst upd_same, by rw [List.length_append, xl]; rfl⟩⟩
      rw [upd_ne nlc, upd_ne (ne_of_none (H := upd H4 p (.tup (iV (nI (chainOf pl (dayN pl i st) 0))))) (by rw [upd_ne (ne_of_none hc np)]; exact hc) np2), upd_ne (ne_of_none hc np)]
      exact hc
    · obtain ⟨⟨b', s4, s5, rfl, h2⟩, g2, xs, hl, xl⟩ := p
      rw [Int.toNat_natCast] at h2
      refine ⟨_, rfl, _, rfl, by show 2 ≤ sizeLine; decide, fun p np => ?_⟩
      have g3 := g2.more (o := .tup [V.ref b', V.ref l]) np
      exact q _ p b' _ g3 upd_same (h2.keep (Gx.new (T := TK K) np))
end
end K6

set_option Elab.async false
set_option linter.all false
set_option maxRecDepth 100000
set_option maxHeartbeats 4000000
/-! K6Wf: wrong_stations, order_days, days_until_ordered, ranks -/
namespace K6
open PySem PySem.Spec PyProof.Rows L2
theorem fm_if {α β : Type} (p : α → Bool) (g : α → β) : ∀ l : List α, (l.filterMap fun i => if p i = true then some (g i) else none) = (l.filter p).map g
  | [] => rfl
  | x :: l => by
    rw [List.filterMap_cons, List.filter_cons]
    cases h : p x with
    | true => simp [fm_if p g l]
    | false => simp [fm_if p g l]
theorem wrong_list (pl : List Nat) (st : List Int) : (List.range pl.length).filterMap (fun i => if decide (bx st (i + 1) < bx st (pl.getD i 0)) = true then some (V.int ((i + 1 : Nat) : Int)) else none) = iV (nI (wrong pl st)) := by
  rw [fm_if (fun i => decide (bx st (i + 1) < bx st (pl.getD i 0))) (fun i => V.int ((i + 1 : Nat) : Int))]
  unfold wrong iV nI
  rw [List.map_map, List.map_map]
  rfl
section
variable {P : Program} {w : World} {K : PySem.W.Frag} {mg : Str → Option Value} {base : Heap}
def spWrong (K : PySem.W.Frag) : Sp := fun vs H Q _ => ∃ a b pl st, vs = [.ref a, .ref b] ∧ PS2 H a b pl st ∧ ∀ H' D, Gx (TK K) [] H H' → Fr H D → H' D = some (.lst (iV (nI (wrong pl st)))) → Q (.ref D) H'
theorem calWrongStations (z : Cz P w K mg base) : C8.Cal P w K mg base 1 "wrong_stations" (spWrong K) [] := by
  refine mkCal z.fWrongStations z.gWrongStations scWrongStations bWrongStations (fun vs H Q E h => ?_) fun cdv A outer s H vs Q E hr h => ?_
  · obtain ⟨a, b, pl, st, rfl, _⟩ := h
    rfl
  · refine ⟨_, (pss_one (ps_ret (pe_lc (own := [("index", 2), ("station", 3)]) (g := gTup K 2 (gCons (gName 2) (gCons (gName 3) gNil))) rfl scWrongStations.nd (pi_enumT (by rfl) z.nenumerate (pa_cons (pv 0) pa_nil)) (blkOk_by (own := [("index", 2), ("station", 3)]) (N := nWrongStations) (sc := defScope sWrongStations) (by decide +kernel)) (fun _ _ _ _ _ => (pg_pair (i := 2) (j := 3) rfl scWrongStations.nd rfl (Or.inl rfl) rfl (Or.inl rfl))) (fun _ _ _ _ _ => (pts_one (pt_cmpR op_lt (pe_ix (r := rIxT K) ix_tup (pv 1) (pe_op op_add (pv 2) pe_int) (fun _ _ => rfl)) (pe_ix (r := rIxT K) ix_tup (pv 1) (pv 3) (fun _ _ => rfl)) (nomark _)))) (fun _ _ _ _ _ => (pe_op op_add (pv 2) pe_int))))), ?_⟩
    obtain ⟨a, b, pl, st, rfl, h, q⟩ := h
    have ok := h.ok
    have h40 := ok.plok.1
    have hlen : (iV (nI pl)).length = pl.length := by rw [len_iV, len_nI]
    refine ⟨_, rfl, a, _, rfl, SqT.of h.pa, fun D hD => lc_fm (T := TK K) gv_enumT hD (fun H g => SqT.of (g.tup h.pa)) (by rw [hlen]; omega) (fun i => if decide (bx st (i + 1) < bx st (pl.getD i 0)) = true then some (V.int ((i + 1 : Nat) : Int)) else none) (fun i x H1 H2 Ny Nn hi g hy hN hM => ?_) fun H1 g hD1 => ?_⟩
    · obtain ⟨p, v, rfl, np, rfl, hv⟩ := hy
      obtain ⟨n, hn, rfl⟩ := get_nV hv
      have hil : i < pl.length := (List.getElem?_eq_some_iff.mp hn).1
      have en : pl.getD i 0 = n := by rw [List.getD_eq_getElem?_getD, hn]; rfl
      have hnl : n ≤ i := by
        have := ok.plok.2 i hil
        omega
      have g2 : Gx (TK K) [] H1 (upd H1 p (.tup [.int (i : Nat), .int (n : Nat)])) := Gx.new np
      have h2 := h.keep (g.then g2)
      refine pair_to upd_same ⟨rfl, _, rfl, _, rfl, _, _, rfl, rfl, b, _, _, _, rfl, rfl, SqT.of h2.sb, at_iV (v := i + 1) (bx_get (by rw [ok.len]; omega)), _, rfl, _, rfl, b, _, _, _, rfl, rfl, SqT.of h2.sb, at_iV (bx_get (s := n) (by rw [ok.len]; omega)), _, _, rfl, rfl, _, rfl, ?_⟩
      by_cases hlt : bx st (i + 1) < bx st n
      · rw [decide_eq_true hlt]
        refine iteT ⟨_, rfl, _, _, rfl, rfl, hN _ _ ?_ g2⟩
        rw [en, decide_eq_true hlt]
        rfl
      · rw [decide_eq_false hlt]
        refine iteF (hM _ ?_ g2)
        rw [en, decide_eq_false hlt]
        rfl
    · rw [hlen, wrong_list] at hD1
      exact q H1 D g (Fr.of hD) hD1
def spOrder (K : PySem.W.Frag) : Sp := fun vs H Q _ => ∃ a b pl st, vs = [.ref a, .ref b] ∧ PS2 H a b pl st ∧
  ∀ H' p D, Gx (TK K) [] H H' → H' p = some (.tup [.int ((ordDays pl st).1 : Nat), .ref D]) → PS2 H' a D pl (ordDays pl st).2 → Q (.ref p) H'
theorem calOrderDays (z : Cz P w K mg base) : C8.Cal P w K mg base 3 "order_days" (spOrder K) [] := by
  refine mkCal z.fOrderDays z.gOrderDays scOrderDays bOrderDays (fun vs H Q E h => ?_) fun cdv A outer s H vs Q E hr h => ?_
  · obtain ⟨a, b, pl, st, rfl, _⟩ := h
    rfl
  · refine ⟨_, (pss_cons (ps_set (i := 2) scOrderDays.nd rfl (Or.inl rfl) pe_int)
  (pss_cons (ps_while PassesOwn.never (pt_cmpR (op_neL0 hr.units) (C8.pe_c (calWrongStations z) hr (by decide) rfl (pa_cons (pv 0) (pa_cons (pv 1) pa_nil))) (pe_lst pa_nil) (nomark _)) (pss_cons (ps_set (i := 1) scOrderDays.nd rfl (Or.inl rfl) (C8.pe_c (calNextStock z) hr (by decide) rfl (pa_cons (pv 0) (pa_cons (pv 1) (pa_cons (C8.pe_c (calChainOf z) hr (by decide) rfl (pa_cons (pv 0) (pa_cons (pv 1) (pa_cons pe_int pa_nil)))) pa_nil)))))
  (pss_one (ps_aug (i := 2) scOrderDays.nd rfl (Or.inl rfl) pe_int ip_add))))
  (pss_one (ps_ret (pe_tup (pa_cons (pv 2) (pa_cons (pv 1) pa_nil))))))), ?_⟩
    obtain ⟨a, b, pl, st, rfl, h, q⟩ := h
    refine ⟨fun m σ H2 => ∃ b' d st', σ = [some (.ref a), some (.ref b'), some (.int ((d : Nat) : Int))] ∧ Gx (TK K) [] H H2 ∧ PS2 H2 a b' pl st' ∧ Gr pl (maxI st) st' ∧ ordGo pl (lo (maxI st) st' + 1) d st' = ordDays pl st ∧ m = lo (maxI st) st',
      ⟨_, b, 0, st, rfl, Gx.refl, h, Gr.start h.ok, rfl, rfl⟩, ?_⟩
    rintro m σ H2 ⟨b', d, st', rfl, g2, h2, gr, he, rfl⟩
    refine ⟨_, rfl, _, rfl, a, b', pl, st', rfl, h2, fun H3 D g3 fD hD => ⟨Nat.zero_le _, fun p np => ?_⟩⟩
    have g4 := g3.more (o := .lst []) np
    have hD4 : upd H3 p (.lst []) D = some (.lst (iV (nI (wrong pl st')))) := by rw [upd_ne (ne_of_none hD np)]; exact hD
    refine ⟨D, p, _, rfl, rfl, SqL.of hD4, upd_same, _, rfl, ?_⟩
    have h4 := h2.keep g4
    by_cases hw : wrong pl st' = []
    · rw [hw]
      refine iteF ⟨_, rfl, _, rfl, by show 2 ≤ sizeLine; decide, fun p2 np2 => ?_⟩
      have g5 := (g2.then g4).more (o := .tup [V.int ((d : Nat) : Int), V.ref b']) np2
      rw [ord_end _ _ hw] at he
      refine q _ p2 b' g5 ?_ ?_
      · rw [← he]
        exact upd_same
      · rw [← he]
        exact h4.keep (Gx.new (T := TK K) np2)
    · have hne : (!(iV (nI (wrong pl st'))).isEmpty) = true := by
        cases e : wrong pl st' with
        | nil => exact absurd e hw
        | cons x y => rfl
      simp only [if_true]
      rw [hne]
      refine iteT ⟨_, fun _ _ hh => hh, _, rfl, _, rfl, _, rfl, _, rfl, a, b', pl, st', 0, rfl, h4, Nat.zero_le _, fun H5 c g5 fc hc => ?_⟩
      have h5 := h4.keep g5
      refine ⟨a, b', c, pl, st', 0, rfl, h5, Nat.zero_le _, hc, fun H6 D2 g6 h6 => ?_⟩
      exact ⟨_, rfl, _, _, rfl, rfl, lo (maxI st) (dayS pl st'), gr.less hw, D2, d + 1, dayS pl st', by show [_, _, _] = [_, _, _]; congr 1, ((g2.then g4).then g5).then g6, h6, gr.day, by rw [← he]; exact (ord_step gr d hw).symm, rfl⟩
def spDaysUntil (K : PySem.W.Frag) : Sp := fun vs H Q _ => ∃ a b pl st, vs = [.ref a, .ref b] ∧ PS2 H a b pl st ∧ ∀ H', Gx (TK K) [] H H' → Q (.int ((ordDays pl st).1 : Nat)) H'
theorem calDaysUntilOrdered (z : Cz P w K mg base) : C8.Cal P w K mg base 5 "days_until_ordered" (spDaysUntil K) [] := by
  refine mkCal z.fDaysUntilOrdered z.gDaysUntilOrdered scDaysUntilOrdered bDaysUntilOrdered (fun vs H Q E h => ?_) fun cdv A outer s H vs Q E hr h => ?_
  · obtain ⟨a, b, pl, st, rfl, _⟩ := h
    rfl
  · refine ⟨_, (pss_cons (ps_expr (C8.pe_c (calRequirePlant z) hr (by decide) rfl (pa_cons (pv 0) pa_nil)))
  (pss_cons (ps_expr (C8.pe_c (calRequireStock z) hr (by decide) rfl (pa_cons (pv 0) (pa_cons (pv 1) pa_nil))))
  (pss_one (ps_ret (pe_ix ix_tup (C8.pe_c (calOrderDays z) hr (by decide) rfl (pa_cons (pv 0) (pa_cons (pv 1) pa_nil))) pe_int (fun _ _ => rfl)))))), ?_⟩
    obtain ⟨a, b, pl, st, rfl, h, q⟩ := h
    refine ⟨_, rfl, a, pl, rfl, h.pa, h.ok.plok, fun H1 g1 => ?_⟩
    refine ⟨_, rfl, _, rfl, a, b, pl, st, rfl, h.keep g1, fun H2 g2 => ?_⟩
    have h2 := h.keep (g1.then g2)
    exact ⟨_, rfl, _, rfl, a, b, pl, st, rfl, h2, fun H3 p D g3 hp h3 => ⟨p, _, 0, _, rfl, rfl, SqT.of hp, rfl, q _ ((g1.then g2).then g3)⟩⟩
end
end K6

set_option Elab.async false
set_option linter.all false
set_option maxRecDepth 100000
set_option maxHeartbeats 4000000
/-! K6Mc: ranks, words, counts, what stands in a stock far ahead -/
namespace K6
/-! ### ranks -/
def rankOf (st : List Int) (b : Int) : Nat := st.countP fun c => decide (c < b)
def ranksL (st : List Int) : List Nat := st.map (rankOf st)
theorem sorted_rank {st ns : List Int} (hp : ns.Perm st) (hs : ns.Pairwise (· ≤ ·)) (nd : st.Nodup) {j : Nat} {b : Int} (hj : ns[j]? = some b) : j = rankOf st b := by
  have nd2 : ns.Nodup := hp.nodup_iff.mpr nd
  have hlt := (List.getElem?_eq_some_iff.mp hj).1
  have hb := (List.getElem?_eq_some_iff.mp hj).2
  unfold rankOf
  rw [← hp.countP_eq, ← List.take_append_drop j ns, List.countP_append]
  have h1 : (ns.take j).countP (fun c => decide (c < b)) = (ns.take j).length := by
    rw [List.countP_eq_length]
    intro c hc
    obtain ⟨i, hi, e⟩ := List.mem_iff_getElem.mp hc
    rw [List.length_take] at hi
    have hij : i < j := by omega
    rw [List.getElem_take] at e
    have h2 := List.pairwise_iff_getElem.mp hs i j (by omega) hlt hij
    have h3 : ns[i] ≠ ns[j] := fun q => by
      have := (List.getElem_inj nd2).mp q
      omega
    rw [decide_eq_true_eq, ← e, ← hb]
    omega
  have h2 : (ns.drop j).countP (fun c => decide (c < b)) = 0 := by
    rw [List.countP_eq_zero]
    intro c hc
    obtain ⟨i, hi, e⟩ := List.mem_iff_getElem.mp hc
    rw [List.length_drop] at hi
    rw [List.getElem_drop] at e
    rw [decide_eq_true_eq, ← e, ← hb]
    by_cases h0 : i = 0
    · subst h0
      simp
    · have := List.pairwise_iff_getElem.mp hs j (j + i) hlt (by omega) (by omega)
      omega
  rw [h1, h2, List.length_take]
  omega
/-! ### words -/
abbrev rw_ (f : List (List Nat)) (v : Nat) : List Nat := f.getD v []
def addW (f : List (List Nat)) (v s : Nat) : List (List Nat) := f.set v (rw_ f v ++ [s])
def wtUp (pl : List Nat) : Nat → Nat → List (List Nat) → List (List Nat)
  | 0, _, f => f
  | k + 1, h, f => if h = 0 then f else wtUp pl k (cu pl h) (addW f (cu pl h) h)
def wordsGo (pl : List Nat) (L : List Nat) (f : List (List Nat)) : List (List Nat) := L.foldl (fun f s => wtUp pl s s f) f
def words (pl : List Nat) (L : List Nat) : List (List Nat) := wordsGo pl L (List.replicate (pl.length + 1) [])
theorem rw_add (f : List (List Nat)) (v s u : Nat) (hv : v < f.length) : rw_ (addW f v s) u = if u = v then rw_ f v ++ [s] else rw_ f u := by
  unfold addW rw_
  rw [List.getD_eq_getElem?_getD, List.getD_eq_getElem?_getD, List.getD_eq_getElem?_getD, List.getElem?_set]
  by_cases h : u = v
  · subst h
    simp [hv]
  · rw [if_neg (fun e => h e.symm), if_neg h]
theorem addW_len (f : List (List Nat)) (v s : Nat) : (addW f v s).length = f.length := List.length_set
/-- the words' shape while the walk of one more station stands at h -/
structure Wd (pl : List Nat) (L : List Nat) (h : Nat) (f : List (List Nat)) : Prop where
  len : f.length = pl.length + 1
  mem : ∀ v s, s ∈ rw_ f v → s ∈ sups pl v
  cnt : ∀ s, 1 ≤ s → s ≤ pl.length → (rw_ f (cu pl s)).count s + (if s = h then 1 else 0) = (rw_ f s).length + L.count s
  le : ∀ v, (rw_ f v).length + (if v < h then 1 else 0) ≤ L.length
variable {pl : List Nat}
theorem Wd.up (ok : PlOk pl) {L : List Nat} {h : Nat} {f : List (List Nat)} (w : Wd pl L h f) (h1 : 1 ≤ h) (h2 : h ≤ pl.length) : Wd pl L (cu pl h) (addW f (cu pl h) h) := by
  have hc := cu_lt ok h1 h2
  have hcl : cu pl h < f.length := by rw [w.len]; omega
  refine ⟨by rw [addW_len]; exact w.len, fun v s hs => ?_, fun s hs1 hs2 => ?_, fun v => ?_⟩
  · rw [rw_add _ _ _ _ hcl] at hs
    split at hs
    · rename_i e
      rw [e]
      rcases List.mem_append.mp hs with q | q
      · exact w.mem _ _ q
      · have : s = h := by simpa using q
        rw [this]
        exact mem_sups.mpr ⟨h1, h2, rfl⟩
    · exact w.mem _ _ hs
  · have h3 := w.cnt s hs1 hs2
    rw [rw_add _ _ _ _ hcl, rw_add _ _ _ _ hcl]
    have hsc := cu_lt ok hs1 hs2
    by_cases e1 : cu pl s = cu pl h
    · rw [if_pos e1, List.count_append]
      rw [e1] at h3
      by_cases e2 : s = h
      · subst e2
        rw [if_pos rfl] at h3
        have hne : ¬ s = cu pl s := by omega
        rw [if_neg hne, if_neg hne]
        have : List.count s [s] = 1 := by simp
        omega
      · rw [if_neg e2] at h3
        have : List.count s [h] = 0 := by
          rw [List.count_eq_zero]
          simpa using e2
        by_cases e3 : s = cu pl h
        · omega
        · rw [if_neg e3, if_neg e3]
          omega
    · rw [if_neg e1]
      have e2 : s ≠ h := fun e => e1 (by rw [e])
      rw [if_neg e2] at h3
      by_cases e3 : s = cu pl h
      · rw [if_pos e3, if_pos e3, List.length_append, List.length_singleton, ← e3]
        omega
      · rw [if_neg e3, if_neg e3]
        omega
  · rw [rw_add _ _ _ _ hcl]
    have h3 := w.le v
    by_cases e : v = cu pl h
    · rw [if_pos e, List.length_append, List.length_singleton]
      rw [if_pos (by omega)] at h3
      rw [e] at h3 ⊢
      rw [if_neg (by omega)]
      exact h3
    · rw [if_neg e]
      by_cases e2 : v < cu pl h
      · rw [if_pos e2]
        rw [if_pos (by omega)] at h3
        exact h3
      · rw [if_neg e2]
        omega
theorem wtUp_ok (ok : PlOk pl) {L : List Nat} : ∀ (k h : Nat) (f : List (List Nat)), h ≤ k → h ≤ pl.length → Wd pl L h f → Wd pl L 0 (wtUp pl k h f)
  | 0, h, f, hk, _, w => by
    have : h = 0 := by omega
    subst this
    exact w
  | k + 1, h, f, hk, hl, w => by
    unfold wtUp
    split
    · rename_i e
      subst e
      exact w
    · have hc := cu_lt ok (s := h) (by omega) hl
      exact wtUp_ok ok k _ _ (by omega) (by omega) (w.up ok (by omega) hl)
theorem Wd.next (ok : PlOk pl) {L : List Nat} {f : List (List Nat)} (w : Wd pl L 0 f) {t : Nat} (ht : t ≤ pl.length) : Wd pl (L ++ [t]) t f := by
  refine ⟨w.len, w.mem, fun s h1 h2 => ?_, fun v => ?_⟩
  · have h3 := w.cnt s h1 h2
    rw [if_neg (by omega)] at h3
    rw [List.count_append]
    by_cases e : s = t
    · subst e
      rw [if_pos rfl]
      have : List.count s [s] = 1 := by simp
      omega
    · rw [if_neg e]
      have : List.count s [t] = 0 := by
        rw [List.count_eq_zero]
        simpa using e
      omega
  · have h3 := w.le v
    rw [List.length_append, List.length_singleton]
    split <;> split at h3 <;> omega
theorem wordsGo_ok (ok : PlOk pl) : ∀ (L L0 : List Nat) (f : List (List Nat)), (∀ t ∈ L, t ≤ pl.length) → Wd pl L0 0 f → Wd pl (L0 ++ L) 0 (wordsGo pl L f)
  | [], L0, f, _, w => by
    rw [List.append_nil]
    exact w
  | t :: L, L0, f, hL, w => by
    have ht := hL t (by simp)
    have h1 := wtUp_ok ok t t f (Nat.le_refl _) ht (w.next ok ht)
    have h2 := wordsGo_ok ok L (L0 ++ [t]) _ (fun u hu => hL u (List.mem_cons_of_mem _ hu)) h1
    rw [List.append_assoc] at h2
    exact h2
/-- whole words -/
structure Wok (pl : List Nat) (f : List (List Nat)) : Prop where
  len : f.length = pl.length + 1
  mem : ∀ v s, s ∈ rw_ f v → s ∈ sups pl v
  cnt : ∀ s, 1 ≤ s → s ≤ pl.length → (rw_ f (cu pl s)).count s = (rw_ f s).length + 1
  le : ∀ v, (rw_ f v).length ≤ pl.length + 1
theorem rw_nil (n v : Nat) : rw_ (List.replicate n ([] : List Nat)) v = [] := by
  unfold rw_
  rw [List.getD_eq_getElem?_getD, List.getElem?_replicate]
  split <;> rfl
theorem words_ok (ok : PlOk pl) {L : List Nat} (hL : L.Perm (List.range (pl.length + 1))) : Wok pl (words pl L) := by
  have w0 : Wd pl [] 0 (List.replicate (pl.length + 1) []) := by
    refine ⟨by rw [List.length_replicate], fun v s h => ?_, fun s h1 h2 => ?_, fun v => ?_⟩
    · rw [rw_nil] at h
      cases h
    · rw [rw_nil, rw_nil, if_neg (by omega)]
      rfl
    · rw [rw_nil]
      simp
  have w := wordsGo_ok ok L [] _ (fun t ht => by have := List.mem_range.mp (hL.mem_iff.mp ht); omega) w0
  rw [List.nil_append] at w
  refine ⟨w.len, w.mem, fun s h1 h2 => ?_, fun v => ?_⟩
  · have h3 := w.cnt s h1 h2
    rw [if_neg (by omega)] at h3
    have h4 : L.count s = 1 := by
      rw [hL.count_eq]
      have h5 : s ∈ List.range (pl.length + 1) := List.mem_range.mpr (by omega)
      have h6 := List.count_pos_iff.mpr h5
      have h7 := List.nodup_iff_count.mp (nodup_range (pl.length + 1)) s
      omega
    unfold words
    omega
  · have h3 := w.le v
    have h4 := hL.length_eq
    rw [List.length_range] at h4
    unfold words
    split at h3 <;> omega
/-! ### words turned -/
def rotL (row : List Nat) (c : Nat) : List Nat := row.drop (c % max 1 row.length) ++ row.take (c % max 1 row.length)
theorem rotL_perm (row : List Nat) (c : Nat) : (rotL row c).Perm row := by
  unfold rotL
  refine List.perm_append_comm.trans ?_
  rw [List.take_append_drop]
def rotW (f : List (List Nat)) (cs : List Nat) : List (List Nat) := (f.zip cs).map fun p => rotL p.1 p.2
theorem rotW_ok {f : List (List Nat)} {cs : List Nat} (w : Wok pl f) (hc : cs.length = pl.length + 1) : Wok pl (rotW f cs) := by
  have hl : (rotW f cs).length = pl.length + 1 := by
    unfold rotW
    rw [List.length_map, List.length_zip, w.len, hc]
    omega
  have hp : ∀ v, (rw_ (rotW f cs) v).Perm (rw_ f v) := fun v => by
    unfold rw_
    by_cases hv : v < pl.length + 1
    · rw [List.getD_eq_getElem?_getD, List.getD_eq_getElem?_getD, List.getElem?_eq_getElem (by rw [hl]; exact hv), List.getElem?_eq_getElem (by rw [w.len]; exact hv)]
      show ((rotW f cs)[v]'_).Perm (f[v]'_)
      have e : (rotW f cs)[v]'(by rw [hl]; exact hv) = rotL (f[v]'(by rw [w.len]; exact hv)) (cs[v]'(by rw [hc]; exact hv)) := by
        simp only [rotW, List.getElem_map, List.getElem_zip]
      rw [e]
      exact rotL_perm _ _
    · rw [List.getD_eq_getElem?_getD, List.getD_eq_getElem?_getD, List.getElem?_eq_none (by rw [hl]; omega), List.getElem?_eq_none (by rw [w.len]; omega)]
  exact ⟨hl, fun v s h => w.mem v s ((hp v).mem_iff.mp h), fun s h1 h2 => by rw [(hp _).count_eq, (hp s).length_eq]; exact w.cnt s h1 h2, fun v => by rw [(hp v).length_eq]; exact w.le v⟩
/-! ### how often each station gets a box -/
def cntOf (row : List Nat) (c s : Nat) : Nat := c / max 1 row.length * row.count s + (row.take (c % max 1 row.length)).count s
theorem cntOf_le (row : List Nat) (c s : Nat) : cntOf row c s ≤ c := by
  unfold cntOf
  by_cases h : row = []
  · subst h
    simp
  · have hl : 1 ≤ row.length := by
      cases row with
      | nil => exact absurd rfl h
      | cons x y => simp
    rw [Nat.max_eq_right hl]
    have h1 : row.count s ≤ row.length := List.count_le_length
    have h2 : (row.take (c % row.length)).count s ≤ c % row.length := by
      have h3 : (row.take (c % row.length)).count s ≤ (row.take (c % row.length)).length := List.count_le_length
      rw [List.length_take] at h3
      omega
    have h3 : c / row.length * row.count s ≤ c / row.length * row.length := Nat.mul_le_mul_left _ h1
    have h4 := Nat.div_add_mod c row.length
    rw [Nat.mul_comm] at h4
    omega
def cntRow (row : List Nat) (c : Nat) (S : List Nat) (cs : List Nat) : List Nat := S.foldl (fun cs s => cs.set s (cntOf row c s)) cs
def cntGo (pl : List Nat) (f : List (List Nat)) : Nat → List Nat → List Nat
  | 0, cs => cs
  | k + 1, cs => let cs' := cntGo pl f k cs; cntRow (rw_ f k) (cs'.getD k 0) (sups pl k) cs'
def counts (pl : List Nat) (f : List (List Nat)) (d : Nat) : List Nat := cntGo pl f (pl.length + 1) (d :: List.replicate pl.length 0)
def AllLe (d : Nat) (cs : List Nat) : Prop := ∀ x ∈ cs, x ≤ d
theorem AllLe.getD {d : Nat} {cs : List Nat} (h : AllLe d cs) (i : Nat) : cs.getD i 0 ≤ d := by
  rw [List.getD_eq_getElem?_getD]
  cases e : cs[i]? with
  | none => exact Nat.zero_le _
  | some x => exact h x (List.mem_of_getElem? e)
theorem AllLe.set {d : Nat} {cs : List Nat} (h : AllLe d cs) (i x : Nat) (hx : x ≤ d) : AllLe d (cs.set i x) := fun y hy => by
  rcases List.mem_or_eq_of_mem_set hy with q | q
  · exact h y q
  · omega
theorem cntRow_ok {d : Nat} (row : List Nat) (c : Nat) (hc : c ≤ d) : ∀ (S cs : List Nat), AllLe d cs → AllLe d (cntRow row c S cs) ∧ (cntRow row c S cs).length = cs.length
  | [], cs, h => ⟨h, rfl⟩
  | s :: S, cs, h => by
    have := cntRow_ok row c hc S (cs.set s (cntOf row c s)) (h.set _ _ (Nat.le_trans (cntOf_le row c s) hc))
    rw [List.length_set] at this
    exact this
theorem cntGo_ok {d : Nat} (f : List (List Nat)) : ∀ (k : Nat) (cs : List Nat), AllLe d cs → AllLe d (cntGo pl f k cs) ∧ (cntGo pl f k cs).length = cs.length
  | 0, cs, h => ⟨h, rfl⟩
  | k + 1, cs, h => by
    obtain ⟨h1, h2⟩ := cntGo_ok f k cs h
    obtain ⟨h3, h4⟩ := cntRow_ok (rw_ f k) _ (h1.getD k) (sups pl k) _ h1
    exact ⟨h3, h4.trans h2⟩
theorem init_le (d n : Nat) : AllLe d (d :: List.replicate n 0) := fun x hx => by
  rcases List.mem_cons.mp hx with e | e
  · omega
  · rw [(List.mem_replicate.mp e).2]
    exact Nat.zero_le _
theorem counts_len (f : List (List Nat)) (d : Nat) : (counts pl f d).length = pl.length + 1 := by
  have := (cntGo_ok (pl := pl) f (pl.length + 1) _ (init_le d pl.length)).2
  rw [List.length_cons, List.length_replicate] at this
  exact this
/-! ### the order of the boxes -/
def takeQ (q : Nat → List Nat) : List Nat → List Nat
  | [] => []
  | x :: r => (q x).headD 0 :: takeQ (fun y => if y = x then (q x).tail else q y) r
theorem takeQ_len : ∀ (row : List Nat) (q : Nat → List Nat), (takeQ q row).length = row.length
  | [], _ => rfl
  | x :: r, q => by
    unfold takeQ
    rw [List.length_cons, List.length_cons, takeQ_len r]
theorem takeQ_mem : ∀ (row : List Nat) (q : Nat → List Nat) (x y : Nat), y ∈ (q x).take (row.count x) → y ∈ takeQ q row
  | [], q, x, y, h => by simp at h
  | z :: r, q, x, y, h => by
    unfold takeQ
    by_cases e : x = z
    · subst e
      rw [List.count_cons_self] at h
      cases hq : q x with
      | nil => rw [hq] at h; simp at h
      | cons a t =>
        rw [hq, List.take_succ_cons] at h
        rcases List.mem_cons.mp h with k | k
        · rw [k]
          simp
        · refine List.mem_cons_of_mem _ (takeQ_mem r _ x y ?_)
          rw [if_pos rfl]
          exact k
    · rw [List.count_cons_of_ne (fun k => e k.symm)] at h
      refine List.mem_cons_of_mem _ (takeQ_mem r _ x y ?_)
      rw [if_neg e]
      exact h
/-- parts from station k on -/
def partGo (f : List (List Nat)) : Nat → List (List Nat) → List (List Nat)
  | 0, ps => ps
  | k + 1, ps => partGo f k (ps.set k (k :: takeQ (fun s => rw_ ps s) (rw_ f k)))
def parts (pl : List Nat) (f : List (List Nat)) : List (List Nat) := partGo f (pl.length + 1) (List.replicate (pl.length + 1) [])
/-- what holds when the stations from k on are done -/
structure Pk (pl : List Nat) (f : List (List Nat)) (k : Nat) (ps : List (List Nat)) : Prop where
  len : ps.length = pl.length + 1
  sz : ∀ v, k ≤ v → v ≤ pl.length → (rw_ ps v).length = (rw_ f v).length + 1
  self : ∀ v, k ≤ v → v ≤ pl.length → v ∈ rw_ ps v
  up : ∀ s, 1 ≤ s → s ≤ pl.length → k ≤ cu pl s → ∀ y ∈ rw_ ps s, y ∈ rw_ ps (cu pl s)
theorem rw_set (f : List (List Nat)) (v u : Nat) (x : List Nat) (hv : v < f.length) : rw_ (f.set v x) u = if u = v then x else rw_ f u := by
  unfold rw_
  rw [List.getD_eq_getElem?_getD, List.getD_eq_getElem?_getD, List.getElem?_set]
  by_cases h : u = v
  · subst h
    simp [hv]
  · rw [if_neg (fun e => h e.symm), if_neg h]
theorem Pk.step (ok : PlOk pl) {f : List (List Nat)} (w : Wok pl f) {k : Nat} {ps : List (List Nat)} (p : Pk pl f (k + 1) ps) (hk : k ≤ pl.length) : Pk pl f k (ps.set k (k :: takeQ (fun s => rw_ ps s) (rw_ f k))) := by
  have hkl : k < ps.length := by rw [p.len]; omega
  refine ⟨by rw [List.length_set]; exact p.len, fun v h1 h2 => ?_, fun v h1 h2 => ?_, fun s h1 h2 h3 y hy => ?_⟩
  · rw [rw_set _ _ _ _ hkl]
    by_cases e : v = k
    · rw [if_pos e, List.length_cons, takeQ_len, e]
    · rw [if_neg e]
      exact p.sz v (by omega) h2
  · rw [rw_set _ _ _ _ hkl]
    by_cases e : v = k
    · rw [if_pos e, e]
      simp
    · rw [if_neg e]
      exact p.self v (by omega) h2
  · have hc := cu_lt ok h1 h2
    rw [rw_set _ _ _ _ hkl, if_neg (by omega)] at hy
    rw [rw_set _ _ _ _ hkl]
    by_cases e : cu pl s = k
    · rw [if_pos e]
      refine List.mem_cons_of_mem _ (takeQ_mem _ _ s y ?_)
      have h4 := w.cnt s h1 h2
      rw [e] at h4
      rw [h4, ← p.sz s (by omega) h2, List.take_length]
      exact hy
    · rw [if_neg e]
      exact p.up s h1 h2 (by omega) y hy
theorem partGo_ok (ok : PlOk pl) {f : List (List Nat)} (w : Wok pl f) : ∀ (k : Nat) (ps : List (List Nat)), k ≤ pl.length + 1 → Pk pl f k ps → Pk pl f 0 (partGo f k ps)
  | 0, ps, _, p => p
  | k + 1, ps, hk, p => partGo_ok ok w k _ (by omega) (p.step ok w (by omega))
theorem parts_ok (ok : PlOk pl) {f : List (List Nat)} (w : Wok pl f) : Pk pl f 0 (parts pl f) :=
  partGo_ok ok w _ _ (Nat.le_refl _) ⟨by rw [List.length_replicate], fun v h1 h2 => by omega, fun v h1 h2 => by omega, fun s h1 h2 h3 => by have := cu_lt ok h1 h2; omega⟩
theorem parts_all (ok : PlOk pl) {f : List (List Nat)} (w : Wok pl f) (s : Nat) (hs : s ≤ pl.length) : s ∈ rw_ (parts pl f) 0 := by
  have p := parts_ok ok w
  have up : ∀ n v, v = n → v ≤ pl.length → s ∈ rw_ (parts pl f) v → s ∈ rw_ (parts pl f) 0 := by
    intro n
    induction n using Nat.strongRecOn with
    | _ n ih =>
      intro v e hv h
      subst e
      by_cases h0 : v = 0
      · rw [h0] at h
        exact h
      · have hc := cu_lt ok (s := v) (by omega) hv
        exact ih _ hc _ rfl (by omega) (p.up v (by omega) hv (Nat.zero_le _) s h)
  exact up s s rfl hs (p.self s (Nat.zero_le _) hs)
/-- the place of each station -/
def rkW (pl : List Nat) (f : List (List Nat)) : List Nat := (List.range (pl.length + 1)).map fun s => (rw_ (parts pl f) 0).idxOf s
theorem rkW_len (f : List (List Nat)) : (rkW pl f).length = pl.length + 1 := by unfold rkW; rw [List.length_map, List.length_range]
theorem nodup_map_on {α β : Type} {f : α → β} : ∀ {l : List α}, (∀ a ∈ l, ∀ b ∈ l, f a = f b → a = b) → l.Nodup → (l.map f).Nodup
  | [], _, _ => by simp
  | a :: l, hf, h => by
    obtain ⟨h1, h2⟩ := List.nodup_cons.mp h
    rw [List.map_cons]
    refine List.nodup_cons.mpr ⟨fun q => ?_, nodup_map_on (fun x hx y hy => hf x (List.mem_cons_of_mem _ hx) y (List.mem_cons_of_mem _ hy)) h2⟩
    obtain ⟨b, hb, e⟩ := List.mem_map.mp q
    rw [hf _ (List.mem_cons_of_mem _ hb) _ (by simp) e] at hb
    exact h1 hb
theorem rkW_nodup (ok : PlOk pl) {f : List (List Nat)} (w : Wok pl f) : (rkW pl f).Nodup := by
  refine nodup_map_on (fun a ha b hb e => ?_) (nodup_range _)
  have h1 := parts_all ok w a (by have := List.mem_range.mp ha; omega)
  have h2 := parts_all ok w b (by have := List.mem_range.mp hb; omega)
  have e1 := List.getElem_idxOf (List.idxOf_lt_length_iff.mpr h1)
  have e2 := List.getElem_idxOf (List.idxOf_lt_length_iff.mpr h2)
  rw [← e1, ← e2]
  simp only [e]
theorem rkW_lt (ok : PlOk pl) {f : List (List Nat)} (w : Wok pl f) : ∀ x ∈ rkW pl f, x ≤ 41 := fun x hx => by
  obtain ⟨s, hs, rfl⟩ := List.mem_map.mp hx
  have h1 := parts_all ok w s (by have := List.mem_range.mp hs; omega)
  have h2 := List.idxOf_lt_length_iff.mpr h1
  have h3 := (parts_ok ok w).sz 0 (Nat.le_refl _) (Nat.zero_le _)
  have h4 := w.le 0
  have := ok.1
  omega
end K6

set_option Elab.async false
set_option linter.all false
set_option maxRecDepth 100000
set_option maxHeartbeats 4000000
/-! K6Md: the cycle's length, the stock of a day, the sales -/
namespace K6
variable {pl : List Nat}
/-! ### the cycle -/
def rotAt (row : List Nat) (i : Nat) : List Nat := row.drop i ++ row.take i
def perGo (row : List Nat) : Nat → Nat → Nat
  | 0, _ => max 1 row.length
  | k + 1, m => if rotAt row m = row then m else perGo row k (m + 1)
def perOf (row : List Nat) : Nat := perGo row (row.length - 1) 1
theorem perGo_le (row : List Nat) : ∀ k m, 1 ≤ m → m + k = max 1 row.length → 1 ≤ perGo row k m ∧ perGo row k m ≤ max 1 row.length
  | 0, m, _, _ => ⟨Nat.le_max_left _ _, Nat.le_refl _⟩
  | k + 1, m, h, e => by
    unfold perGo
    split
    · omega
    · exact perGo_le row k (m + 1) (by omega) (by omega)
theorem perOf_le (row : List Nat) : 1 ≤ perOf row ∧ perOf row ≤ max 1 row.length := perGo_le row _ 1 (Nat.le_refl _) (by omega)
def needOf (F c : Nat) : Nat := F / Nat.gcd F c
def turnOf (row : List Nat) (fs : List Nat) (t s : Nat) : Nat :=
  t * needOf (fs.getD s 0) ((row.take (perOf row)).count s) / Nat.gcd t (needOf (fs.getD s 0) ((row.take (perOf row)).count s))
def turnsTo (row : List Nat) (fs S : List Nat) : Nat := S.foldl (turnOf row fs) 1
def lenGo (pl : List Nat) (f : List (List Nat)) : Nat → List Nat → List Nat
  | 0, fs => fs
  | k + 1, fs => lenGo pl f k (fs.set k (perOf (rw_ f k) * turnsTo (rw_ f k) fs (sups pl k)))
def lenOf (pl : List Nat) (f : List (List Nat)) : Nat := (lenGo pl f (pl.length + 1) (List.replicate (pl.length + 1) 1)).getD 0 0
theorem need_le {F c : Nat} (h : 1 ≤ F) : 1 ≤ needOf F c ∧ needOf F c ≤ F := by
  unfold needOf
  have h1 : 0 < Nat.gcd F c := Nat.gcd_pos_of_pos_left _ h
  refine ⟨?_, Nat.div_le_self _ _⟩
  exact Nat.div_pos (Nat.le_of_dvd h (Nat.gcd_dvd_left _ _)) h1
theorem turn_le {row fs : List Nat} {t s : Nat} (ht : 1 ≤ t) (hs : 1 ≤ fs.getD s 0) : 1 ≤ turnOf row fs t s ∧ turnOf row fs t s ≤ t * fs.getD s 0 := by
  unfold turnOf
  obtain ⟨h1, h2⟩ := need_le (c := (row.take (perOf row)).count s) hs
  generalize needOf (fs.getD s 0) ((row.take (perOf row)).count s) = nd at *
  have hg : 0 < Nat.gcd t nd := Nat.gcd_pos_of_pos_left _ ht
  have hd : Nat.gcd t nd ∣ t * nd := Nat.dvd_trans (Nat.gcd_dvd_left _ _) (Nat.dvd_mul_right _ _)
  refine ⟨Nat.div_pos (Nat.le_of_dvd (Nat.mul_pos ht h1) hd) hg, ?_⟩
  exact Nat.le_trans (Nat.div_le_self _ _) (Nat.mul_le_mul_left _ h2)
def sumC (row S : List Nat) : Nat := (S.map fun s => row.count s).sum
theorem sumC_cons (x : Nat) (r : List Nat) : ∀ S : List Nat, S.Nodup → sumC (x :: r) S ≤ sumC r S + 1
  | [], _ => by simp [sumC]
  | s :: S, h => by
    obtain ⟨h1, h2⟩ := List.nodup_cons.mp h
    have ih := sumC_cons x r S h2
    have e1 : sumC (x :: r) (s :: S) = (x :: r).count s + sumC (x :: r) S := by simp [sumC]
    have e2 : sumC r (s :: S) = r.count s + sumC r S := by simp [sumC]
    rw [e1, e2]
    by_cases hx : x = s
    · subst hx
      have e3 : sumC (x :: r) S = sumC r S := by
        unfold sumC
        congr 1
        apply List.map_congr_left
        intro a ha
        rw [List.count_cons_of_ne]
        intro e
        exact h1 (by rw [e]; exact ha)
      rw [List.count_cons_self, e3]
      omega
    · rw [List.count_cons_of_ne hx]
      omega
theorem sumC_le (S : List Nat) (h : S.Nodup) : ∀ row, sumC row S ≤ row.length
  | [] => by
    have : ∀ S, sumC [] S = 0 := by
      intro S
      induction S with
      | nil => rfl
      | cons a l ih =>
        have e : sumC [] (a :: l) = ([] : List Nat).count a + sumC [] l := by
          unfold sumC
          rw [List.map_cons, List.sum_cons]
        rw [e, ih]
        rfl
    rw [this]
    exact Nat.zero_le _
  | x :: r => by
    have h1 := sumC_cons x r S h
    have h2 := sumC_le S h r
    rw [List.length_cons]
    omega
theorem sumC_app (row S1 S2 : List Nat) : sumC row (S1 ++ S2) = sumC row S1 + sumC row S2 := by simp [sumC]
/-- each at least 1, and not too great -/
structure Fk (pl : List Nat) (f : List (List Nat)) (fs : List Nat) : Prop where
  len : fs.length = pl.length + 1
  pos : ∀ v, v ≤ pl.length → 1 ≤ fs.getD v 0
  le : ∀ v, v ≤ pl.length → fs.getD v 0 ≤ 40 ^ ((rw_ f v).length + 1)
theorem turns_le (ok : PlOk pl) {f : List (List Nat)} (w : Wok pl f) {fs : List Nat} (F : Fk pl f fs) (v : Nat) : ∀ (S : List Nat), (∀ s ∈ S, s ∈ sups pl v) →
    ∀ t, 1 ≤ t → 1 ≤ S.foldl (turnOf (rw_ f v) fs) t ∧ S.foldl (turnOf (rw_ f v) fs) t ≤ t * 40 ^ sumC (rw_ f v) S
  | [], _, t, ht => ⟨ht, by simp [sumC]⟩
  | s :: S, hS, t, ht => by
    have hs := mem_sups.mp (hS s (by simp))
    have hp := F.pos s hs.2.1
    obtain ⟨h1, h2⟩ := turn_le (row := rw_ f v) ht hp
    obtain ⟨h3, h4⟩ := turns_le ok w F v S (fun u hu => hS u (List.mem_cons_of_mem _ hu)) _ h1
    refine ⟨h3, Nat.le_trans h4 ?_⟩
    have e : sumC (rw_ f v) (s :: S) = (rw_ f v).count s + sumC (rw_ f v) S := by simp [sumC]
    have hc := w.cnt s hs.1 hs.2.1
    rw [hs.2.2] at hc
    rw [e, hc, Nat.pow_add, ← Nat.mul_assoc]
    exact Nat.mul_le_mul_right _ (Nat.le_trans h2 (Nat.mul_le_mul_left _ (F.le s hs.2.1)))
theorem getDN_set (l : List Nat) (i j x : Nat) (hi : i < l.length) : (l.set i x).getD j 0 = if j = i then x else l.getD j 0 := by
  rw [List.getD_eq_getElem?_getD, List.getD_eq_getElem?_getD, List.getElem?_set]
  by_cases h : j = i
  · subst h
    simp [hi]
  · rw [if_neg h, if_neg (fun e => h e.symm)]
theorem Fk.step (ok : PlOk pl) {f : List (List Nat)} (w : Wok pl f) {fs : List Nat} (F : Fk pl f fs) {k : Nat} (hk : k ≤ pl.length) : Fk pl f (fs.set k (perOf (rw_ f k) * turnsTo (rw_ f k) fs (sups pl k))) := by
  have hkl : k < fs.length := by rw [F.len]; omega
  obtain ⟨h1, h2⟩ := perOf_le (rw_ f k)
  obtain ⟨h3, h4⟩ := turns_le ok w F k (sups pl k) (fun _ h => h) 1 (Nat.le_refl _)
  have h5 := sumC_le (sups pl k) (sups_nodup pl k) (rw_ f k)
  have h6 := w.le k
  have h7 := ok.1
  refine ⟨by rw [List.length_set]; exact F.len, fun v hv => ?_, fun v hv => ?_⟩
  · rw [getDN_set _ _ _ _ hkl]
    split
    · exact Nat.mul_pos h1 h3
    · exact F.pos v hv
  · rw [getDN_set _ _ _ _ hkl]
    split
    · rename_i e
      subst e
      rw [Nat.pow_succ, Nat.mul_comm]
      refine Nat.mul_le_mul ?_ (by omega)
      have h8 : (40 : Nat) ^ sumC (rw_ f v) (sups pl v) ≤ 40 ^ (rw_ f v).length := Nat.pow_le_pow_right (by decide) h5
      unfold turnsTo
      omega
    · exact F.le v hv
theorem Fk.init (f : List (List Nat)) : Fk pl f (List.replicate (pl.length + 1) 1) := by
  refine ⟨by rw [List.length_replicate], fun v hv => ?_, fun v hv => ?_⟩
  · rw [List.getD_eq_getElem?_getD, List.getElem?_replicate, if_pos (by omega)]
    exact Nat.le_refl 1
  · rw [List.getD_eq_getElem?_getD, List.getElem?_replicate, if_pos (by omega)]
    exact Nat.pos_of_ne_zero (by simp)
theorem lenGo_ok (ok : PlOk pl) {f : List (List Nat)} (w : Wok pl f) : ∀ (k : Nat) (fs : List Nat), k ≤ pl.length + 1 → Fk pl f fs → Fk pl f (lenGo pl f k fs)
  | 0, fs, _, F => F
  | k + 1, fs, hk, F => lenGo_ok ok w k _ (by omega) (F.step ok w (by omega))
def big : Nat := 2 ^ 249
theorem Fk.big (ok : PlOk pl) {f : List (List Nat)} (w : Wok pl f) {fs : List Nat} (F : Fk pl f fs) (v : Nat) (hv : v ≤ pl.length) : fs.getD v 0 ≤ big := by
  have h1 := F.le v hv
  have h2 := w.le v
  have h3 := ok.1
  refine Nat.le_trans h1 (Nat.le_trans (Nat.pow_le_pow_right (by decide) (by omega : (rw_ f v).length + 1 ≤ 41)) ?_)
  unfold K6.big
  decide
theorem turns_big (ok : PlOk pl) {f : List (List Nat)} (w : Wok pl f) {fs : List Nat} (F : Fk pl f fs) (v : Nat) (S S2 : List Nat) (hS : sups pl v = S ++ S2) : 1 ≤ turnsTo (rw_ f v) fs S ∧ turnsTo (rw_ f v) fs S ≤ big := by
  obtain ⟨h3, h4⟩ := turns_le ok w F v S (fun s hs => by rw [hS]; exact List.mem_append_left _ hs) 1 (Nat.le_refl _)
  have h5 := sumC_le (sups pl v) (sups_nodup pl v) (rw_ f v)
  rw [hS, sumC_app] at h5
  have h6 := w.le v
  have h7 := ok.1
  refine ⟨h3, ?_⟩
  unfold turnsTo
  refine Nat.le_trans h4 ?_
  rw [Nat.one_mul]
  refine Nat.le_trans (Nat.pow_le_pow_right (by decide) (by omega : sumC (rw_ f v) S ≤ 41)) ?_
  unfold K6.big
  decide
/-! ### the stock of a day -/
def ordL (o : List Int) : List Nat := ordI (nI (ranksL o))
def stockAt (pl : List Nat) (st : List Int) (d : Nat) : List Int :=
  if d ≤ (ordDays pl st).1 then dayN pl d st
  else if d ≤ (ordDays pl st).1 + st.length then dayN pl (d - (ordDays pl st).1) (ordDays pl st).2
  else (rkW pl (rotW (words pl (ordL (ordDays pl st).2)) (counts pl (words pl (ordL (ordDays pl st).2)) (d - (ordDays pl st).1)))).map fun r => maxI st + (d : Int) - (pl.length : Int) + ((r : Nat) : Int)
theorem ordL_perm {o : List Int} {n : Nat} (h : o.length = n) : (ordL o).Perm (List.range n) := by
  have := ordI_perm (nI (ranksL o))
  rw [List.length_map, ranksL, List.length_map, h] at this
  exact this
theorem stockAt_ok {st : List Int} (ok : StOk pl st) {a b : Int} (hb : Bnd a b st) (d : Nat) : StOk pl (stockAt pl st d) ∧ Bnd a (b + d + 100) (stockAt pl st d) := by
  obtain ⟨h1, h2, h3, h4⟩ := ord_all ok hb
  have h40 := ok.plok.1
  unfold stockAt
  split
  · exact ⟨dayN_ok ok d, (dayN_bnd ok hb d).mono (Int.le_refl _) (by omega)⟩
  · split
    · exact ⟨dayN_ok h1 _, (dayN_bnd h1 h4 _).mono (Int.le_refl _) (by omega)⟩
    · rename_i q1 q2
      have w := words_ok ok.plok (ordL_perm h1.len)
      have w2 := rotW_ok w (counts_len (words pl (ordL (ordDays pl st).2)) (d - (ordDays pl st).1))
      have hm := hb _ (maxI_mem (st_ne ok))
      have hl := ok.len
      refine ⟨⟨ok.plok, by rw [List.length_map, rkW_len], nodup_map_inj (fun x y e => by omega) (rkW_nodup ok.plok w2)⟩, fun x hx => ?_⟩
      obtain ⟨r, hr, rfl⟩ := List.mem_map.mp hx
      have := rkW_lt ok.plok w2 r hr
      omega
/-! ### the sales -/
def salesGo (pl : List Nat) (st : List Int) : Nat → List Nat → List Int → List Int
  | 0, _, f => f
  | k + 1, re, f => if re = [] then f else salesGo pl st k (re.erase (best st re) ++ sups pl (best st re)) (f ++ [bx st (best st re)])
def salesOf (pl : List Nat) (st : List Int) : List Int := salesGo pl st (pl.length + 2) [0] []
structure Sk (pl : List Nat) (so re : List Nat) : Prop where
  nd : (so ++ re).Nodup
  le : ∀ x ∈ so ++ re, x ≤ pl.length
  zero : 0 ∈ so ++ re
  iff : ∀ s, 1 ≤ s → s ≤ pl.length → (s ∈ so ++ re ↔ cu pl s ∈ so)
theorem Sk.start (ok : PlOk pl) : Sk pl [] [0] := ⟨by simp, by simp, by simp, fun s h1 h2 => by simp; omega⟩
theorem Sk.len {so re : List Nat} (k : Sk pl so re) : so.length + re.length ≤ pl.length + 1 := by
  have := nodup_len (ys := List.range (pl.length + 1)) k.nd fun x hx => List.mem_range.mpr (by have := k.le x hx; omega)
  rw [List.length_range, List.length_append] at this
  exact this
theorem Sk.step (ok : PlOk pl) {so re : List Nat} (k : Sk pl so re) {s : Nat} (hs : s ∈ re) : Sk pl (so ++ [s]) (re.erase s ++ sups pl s) := by
  have hp : (so ++ [s] ++ re.erase s).Perm (so ++ re) := by
    rw [List.append_assoc]
    exact List.Perm.append_left _ (List.perm_cons_erase hs).symm
  have hsl := k.le s (List.mem_append_right _ hs)
  have nso : s ∉ so := fun h => by
    have := List.nodup_append.mp k.nd
    exact this.2.2 s h s hs rfl
  have dis : ∀ x ∈ sups pl s, x ∉ so ++ re := fun x hx h => by
    obtain ⟨h1, h2, h3⟩ := mem_sups.mp hx
    have := (k.iff x h1 h2).mp h
    rw [h3] at this
    exact nso this
  refine ⟨?_, fun x hx => ?_, ?_, fun x h1 h2 => ?_⟩
  · rw [← List.append_assoc]
    refine List.nodup_append.mpr ⟨hp.nodup_iff.mpr k.nd, sups_nodup pl s, fun x hx y hy e => ?_⟩
    subst e
    exact dis x hy (hp.mem_iff.mp hx)
  · rw [← List.append_assoc] at hx
    rcases List.mem_append.mp hx with q | q
    · exact k.le x (hp.mem_iff.mp q)
    · exact (mem_sups.mp q).2.1
  · rw [← List.append_assoc]
    exact List.mem_append_left _ (hp.mem_iff.mpr k.zero)
  · rw [← List.append_assoc, List.mem_append, hp.mem_iff, k.iff x h1 h2, List.mem_append, mem_sups, List.mem_singleton]
    constructor
    · rintro (q | q)
      · exact .inl q
      · exact .inr q.2.2
    · rintro (q | q)
      · exact .inl q
      · exact .inr ⟨h1, h2, q⟩
theorem Sk.all (ok : PlOk pl) {so : List Nat} (k : Sk pl so []) : ∀ s, s ≤ pl.length → s ∈ so := by
  intro s
  induction s using Nat.strongRecOn with
  | _ s ih =>
    intro hs
    by_cases h0 : s = 0
    · rw [h0]
      have := k.zero
      rw [List.append_nil] at this
      exact this
    · have hc := cu_lt ok (s := s) (by omega) hs
      have := (k.iff s (by omega) hs).mpr (ih _ hc (by omega))
      rw [List.append_nil] at this
      exact this
theorem salesGo_len (ok : PlOk pl) (st : List Int) : ∀ (n : Nat) (so re : List Nat) (f : List Int), Sk pl so re → f.length = so.length → pl.length + 2 ≤ n + so.length → pl.length + 1 ≤ (salesGo pl st n re f).length
  | 0, so, re, f, k, e, h => by
    have := k.len
    omega
  | n + 1, so, re, f, k, e, h => by
    unfold salesGo
    split
    · rename_i q
      subst q
      have := nodup_len (xs := List.range (pl.length + 1)) (ys := so) (nodup_range _) fun x hx => k.all ok x (by have := List.mem_range.mp hx; omega)
      rw [List.length_range] at this
      omega
    · rename_i q
      exact salesGo_len ok st n _ _ _ (k.step ok (best_mem st q)) (by rw [List.length_append, List.length_append, e]; rfl) (by rw [List.length_append, List.length_singleton]; omega)
theorem salesOf_len (ok : PlOk pl) (st : List Int) : pl.length + 1 ≤ (salesOf pl st).length := salesGo_len ok st _ [] [0] [] (Sk.start ok) rfl (Nat.le_refl _)
def soldOn (pl : List Nat) (st : List Int) (d : Nat) : Int := if d ≤ st.length then (salesOf pl st).getD (d - 1) 0 else maxI st + (d : Int) - (st.length : Int)
def makerOn (pl : List Nat) (st : List Int) (d : Nat) : Nat := (chainOf pl (stockAt pl st (d - 1)) 0).getLastD 0
theorem salesGo_mem (ok : PlOk pl) {st : List Int} (hl : st.length = pl.length + 1) : ∀ (n : Nat) (so re : List Nat) (f : List Int), Sk pl so re → (∀ x ∈ f, x ∈ st) → ∀ x ∈ salesGo pl st n re f, x ∈ st
  | 0, so, re, f, k, h => h
  | n + 1, so, re, f, k, h => by
    unfold salesGo
    split
    · exact h
    · rename_i q
      refine salesGo_mem ok hl n _ _ _ (k.step ok (best_mem st q)) fun x hx => ?_
      rcases List.mem_append.mp hx with z | z
      · exact h x z
      · have : x = bx st (best st re) := by simpa using z
        rw [this]
        exact bx_mem (by have := k.le _ (List.mem_append_right _ (best_mem st q)); omega)
theorem soldOn_bnd {st : List Int} (ok : StOk pl st) {a b : Int} (hb : Bnd a b st) {d : Nat} (h1 : 1 ≤ d) : a ≤ soldOn pl st d ∧ soldOn pl st d ≤ b + d := by
  have hm := hb _ (maxI_mem (st_ne ok))
  unfold soldOn
  split
  · rename_i h
    have hl := salesOf_len ok.plok st
    have hd : d - 1 < (salesOf pl st).length := by rw [ok.len] at h; omega
    have : (salesOf pl st).getD (d - 1) 0 ∈ salesOf pl st := by
      rw [List.getD_eq_getElem?_getD, List.getElem?_eq_getElem hd]
      exact List.getElem_mem hd
    have := hb _ (salesGo_mem ok.plok ok.len _ [] [0] [] (Sk.start ok.plok) (by simp) _ this)
    omega
  · omega
end K6

set_option Elab.async false
set_option linter.all false
set_option maxRecDepth 100000
set_option maxHeartbeats 4000000
/-! K6Wg: ranks, greatest_divisor, word_table -/
namespace K6
open PySem PySem.Spec PyProof.Rows L2
theorem rw_get {f : List (List Nat)} {v : Nat} (hv : v < f.length) : f[v]'hv = rw_ f v := by
  unfold rw_
  rw [List.getD_eq_getElem?_getD, List.getElem?_eq_getElem hv]
  rfl
/-- the row of v -/
theorem LLm.row {H : Hp} {D : Addr} {rs : List Addr} {f : List (List Nat)} (l : LLm H D rs (nL f)) {v : Nat} (hv : v < f.length) : ∃ r, rs[v]? = some r ∧ H r = some (.lst (iV (nI (rw_ f v)))) ∧ r ≠ D := by
  obtain ⟨r, hr, hl, hn⟩ := l.get (v := v) (by rw [List.length_map]; exact hv)
  rw [nL_get hv, rw_get] at hl
  exact ⟨r, hr, hl, hn⟩
theorem nL_set (f : List (List Nat)) (v : Nat) (x : List Nat) : (nL f).set v (nI x) = nL (f.set v x) := (List.map_set ..).symm
section
variable {P : Program} {w : World} {K : PySem.W.Frag} {mg : Str → Option Value} {base : Heap}
def spRanks (K : PySem.W.Frag) : Sp := fun vs H Q _ => ∃ b st, vs = [.ref b] ∧ H b = some (.tup (iV st)) ∧ st.length ≤ 40 ∧ st.Nodup ∧ ∀ H' D, Gx (TK K) [] H H' → H' D = some (.tup (iV (nI (ranksL st)))) → Q (.ref D) H'
theorem calRanks (z : Cz P w K mg base) : C8.Cal P w K mg base 1 "ranks" (spRanks K) [] := by
  refine mkCal z.fRanks z.gRanks scRanks bRanks (fun vs H Q E h => ?_) fun cdv A outer s H vs Q E hr h => ?_
  · obtain ⟨b, st, rfl, _⟩ := h
    rfl
  · have hu := hu_of hr
    refine ⟨_, (pss_cons (ps_set (i := 1) scRanks.nd rfl (Or.inr rfl) (pe_dc (own := [("index", 2), ("box", 3)]) (g := gTup K 2 (gCons (gName 2) (gCons (gName 3) gNil))) (tt := tYes) rfl scRanks.nd (pi_enum (by rfl) z.nenumerate (pa_cons (pe_callB cr_sortedT (by rfl) z.nsorted (by decide +kernel) (pa_cons (pv 0) pa_nil)) pa_nil)) (blkOk_by (own := [("index", 2), ("box", 3)]) (N := nRanks) (sc := defScope sRanks) (by decide +kernel)) (fun _ _ _ _ _ => (pg_pair (i := 2) (j := 3) rfl scRanks.nd rfl (Or.inl rfl) rfl (Or.inl rfl))) (fun _ _ _ _ _ => pts_nil) (fun _ _ _ _ _ => (pv 3)) (fun _ _ _ _ _ => (pv 2))))
  (pss_one (ps_ret (pe_callTy call_tupQ (by rfl) z.ntuple (by decide +kernel) (pa_cons (pe_lc (own := [("box", 3)]) (g := gName 3) (tt := tYes) rfl scRanks.nd (pi_tup (pv 0)) (blkOk_by (own := [("box", 3)]) (N := nRanks) (sc := defScope sRanks) (by decide +kernel)) (fun _ _ _ _ _ => (pg_name (i := 3) scRanks.nd rfl (Or.inl rfl))) (fun _ _ _ _ _ => pts_nil) (fun _ _ _ _ _ => (pe_dget hu (pv 1) (pv 3) (fun _ _ => rfl)))) pa_nil))))), ?_⟩
    obtain ⟨b, st, rfl, hb, h40, nd, q⟩ := h
    refine ⟨_, rfl, b, st, rfl, SqT.of hb, by omega, fun ns p hp hs np => ?_⟩
    have g1 : Gx (TK K) [] H (upd H p (.lst (iV ns))) := Gx.new np
    have hlp := hp.length_eq
    have nd2 : ns.Nodup := hp.nodup_iff.mpr nd
    refine ⟨p, _, rfl, SqL.of upd_same, fun D hD => ?_⟩
    have fD : Fr H D := g1.fr hD
    refine dc_gen gv_enum (fun i H2 => Gx (TK K) [] (upd H p (.lst (iV ns))) H2 ∧ ∃ kvs, H2 D = some (.dK kvs) ∧ kvs.length ≤ i ∧ ∀ (j : Nat) x, j < i → ns[j]? = some x → valV kvs (Sum.inl x) = some (.int (j : Nat))) ⟨Gx.new hD, [], upd_same, Nat.le_refl _, fun j x hj => absurd hj (Nat.not_lt_zero _)⟩ (fun i H2 _ pv => SqL.of (pv.1.lst upd_same)) (fun i x H2 H3 hi pv y => ?_) fun H2 pv => ?_
    · obtain ⟨g2, kvs, hk, kl, kv⟩ := pv
      obtain ⟨p2, v, rfl, np2, rfl, hv⟩ := y
      obtain ⟨n, hn, rfl⟩ := get_iV hv
      have g3 : Gx (TK K) [] H2 (upd H2 p2 (.tup [.int (i : Nat), .int n])) := Gx.new np2
      have hk3 := g3.dK hk
      rw [len_iV, hlp] at hi
      refine pair_to upd_same ⟨rfl, iteT (B := True) ⟨_, rfl, _, rfl, kvs, Sum.inl n, rfl, hk3, sl_le (by omega), (g2.then g3).put (.inr (Fr.of hD)) hk3 trivial, _, upd_same, ?_, fun j x hj hx => ?_⟩⟩
      · exact Nat.le_trans (putK_le _ _ _) (Nat.succ_le_succ kl)
      · rw [valV_put]
        by_cases e : j = i
        · subst e
          rw [hn] at hx
          cases hx
          rw [if_pos rfl]
        · rw [if_neg]
          · exact kv j x (by omega) hx
          · intro e2
            have e3 : x = n := Sum.inl.inj e2
            subst e3
            have l1 := (List.getElem?_eq_some_iff.mp hx)
            have l2 := (List.getElem?_eq_some_iff.mp hn)
            exact e ((List.getElem_inj nd2).mp (l1.2.trans l2.2.symm))
    · obtain ⟨g2, kvs, hk, kl, kv⟩ := pv
      have g3 := g1.then g2
      refine ⟨_, rfl, b, rfl, ⟨_, SqT.of (g3.tup hb)⟩, fun D2 hD2 => lc_map (T := TK K) gv_tup hD2 (fun H g => SqT.of (g.tup (g3.tup hb))) (by rw [len_iV]; omega) (iV (nI (ranksL st))) (by rw [len_iV, len_iV, len_nI]; unfold ranksL; rw [List.length_map]) (fun i x y H4 H5 Ny hi g4 hy hys hN => ?_) mono_name fun H4 g4 hD4 => ?_⟩
      · obtain ⟨rfl, hx⟩ := hy
        obtain ⟨n, hn, rfl⟩ := get_iV hx
        obtain ⟨m, hm, rfl⟩ := get_nV hys
        have em : m = rankOf st n := by
          unfold ranksL at hm
          rw [List.getElem?_map, hn] at hm
          exact (Option.some.inj hm).symm
        subst em
        have hmem : n ∈ ns := hp.mem_iff.mpr (List.mem_of_getElem? hn)
        obtain ⟨j, hj, ej⟩ := List.mem_iff_getElem.mp hmem
        have hj2 : ns[j]? = some n := by rw [List.getElem?_eq_getElem hj, ej]
        have hr2 := sorted_rank hp hs nd hj2
        have hv := kv j n (by rw [len_iV]; exact hj) hj2
        refine ⟨rfl, _, rfl, _, rfl, D, _, rfl, ?_, hN _ Gx.refl⟩
        have := DGet.k (k := (Sum.inl n : Key)) (g4.dK hk)
        rw [hv, hr2] at this
        exact this
      · refine ⟨D2, _, rfl, .inl ⟨SqL.of hD4, fun p3 np3 => ?_⟩⟩
        exact q _ p3 ((g3.then g4).more np3) upd_same
def spGcd : Sp := fun vs H Q _ => ∃ m n : Nat, vs = [.int (m : Nat), .int (n : Nat)] ∧ Q (.int (Nat.gcd m n : Nat)) H
theorem calGreatestDivisor (z : Cz P w K mg base) : C8.Cal P w K mg base 1 "greatest_divisor" spGcd [] := by
  refine mkCal z.fGreatestDivisor z.gGreatestDivisor scGreatestDivisor bGreatestDivisor (fun vs H Q E h => ?_) fun cdv A outer s H vs Q E hr h => ?_
  · obtain ⟨m, n, rfl, _⟩ := h
    rfl
  · refine ⟨_, (pss_cons (ps_while PassesOwn.never (pt_cmpR op_gt (pv 1) pe_int (nomark _)) (pss_one (ps_par (i := 0) (j := 1) rfl scGreatestDivisor.nd rfl rfl (by decide) rfl rfl (pa_cons (pv 1) (pa_cons (pe_op op_modQ (pv 0) (pv 1)) pa_nil)) (by rfl))))
  (pss_one (ps_ret (pv 0)))), ?_⟩
    obtain ⟨m, n, rfl, q⟩ := h
    refine ⟨fun k σ H2 => H2 = H ∧ ∃ a b : Nat, σ = [some (.int (a : Nat)), some (.int (b : Nat))] ∧ Nat.gcd a b = Nat.gcd m n ∧ k = b, ⟨_, rfl, m, n, rfl, rfl, rfl⟩, ?_⟩
    rintro k σ H2 ⟨rfl, a, b, rfl, he, ek⟩
    refine ⟨_, rfl, _, _, rfl, rfl, _, rfl, ?_⟩
    by_cases hb : b = 0
    · subst hb
      rw [Nat.gcd_zero_right] at he
      rw [decide_eq_false (by decide)]
      refine iteF ⟨_, rfl, ?_⟩
      rw [he]
      exact q
    · rw [decide_eq_true (by omega)]
      refine iteT ⟨_, fun _ _ hh => hh, _, rfl, _, rfl, _, rfl, _, _, rfl, rfl, by show (0 : Int) < _; omega, _, _, rfl, a % b, by rw [ek]; exact Nat.mod_lt _ (by omega), rfl, b, a % b, rfl, ?_, rfl⟩
      rw [← he, Nat.gcd_comm a b, Nat.gcd_rec b a, Nat.gcd_comm]
end
end K6

set_option Elab.async false
set_option linter.all false
set_option maxRecDepth 100000
set_option maxHeartbeats 4000000
/-! K6Wh: word_table -/
namespace K6
open PySem PySem.Spec PyProof.Rows L2
theorem wtUp_zero (pl : List Nat) (k : Nat) (f : List (List Nat)) : wtUp pl k 0 f = f := by
  cases k with
  | zero => rfl
  | succ k => rw [wtUp, if_pos rfl]
section
variable {P : Program} {w : World} {K : PySem.W.Frag} {mg : Str → Option Value} {base : Heap}
def spWords (K : PySem.W.Frag) : Sp := fun vs H Q _ => ∃ a b pl rk, vs = [.ref a, .ref b] ∧ H a = some (.tup (iV (nI pl))) ∧ PlOk pl ∧ H b = some (.tup (iV (nI rk))) ∧ rk.length = pl.length + 1 ∧ LamX.Tabs (TK K) H ∧
  ∀ H' D rs, Gx (TK K) [] H H' → LLm H' D rs (nL (words pl (ordI (nI rk)))) → Q (.ref D) H'
theorem calWordTable (z : Cz P w K mg base) : C8.Cal P w K mg base 3 "word_table" (spWords K) [] := by
  obtain ⟨fd, F⟩ := z.fWordTable
  refine ⟨He.ga K "word_table", fd, pWordTable, [], ?_, z.gWordTable, F.kp, F.bindsN bWordTable, .nil⟩
  obtain ⟨oc, od, dV, kV, doc, pm, an, cdv, ct, osl, rfl, lk, hcd, _, _⟩ := F.ex
  obtain ⟨c0, ec⟩ := He.codeIn_ref hcd
  have ec2 : He.codeOf K ("word_table", none) = c0 := He.codeOf_eq (p := ("word_table", none)) lk ec
  refine fn_of lk hcd scWordTable (fun vs H Q E h => ?_) fun A outer s H vs Q E hr h => ?_
  · obtain ⟨a, b, pl, rk, rfl, _⟩ := h
    rfl
  · have hcode : (cxOf C8.CX0 P w K mg base nWordTable "word_table" (defScope sWordTable) (He.ga K "word_table") cdv A outer s H E).nox.env.code = .ref (He.cT K ("word_table", none)).1 := by
      show cdv = .ref (He.codeOf K ("word_table", none))
      rw [ec2, ec]
    have tm : ∃ t, PSs (cxOf C8.CX0 P w K mg base nWordTable "word_table" (defScope sWordTable) (He.ga K "word_table") cdv A outer s H E).nox (defBody sWordTable) t ∧ t { nx := fun _ H' => Q .non H', rt := Q } (start nWordTable vs) H := by
      refine ⟨_, (pss_cons (ps_setLc (i := 2) (own := [("rank", 6)]) (g := gName 6) (tt := tYes) rfl scWordTable.nd rfl rfl (sw_true rfl rfl rfl (by decide +kernel)) (pi_tup (pv 1)) (blkOk_by (own := [("rank", 6)]) (N := nWordTable) (sc := defScope sWordTable) (by decide +kernel)) (fun _ _ _ _ _ => (pg_name (i := 6) scWordTable.nd rfl (Or.inl rfl))) (fun _ _ _ _ _ => pts_nil) (fun _ _ _ _ _ => (pe_lst pa_nil)))
  (pss_cons (ps_for PassesOwn.never rfl (pi_list (pe_sortLam (T := TK K) (i := 1) rfl hr rfl z.nsorted rfl z.nrange rfl z.nlen rfl rfl z.tb hcode (List.mem_singleton.mpr rfl) (fun p hp _ => by rw [List.mem_singleton.mp hp]; rfl) rfl rfl (by decide) rfl rfl rfl (fun _ _ _ _ _ _ => rfl))) (pg_name (i := 3) scWordTable.nd rfl (Or.inl rfl)) (pss_cons (ps_set (i := 4) scWordTable.nd rfl (Or.inl rfl) (pv 3))
  (pss_one (ps_while PassesOwn.never (pt_cmpR op_gt (pv 4) pe_int (nomark _)) (pss_cons (ps_set (i := 5) scWordTable.nd rfl (Or.inl rfl) (pe_ix ix_tup (pv 0) (pe_op op_sub (pv 4) pe_int) (fun _ _ => rfl)))
  (pss_cons (ps_expr (pe_bm PySem.F.plainAttrs_list PySem.F.slot_list_append PySem.F.type_list_append mt_append (pe_ix ix_list (pv 2) (pv 5) (fun _ _ => rfl)) (pa_cons (pv 4) pa_nil)))
  (pss_one (ps_set (i := 4) scWordTable.nd rfl (Or.inl rfl) (pv 5)))))))))
  (pss_one (ps_ret (pv 2))))), ?_⟩
      obtain ⟨a, b, pl, rk, rfl, ha, ok, hb, hlr, ht, q⟩ := h
      have h40 := ok.1
      have hlb : (iV (nI rk)).length = pl.length + 1 := by rw [len_iV, len_nI, hlr]
      refine ⟨_, rfl, b, rfl, ⟨_, SqT.of hb⟩, fun D hD => lc_nils (T := TK K) gv_tup (fun _ _ _ _ y => y.1) hD (fun _ g => SqT.of (g.tup hb)) (by rw [hlb]; omega) (fun _ => rfl) fun H1 rs g1 l1 f1 => ?_⟩
      rw [hlb] at l1
      refine ⟨b, nI rk, rfl, g1.tup hb, by rw [len_nI, hlr]; omega, g1.tab ht, fun H2 p eN t2 np => ?_⟩
      have g2 : Gx (TK K) [] H1 H2 := Gx.ofExt eN t2
      have eL : ((ordI (nI rk)).map fun (i : Nat) => V.int (i : Nat)) = iV (nI (ordI (nI rk))) := by
        unfold iV nI
        rw [List.map_map]
        rfl
      rw [eL]
      have hperm : (ordI (nI rk)).Perm (List.range (pl.length + 1)) := by
        have := ordI_perm (nI rk)
        rw [len_nI, hlr] at this
        exact this
      have eW : words pl (ordI (nI rk)) = wordsGo pl (ordI (nI rk)) (List.replicate (pl.length + 1) []) := rfl
      generalize ordI (nI rk) = L at *
      have hLle : ∀ t ∈ L, t ≤ pl.length := fun t ht => by have := List.mem_range.mp (hperm.mem_iff.mp ht); omega
      have hLlen : L.length = pl.length + 1 := by rw [hperm.length_eq, List.length_range]
      have g3 : Gx (TK K) [] H (upd H2 p (.lst (iV (nI L)))) := (g1.then g2).more np
      have l2 := l1.keep g2
      have pf := l2.fresh np
      have w0 : Wd pl [] 0 (List.replicate (pl.length + 1) []) := by
        refine ⟨by rw [List.length_replicate], fun v s h => ?_, fun s h1 h2 => ?_, fun v => ?_⟩
        · rw [rw_nil] at h
          cases h
        · rw [rw_nil, rw_nil, if_neg (by omega)]
          rfl
        · rw [rw_nil]
          simp
      have fD : Fr H D := Fr.of hD
      have frs : ∀ r ∈ rs, Fr H r := f1
      refine ⟨p, rfl, ⟨_, SqL.of upd_same⟩, for_gen gv_list (fun i σ H3 => (∃ s3 s4 s5, σ = [some (.ref a), some (.ref b), some (.ref D), s3, s4, s5, none]) ∧ Gx (TK K) [] H H3 ∧ H3 p = some (.lst (iV (nI L))) ∧ ∃ f, LLm H3 D rs (nL f) ∧ Wd pl (L.take i) 0 f ∧ wordsGo pl (L.drop i) f = words pl L)
        ⟨⟨_, _, _, rfl⟩, g3, upd_same, List.replicate (pl.length + 1) [], by
          have e : nL (List.replicate (pl.length + 1) []) = List.replicate (pl.length + 1) [] := by rw [nL, List.map_replicate]; rfl
          rw [e]
          exact l2.other pf, w0, by rw [List.drop_zero]; exact eW.symm⟩ (fun i σ H3 _ p3 => SqL.of p3.2.2.1) (fun i x σ H3 H4 hi p3 y => ?_) fun σ H3 p3 => ?_⟩
      · obtain ⟨⟨s3, s4, s5, rfl⟩, g4, hp, f, l3, w3, he⟩ := p3
        obtain ⟨rfl, hx⟩ := y
        obtain ⟨t, ht2, rfl⟩ := get_nV hx
        have htL := hLle t (List.mem_of_getElem? ht2)
        have htk : L.take (i + 1) = L.take i ++ [t] := by rw [List.take_add_one, ht2]; rfl
        have hdr : L.drop i = t :: L.drop (i + 1) := by
          rw [List.drop_eq_getElem_cons (List.getElem?_eq_some_iff.mp ht2).1, (List.getElem?_eq_some_iff.mp ht2).2]
        have he2 : wordsGo pl (L.drop (i + 1)) (wtUp pl t t f) = words pl L := by
          rw [← he, hdr]
          rfl
        refine ⟨_, rfl, ⟨fun m σ H5 => ∃ h k f', (∃ s5, σ = [some (.ref a), some (.ref b), some (.ref D), some (.int (t : Nat)), some (.int (h : Nat)), s5, none]) ∧ Gx (TK K) [] H H5 ∧ H5 p = some (.lst (iV (nI L))) ∧ LLm H5 D rs (nL f') ∧ Wd pl (L.take (i + 1)) h f' ∧ wtUp pl k h f' = wtUp pl t t f ∧ h ≤ k ∧ h ≤ pl.length ∧ m = h,
          ⟨_, t, t, f, ⟨_, rfl⟩, g4, hp, l3, by rw [htk]; exact w3.next ok htL, rfl, Nat.le_refl _, htL, rfl⟩, ?_⟩⟩
        rintro m σ H5 ⟨h, k, f', ⟨s5, rfl⟩, g5, hp5, l5, w5, e5, hk, hl, rfl⟩
        refine ⟨_, rfl, _, _, rfl, rfl, _, rfl, ?_⟩
        by_cases h0 : m = 0
        · subst h0
          rw [decide_eq_false (by decide)]
          rw [wtUp_zero] at e5
          refine iteF ⟨⟨_, _, _, rfl⟩, g5, hp5, f', l5, w5, ?_⟩
          rw [e5]
          exact he2
        · rw [decide_eq_true (by omega)]
          obtain ⟨k, rfl⟩ : ∃ n, k = n + 1 := ⟨k - 1, by omega⟩
          rw [wtUp, if_neg h0] at e5
          have hc := cu_lt ok (s := m) (by omega) hl
          have hpm : pl[m - 1]? = some (cu pl m) := by
            unfold cu
            rw [List.getD_eq_getElem?_getD, List.getElem?_eq_getElem (by omega)]
            rfl
          have e1 : (((m : Nat) : Int) - 1) = ((m - 1 : Nat) : Int) := by omega
          obtain ⟨r, hr, hrl, hrn⟩ := l5.row (v := cu pl m) (by rw [w5.len]; omega)
          have hle := w5.le (cu pl m)
          rw [if_pos hc, List.length_take] at hle
          refine iteT ⟨_, fun _ _ hh => hh, _, rfl, _, rfl, _, _, rfl, rfl, a, _, _, _, rfl, rfl, SqT.of (g5.tup ha), by rw [e1]; exact at_nV hpm, _, rfl, _, rfl, D, _, _, _, rfl, rfl, SqL.of l5.top, at_ref hr, .inl ⟨rfl, _, SqL.of hrl⟩, _, rfl, r, _, _, rfl, rfl, hrl, by rw [len_iV, len_nI]; exact sl_le (by omega), _, rfl, cu pl m, hc, cu pl m, k, addW f' (cu pl m) m, ⟨_, rfl⟩, ?_, ?_, ?_, w5.up ok (by omega) hl, e5, by omega, by omega, rfl⟩
          · exact g5.put (.inr (frs r (List.mem_of_getElem? hr))) hrl trivial
          · rw [upd_ne]
            · exact hp5
            · intro e
              exact pf.2 (by rw [e]; exact List.mem_of_getElem? hr)
          · rw [iV_snoc, nI_snoc]
            have := l5.put (ys := nI (rw_ f' (cu pl m) ++ [m])) hr
            rw [nL_set] at this
            exact this
      · obtain ⟨⟨s3, s4, s5, rfl⟩, g4, hp, f, l3, w3, he⟩ := p3
        rw [len_iV, len_nI, List.drop_length] at he
        have he : f = words pl L := he
        rw [he] at l3
        exact ⟨_, rfl, q H3 D rs g4 l3⟩
    obtain ⟨t, h1, h2⟩ := tm
    exact ⟨t, h1.nox, h2⟩
end
end K6

set_option Elab.async false
set_option linter.all false
set_option maxRecDepth 100000
set_option maxHeartbeats 4000000
/-! K6Wi: rotated_by, counts_after -/
namespace K6
open PySem PySem.Spec PyProof.Rows L2
theorem max2N (n : Nat) : (if ((n : Nat) : Int) > 1 then ((n : Nat) : Int) else 1) = ((max 1 n : Nat) : Int) := by
  by_cases h : ((n : Nat) : Int) > 1
  · rw [if_pos h]
    omega
  · rw [if_neg h]
    omega
theorem set_nV (cs : List Nat) (k x : Nat) : (iV (nI cs)).set k (.int ((x : Nat) : Int)) = iV (nI (cs.set k x)) := by
  rw [set_iV]
  congr 1
  exact (List.map_set ..).symm
theorem app_nV (a b : List Nat) : iV (nI a) ++ iV (nI b) = iV (nI (a ++ b)) := by
  unfold iV nI
  rw [List.map_append, List.map_append]
theorem take_nV (a : List Nat) (k : Nat) : (iV (nI a)).take k = iV (nI (a.take k)) := by
  unfold iV nI
  rw [List.map_take, List.map_take]
theorem drop_nV (a : List Nat) (k : Nat) : (iV (nI a)).drop k = iV (nI (a.drop k)) := by
  unfold iV nI
  rw [List.map_drop, List.map_drop]
theorem count_nI (a : List Nat) (s : Nat) : (nI a).count ((s : Nat) : Int) = a.count s := by
  induction a with
  | nil => rfl
  | cons x r ih =>
    rw [show nI (x :: r) = ((x : Nat) : Int) :: nI r from rfl, List.count_cons, List.count_cons, ih]
    by_cases h : x = s
    · subst h
      simp
    · have h2 : ¬ ((x : Nat) : Int) = ((s : Nat) : Int) := by omega
      simp [h, h2]
theorem gt_nV {cs : List Nat} {v : Nat} (h : v < cs.length) : atI (iV (nI cs)) ((v : Nat) : Int) = some (.int ((cs.getD v 0 : Nat) : Int)) := by
  refine at_nV ?_
  rw [List.getD_eq_getElem?_getD, List.getElem?_eq_getElem h]
  rfl
theorem log2_small {n k : Nat} (hk : 0 < k) (h : n < 2 ^ k) : n.log2 < k := by
  by_cases h0 : n = 0
  · subst h0
    rw [Nat.log2_zero]
    exact hk
  · exact (Nat.log2_lt h0).mpr h
theorem mulW_ok {a b : Nat} (ha : a < 2 ^ 250) (hb : b < 2 ^ 250) : CMulW ((a : Nat) : Int) ((b : Nat) : Int) := by
  have h1 := log2_small (by decide) ha
  have h2 := log2_small (by decide) hb
  show (((a : Nat) : Int)).natAbs.log2 + (((b : Nat) : Int)).natAbs.log2 < 1000000
  rw [Int.natAbs_natCast, Int.natAbs_natCast]
  omega
/-- one more row -/
theorem LLm.snoc {H : Hp} {D p : Addr} {rs : List Addr} {xss : List (List Int)} {ys : List Int} (l : LLm H D rs xss) (hp : H p = some (.lst (iV ys))) (n : p ≠ D ∧ p ∉ rs) : LLm (upd H D (.lst (rs.map V.ref ++ [V.ref p]))) D (rs ++ [p]) (xss ++ [ys]) := by
  obtain ⟨n1, n2⟩ := List.nodup_cons.mp l.nd
  have nD : D ∉ rs ++ [p] := fun h => by
    rcases List.mem_append.mp h with q | q
    · exact n1 q
    · exact n.1 (by simpa using q : D = p).symm
  refine ⟨by rw [upd_same, List.map_append]; rfl, by rw [List.length_append, List.length_append, l.len]; rfl, List.nodup_cons.mpr ⟨nD, List.nodup_append.mpr ⟨n2, by simp, fun a ha b hb e => ?_⟩⟩, fun i r xs h1 h2 => ?_⟩
  · have : b = p := by simpa using hb
    rw [e, this] at ha
    exact n.2 ha
  · rw [upd_ne (fun e => nD (by rw [← e]; exact List.mem_of_getElem? h1))]
    by_cases hi : i < rs.length
    · rw [List.getElem?_append_left hi] at h1
      rw [List.getElem?_append_left (by rw [← l.len]; exact hi)] at h2
      exact l.it i r xs h1 h2
    · rw [List.getElem?_append_right (by omega)] at h1
      rw [List.getElem?_append_right (by rw [← l.len]; omega), ← l.len] at h2
      have e0 : i - rs.length = 0 := by
        have := (List.getElem?_eq_some_iff.mp h1).1
        simp at this
        exact this
      rw [e0] at h1 h2
      cases h1
      cases h2
      exact hp
section
variable {K : PySem.W.Frag} {H : Hp} {Q : VK} {a b : Addr} {row row2 : List Nat} {k : Nat}
theorem modN_to {c m : Nat} (hm : 0 < m) (q : Q (.int ((c % m : Nat) : Int)) H) : rModQ (.int ((c : Nat) : Int)) (.int ((m : Nat) : Int)) H Q :=
  ⟨_, _, rfl, rfl, by omega, by
    have e : ((c : Nat) : Int) % ((m : Nat) : Int) = ((c % m : Nat) : Int) := by omega
    rw [e]
    exact q⟩
theorem maxN_to {n : Nat} (q : Q (.int ((max 1 n : Nat) : Int)) H) : rMax2Q [.int 1, .int ((n : Nat) : Int)] H Q := ⟨_, _, rfl, by rw [max2N]; exact q⟩
theorem mulN_to {m n : Nat} (h1 : m < 2 ^ 250) (h2 : n < 2 ^ 250) (q : Q (.int ((m * n : Nat) : Int)) H) : rMulQ (.int ((m : Nat) : Int)) (.int ((n : Nat) : Int)) H Q :=
  ⟨_, _, rfl, rfl, mulW_ok h1 h2, by
    rw [← Int.natCast_mul]
    exact q⟩
theorem divN_to {m n : Nat} (h1 : 0 < n) (h2 : n < 2 ^ 250) (q : Q (.int ((m / n : Nat) : Int)) H) : rDivQ (.int ((m : Nat) : Int)) (.int ((n : Nat) : Int)) H Q :=
  ⟨_, _, rfl, rfl, ⟨by omega, by
    rw [Int.natAbs_natCast]
    have := log2_small (by decide) h2
    omega⟩, by
    rw [← Int.natCast_ediv]
    exact q⟩
theorem lenL_to (h : H a = some (.lst (iV (nI row)))) (q : Q (.int ((row.length : Nat) : Int)) H) : rLenQ K [.ref a] H Q := ⟨a, _, rfl, .inl (SqL.of h), by rw [len_iV, len_nI]; exact q⟩
theorem lenT_to (h : H a = some (.tup (iV (nI row)))) (q : Q (.int ((row.length : Nat) : Int)) H) : rLenQ K [.ref a] H Q := ⟨a, _, rfl, .inr (SqT.of h), by rw [len_iV, len_nI]; exact q⟩
theorem lenS_to {st : List Int} (h : H a = some (.tup (iV st))) (q : Q (.int ((st.length : Nat) : Int)) H) : rLenQ K [.ref a] H Q := ⟨a, _, rfl, .inr (SqT.of h), by rw [len_iV]; exact q⟩
theorem lenV_to {xs : List V} (h : H a = some (.lst xs)) (q : Q (.int ((xs.length : Nat) : Int)) H) : rLenQ K [.ref a] H Q := ⟨a, _, rfl, .inl (SqL.of h), q⟩
theorem lenR_to {rs : List Addr} (h : H a = some (.lst (rs.map V.ref))) (q : Q (.int ((rs.length : Nat) : Int)) H) : rLenQ K [.ref a] H Q := ⟨a, _, rfl, .inl (SqL.of h), by rw [List.length_map]; exact q⟩
theorem slFrom_to (h : H a = some (.lst (iV (nI row)))) (q : ∀ p, H p = none → Q (.ref p) (upd H p (.lst (iV (nI (row.drop k)))))) : rSlQ K (.ref a) (some ((k : Nat) : Int)) none H Q :=
  ⟨a, _, rfl, SqL.of h, fun p hp => by rw [cut_from, drop_nV]; exact q p hp⟩
theorem slTo_to (h : H a = some (.lst (iV (nI row)))) (q : ∀ p, H p = none → Q (.ref p) (upd H p (.lst (iV (nI (row.take k)))))) : rSlQ K (.ref a) none (some ((k : Nat) : Int)) H Q :=
  ⟨a, _, rfl, SqL.of h, fun p hp => by rw [cut_to, take_nV]; exact q p hp⟩
theorem catN_to (h1 : H a = some (.lst (iV (nI row)))) (h2 : H b = some (.lst (iV (nI row2)))) (hz : row.length + row2.length ≤ 1000000) (q : ∀ p, H p = none → Q (.ref p) (upd H p (.lst (iV (nI (row ++ row2)))))) : rCatQ (.ref a) (.ref b) H Q :=
  ⟨a, b, _, _, rfl, rfl, h1, h2, by rw [len_iV, len_nI, len_iV, len_nI, sizeLine_eq]; omega, fun p hp => by rw [app_nV]; exact q p hp⟩
theorem cntN_to {s : Nat} (h : H a = some (.lst (iV (nI row)))) (q : Q (.int ((row.count s : Nat) : Int)) H) : rCntQ K (.ref a) [.int ((s : Nat) : Int)] H Q := ⟨a, nI row, _, rfl, rfl, SqL.of h, by rw [count_nI]; exact q⟩
end
section
variable {P : Program} {w : World} {K : PySem.W.Frag} {mg : Str → Option Value} {base : Heap}
def spRot (K : PySem.W.Frag) : Sp := fun vs H Q _ => ∃ a c rs f cs, vs = [.ref a, .ref c] ∧ LLm H a rs (nL f) ∧ H c = some (.lst (iV (nI cs))) ∧ f.length = cs.length ∧ f.length ≤ 41 ∧ (∀ v, (rw_ f v).length ≤ 41) ∧
  ∀ H' D rs', Gx (TK K) [] H H' → LLm H' D rs' (nL (rotW f cs)) → Q (.ref D) H'
theorem rotW_take {f : List (List Nat)} {cs : List Nat} {i : Nat} (h1 : i < f.length) (h2 : i < cs.length) : (rotW f cs).take (i + 1) = (rotW f cs).take i ++ [rotL (rw_ f i) (cs.getD i 0)] := by
  have hl : i < (rotW f cs).length := by unfold rotW; rw [List.length_map, List.length_zip]; omega
  rw [List.take_add_one, List.getElem?_eq_getElem hl]
  congr 2
  have e : (rotW f cs)[i] = rotL f[i] cs[i] := by simp only [rotW, List.getElem_map, List.getElem_zip]
  rw [e, rw_get h1, List.getD_eq_getElem?_getD, List.getElem?_eq_getElem h2]
  rfl
theorem calRotatedBy (z : Cz P w K mg base) : C8.Cal P w K mg base 1 "rotated_by" (spRot K) [] := by
  refine mkCal z.fRotatedBy z.gRotatedBy scRotatedBy bRotatedBy (fun vs H Q E h => ?_) fun cdv A outer s H vs Q E hr h => ?_
  · obtain ⟨a, c, rs, f, cs, rfl, _⟩ := h
    rfl
  · refine ⟨_, (pss_cons (ps_set (i := 2) scRotatedBy.nd rfl (Or.inl rfl) (pe_lst pa_nil))
  (pss_cons (ps_for PassesOwn.never rfl (pi_zip (by rfl) z.nzip (pa_cons (pv 0) (pa_cons (pv 1) pa_nil))) (pg_pair (i := 3) (j := 4) rfl scRotatedBy.nd rfl (Or.inl rfl) rfl (Or.inl rfl)) (pss_cons (ps_set (i := 5) scRotatedBy.nd rfl (Or.inl rfl) (pe_op op_modQ (pv 4) (pe_callB (call_max2Q rfl) (by rfl) z.nmax (by decide +kernel) (pa_cons pe_int (pa_cons (pe_callB call_lenQ (by rfl) z.nlen PySem.boot_len (pa_cons (pv 3) pa_nil)) pa_nil)))))
  (pss_one (ps_expr (pe_bm PySem.F.plainAttrs_list PySem.F.slot_list_append PySem.F.type_list_append mt_append (pv 2) (pa_cons (pe_op op_catQ (pe_slice sl_listQ (pv 3) (po_some (pv 5)) po_none) (pe_slice sl_listQ (pv 3) po_none (po_some (pv 5)))) pa_nil))))))
  (pss_one (ps_ret (pv 2))))), ?_⟩
    obtain ⟨a, c, rs, f, cs, rfl, hl, hc, hfc, h41, hrow, q⟩ := h
    refine ⟨Nat.zero_le _, fun D hD => ?_⟩
    have g1 : Gx (TK K) [] H (upd H D (.lst [])) := Gx.new hD
    have fD : Fr H D := Fr.of hD
    have hmin : min (List.map V.ref rs).length (iV (nI cs)).length = f.length := by
      rw [len_iV, len_nI, List.length_map, hl.len, List.length_map]
      omega
    refine ⟨_, rfl, _, rfl, a, c, _, _, rfl, SqL.of (g1.lst hl.top), SqL.of (g1.lst hc), for_gen gv_zip (fun i σ H2 => (∃ s3 s4 s5, σ = [some (.ref a), some (.ref c), some (.ref D), s3, s4, s5]) ∧ Gx (TK K) [] H H2 ∧ ∃ rs', LLm H2 D rs' (nL ((rotW f cs).take i)))
      ⟨⟨_, _, _, rfl⟩, g1, [], upd_same, rfl, by simp, fun i r xs h => by simp at h⟩ (fun i σ H2 _ p => ⟨SqL.of (p.2.1.lst hl.top), SqL.of (p.2.1.lst hc)⟩) (fun i x σ H2 H3 hi p y => ?_) fun σ H2 p => ?_⟩
    · obtain ⟨⟨s3, s4, s5, rfl⟩, g2, rs', l2⟩ := p
      obtain ⟨p, v1, v2, rfl, np, rfl, h1, h2⟩ := y
      rw [hmin] at hi
      obtain ⟨n, hn, rfl⟩ := get_nV h2
      rw [List.getElem?_map] at h1
      obtain ⟨r, hr, hrl, hrn⟩ := (hl.keep g2).row (v := i) hi
      rw [hr] at h1
      obtain rfl : v1 = V.ref r := (Option.some.inj h1).symm
      have en : cs.getD i 0 = n := by rw [List.getD_eq_getElem?_getD, hn]; rfl
      have g3 : Gx (TK K) [] H2 (upd H2 p (.tup [.ref r, .int (n : Nat)])) := Gx.new np
      have hrow' := hrow i
      have hm : 0 < max 1 (rw_ f i).length := by omega
      have l3 := l2.keep g3
      have et := rotW_take (f := f) (cs := cs) hi (by rw [← hfc]; exact hi)
      have er : rotL (rw_ f i) (cs.getD i 0) = (rw_ f i).drop (n % max 1 (rw_ f i).length) ++ (rw_ f i).take (n % max 1 (rw_ f i).length) := by rw [en]; rfl
      generalize ek : n % max 1 (rw_ f i).length = k at *
      refine pair_to upd_same ⟨_, rfl, _, rfl, lenL_to (g3.lst hrl) ?_⟩
      refine maxN_to ?_
      refine modN_to hm ?_
      rw [ek]
      refine ⟨_, rfl, .inl ⟨rfl, _, SqL.of l3.top⟩, _, rfl, _, rfl, _, rfl, slFrom_to (g3.lst hrl) fun p1 np1 => ?_⟩
      have g4 := g3.more (o := .lst (iV (nI ((rw_ f i).drop k)))) np1
      refine ⟨_, rfl, _, rfl, _, rfl, slTo_to (g4.lst hrl) fun p2 np2 => ?_⟩
      have g5 := g4.more (o := .lst (iV (nI ((rw_ f i).take k)))) np2
      refine catN_to (by rw [upd_ne (ne_of_none upd_same np2)]; exact upd_same) upd_same (by rw [List.length_drop, List.length_take]; omega) fun p3 np3 => ?_
      have g6 := g5.more (o := .lst (iV (nI ((rw_ f i).drop k ++ (rw_ f i).take k)))) np3
      have l6 := l2.keep g6
      have n3 := ((l2.keep g5)).fresh np3
      have hz : (rs'.map V.ref).length < sizeLine := by
        rw [List.length_map, l2.len, List.length_map, List.length_take]
        exact sl_le (by omega)
      refine ⟨D, _, _, rfl, rfl, l6.top, hz, ⟨_, _, _, rfl⟩, (g2.then g6).put (.inr fD) l6.top trivial, rs' ++ [p3], ?_⟩
      rw [et, er]
      have := l6.snoc (ys := nI ((rw_ f i).drop k ++ (rw_ f i).take k)) upd_same n3
      rw [show nL ((rotW f cs).take i ++ [(rw_ f i).drop k ++ (rw_ f i).take k]) = nL ((rotW f cs).take i) ++ [nI ((rw_ f i).drop k ++ (rw_ f i).take k)] from List.map_append ..]
      exact this
    · obtain ⟨⟨s3, s4, s5, rfl⟩, g2, rs', l2⟩ := p
      rw [hmin, List.take_of_length_le (by unfold rotW; rw [List.length_map, List.length_zip]; omega)] at l2
      exact ⟨_, rfl, q H2 D rs' g2 l2⟩
end
end K6

set_option Elab.async false
set_option linter.all false
set_option maxRecDepth 100000
set_option maxHeartbeats 4000000
/-! K6Wj: counts_after -/
namespace K6
open PySem PySem.Spec PyProof.Rows L2
theorem flat_rep (k : Nat) : (List.replicate k [V.int 0]).flatten = iV (nI (List.replicate k 0)) := by
  induction k with
  | zero => rfl
  | succ k ih =>
    rw [List.replicate_succ, List.flatten_cons, ih, List.replicate_succ]
    rfl
theorem dmN_to {c m : Nat} {H : Hp} {Q : VK} (hm : 0 < m) (hm2 : m ≤ 1000) (q : ∀ p, H p = none → Q (.ref p) (upd H p (.tup [.int ((c / m : Nat) : Int), .int ((c % m : Nat) : Int)]))) : rDmQ [.int ((c : Nat) : Int), .int ((m : Nat) : Int)] H Q :=
  ⟨_, _, rfl, ⟨by omega, by omega⟩, fun p hp => by
    have e : ((c : Nat) : Int) % ((m : Nat) : Int) = ((c % m : Nat) : Int) := by omega
    rw [e, ← Int.natCast_ediv]
    exact q p hp⟩
theorem cntRow_snoc (row : List Nat) (c : Nat) (S : List Nat) (s : Nat) (cs : List Nat) : cntRow row c (S ++ [s]) cs = (cntRow row c S cs).set s (cntOf row c s) := by
  unfold cntRow
  rw [List.foldl_append]
  rfl
theorem rep_nV (k x : Nat) (n : Nat) : V.int ((x : Nat) : Int) :: iV (nI (List.replicate k n)) = iV (nI (x :: List.replicate k n)) := rfl
section
variable {P : Program} {w : World} {K : PySem.W.Frag} {mg : Str → Option Value} {base : Heap}
def spCounts (K : PySem.W.Frag) : Sp := fun vs H Q _ => ∃ a wa rs pl f, ∃ d : Nat, vs = [.ref a, .ref wa, .int (d : Nat)] ∧ H a = some (.tup (iV (nI pl))) ∧ PlOk pl ∧ LLm H wa rs (nL f) ∧ f.length = pl.length + 1 ∧ (∀ v, (rw_ f v).length ≤ 41) ∧ d < 2 ^ 250 ∧
  ∀ H' D, Gx (TK K) [] H H' → H' D = some (.lst (iV (nI (counts pl f d)))) → Q (.ref D) H'
theorem calCountsAfter (z : Cz P w K mg base) : C8.Cal P w K mg base 2 "counts_after" (spCounts K) [] := by
  refine mkCal z.fCountsAfter z.gCountsAfter scCountsAfter bCountsAfter (fun vs H Q E h => ?_) fun cdv A outer s H vs Q E hr h => ?_
  · obtain ⟨a, wa, rs, pl, f, d, rfl, _⟩ := h
    rfl
  · refine ⟨_, (pss_cons (ps_set (i := 3) scCountsAfter.nd rfl (Or.inl rfl) (pe_op op_catQ (pe_lst (pa_cons (pv 2) pa_nil)) (pe_op op_rep (pe_lst (pa_cons pe_int pa_nil)) (pe_callB call_lenQ (by rfl) z.nlen PySem.boot_len (pa_cons (pv 0) pa_nil)))))
  (pss_cons (ps_for PassesOwn.never rfl (pi_enum (by rfl) z.nenumerate (pa_cons (C8.pe_c (calSupplierLists z) hr (by decide) rfl (pa_cons (pv 0) pa_nil)) pa_nil)) (pg_pair (i := 4) (j := 5) rfl scCountsAfter.nd rfl (Or.inl rfl) rfl (Or.inl rfl)) (pss_cons (ps_set (i := 6) scCountsAfter.nd rfl (Or.inl rfl) (pe_ix ix_list (pv 1) (pv 4) (fun _ _ => rfl)))
  (pss_cons (ps_asg (pe_callB call_dmQ (by rfl) z.ndivmod (by decide +kernel) (pa_cons (pe_ix ix_list (pv 3) (pv 4) (fun _ _ => rfl)) (pa_cons (pe_callB (call_max2Q rfl) (by rfl) z.nmax (by decide +kernel) (pa_cons pe_int (pa_cons (pe_callB call_lenQ (by rfl) z.nlen PySem.boot_len (pa_cons (pv 6) pa_nil)) pa_nil))) pa_nil))) (pg_pair (i := 7) (j := 8) rfl scCountsAfter.nd rfl (Or.inl rfl) rfl (Or.inl rfl)))
  (pss_one (ps_for PassesOwn.never rfl (pi_list (pv 5)) (pg_name (i := 9) scCountsAfter.nd rfl (Or.inl rfl)) (pss_one (ps_asg (pe_op op_add (pe_op op_mulQ (pv 7) (pe_bm PySem.F.plainAttrs_list PySem.F.slot_list_count PySem.F.type_list_count mt_lcntQ (pv 6) (pa_cons (pv 9) pa_nil))) (pe_bm PySem.F.plainAttrs_list PySem.F.slot_list_count PySem.F.type_list_count mt_lcntQ (pe_slice sl_listQ (pv 6) po_none (po_some (pv 8))) (pa_cons (pv 9) pa_nil))) (pg_sub (pv 3) (pv 9) set_list))))))))
  (pss_one (ps_ret (pv 3))))), ?_⟩
    obtain ⟨a, wa, rs, pl, f, d, rfl, ha, ok, hl, hfl, hrow, hd, q⟩ := h
    have h40 := ok.1
    refine ⟨_, rfl, by show 1 ≤ sizeLine; decide, fun p1 np1 => ?_⟩
    have g1 : Gx (TK K) [] H (upd H p1 (.lst [.int (d : Nat)])) := Gx.new np1
    refine ⟨by show 1 ≤ sizeLine; decide, fun p2 np2 => ?_⟩
    have g2 := g1.more (o := .lst [.int 0]) np2
    refine ⟨_, rfl, lenT_to (g2.tup ha) ?_⟩
    refine ⟨p2, _, _, rfl, rfl, upd_same, by omega, by omega, by rw [Int.toNat_natCast, sizeLine_eq]; simp; omega, fun p3 np3 => ?_⟩
    rw [Int.toNat_natCast, flat_rep]
    have g3 := g2.more (o := .lst (iV (nI (List.replicate pl.length 0)))) np3
    refine catN_to (row := [d]) (row2 := List.replicate pl.length 0) ?_ upd_same (by rw [List.length_replicate]; simp; omega) fun D nD => ?_
    · rw [upd_ne (ne_of_none (H := upd (upd H p1 (.lst [.int (d : Nat)])) p2 (.lst [.int 0])) (by rw [upd_ne (ne_of_none upd_same np2)]; exact upd_same) np3), upd_ne (ne_of_none upd_same np2)]
      exact upd_same
    have fD : Fr H D := g3.fr nD
    have g4 := g3.more (o := .lst (iV (nI ([d] ++ List.replicate pl.length 0)))) nD
    refine ⟨_, rfl, a, pl, rfl, g4.tup ha, ok, fun H5 Dl rl g5 l5 fl => ?_⟩
    have hD5 := g5.lst upd_same
    have hDl : D ≠ Dl ∧ D ∉ rl := ⟨((fl Dl (by simp)).lst upd_same).symm, fun hm => (fl D (List.mem_cons_of_mem _ hm)).lst upd_same rfl⟩
    have lsup : (List.map V.ref rl).length = pl.length + 1 := by rw [List.length_map, l5.len, List.length_map, supL_len]
    refine ⟨Dl, _, rfl, SqL.of l5.top, for_gen gv_enum (fun i σ H6 => (∃ s4 s5 s6 s7 s8 s9, σ = [some (.ref a), some (.ref wa), some (.int (d : Nat)), some (.ref D), s4, s5, s6, s7, s8, s9]) ∧ Gx (TK K) [] H H6 ∧ LLm H6 Dl rl (nL (supL pl)) ∧ H6 D = some (.lst (iV (nI (cntGo pl f i (d :: List.replicate pl.length 0))))))
      ⟨⟨_, _, _, _, _, _, rfl⟩, g4.then g5, l5, hD5⟩ (fun i σ H6 _ p => SqL.of p.2.2.1.top) (fun i x σ H6 H7 hi p y => ?_) fun σ H6 p => ?_⟩
    · obtain ⟨⟨s4, s5, s6, s7, s8, s9, rfl⟩, g6, l6, hD6⟩ := p
      obtain ⟨p, v, rfl, np, rfl, hv⟩ := y
      rw [lsup] at hi
      obtain ⟨r, hr, hrl⟩ := l6.sup (v := i) (by omega)
      rw [List.getElem?_map, hr] at hv
      obtain rfl : v = V.ref r := (Option.some.inj hv).symm
      have g7 : Gx (TK K) [] H6 (upd H6 p (.tup [.int (i : Nat), .ref r])) := Gx.new np
      obtain ⟨ro, hro, hrol6, _⟩ := (hl.keep g6).row (v := i) (by rw [hfl]; exact hi)
      have hrol := g7.lst hrol6
      have hD7 := g7.lst hD6
      obtain ⟨hal, hlen⟩ := cntGo_ok (pl := pl) f i _ (init_le d pl.length)
      rw [List.length_cons, List.length_replicate] at hlen
      have hrow' := hrow i
      have hm : 0 < max 1 (rw_ f i).length := by omega
      have hcd := hal.getD i
      have estep : cntGo pl f (i + 1) (d :: List.replicate pl.length 0) = cntRow (rw_ f i) ((cntGo pl f i (d :: List.replicate pl.length 0)).getD i 0) (sups pl i) (cntGo pl f i (d :: List.replicate pl.length 0)) := rfl
      rw [estep]
      generalize cntGo pl f i (d :: List.replicate pl.length 0) = cs at *
      refine pair_to upd_same ⟨_, rfl, _, rfl, wa, _, _, _, rfl, rfl, SqL.of ((hl.keep g6).keep g7).top, at_ref hro, _, rfl, _, rfl, D, _, _, _, rfl, rfl, SqL.of hD7, gt_nV (by rw [hlen]; exact hi), _, rfl, lenL_to hrol ?_⟩
      refine maxN_to ?_
      refine dmN_to hm (by omega) fun p4 np4 => ?_
      generalize cs.getD i 0 = c at *
      have g8 := g7.more (o := .tup [.int ((c / max 1 (rw_ f i).length : Nat) : Int), .int ((c % max 1 (rw_ f i).length : Nat) : Int)]) np4
      have hrl8 := g8.lst hrl
      have hrD : r ≠ D := fun e => hDl.2 (by rw [← e]; exact List.mem_of_getElem? hr)
      have l8 := l6.keep g8
      have hro8 := g8.lst hrol6
      have hroD : ro ≠ D := by
        intro e
        have h1 := (hl.row (v := i) (by rw [hfl]; exact hi))
        obtain ⟨r2, h2, h3, _⟩ := h1
        rw [hro] at h2
        cases h2
        exact fD.lst h3 e.symm
      refine pair_to upd_same ⟨_, rfl, r, rfl, ⟨_, SqL.of hrl8⟩, for_gen (gv_list (xs := iV (nI (sups pl i)))) (fun j σ H8 => (∃ s9, σ = [some (.ref a), some (.ref wa), some (.int (d : Nat)), some (.ref D), some (.int (i : Nat)), some (.ref r), some (.ref ro), some (.int ((c / max 1 (rw_ f i).length : Nat) : Int)), some (.int ((c % max 1 (rw_ f i).length : Nat) : Int)), s9]) ∧ LLm H8 Dl rl (nL (supL pl)) ∧ H8 ro = some (.lst (iV (nI (rw_ f i)))) ∧ Gx (TK K) [] H H8 ∧ H8 D = some (.lst (iV (nI (cntRow (rw_ f i) c ((sups pl i).take j) cs)))))
        ⟨⟨_, rfl⟩, l8, hro8, g6.then g8, ?_⟩ (fun j σ H8 _ pv => ?_) (fun j x σ H8 H9 hj pv y => ?_) fun σ H8 pv => ?_⟩
      · rw [List.take_zero]
        exact g8.lst hD6
      · obtain ⟨r2, h2, h3⟩ := pv.2.1.sup (v := i) (by omega)
        rw [hr] at h2
        cases h2
        exact SqL.of h3
      · obtain ⟨⟨s9, rfl⟩, l9, ho9, g9, hD9⟩ := pv
        obtain ⟨rfl, hx⟩ := y
        obtain ⟨o, ho, rfl⟩ := get_nV hx
        have hos := mem_sups.mp (List.mem_of_getElem? ho)
        have hq : c / max 1 (rw_ f i).length < 2 ^ 250 := Nat.lt_of_le_of_lt (Nat.div_le_self _ _) (Nat.lt_of_le_of_lt hcd hd)
        have hcn : (rw_ f i).count o < 2 ^ 250 := by
          have h1 : (rw_ f i).count o ≤ (rw_ f i).length := List.count_le_length
          have h2 : (41 : Nat) < 2 ^ 250 := by
            have : (2 : Nat) ^ 6 ≤ 2 ^ 250 := Nat.pow_le_pow_right (by decide) (by decide)
            omega
          omega
        refine ⟨_, rfl, _, rfl, .inl ⟨rfl, _, SqL.of ho9⟩, _, rfl, cntN_to ho9 ?_⟩
        refine mulN_to hq hcn ?_
        refine ⟨_, rfl, _, rfl, _, rfl, slTo_to ho9 fun p5 np5 => ?_⟩
        have g10 : Gx (TK K) [] H9 (upd H9 p5 (.lst (iV (nI ((rw_ f i).take (c % max 1 (rw_ f i).length)))))) := Gx.new np5
        refine ⟨.inl ⟨rfl, _, SqL.of upd_same⟩, _, rfl, cntN_to upd_same ?_⟩
        have hD10 := g10.lst hD9
        have hlr := (cntRow_ok (d := d) (rw_ f i) c hcd ((sups pl i).take j) cs hal).2
        refine ⟨_, _, rfl, rfl, _, rfl, _, rfl, D, _, _, o, rfl, rfl, hD10, ixN_nat (by rw [len_iV, len_nI, hlr, hlen]; omega), ⟨_, rfl⟩, (l9.keep g10).other hDl, ?_, (g9.then g10).put (.inr fD) hD10 trivial, ?_⟩
        · rw [upd_ne hroD]
          exact g10.lst ho9
        · rw [upd_same]
          show some (HO.lst ((iV (nI (cntRow (rw_ f i) c ((sups pl i).take j) cs))).set o (V.int (((c / max 1 (rw_ f i).length * (rw_ f i).count o : Nat) : Int) + ((((rw_ f i).take (c % max 1 (rw_ f i).length)).count o : Nat) : Int))))) = _
          rw [← Int.natCast_add, set_nV, List.take_add_one, ho]
          show some _ = some (HO.lst (iV (nI (cntRow (rw_ f i) c ((sups pl i).take j ++ [o]) cs))))
          rw [cntRow_snoc]
          rfl
      · obtain ⟨⟨s9, rfl⟩, l9, ho9, g9, hD9⟩ := pv
        refine ⟨⟨_, _, _, _, _, _, rfl⟩, g9, l9, ?_⟩
        rw [len_iV, len_nI, List.take_length] at hD9
        exact hD9
    · obtain ⟨⟨s4, s5, s6, s7, s8, s9, rfl⟩, g6, l6, hD6⟩ := p
      rw [lsup] at hD6
      exact ⟨_, rfl, q H6 D g6 hD6⟩
end
end K6

set_option Elab.async false
set_option linter.all false
set_option maxRecDepth 100000
set_option maxHeartbeats 4000000
/-! K6Wk: ranks_of_words -/
namespace K6
open PySem PySem.Spec PyProof.Rows L2
/-- a row is replaced by a new list -/
theorem LLm.setRow {H : Hp} {D p : Addr} {rs : List Addr} {xss : List (List Int)} {ys : List Int} {k : Nat} (l : LLm H D rs xss) (hp : H p = some (.lst (iV ys))) (n : p ≠ D ∧ p ∉ rs) (hk : k < rs.length) :
    LLm (upd H D (.lst ((rs.map V.ref).set k (V.ref p)))) D (rs.set k p) (xss.set k ys) := by
  obtain ⟨n1, n2⟩ := List.nodup_cons.mp l.nd
  have nD : D ∉ rs.set k p := fun h => by
    rcases List.mem_or_eq_of_mem_set h with q | q
    · exact n1 q
    · exact n.1 q.symm
  refine ⟨by rw [upd_same, List.map_set], by rw [List.length_set, List.length_set]; exact l.len, List.nodup_cons.mpr ⟨nD, ?_⟩, fun i r xs h1 h2 => ?_⟩
  · rw [List.nodup_iff_pairwise_ne, List.pairwise_iff_getElem]
    intro i j hi hj hij e
    rw [List.length_set] at hi hj
    rw [List.getElem_set, List.getElem_set] at e
    have hm : ∀ t (ht : t < rs.length), rs[t] ≠ p := fun t ht q => n.2 (by rw [← q]; exact List.getElem_mem ht)
    split at e <;> split at e
    · omega
    · exact hm j hj e.symm
    · exact hm i hi e
    · have := (List.getElem_inj n2).mp e
      omega
  · rw [upd_ne (fun e => nD (by rw [← e]; exact List.mem_of_getElem? h1))]
    by_cases e : k = i
    · subst e
      rw [List.getElem?_set_self hk] at h1
      rw [List.getElem?_set_self (by rw [← l.len]; exact hk)] at h2
      cases h1
      cases h2
      exact hp
    · rw [List.getElem?_set_ne e] at h1 h2
      exact l.it i r xs h1 h2
theorem LLm.freshF {H0 H : Hp} {D p : Addr} {rs : List Addr} {xss : List (List Int)} (l : LLm H0 D rs xss) (f : Fr H0 p) : p ≠ D ∧ p ∉ rs := by
  refine ⟨f.lst l.top, fun hm => ?_⟩
  obtain ⟨k, hk, e⟩ := List.mem_iff_getElem.mp hm
  exact f.lst (l.it k p (xss[k]'(by rw [← l.len]; exact hk)) (by rw [← e]; exact List.getElem?_eq_getElem hk) (List.getElem?_eq_getElem _)) rfl
theorem rev_nV (a : List Nat) : (iV (nI a)).reverse = iV (nI a.reverse) := by
  unfold iV nI
  rw [List.map_reverse, List.map_reverse]
theorem last_nV (t : List Nat) (h : Nat) : (iV (nI (h :: t).reverse))[(iV (nI (h :: t).reverse)).length - 1]? = some (V.int ((h : Nat) : Int)) ∧ (iV (nI (h :: t).reverse)).dropLast = iV (nI t.reverse) := by
  have e : iV (nI (h :: t).reverse) = iV (nI t.reverse) ++ [V.int ((h : Nat) : Int)] := by
    rw [List.reverse_cons, ← app_nV]
    rfl
  rw [e]
  constructor
  · rw [List.length_append, List.length_singleton, Nat.add_sub_cancel, List.getElem?_append_right (Nat.le_refl _), Nat.sub_self]
    rfl
  · rw [List.dropLast_concat]
theorem flat_nV (a : List Nat) : (iV (nI a)).all flatV = true := by
  rw [List.all_eq_true]
  intro x hx
  obtain ⟨y, _, rfl⟩ := List.mem_map.mp hx
  rfl
def setF {α : Type} (g : Nat → α) (o : Nat) (v : α) : Nat → α := fun y => if y = o then v else g y
theorem setF_same {α : Type} (g : Nat → α) (o : Nat) (v : α) : setF g o v o = v := if_pos rfl
theorem setF_ne {α : Type} (g : Nat → α) {o y : Nat} (v : α) (h : y ≠ o) : setF g o v y = g y := if_neg h
section
variable {P : Program} {w : World} {K : PySem.W.Frag} {mg : Str → Option Value} {base : Heap}
def spRkW (K : PySem.W.Frag) : Sp := fun vs H Q _ => ∃ a wa rs pl f, vs = [.ref a, .ref wa] ∧ H a = some (.tup (iV (nI pl))) ∧ PlOk pl ∧ LLm H wa rs (nL f) ∧ Wok pl f ∧
  ∀ H' D, Gx (TK K) [] H H' → H' D = some (.tup (iV (nI (rkW pl f)))) → Q (.ref D) H'
theorem calRanksOfWords (z : Cz P w K mg base) : C8.Cal P w K mg base 2 "ranks_of_words" (spRkW K) [] := by
  refine mkCal z.fRanksOfWords z.gRanksOfWords scRanksOfWords bRanksOfWords (fun vs H Q E h => ?_) fun cdv A outer s H vs Q E hr h => ?_
  · obtain ⟨a, wa, rs, pl, f, rfl, _⟩ := h
    rfl
  · have hu := hu_of hr
    refine ⟨_, (pss_cons (ps_set (i := 2) scRanksOfWords.nd rfl (Or.inl rfl) (C8.pe_c (calSupplierLists z) hr (by decide) rfl (pa_cons (pv 0) pa_nil)))
  (pss_cons (ps_set (i := 3) scRanksOfWords.nd rfl (Or.inr rfl) (pe_lc (own := [("station", 4)]) (g := gName 4) (tt := tYes) rfl scRanksOfWords.nd (pi_list (pv 1)) (blkOk_by (own := [("station", 4)]) (N := nRanksOfWords) (sc := defScope sRanksOfWords) (by decide +kernel)) (fun _ _ _ _ _ => (pg_name (i := 4) scRanksOfWords.nd rfl (Or.inl rfl))) (fun _ _ _ _ _ => pts_nil) (fun _ _ _ _ _ => (pe_lst pa_nil))))
  (pss_cons (ps_for PassesOwn.never rfl (pi_range3 rfl z.nrange (pa_cons (pe_op op_sub (pe_callB call_lenQ (by rfl) z.nlen PySem.boot_len (pa_cons (pv 1) pa_nil)) pe_int) (pa_cons (pe_un un_neg pe_int) (pa_cons (pe_un un_neg pe_int) pa_nil)))) (pg_name (i := 4) scRanksOfWords.nd rfl (Or.inl rfl)) (pss_cons (ps_set (i := 5) scRanksOfWords.nd rfl (Or.inr rfl) (pe_dc (own := [("supplier", 6)]) (g := gName 6) (tt := tYes) rfl scRanksOfWords.nd (pi_list (pe_ix ix_list (pv 2) (pv 4) (fun _ _ => rfl))) (blkOk_by (own := [("supplier", 6)]) (N := nRanksOfWords) (sc := defScope sRanksOfWords) (by decide +kernel)) (fun _ _ _ _ _ => (pg_name (i := 6) scRanksOfWords.nd rfl (Or.inl rfl))) (fun _ _ _ _ _ => pts_nil) (fun _ _ _ _ _ => (pv 6)) (fun _ _ _ _ _ => ((pe_listRev (by rfl) (by rfl) z.nlist (by rfl) z.nreversed (pe_ix (r := rIxL K) ix_list (pv 3) (pv 6) (fun _ _ => rfl))) : PE _ _ (tListRev K _)))))
  (pss_one (ps_asg (pe_op op_catQ (pe_lst (pa_cons (pv 4) pa_nil)) (pe_lc (own := [("supplier", 6)]) (g := gName 6) (tt := tYes) rfl scRanksOfWords.nd (pi_list (pe_ix ix_list (pv 1) (pv 4) (fun _ _ => rfl))) (blkOk_by (own := [("supplier", 6)]) (N := nRanksOfWords) (sc := defScope sRanksOfWords) (by decide +kernel)) (fun _ _ _ _ _ => (pg_name (i := 6) scRanksOfWords.nd rfl (Or.inl rfl))) (fun _ _ _ _ _ => pts_nil) (fun _ _ _ _ _ => ((pe_bm0 PySem.F.plainAttrs_list PySem.F.slot_list_pop PySem.F.type_list_pop mt_pop (pe_dget hu (pv 5) (pv 6) (fun _ _ => rfl))) : PE _ _ (tBM0 K "list" rPop _))))) (pg_sub (pv 3) (pv 4) set_list)))))
  (pss_one (ps_ret (pe_callTy call_tupQ (by rfl) z.ntuple (by decide +kernel) (pa_cons (pe_lc (own := [("station", 4)]) (g := gName 4) (tt := tYes) rfl scRanksOfWords.nd (pi_range1 rfl z.nrange (pa_cons (pe_callB call_lenQ (by rfl) z.nlen PySem.boot_len (pa_cons (pv 1) pa_nil)) pa_nil)) (blkOk_by (own := [("station", 4)]) (N := nRanksOfWords) (sc := defScope sRanksOfWords) (by decide +kernel)) (fun _ _ _ _ _ => (pg_name (i := 4) scRanksOfWords.nd rfl (Or.inl rfl))) (fun _ _ _ _ _ => pts_nil) (fun _ _ _ _ _ => ((pe_bm PySem.F.plainAttrs_list PySem.F.slot_list_index PySem.F.type_list_index mt_index (pe_ix (r := rIxL K) ix_list (pv 3) pe_int (fun _ _ => rfl)) (pa_cons (pv 4) pa_nil)) : PE _ _ (tBM K "list" (rIndex K) _ _)))) pa_nil))))))), ?_⟩
    obtain ⟨a, wa, rs, pl, f, rfl, ha, ok, hl, wok, q⟩ := h
    have h40 := ok.1
    have hlr : (rs.map V.ref).length = pl.length + 1 := by rw [List.length_map, hl.len, List.length_map, wok.len]
    refine ⟨_, rfl, a, pl, rfl, ha, ok, fun H1 Dl rl g1 l1 fl => ?_⟩
    have hl1 := hl.keep g1
    refine ⟨_, rfl, wa, rfl, ⟨_, SqL.of hl1.top⟩, fun D hD => lc_nils (T := TK K) gv_list (fun _ _ _ _ y => y.1) hD (fun _ g => SqL.of (hl1.keep g).top) (by rw [hlr]; omega) (fun _ => rfl) fun H2 rd g2 l2 f2 => ?_⟩
    rw [hlr] at l2
    have e0 : List.replicate (pl.length + 1) ([] : List Int) = nL (List.replicate (pl.length + 1) []) := by
      show _ = List.map nI _
      rw [List.map_replicate]
      rfl
    rw [e0] at l2
    have fD : Fr H D := g1.fr hD
    have pf := l1.fresh hD
    refine ⟨_, rfl, lenR_to (hl1.keep g2).top ?_⟩
    have hrl : rs.length = pl.length + 1 := by rw [← hlr, List.length_map]
    rw [hrl]
    refine ⟨_, _, rfl, rfl, _, rfl, _, rfl, _, _, _, _, rfl, RgC.neg (by omega) (by omega) (by decide) (by decide), for_gen (gv_rangeC (n := (((pl.length + 1 : Nat) : Int) - 1 - -1).toNat)) (fun i σ H3 => (∃ s4 s5, σ = [some (.ref a), some (.ref wa), some (.ref Dl), some (.ref D), s4, s5, none]) ∧ Gx (TK K) [] H H3 ∧ LLm H3 Dl rl (nL (supL pl)) ∧ ∃ ps rd, LLm H3 D rd (nL ps) ∧ Pk pl f (pl.length + 1 - i) ps ∧ partGo f (pl.length + 1 - i) ps = parts pl f)
      ⟨⟨_, _, rfl⟩, g1.then g2, l1.keep g2, List.replicate (pl.length + 1) [], rd, l2, ⟨by rw [List.length_replicate], fun v h1 h2 => by omega, fun v h1 h2 => by omega, fun s h1 h2 h3 => by have := cu_lt ok h1 h2; omega⟩, rfl⟩ (fun _ _ _ _ _ => trivial) (fun i x σ H3 H4 hi p y => ?_) fun σ H3 p => ?_⟩
    · obtain ⟨⟨s4, s5, rfl⟩, g3, l3, ps, rd, l4, pk, he⟩ := p
      obtain ⟨rfl, hx⟩ := y
      have hin : i < pl.length + 1 := by omega
      obtain ⟨k, hk⟩ : ∃ k, k = pl.length - i := ⟨_, rfl⟩
      obtain rfl : x = .int ((k : Nat) : Int) := by
        rw [hx]
        congr 1
        omega
      have e1 : pl.length + 1 - i = k + 1 := by omega
      have e2 : pl.length + 1 - (i + 1) = k := by omega
      rw [e1] at pk he
      rw [e2]
      have hkl : k ≤ pl.length := by omega
      obtain ⟨r, hr, hrl⟩ := l3.sup hkl
      obtain ⟨ro, hro, hrol, _⟩ := (hl.keep g3).row (v := k) (by rw [wok.len]; omega)
      have hslen := sups_len pl k
      -- the dict of what waits
      refine ⟨_, rfl, _, rfl, Dl, _, _, _, rfl, rfl, SqL.of l3.top, at_ref hr, r, rfl, ⟨_, SqL.of hrl⟩, fun Dd nDd => ?_⟩
      refine dc_gen (gv_list (xs := iV (nI (sups pl k)))) (fun j H5 => Gx (TK K) [] H4 H5 ∧ ∃ (ad : Nat → Addr) (kvs : List (Key × V)), H5 Dd = some (.dK kvs) ∧ kvs.length ≤ j ∧ (∀ (m : Nat) x, m < j → (sups pl k)[m]? = some x → valV kvs (Sum.inl ((x : Nat) : Int)) = some (.ref (ad x)) ∧ H5 (ad x) = some (.lst (iV (nI (rw_ ps x).reverse))) ∧ Fr H4 (ad x)) ∧
          ∀ (m1 m2 : Nat) x1 x2, m1 < j → m2 < j → (sups pl k)[m1]? = some x1 → (sups pl k)[m2]? = some x2 → ad x1 = ad x2 → x1 = x2)
        ⟨Gx.new nDd, fun _ => 0, [], upd_same, Nat.le_refl _, fun m x hm => absurd hm (Nat.not_lt_zero _), fun m1 m2 x1 x2 hm => absurd hm (Nat.not_lt_zero _)⟩ (fun j H5 _ pv => SqL.of (pv.1.lst hrl)) (fun j x H5 H6 hj pv y => ?_) fun H5 pv => ?_
      · obtain ⟨g5, ad, kvs, hk5, kl5, hv5, hi5⟩ := pv
        obtain ⟨rfl, hx2⟩ := y
        obtain ⟨o, ho, rfl⟩ := get_nV hx2
        have hos := mem_sups.mp (List.mem_of_getElem? ho)
        have hjl : j < (sups pl k).length := (List.getElem?_eq_some_iff.mp ho).1
        have l5 := l4.keep g5
        obtain ⟨rp, hrp, hrpl, _⟩ := l5.row (v := o) (by rw [pk.len]; omega)
        refine ⟨rfl, iteT (B := True) ⟨_, rfl, _, rfl, _, rfl, D, _, _, _, rfl, rfl, SqL.of l5.top, at_ref hrp, rp, _, rfl, SqL.of hrpl, fun qn nq => ?_⟩⟩
        rw [rev_nV]
        have g6 := Gx.new (T := TK K) (o := .lst (iV (nI (rw_ ps o).reverse))) nq
        have hk6 := g6.dK hk5
        have hnq : Dd ≠ qn := ne_of_none hk5 nq
        refine ⟨kvs, Sum.inl ((o : Nat) : Int), rfl, hk6, sl_le (by omega), (g5.then g6).put (.inr (Fr.of nDd)) hk6 trivial, setF ad o qn, _, upd_same, Nat.le_trans (putK_le _ _ _) (Nat.succ_le_succ kl5), fun m x hm hx3 => ?_, fun m1 m2 x1 x2 h1 h2 h3 h4 h5 => ?_⟩
        · by_cases e : x = o
          · subst e
            refine ⟨?_, ?_, ?_⟩
            · rw [valV_put, if_pos rfl, setF_same]
            · rw [setF_same, upd_ne (Ne.symm hnq)]
              exact upd_same
            · rw [setF_same]
              exact g5.fr nq
          · have hmj : m < j := by
              by_cases e2 : m = j
              · subst e2
                rw [ho] at hx3
                exact absurd (Option.some.inj hx3).symm e
              · omega
            obtain ⟨a1, a2, a3⟩ := hv5 m x hmj hx3
            refine ⟨?_, ?_, ?_⟩
            · rw [valV_put, if_neg (fun z => e (by have := Sum.inl.inj z; omega)), a1, setF_ne _ _ e]
            · rw [setF_ne _ _ e, upd_ne (fun z => by rw [z, hk5] at a2; cases a2)]
              exact g6.lst a2
            · rw [setF_ne _ _ e]
              exact a3
        · have key : ∀ (m : Nat) x, m < j + 1 → (sups pl k)[m]? = some x → x ≠ o → m < j := fun m x hm hx3 e => by
            by_cases e2 : m = j
            · subst e2
              rw [ho] at hx3
              exact absurd (Option.some.inj hx3).symm e
            · omega
          by_cases c1 : x1 = o <;> by_cases c2 : x2 = o
          · rw [c1, c2]
          · rw [c1, setF_same, setF_ne _ _ c2] at h5
            obtain ⟨a1, a2, a3⟩ := hv5 m2 x2 (key m2 x2 h2 h4 c2) h4
            rw [← h5, nq] at a2
            cases a2
          · rw [c2, setF_same, setF_ne _ _ c1] at h5
            obtain ⟨a1, a2, a3⟩ := hv5 m1 x1 (key m1 x1 h1 h3 c1) h3
            rw [h5, nq] at a2
            cases a2
          · rw [setF_ne _ _ c1, setF_ne _ _ c2] at h5
            exact hi5 m1 m2 x1 x2 (key m1 x1 h1 h3 c1) (key m2 x2 h2 h4 c2) h3 h4 h5
      · obtain ⟨g5, ad, kvs, hk5, kl5, hv5, hi5⟩ := pv
        have hsl : (iV (nI (sups pl k))).length = (sups pl k).length := by rw [len_iV, len_nI]
        rw [hsl] at hv5 hi5 kl5
        have hv : ∀ x ∈ sups pl k, valV kvs (Sum.inl ((x : Nat) : Int)) = some (.ref (ad x)) ∧ H5 (ad x) = some (.lst (iV (nI (rw_ ps x).reverse))) ∧ Fr H4 (ad x) := fun x hx => by
          obtain ⟨m, hm, e⟩ := List.mem_iff_getElem.mp hx
          exact hv5 m x hm (by rw [← e]; exact List.getElem?_eq_getElem hm)
        have hinj : ∀ x1 ∈ sups pl k, ∀ x2 ∈ sups pl k, ad x1 = ad x2 → x1 = x2 := fun x1 h1 x2 h2 e => by
          obtain ⟨m1, hm1, e1⟩ := List.mem_iff_getElem.mp h1
          obtain ⟨m2, hm2, e2⟩ := List.mem_iff_getElem.mp h2
          exact hi5 m1 m2 x1 x2 hm1 hm2 (by rw [← e1]; exact List.getElem?_eq_getElem hm1) (by rw [← e2]; exact List.getElem?_eq_getElem hm2) e
        have fDd : Fr H4 Dd := Fr.of nDd
        refine ⟨_, rfl, by show 1 ≤ sizeLine; decide, fun p1 np1 => ?_⟩
        have g6 := g5.more (o := .lst [V.int ((k : Nat) : Int)]) np1
        have fp1 : Fr H4 p1 := g5.fr np1
        have hro6 := g6.lst hrol
        have hk6 : upd H5 p1 (.lst [V.int ((k : Nat) : Int)]) Dd = some (.dK kvs) := by rw [upd_ne (ne_of_none hk5 np1)]; exact hk5
        have hq6 : ∀ x ∈ sups pl k, upd H5 p1 (.lst [V.int ((k : Nat) : Int)]) (ad x) = some (.lst (iV (nI (rw_ ps x).reverse))) := fun x hx => by
          rw [upd_ne (ne_of_none (hv x hx).2.1 np1)]
          exact (hv x hx).2.1
        have nap1 : ∀ x ∈ sups pl k, ad x ≠ p1 := fun x hx => ne_of_none (hv x hx).2.1 np1
        refine ⟨_, rfl, _, rfl, wa, _, _, _, rfl, rfl, SqL.of ((hl.keep g3).keep g6).top, at_ref hro, ro, rfl, ⟨_, SqL.of hro6⟩, fun Dc nDc => ?_⟩
        have fDc : Fr H4 Dc := g6.fr nDc
        refine lc_gen (gv_list (xs := iV (nI (rw_ f k)))) (fun j H7 => Gx (TK K) [] H4 H7 ∧ H7 Dd = some (.dK kvs) ∧ H7 p1 = some (.lst [V.int ((k : Nat) : Int)]) ∧ ∃ (qs : Nat → List Nat) (acc : List Nat), H7 Dc = some (.lst (iV (nI acc))) ∧ acc.length = j ∧ acc ++ takeQ qs ((rw_ f k).drop j) = takeQ (fun s => rw_ ps s) (rw_ f k) ∧ (∀ x ∈ sups pl k, H7 (ad x) = some (.lst (iV (nI (qs x).reverse)))) ∧ ∀ x ∈ sups pl k, ((rw_ f k).drop j).count x ≤ (qs x).length)
          ⟨g6.more nDc, by rw [upd_ne (ne_of_none hk6 nDc)]; exact hk6, by rw [upd_ne (ne_of_none upd_same nDc)]; exact upd_same, fun s => rw_ ps s, [], upd_same, rfl, rfl, fun x hx => by rw [upd_ne (ne_of_none (hq6 x hx) nDc)]; exact hq6 x hx, fun x hx => by
            obtain ⟨h1, h2, h3⟩ := mem_sups.mp hx
            have h4 := wok.cnt x h1 h2
            rw [h3] at h4
            rw [List.drop_zero, h4, pk.sz x (by have := sups_gt ok hx; omega) h2]
            exact Nat.le_refl _⟩ (fun j H7 _ pv => SqL.of (pv.1.lst hrol)) (fun j x H7 H8 hj pv y => ?_) fun H7 pv => ?_
        · obtain ⟨g7, hk7, hp7, qs, acc, hc7, hacc, htk, hq7, hct⟩ := pv
          obtain ⟨rfl, hx3⟩ := y
          obtain ⟨o, ho, rfl⟩ := get_nV hx3
          have hom := wok.mem k o (List.mem_of_getElem? ho)
          have hdr : (rw_ f k).drop j = o :: (rw_ f k).drop (j + 1) := by
            rw [List.drop_eq_getElem_cons (List.getElem?_eq_some_iff.mp ho).1, (List.getElem?_eq_some_iff.mp ho).2]
          have hlen1 : 1 ≤ (qs o).length := by
            have := hct o hom
            rw [hdr, List.count_cons_self] at this
            omega
          obtain ⟨hd, tl, hqo⟩ : ∃ hd tl, qs o = hd :: tl := by
            cases e : qs o with
            | nil => rw [e] at hlen1; simp at hlen1
            | cons x y => exact ⟨x, y, rfl⟩
          have hqa := hq7 o hom
          rw [hqo] at hqa
          obtain ⟨la1, la2⟩ := last_nV tl hd
          have hget := DGet.k (k := (Sum.inl ((o : Nat) : Int) : Key)) hk7
          rw [(hv o hom).1] at hget
          refine ⟨rfl, iteT (B := True) ⟨_, rfl, _, rfl, Dd, _, rfl, hget, .inl ⟨rfl, _, SqL.of hqa⟩, ad o, _, _, rfl, rfl, hqa, la1, ?_⟩⟩
          rw [la2]
          have g8 := g7.put (o := .lst (iV (nI tl.reverse))) (.inr (hv o hom).2.2) hqa trivial
          have nDcA : Dc ≠ ad o := fun e => by
            rw [e, hq6 o hom] at nDc
            cases nDc
          have hc8 : upd H8 (ad o) (.lst (iV (nI tl.reverse))) Dc = some (.lst (iV (nI acc))) := by rw [upd_ne nDcA]; exact hc7
          have nDdA : Dd ≠ ad o := fun e => by
            rw [e, hqa] at hk7
            cases hk7
          have nDdc : Dd ≠ Dc := fun e => by
            rw [e, hc7] at hk7
            cases hk7
          have np1c : p1 ≠ Dc := ne_of_none (H := upd H5 p1 (.lst [V.int ((k : Nat) : Int)])) upd_same nDc
          have hfl := wok.le k
          refine ⟨_, hc8, by rw [len_iV, len_nI, hacc]; rw [len_iV, len_nI] at hj; exact sl_le (by omega), g8.put (.inr fDc) hc8 trivial, ?_, ?_, setF qs o tl, acc ++ [hd], ?_, by rw [List.length_append, hacc]; rfl, ?_, fun x hx => ?_, fun x hx => ?_⟩
          · rw [upd_ne nDdc, upd_ne nDdA]
            exact hk7
          · rw [upd_ne np1c, upd_ne (Ne.symm (nap1 o hom))]
            exact hp7
          · rw [upd_same, iV_snoc, nI_snoc]
          · rw [← htk, hdr, takeQ, hqo, List.append_assoc]
            rfl
          · have nxc : ad x ≠ Dc := fun e => by
              have := hq6 x hx
              rw [e, nDc] at this
              cases this
            rw [upd_ne nxc]
            by_cases e : x = o
            · subst e
              rw [setF_same, upd_same]
            · rw [setF_ne _ _ e, upd_ne (fun z => e (hinj x hx o hom z))]
              exact hq7 x hx
          · have h1 := hct x hx
            rw [hdr] at h1
            by_cases e : x = o
            · subst e
              rw [List.count_cons_self, hqo, List.length_cons] at h1
              rw [setF_same]
              omega
            · rw [List.count_cons_of_ne (fun z => e z.symm)] at h1
              rw [setF_ne _ _ e]
              exact h1
        · obtain ⟨g7, hk7, hp7, qs, acc, hc7, hacc, htk, hq7, hct⟩ := pv
          have hfl := wok.le k
          rw [len_iV, len_nI] at hacc htk
          rw [List.drop_length, takeQ, List.append_nil] at htk
          refine catN_to (row := [k]) (row2 := acc) hp7 hc7 (by rw [hacc, List.length_singleton]; omega) fun p9 np9 => ?_
          have g9 := g7.more (o := .lst (iV (nI ([k] ++ acc)))) np9
          have l9 := l4.keep g9
          have hn9 := (l4.keep g7).fresh np9
          have hkr : k < rd.length := by rw [l4.len, List.length_map, pk.len]; omega
          refine ⟨_, rfl, _, rfl, D, _, _, k, rfl, rfl, l9.top, ixN_nat (by rw [List.length_map]; exact hkr), ⟨_, _, rfl⟩, (g3.then g9).put (.inr fD) l9.top trivial, (l3.keep g9).other pf, ps.set k (k :: takeQ (fun s => rw_ ps s) (rw_ f k)), rd.set k p9, ?_, pk.step ok wok hkl, ?_⟩
          · rw [← nL_set, ← htk]
            exact l9.setRow upd_same hn9 hkr
          · rw [← he]
            rfl
    · obtain ⟨⟨s4, s5, rfl⟩, g3, l3, ps, rd, l4, pk, he⟩ := p
      have ez : pl.length + 1 - (((pl.length + 1 : Nat) : Int) - 1 - -1).toNat = 0 := by omega
      rw [ez] at pk he
      have he : ps = parts pl f := he
      rw [he] at l4 pk
      refine ⟨_, rfl, lenR_to (hl.keep g3).top ?_⟩
      rw [hrl]
      obtain ⟨r0, hr0, hrl0, _⟩ := l4.row (v := 0) (by rw [pk.len]; omega)
      refine ⟨_, rfl, by omega, by omega, fun D2 nD2 => lc_map (T := TK K) (gv_range (n := (((pl.length + 1 : Nat) : Int)).toNat)) nD2 (fun _ _ => trivial) (by omega) (iV (nI (rkW pl f))) (by rw [len_iV, len_nI, rkW_len]; omega) (fun i x y H4 H5 Ny hi g4 hy hys hN => ?_) mono_name fun H4 g4 hD4 => ?_⟩
      · obtain ⟨rfl, hx⟩ := hy
        obtain rfl : x = .int ((i : Nat) : Int) := by
          rw [hx]
          congr 1
          omega
        obtain ⟨m, hm, rfl⟩ := get_nV hys
        have em : m = (rw_ (parts pl f) 0).idxOf i := by
          unfold rkW at hm
          rw [List.getElem?_map, List.getElem?_range (by omega)] at hm
          exact (Option.some.inj hm).symm
        have hmem := parts_all ok wok i (by omega)
        have hlt := List.idxOf_lt_length_iff.mpr hmem
        have hgi := List.getElem_idxOf hlt
        simp only [← em] at hlt hgi
        have l5 := l4.keep g4
        have hz : (iV (nI (rw_ (parts pl f) 0)))[m]? = some (V.int ((i : Nat) : Int)) := by
          rw [List.getElem?_map, List.getElem?_map, List.getElem?_eq_getElem hlt, hgi]
          rfl
        refine ⟨rfl, _, rfl, D, _, 0, _, rfl, rfl, SqL.of l5.top, at_ref hr0, .inl ⟨rfl, _, SqL.of (g4.lst hrl0)⟩, _, rfl, r0, _, _, m, _, rfl, rfl, SqL.of (g4.lst hrl0), rfl, flat_nV _, hz, by simp [eqV], fun t z' ht hz' => ?_, hN _ Gx.refl⟩
        obtain ⟨n, hn, rfl⟩ := get_nV hz'
        have hne : n ≠ i := fun e => by
          subst e
          have h1 := List.not_of_lt_findIdx (p := fun x => x == n) (xs := rw_ (parts pl f) 0) (i := t) (by
            rw [em] at ht
            exact ht)
          have h2 := (List.getElem?_eq_some_iff.mp hn).2
          rw [h2] at h1
          simp at h1
        show (((n : Nat) : Int) == ((i : Nat) : Int)) = false
        rw [beq_eq_false_iff_ne]
        omega
      · refine ⟨D2, _, rfl, .inl ⟨SqL.of hD4, fun p3 np3 => ?_⟩⟩
        exact q _ p3 ((g3.then g4).more np3) upd_same
end
end K6

set_option Elab.async false
set_option linter.all false
set_option maxRecDepth 100000
set_option maxHeartbeats 4000000
/-! K6Wl: period_of, length_of, cycle_length -/
namespace K6
open PySem PySem.Spec PyProof.Rows L2
theorem dpAll_ints {K : PySem.W.Frag} {H : Hp} : ∀ ns : List Int, DpAll K H (iV ns) (ns.map PyData.int)
  | [] => .nil
  | n :: r => .cons (.int n) (dpAll_ints r)
theorem eqv_ints (a b : List Int) : PyData.eqv (.list (a.map PyData.int)) (.list (b.map PyData.int)) = decide (a = b) := by
  rw [PyData.eqv]
  exact PySem.W.ked_eqvAll a b
theorem nI_inj {a b : List Nat} (h : nI a = nI b) : a = b := by
  induction a generalizing b with
  | nil =>
    cases b with
    | nil => rfl
    | cons y t => cases h
  | cons x r ih =>
    cases b with
    | nil => cases h
    | cons y t =>
      have h1 : ((x : Nat) : Int) :: nI r = ((y : Nat) : Int) :: nI t := h
      injection h1 with h2 h3
      rw [ih h3]
      congr 1
      omega
section
variable {P : Program} {w : World} {K : PySem.W.Frag} {mg : Str → Option Value} {base : Heap}
def spPer (K : PySem.W.Frag) : Sp := fun vs H Q _ => ∃ r row, vs = [.ref r] ∧ H r = some (.lst (iV (nI row))) ∧ row.length ≤ 41 ∧ ∀ H', Gx (TK K) [] H H' → Q (.int (perOf row : Nat)) H'
theorem calPeriodOf (z : Cz P w K mg base) : C8.Cal P w K mg base 1 "period_of" (spPer K) [] := by
  refine mkCal z.fPeriodOf z.gPeriodOf scPeriodOf bPeriodOf (fun vs H Q E h => ?_) fun cdv A outer s H vs Q E hr h => ?_
  · obtain ⟨r, row, rfl, _⟩ := h
    rfl
  · refine ⟨_, (pss_cons (ps_for PassesOwn.never rfl (pi_range2 rfl z.nrange (pa_cons pe_int (pa_cons (pe_callB call_lenQ (by rfl) z.nlen PySem.boot_len (pa_cons (pv 0) pa_nil)) pa_nil))) (pg_name (i := 1) scPeriodOf.nd rfl (Or.inl rfl)) (pss_one (ps_if (pt_cmpR (op_eqD hr.units) (pe_op op_catQ (pe_slice sl_listQ (pv 0) (po_some (pv 1)) po_none) (pe_slice sl_listQ (pv 0) po_none (po_some (pv 1)))) (pv 0) (nomark _)) (pss_one (ps_ret (pv 1))) pss_nil)))
  (pss_one (ps_ret (pe_callB (call_max2Q rfl) (by rfl) z.nmax (by decide +kernel) (pa_cons pe_int (pa_cons (pe_callB call_lenQ (by rfl) z.nlen PySem.boot_len (pa_cons (pv 0) pa_nil)) pa_nil)))))), ?_⟩
    obtain ⟨r, row, rfl, hr1, h41, q⟩ := h
    refine ⟨_, rfl, lenL_to hr1 ?_⟩
    refine ⟨_, _, rfl, ⟨by decide, by decide, by omega, by omega⟩, for_gen (gv_range (n := (((row.length : Nat) : Int) - 1).toNat)) (fun i σ H2 => (∃ s1, σ = [some (.ref r), s1]) ∧ Gx (TK K) [] H H2 ∧ perOf row = perGo row (row.length - 1 - i) (1 + i)) ⟨⟨_, rfl⟩, Gx.refl, rfl⟩ (fun _ _ _ _ _ => trivial) (fun i x σ H2 H3 hi p y => ?_) fun σ H2 p => ?_⟩
    · obtain ⟨⟨s1, rfl⟩, g2, he⟩ := p
      obtain ⟨rfl, hx⟩ := y
      obtain rfl : x = .int ((1 + i : Nat) : Int) := by
        rw [hx]
        congr 1
      have hr2 := g2.lst hr1
      refine ⟨_, rfl, _, rfl, _, rfl, slFrom_to hr2 fun p1 np1 => ?_⟩
      have g3 := Gx.new (T := TK K) (o := .lst (iV (nI (row.drop (1 + i))))) np1
      refine ⟨_, rfl, _, rfl, _, rfl, slTo_to (g3.lst hr2) fun p2 np2 => ?_⟩
      have g4 := g3.more (o := .lst (iV (nI (row.take (1 + i))))) np2
      refine catN_to (by rw [upd_ne (ne_of_none upd_same np2)]; exact upd_same) upd_same (by rw [List.length_drop, List.length_take]; omega) fun p3 np3 => ?_
      have g5 := g4.more (o := .lst (iV (nI (row.drop (1 + i) ++ row.take (1 + i))))) np3
      refine ⟨_, rfl, _, _, Dp.lst (SqL.of upd_same) (dpAll_ints _), Dp.lst (SqL.of (g5.lst hr2)) (dpAll_ints _), PySem.W.ke_shaped_ints _, PySem.W.ke_shaped_ints _, _, rfl, ?_⟩
      rw [eqv_ints]
      have ek : row.length - 1 - i = (row.length - 1 - (i + 1)) + 1 := by omega
      rw [ek, perGo] at he
      by_cases h : row.drop (1 + i) ++ row.take (1 + i) = row
      · rw [decide_eq_true (by rw [h])]
        rw [if_pos (show rotAt row (1 + i) = row from h)] at he
        have q2 := q _ (g2.then g5)
        rw [he] at q2
        exact iteT ⟨_, rfl, q2⟩
      · rw [decide_eq_false (fun e => h (nI_inj e))]
        rw [if_neg (show ¬ rotAt row (1 + i) = row from h)] at he
        exact iteF ⟨⟨_, rfl⟩, g2.then g5, he⟩
    · obtain ⟨⟨s1, rfl⟩, g2, he⟩ := p
      have ez : row.length - 1 - (((row.length : Nat) : Int) - 1).toNat = 0 := by omega
      rw [ez, perGo] at he
      refine ⟨_, rfl, lenL_to (g2.lst hr1) ?_⟩
      have q2 := q _ g2
      rw [he] at q2
      exact maxN_to q2
def spLenOf (K : PySem.W.Frag) : Sp := fun vs H Q _ => ∃ a b pl o, vs = [.ref a, .ref b] ∧ PS2 H a b pl o ∧ LamX.Tabs (TK K) H ∧ ∀ H', Gx (TK K) [] H H' → Q (.int (lenOf pl (words pl (ordL o)) : Nat)) H'
theorem big_lt : big < 2 ^ 250 := by
  unfold big
  decide
theorem small_lt {n : Nat} (h : n ≤ 1000) : n < 2 ^ 250 := Nat.lt_of_le_of_lt h (by decide)
theorem calLengthOf (z : Cz P w K mg base) : C8.Cal P w K mg base 4 "length_of" (spLenOf K) [] := by
  refine mkCal z.fLengthOf z.gLengthOf scLengthOf bLengthOf (fun vs H Q E h => ?_) fun cdv A outer s H vs Q E hr h => ?_
  · obtain ⟨a, b, pl, o, rfl, _⟩ := h
    rfl
  · refine ⟨_, (pss_cons (ps_set (i := 2) scLengthOf.nd rfl (Or.inl rfl) (C8.pe_c (calWordTable z) hr (by decide) rfl (pa_cons (pv 0) (pa_cons (C8.pe_c (calRanks z) hr (by decide) rfl (pa_cons (pv 1) pa_nil)) pa_nil))))
  (pss_cons (ps_set (i := 3) scLengthOf.nd rfl (Or.inl rfl) (C8.pe_c (calSupplierLists z) hr (by decide) rfl (pa_cons (pv 0) pa_nil)))
  (pss_cons (ps_set (i := 4) scLengthOf.nd rfl (Or.inl rfl) (pe_op op_rep (pe_lst (pa_cons pe_int pa_nil)) (pe_callB call_lenQ (by rfl) z.nlen PySem.boot_len (pa_cons (pv 2) pa_nil))))
  (pss_cons (ps_for PassesOwn.never rfl (pi_range3 rfl z.nrange (pa_cons (pe_op op_sub (pe_callB call_lenQ (by rfl) z.nlen PySem.boot_len (pa_cons (pv 2) pa_nil)) pe_int) (pa_cons (pe_un un_neg pe_int) (pa_cons (pe_un un_neg pe_int) pa_nil)))) (pg_name (i := 5) scLengthOf.nd rfl (Or.inl rfl)) (pss_cons (ps_set (i := 6) scLengthOf.nd rfl (Or.inl rfl) (pe_ix ix_list (pv 2) (pv 5) (fun _ _ => rfl)))
  (pss_cons (ps_set (i := 7) scLengthOf.nd rfl (Or.inl rfl) (C8.pe_c (calPeriodOf z) hr (by decide) rfl (pa_cons (pv 6) pa_nil)))
  (pss_cons (ps_set (i := 8) scLengthOf.nd rfl (Or.inl rfl) pe_int)
  (pss_cons (ps_for PassesOwn.never rfl (pi_list (pe_ix ix_list (pv 3) (pv 5) (fun _ _ => rfl))) (pg_name (i := 9) scLengthOf.nd rfl (Or.inl rfl)) (pss_cons (ps_set (i := 10) scLengthOf.nd rfl (Or.inl rfl) (pe_op op_divQ (pe_ix ix_list (pv 4) (pv 9) (fun _ _ => rfl)) (C8.pe_c (calGreatestDivisor z) hr (by decide) rfl (pa_cons (pe_ix ix_list (pv 4) (pv 9) (fun _ _ => rfl)) (pa_cons (pe_bm PySem.F.plainAttrs_list PySem.F.slot_list_count PySem.F.type_list_count mt_lcntQ (pe_slice sl_listQ (pv 6) po_none (po_some (pv 7))) (pa_cons (pv 9) pa_nil)) pa_nil)))))
  (pss_one (ps_set (i := 8) scLengthOf.nd rfl (Or.inl rfl) (pe_op op_divQ (pe_op op_mulQ (pv 8) (pv 10)) (C8.pe_c (calGreatestDivisor z) hr (by decide) rfl (pa_cons (pv 8) (pa_cons (pv 10) pa_nil))))))))
  (pss_one (ps_asg (pe_op op_mulQ (pv 7) (pv 8)) (pg_sub (pv 4) (pv 5) set_list))))))))
  (pss_one (ps_ret (pe_ix ix_list (pv 4) pe_int (fun _ _ => rfl)))))))), ?_⟩
    obtain ⟨a, b, pl, o, rfl, h, ht, q⟩ := h
    have ok := h.ok.plok
    have h40 := ok.1
    have rkl : (ranksL o).length = pl.length + 1 := by unfold ranksL; rw [List.length_map, h.ok.len]
    refine ⟨_, rfl, _, rfl, b, o, rfl, h.sb, by rw [h.ok.len]; omega, h.ok.nd, fun H1 D1 g1 h1 => ?_⟩
    refine ⟨a, D1, pl, ranksL o, rfl, g1.tup h.pa, ok, h1, rkl, g1.tab ht, fun H2 wa rs g2 l2 => ?_⟩
    have wok : Wok pl (words pl (ordL o)) := words_ok ok (ordL_perm h.ok.len)
    have l2 : LLm H2 wa rs (nL (words pl (ordL o))) := l2
    generalize words pl (ordL o) = f at *
    have g12 := g1.then g2
    refine ⟨_, rfl, a, pl, rfl, g12.tup h.pa, ok, fun H3 Dl rl g3 l3 fl => ?_⟩
    have lw3 := l2.keep g3
    refine ⟨by show 1 ≤ sizeLine; decide, fun p1 np1 => ?_⟩
    have g4 : Gx (TK K) [] H (upd H3 p1 (.lst [.int 1])) := (g12.then g3).more np1
    have hlr : rs.length = pl.length + 1 := by rw [l2.len, List.length_map, wok.len]
    refine ⟨_, rfl, lenR_to (lw3.keep (Gx.new (T := TK K) np1)).top ?_⟩
    rw [hlr]
    refine ⟨p1, _, _, rfl, rfl, upd_same, by omega, by omega, by rw [Int.toNat_natCast, sizeLine_eq]; simp; omega, fun D nD => ?_⟩
    have fD : Fr H D := g4.fr nD
    have e1 : (List.replicate ((pl.length + 1 : Nat) : Int).toNat [V.int 1]).flatten = iV (nI (List.replicate (pl.length + 1) 1)) := by
      rw [Int.toNat_natCast]
      generalize pl.length + 1 = n
      induction n with
      | zero => rfl
      | succ n ih =>
        rw [List.replicate_succ, List.flatten_cons, ih, List.replicate_succ]
        rfl
    rw [e1]
    have g5 := g4.more (o := .lst (iV (nI (List.replicate (pl.length + 1) 1)))) nD
    have g35 : Gx (TK K) [] H3 (upd (upd H3 p1 (.lst [.int 1])) D (.lst (iV (nI (List.replicate (pl.length + 1) 1))))) := (Gx.new np1).more nD
    have pf := (l3.keep (Gx.new (T := TK K) np1)).fresh nD
    have pw := (lw3.keep (Gx.new (T := TK K) np1)).fresh nD
    refine ⟨_, rfl, lenR_to (lw3.keep g35).top ?_⟩
    rw [hlr]
    refine ⟨_, _, rfl, rfl, _, rfl, _, rfl, _, _, _, _, rfl, RgC.neg (by omega) (by omega) (by decide) (by decide), for_gen (gv_rangeC (n := (((pl.length + 1 : Nat) : Int) - 1 - -1).toNat)) (fun i σ H6 => (∃ s5 s6 s7 s8 s9 s10, σ = [some (.ref a), some (.ref b), some (.ref wa), some (.ref Dl), some (.ref D), s5, s6, s7, s8, s9, s10]) ∧ Gx (TK K) [] H H6 ∧ LLm H6 Dl rl (nL (supL pl)) ∧ LLm H6 wa rs (nL f) ∧ ∃ fs, H6 D = some (.lst (iV (nI fs))) ∧ Fk pl f fs ∧ (lenGo pl f (pl.length + 1 - i) fs).getD 0 0 = lenOf pl f)
      ⟨⟨_, _, _, _, _, _, rfl⟩, g5, l3.keep g35, lw3.keep g35, List.replicate (pl.length + 1) 1, upd_same, Fk.init f, rfl⟩ (fun _ _ _ _ _ => trivial) (fun i x σ H6 H7 hi p y => ?_) fun σ H6 p => ?_⟩
    · obtain ⟨⟨s5, s6, s7, s8, s9, s10, rfl⟩, g6, l6, lw6, fs, hD6, F, he⟩ := p
      obtain ⟨rfl, hx⟩ := y
      obtain ⟨k, hk⟩ : ∃ k, k = pl.length - i := ⟨_, rfl⟩
      obtain rfl : x = .int ((k : Nat) : Int) := by
        rw [hx]
        congr 1
        omega
      have e1 : pl.length + 1 - i = k + 1 := by omega
      have e2 : pl.length + 1 - (i + 1) = k := by omega
      rw [e1, lenGo] at he
      rw [e2]
      have hkl : k ≤ pl.length := by omega
      obtain ⟨r, hr, hrl⟩ := l6.sup hkl
      obtain ⟨ro, hro, hrol, _⟩ := lw6.row (v := k) (by rw [wok.len]; omega)
      have hle := wok.le k
      refine ⟨_, rfl, _, rfl, wa, _, _, _, rfl, rfl, SqL.of lw6.top, at_ref hro, _, rfl, ro, _, rfl, hrol, by omega, fun H8 g8 => ?_⟩
      have l8 := l6.keep g8
      have lw8 := lw6.keep g8
      have hD8 := g8.lst hD6
      have hro8 := g8.lst hrol
      have hrl8 := g8.lst hrl
      refine ⟨_, rfl, _, rfl, Dl, _, _, _, rfl, rfl, SqL.of l8.top, at_ref hr, r, rfl, ⟨_, SqL.of hrl8⟩, for_gen (gv_list (xs := iV (nI (sups pl k)))) (fun j σ H9 => (∃ s9 s10, σ = [some (.ref a), some (.ref b), some (.ref wa), some (.ref Dl), some (.ref D), some (.int (k : Nat)), some (.ref ro), some (.int (perOf (rw_ f k) : Nat)), some (.int (turnsTo (rw_ f k) fs ((sups pl k).take j) : Nat)), s9, s10]) ∧ Gx (TK K) [] H8 H9)
        ⟨⟨_, _, rfl⟩, Gx.refl⟩ (fun j σ H9 _ pv => SqL.of (pv.2.lst hrl8)) (fun j x σ H9 H10 hj pv y => ?_) fun σ H9 pv => ?_⟩
      · obtain ⟨⟨s9, s10, rfl⟩, g9⟩ := pv
        obtain ⟨rfl, hx⟩ := y
        obtain ⟨o, ho, rfl⟩ := get_nV hx
        have hos := mem_sups.mp (List.mem_of_getElem? ho)
        have hD9 := g9.lst hD8
        have hro9 := g9.lst hro8
        have hatD := gt_nV (cs := fs) (v := o) (by rw [F.len]; omega)
        obtain ⟨t1, t2⟩ := turns_big ok wok F k ((sups pl k).take j) ((sups pl k).drop j) (List.take_append_drop j (sups pl k)).symm
        have htk : (sups pl k).take (j + 1) = (sups pl k).take j ++ [o] := by rw [List.take_add_one, ho]; rfl
        have estep : turnsTo (rw_ f k) fs ((sups pl k).take (j + 1)) = turnOf (rw_ f k) fs (turnsTo (rw_ f k) fs ((sups pl k).take j)) o := by
          rw [htk]
          unfold turnsTo
          rw [List.foldl_append]
          rfl
        rw [estep]
        have f1 := F.pos o hos.2.1
        have f2 := F.big ok wok o hos.2.1
        unfold turnOf
        generalize turnsTo (rw_ f k) fs ((sups pl k).take j) = t at *
        generalize fs.getD o 0 = F0 at *
        refine ⟨_, rfl, _, rfl, D, _, _, _, rfl, rfl, SqL.of hD9, hatD, _, rfl, _, rfl, D, _, _, _, rfl, rfl, SqL.of hD9, hatD, _, rfl, _, rfl, _, rfl, slTo_to hro9 fun p5 np5 => ?_⟩
        have g10 := Gx.new (T := TK K) (o := .lst (iV (nI ((rw_ f k).take (perOf (rw_ f k)))))) np5
        refine ⟨.inl ⟨rfl, _, SqL.of upd_same⟩, _, rfl, cntN_to upd_same ?_⟩
        refine ⟨_, _, rfl, ?_⟩
        have hg1 : 0 < Nat.gcd F0 (((rw_ f k).take (perOf (rw_ f k))).count o) := Nat.gcd_pos_of_pos_left _ f1
        have hg2 : Nat.gcd F0 (((rw_ f k).take (perOf (rw_ f k))).count o) ≤ F0 := Nat.gcd_le_left _ f1
        obtain ⟨n1, n2⟩ := need_le (c := ((rw_ f k).take (perOf (rw_ f k))).count o) f1
        refine divN_to hg1 ?_ ?_
        · exact Nat.lt_of_le_of_lt (Nat.le_trans hg2 f2) big_lt
        have en : F0 / Nat.gcd F0 (((rw_ f k).take (perOf (rw_ f k))).count o) = needOf F0 (((rw_ f k).take (perOf (rw_ f k))).count o) := rfl
        rw [en]
        generalize needOf F0 (((rw_ f k).take (perOf (rw_ f k))).count o) = nd at *
        refine ⟨_, rfl, _, rfl, mulN_to ?_ ?_ ?_⟩
        · exact Nat.lt_of_le_of_lt t2 big_lt
        · exact Nat.lt_of_le_of_lt (Nat.le_trans n2 f2) big_lt
        refine ⟨_, rfl, _, rfl, _, _, rfl, ?_⟩
        have hg3 : 0 < Nat.gcd t nd := Nat.gcd_pos_of_pos_left _ t1
        have hg4 : Nat.gcd t nd ≤ t := Nat.gcd_le_left _ t1
        refine divN_to hg3 ?_ ?_
        · exact Nat.lt_of_le_of_lt (Nat.le_trans hg4 t2) big_lt
        exact ⟨⟨_, _, rfl⟩, g9.then g10⟩
      · obtain ⟨⟨s9, s10, rfl⟩, g9⟩ := pv
        rw [len_iV, len_nI, List.take_length]
        have hD9 := g9.lst hD8
        have hp := perOf_le (rw_ f k)
        obtain ⟨t1, t2⟩ := turns_big ok wok F k (sups pl k) [] (List.append_nil _).symm
        refine ⟨_, rfl, _, rfl, mulN_to ?_ ?_ ?_⟩
        · exact small_lt (by omega)
        · exact Nat.lt_of_le_of_lt t2 big_lt
        refine ⟨_, rfl, _, rfl, D, _, _, k, rfl, rfl, hD9, ixN_nat (by rw [len_iV, len_nI, F.len]; omega), ⟨_, _, _, _, _, _, rfl⟩, ((g6.then g8).then g9).put (.inr fD) hD9 trivial, (l8.keep g9).other pf, (lw8.keep g9).other pw, _, by rw [upd_same, set_nV], F.step ok wok hkl, he⟩
    · obtain ⟨⟨s5, s6, s7, s8, s9, s10, rfl⟩, g6, l6, lw6, fs, hD6, F, he⟩ := p
      have ez : pl.length + 1 - (((pl.length + 1 : Nat) : Int) - 1 - -1).toNat = 0 := by omega
      rw [ez] at he
      have he : fs.getD 0 0 = lenOf pl f := he
      refine ⟨_, rfl, D, _, 0, _, rfl, rfl, SqL.of hD6, gt_nV (v := 0) (by rw [F.len]; omega), ?_⟩
      rw [he]
      exact q _ g6
end
end K6

set_option Elab.async false
set_option linter.all false
set_option maxRecDepth 100000
set_option maxHeartbeats 4000000
/-! K6Wm: cycle_length, stock_at, chain_at, maker_on, sold_on -/
namespace K6
open PySem PySem.Spec PyProof.Rows L2
theorem bnd_ex : ∀ st : List Int, ∃ a b, Bnd a b st
  | [] => ⟨0, 0, fun x h => by cases h⟩
  | c :: r => by
    obtain ⟨a, b, h⟩ := bnd_ex r
    refine ⟨min a c, max b c, fun x hx => ?_⟩
    rcases List.mem_cons.mp hx with e | e
    · omega
    · have := h x e
      omega
def cycOf (pl : List Nat) (st : List Int) : Nat := lenOf pl (words pl (ordL (ordDays pl st).2))
section
variable {P : Program} {w : World} {K : PySem.W.Frag} {mg : Str → Option Value} {base : Heap}
def spCycle (K : PySem.W.Frag) : Sp := fun vs H Q _ => ∃ a b pl st, vs = [.ref a, .ref b] ∧ PS2 H a b pl st ∧ LamX.Tabs (TK K) H ∧ ∀ H', Gx (TK K) [] H H' → Q (.int (cycOf pl st : Nat)) H'
theorem calCycleLength (z : Cz P w K mg base) : C8.Cal P w K mg base 5 "cycle_length" (spCycle K) [] := by
  refine mkCal z.fCycleLength z.gCycleLength scCycleLength bCycleLength (fun vs H Q E h => ?_) fun cdv A outer s H vs Q E hr h => ?_
  · obtain ⟨a, b, pl, st, rfl, _⟩ := h
    rfl
  · refine ⟨_, (pss_cons (ps_expr (C8.pe_c (calRequirePlant z) hr (by decide) rfl (pa_cons (pv 0) pa_nil)))
  (pss_cons (ps_expr (C8.pe_c (calRequireStock z) hr (by decide) rfl (pa_cons (pv 0) (pa_cons (pv 1) pa_nil))))
  (pss_one (ps_ret (C8.pe_c (calLengthOf z) hr (by decide) rfl (pa_cons (pv 0) (pa_cons (pe_ix ix_tup (C8.pe_c (calOrderDays z) hr (by decide) rfl (pa_cons (pv 0) (pa_cons (pv 1) pa_nil))) pe_int (fun _ _ => rfl)) pa_nil))))))), ?_⟩
    obtain ⟨a, b, pl, st, rfl, h, ht, q⟩ := h
    refine ⟨_, rfl, a, pl, rfl, h.pa, h.ok.plok, fun H1 g1 => ?_⟩
    refine ⟨_, rfl, _, rfl, a, b, pl, st, rfl, h.keep g1, fun H2 g2 => ?_⟩
    have g12 := g1.then g2
    refine ⟨_, rfl, _, rfl, _, rfl, a, b, pl, st, rfl, h.keep g12, fun H3 p D g3 hp h3 => ⟨p, _, 1, _, rfl, rfl, SqT.of hp, rfl, ?_⟩⟩
    exact ⟨a, D, pl, _, rfl, h3, (g12.then g3).tab ht, fun H4 g4 => q _ ((g12.then g3).then g4)⟩
def spStockAt (K : PySem.W.Frag) : Sp := fun vs H Q _ => ∃ a b pl st, ∃ d : Nat, vs = [.ref a, .ref b, .int (d : Nat)] ∧ PS2 H a b pl st ∧ d < 2 ^ 250 ∧ LamX.Tabs (TK K) H ∧ ∀ H' D, Gx (TK K) [] H H' → PS2 H' a D pl (stockAt pl st d) → Q (.ref D) H'
theorem calStockAt (z : Cz P w K mg base) : C8.Cal P w K mg base 4 "stock_at" (spStockAt K) [] := by
  refine mkCal z.fStockAt z.gStockAt scStockAt bStockAt (fun vs H Q E h => ?_) fun cdv A outer s H vs Q E hr h => ?_
  · obtain ⟨a, b, pl, st, d, rfl, _⟩ := h
    rfl
  · refine ⟨_, (pss_cons (ps_asg (C8.pe_c (calOrderDays z) hr (by decide) rfl (pa_cons (pv 0) (pa_cons (pv 1) pa_nil))) (pg_pair (i := 3) (j := 4) rfl scStockAt.nd rfl (Or.inl rfl) rfl (Or.inl rfl)))
  (pss_cons (ps_if (pt_cmpR op_le (pv 2) (pv 3) (nomark _)) (pss_one (ps_ret (pe_ix ix_tup (C8.pe_c (calFirstDays z) hr (by decide) rfl (pa_cons (pv 0) (pa_cons (pv 1) (pa_cons (pv 2) pa_nil)))) pe_int (fun _ _ => rfl)))) pss_nil)
  (pss_cons (ps_if (pt_cmpR op_le (pv 2) (pe_op op_add (pv 3) (pe_callB call_lenQ (by rfl) z.nlen PySem.boot_len (pa_cons (pv 1) pa_nil))) (nomark _)) (pss_one (ps_ret (pe_ix ix_tup (C8.pe_c (calFirstDays z) hr (by decide) rfl (pa_cons (pv 0) (pa_cons (pv 4) (pa_cons (pe_op op_sub (pv 2) (pv 3)) pa_nil)))) pe_int (fun _ _ => rfl)))) pss_nil)
  (pss_cons (ps_set (i := 5) scStockAt.nd rfl (Or.inl rfl) (C8.pe_c (calWordTable z) hr (by decide) rfl (pa_cons (pv 0) (pa_cons (C8.pe_c (calRanks z) hr (by decide) rfl (pa_cons (pv 4) pa_nil)) pa_nil))))
  (pss_cons (ps_set (i := 6) scStockAt.nd rfl (Or.inl rfl) (C8.pe_c (calRotatedBy z) hr (by decide) rfl (pa_cons (pv 5) (pa_cons (C8.pe_c (calCountsAfter z) hr (by decide) rfl (pa_cons (pv 0) (pa_cons (pv 5) (pa_cons (pe_op op_sub (pv 2) (pv 3)) pa_nil)))) pa_nil))))
  (pss_cons (ps_set (i := 7) scStockAt.nd rfl (Or.inr rfl) (pe_op op_sub (pe_op op_add (pe_callB (cr_maxT rfl hr.units) (by rfl) z.nmax (by decide +kernel) (pa_cons (pv 1) pa_nil)) (pv 2)) (pe_callB call_lenQ (by rfl) z.nlen PySem.boot_len (pa_cons (pv 0) pa_nil))))
  (pss_one (ps_ret (pe_callTy call_tupQ (by rfl) z.ntuple (by decide +kernel) (pa_cons (pe_lc (own := [("rank", 8)]) (g := gName 8) (tt := tYes) rfl scStockAt.nd (pi_tup (C8.pe_c (calRanksOfWords z) hr (by decide) rfl (pa_cons (pv 0) (pa_cons (pv 6) pa_nil)))) (blkOk_by (own := [("rank", 8)]) (N := nStockAt) (sc := defScope sStockAt) (by decide +kernel)) (fun _ _ _ _ _ => (pg_name (i := 8) scStockAt.nd rfl (Or.inl rfl))) (fun _ _ _ _ _ => pts_nil) (fun _ _ _ _ _ => (pe_op op_add (pv 7) (pv 8)))) pa_nil)))))))))), ?_⟩
    obtain ⟨a, b, pl, st, d, rfl, h, hd, ht, q⟩ := h
    have ok := h.ok
    have h40 := ok.plok.1
    have hlen := ok.len
    obtain ⟨lo0, hi0, hb0⟩ := bnd_ex st
    obtain ⟨o1, o2, o3, o4⟩ := ord_all ok hb0
    obtain ⟨okS, _⟩ := stockAt_ok ok hb0 d
    unfold stockAt at okS q
    generalize hod : ordDays pl st = od at *
    obtain ⟨e, o⟩ := od
    simp only at o1 o2 o3 o4 okS q
    refine ⟨_, rfl, _, rfl, a, b, pl, st, rfl, h, fun H1 p D g1 hp h1 => ?_⟩
    rw [hod] at hp h1
    simp only at hp h1
    have hA := h.keep g1
    refine pair_to hp ⟨_, rfl, _, rfl, _, _, rfl, rfl, _, rfl, ?_⟩
    by_cases c1 : d ≤ e
    · rw [decide_eq_true (by omega)]
      rw [if_pos c1] at okS q
      refine iteT ⟨_, rfl, _, rfl, _, rfl, a, b, pl, st, d, rfl, hA, by omega, fun H2 p2 D2 u g2 hp2 h2 => ?_⟩
      exact ⟨p2, _, 0, _, rfl, rfl, SqT.of hp2, rfl, q H2 D2 (g1.then g2) h2⟩
    · rw [decide_eq_false (by omega)]
      rw [if_neg c1] at okS q
      refine iteF ⟨_, rfl, _, rfl, _, rfl, lenS_to hA.sb ?_⟩
      refine ⟨_, _, rfl, rfl, _, _, rfl, rfl, _, rfl, ?_⟩
      by_cases c2 : d ≤ e + st.length
      · rw [decide_eq_true (by omega)]
        rw [if_pos c2] at okS q
        refine iteT ⟨_, rfl, _, rfl, _, rfl, _, rfl, _, _, rfl, rfl, a, D, pl, o, d - e, ?_, h1, by omega, fun H2 p2 D2 u g2 hp2 h2 => ?_⟩
        · show [V.ref a, V.ref D, V.int (((d : Nat) : Int) - ((e : Nat) : Int))] = _
          rw [show (((d : Nat) : Int) - ((e : Nat) : Int)) = ((d - e : Nat) : Int) by omega]
        · exact ⟨p2, _, 0, _, rfl, rfl, SqT.of hp2, rfl, q H2 D2 (g1.then g2) h2⟩
      · rw [decide_eq_false (by omega)]
        rw [if_neg c2] at okS q
        have rkl : (ranksL o).length = pl.length + 1 := by unfold ranksL; rw [List.length_map, o1.len]
        refine iteF ⟨_, rfl, _, rfl, D, o, rfl, h1.sb, by rw [o1.len]; omega, o1.nd, fun H2 D1 g2 h2 => ?_⟩
        have g12 := g1.then g2
        refine ⟨a, D1, pl, ranksL o, rfl, g12.tup h.pa, ok.plok, h2, rkl, g12.tab ht, fun H3 wa rs g3 l3 => ?_⟩
        have wok : Wok pl (words pl (ordL o)) := words_ok ok.plok (ordL_perm o1.len)
        have l3 : LLm H3 wa rs (nL (words pl (ordL o))) := l3
        generalize words pl (ordL o) = f at *
        have g13 := g12.then g3
        have hle : ∀ v, (rw_ f v).length ≤ 41 := fun v => by have := wok.le v; omega
        refine ⟨_, rfl, _, rfl, _, rfl, _, rfl, _, rfl, _, _, rfl, rfl, a, wa, rs, pl, f, d - e, ?_, g13.tup h.pa, ok.plok, l3, wok.len, hle, by omega, fun H4 ca g4 h4 => ?_⟩
        · show [V.ref a, V.ref wa, V.int (((d : Nat) : Int) - ((e : Nat) : Int))] = _
          rw [show (((d : Nat) : Int) - ((e : Nat) : Int)) = ((d - e : Nat) : Int) by omega]
        have cl := counts_len (pl := pl) f (d - e)
        generalize counts pl f (d - e) = cs at *
        refine ⟨wa, ca, rs, f, cs, rfl, l3.keep g4, h4, by rw [wok.len, cl], by rw [wok.len]; omega, hle, fun H5 la rs5 g5 l5 => ?_⟩
        have wok2 := rotW_ok wok cl
        generalize rotW f cs = later at *
        have g15 := (g13.then g4).then g5
        have h5 := h.keep g15
        refine ⟨_, rfl, b, st, rfl, SqT.of h5.sb, st_ne ok, fun m hm hle2 => ?_⟩
        have em := maxI_uniq hm hle2
        subst em
        refine ⟨_, rfl, _, _, rfl, rfl, _, rfl, lenT_to h5.pa ?_⟩
        refine ⟨_, _, rfl, rfl, _, rfl, _, rfl, a, la, rs5, pl, later, rfl, h5.pa, ok.plok, l5, wok2, fun H6 ra g6 h6 => ?_⟩
        have hrl := rkW_len (pl := pl) later
        generalize rkW pl later = rk at *
        refine ⟨ra, rfl, ⟨_, SqT.of h6⟩, fun D2 hD2 => lc_map (T := TK K) gv_tup hD2 (fun H g => SqT.of (g.tup h6)) (by rw [len_iV, len_nI]; omega) (iV (rk.map fun r => maxI st + (d : Int) - (pl.length : Int) + ((r : Nat) : Int))) (by rw [len_iV, len_iV, len_nI, List.length_map]) (fun i x y H7 H8 Ny hi g7 hy hys hN => ?_) mono_name fun H7 g7 hD7 => ?_⟩
        · obtain ⟨rfl, hx⟩ := hy
          obtain ⟨n, hn, rfl⟩ := get_nV hx
          obtain ⟨v, hv, rfl⟩ := get_iV hys
          rw [List.getElem?_map, hn] at hv
          have hv := Option.some.inj hv
          subst hv
          exact ⟨rfl, _, rfl, _, rfl, _, _, rfl, rfl, hN _ Gx.refl⟩
        · refine ⟨D2, _, rfl, .inl ⟨SqL.of hD7, fun p3 np3 => ?_⟩⟩
          have g8 := ((g15.then g6).then g7).more (o := .tup (iV (rk.map fun r => maxI st + (d : Int) - (pl.length : Int) + ((r : Nat) : Int)))) np3
          exact q _ p3 g8 ⟨g8.tup h.pa, upd_same, okS⟩
def spChainAt (K : PySem.W.Frag) : Sp := fun vs H Q _ => ∃ a b pl st, ∃ d : Nat, vs = [.ref a, .ref b, .int (d : Nat)] ∧ PS2 H a b pl st ∧ 1 ≤ d ∧ d < 2 ^ 250 ∧ LamX.Tabs (TK K) H ∧ ∀ H' D, Gx (TK K) [] H H' → H' D = some (.lst (iV (nI (chainOf pl (stockAt pl st (d - 1)) 0)))) → Q (.ref D) H'
theorem calChainAt (z : Cz P w K mg base) : C8.Cal P w K mg base 5 "chain_at" (spChainAt K) [] := by
  refine mkCal z.fChainAt z.gChainAt scChainAt bChainAt (fun vs H Q E h => ?_) fun cdv A outer s H vs Q E hr h => ?_
  · obtain ⟨a, b, pl, st, d, rfl, _⟩ := h
    rfl
  · refine ⟨_, (pss_one (ps_ret (C8.pe_c (calChainOf z) hr (by decide) rfl (pa_cons (pv 0) (pa_cons (C8.pe_c (calStockAt z) hr (by decide) rfl (pa_cons (pv 0) (pa_cons (pv 1) (pa_cons (pe_op op_sub (pv 2) pe_int) pa_nil)))) (pa_cons pe_int pa_nil)))))), ?_⟩
    obtain ⟨a, b, pl, st, d, rfl, h, h1, hd, ht, q⟩ := h
    refine ⟨_, rfl, _, rfl, _, rfl, _, rfl, _, _, rfl, rfl, a, b, pl, st, d - 1, ?_, h, by omega, ht, fun H1 D g1 h2 => ?_⟩
    · show [V.ref a, V.ref b, V.int (((d : Nat) : Int) - 1)] = _
      rw [show (((d : Nat) : Int) - 1) = ((d - 1 : Nat) : Int) by omega]
    · exact ⟨a, D, pl, _, 0, rfl, h2, Nat.zero_le _, fun H2 c g2 _ hc => q H2 c (g1.then g2) hc⟩
def spMaker (K : PySem.W.Frag) : Sp := fun vs H Q _ => ∃ a b pl st, ∃ d : Nat, vs = [.ref a, .ref b, .int (d : Nat)] ∧ PS2 H a b pl st ∧ 1 ≤ d ∧ d ≤ 1000000 ∧ LamX.Tabs (TK K) H ∧ ∀ H', Gx (TK K) [] H H' → Q (.int (makerOn pl st d : Nat)) H'
theorem calMakerOn (z : Cz P w K mg base) : C8.Cal P w K mg base 6 "maker_on" (spMaker K) [] := by
  refine mkCal z.fMakerOn z.gMakerOn scMakerOn bMakerOn (fun vs H Q E h => ?_) fun cdv A outer s H vs Q E hr h => ?_
  · obtain ⟨a, b, pl, st, d, rfl, _⟩ := h
    rfl
  · refine ⟨_, (pss_cons (ps_expr (C8.pe_c (calRequirePlant z) hr (by decide) rfl (pa_cons (pv 0) pa_nil)))
  (pss_cons (ps_expr (C8.pe_c (calRequireStock z) hr (by decide) rfl (pa_cons (pv 0) (pa_cons (pv 1) pa_nil))))
  (pss_cons (ps_expr (C8.pe_c (calRequireDays z) hr (by decide) rfl (pa_cons (pv 2) (pa_cons pe_int (pa_cons (pe_glob (v := .int 1000000000000000000000000000000) rfl z.cMOST_FAR.choose_spec ⟨_, rfl⟩) pa_nil)))))
  (pss_one (ps_ret (pe_ix ix_list (C8.pe_c (calChainAt z) hr (by decide) rfl (pa_cons (pv 0) (pa_cons (pv 1) (pa_cons (pv 2) pa_nil)))) (pe_un un_neg pe_int) (fun _ _ => rfl))))))), ?_⟩
    obtain ⟨a, b, pl, st, d, rfl, h, h1, hd, ht, q⟩ := h
    refine ⟨_, rfl, a, pl, rfl, h.pa, h.ok.plok, fun H1 g1 => ?_⟩
    refine ⟨_, rfl, _, rfl, a, b, pl, st, rfl, h.keep g1, fun H2 g2 => ?_⟩
    have g12 := g1.then g2
    refine ⟨_, rfl, _, _, _, rfl, by omega, by omega, ?_⟩
    refine ⟨_, rfl, _, rfl, _, rfl, a, b, pl, st, d, rfl, h.keep g12, h1, Nat.lt_of_le_of_lt hd (by decide), g12.tab ht, fun H3 D g3 h3 => ?_⟩
    have cne : chainOf pl (stockAt pl st (d - 1)) 0 ≠ [] := chain_ne _ _
    have eM : makerOn pl st d = (chainOf pl (stockAt pl st (d - 1)) 0).getLastD 0 := rfl
    generalize chainOf pl (stockAt pl st (d - 1)) 0 = ch at *
    obtain ⟨pre, lst, rfl⟩ : ∃ pre x, ch = pre ++ [x] := ⟨ch.dropLast, ch.getLast cne, (List.dropLast_concat_getLast cne).symm⟩
    rw [List.getLastD_concat] at eM
    refine ⟨_, rfl, D, _, _, _, rfl, rfl, SqL.of h3, at_lastN pre lst, ?_⟩
    rw [← eM]
    exact q _ (g12.then g3)
end
end K6

set_option Elab.async false
set_option linter.all false
set_option maxRecDepth 100000
set_option maxHeartbeats 4000000
/-! K6Wn: order_of_sales, sold_on -/
namespace K6
open PySem PySem.Spec PyProof.Rows L2
/-- the dict of the boxes that stand at the stations of L -/
abbrev kvL (st : List Int) (L : List Nat) : List (Key × V) := L.map fun s => ((Sum.inl (bx st s) : Key), V.int ((s : Nat) : Int))
section
variable {st : List Int} {L : List Nat}
theorem kv_none (nd : st.Nodup) {s : Nat} (hs : s < st.length) (hL : ∀ t ∈ L, t < st.length) (h : s ∉ L) : valV (kvL st L) (Sum.inl (bx st s)) = none := by
  cases e : valV (kvL st L) (Sum.inl (bx st s)) with
  | none => rfl
  | some v =>
    have := valV_in e
    rw [List.map_map] at this
    obtain ⟨t, ht, e2⟩ := List.mem_map.mp this
    have e3 : bx st t = bx st s := Sum.inl.inj e2
    exact absurd (bx_inj nd (hL t ht) hs e3 ▸ ht) h
theorem kv_some (nd : st.Nodup) : ∀ {L : List Nat} {s : Nat}, (∀ t ∈ L, t < st.length) → s ∈ L → valV (kvL st L) (Sum.inl (bx st s)) = some (V.int ((s : Nat) : Int))
  | [], s, _, h => by cases h
  | t :: L, s, hL, h => by
    by_cases e : t = s
    · subst e
      exact valV_pos (p := ((Sum.inl (bx st t) : Key), V.int ((t : Nat) : Int))) (r := kvL st L) rfl
    · have hs : s ∈ L := by
        rcases List.mem_cons.mp h with q | q
        · exact absurd q.symm e
        · exact q
      have hne : ¬ ((Sum.inl (bx st t) : Key) = Sum.inl (bx st s)) := fun q => e (bx_inj nd (hL t (by simp)) (hL s h) (Sum.inl.inj q))
      have := valV_neg (p := ((Sum.inl (bx st t) : Key), V.int ((t : Nat) : Int))) (r := kvL st L) hne
      exact this.trans (kv_some nd (fun u hu => hL u (List.mem_cons_of_mem _ hu)) hs)
theorem kv_put (nd : st.Nodup) {s : Nat} (hs : s < st.length) (hL : ∀ t ∈ L, t < st.length) (h : s ∉ L) : putK (kvL st L) (Sum.inl (bx st s)) (V.int ((s : Nat) : Int)) = kvL st (L ++ [s]) := by
  rw [putK_new _ (kv_none nd hs hL h)]
  exact (List.map_append (f := fun s => ((Sum.inl (bx st s) : Key), V.int ((s : Nat) : Int))) (l₁ := L) (l₂ := [s])).symm
theorem kv_merge (nd : st.Nodup) : ∀ {M L : List Nat}, (∀ t ∈ L ++ M, t < st.length) → (L ++ M).Nodup → mergeK (kvL st L) (kvL st M) = kvL st (L ++ M)
  | [], L, _, _ => by rw [List.append_nil]; rfl
  | m :: M, L, hL, hn => by
    have hm : m ∉ L := fun q => (List.nodup_append.mp hn).2.2 m q m (by simp) rfl
    have e : mergeK (kvL st L) (kvL st (m :: M)) = mergeK (putK (kvL st L) (Sum.inl (bx st m)) (V.int ((m : Nat) : Int))) (kvL st M) := rfl
    rw [e, kv_put nd (hL m (by simp)) (fun t ht => hL t (List.mem_append_left _ ht)) hm]
    have h2 : L ++ m :: M = (L ++ [m]) ++ M := by simp
    rw [h2] at hL hn ⊢
    exact kv_merge nd hL hn
theorem kv_drop (nd : st.Nodup) {s : Nat} (hs : s < st.length) (hL : ∀ t ∈ L, t < st.length) (hn : L.Nodup) : dropK (kvL st L) (Sum.inl (bx st s)) = kvL st (L.erase s) := by
  unfold dropK
  rw [List.filter_map, hn.erase_eq_filter]
  congr 1
  apply List.filter_congr
  intro t ht
  by_cases e : t = s
  · subst e
    simp
  · have hne : (Sum.inl (bx st t) : Key) ≠ Sum.inl (bx st s) := fun q => e (bx_inj nd (hL t ht) hs (Sum.inl.inj q))
    have e1 : (t != s) = true := bne_iff_ne.mpr e
    rw [e1]
    exact decide_eq_true hne
end
section
variable {P : Program} {w : World} {K : PySem.W.Frag} {mg : Str → Option Value} {base : Heap}
def spSales (K : PySem.W.Frag) : Sp := fun vs H Q _ => ∃ a b pl st, vs = [.ref a, .ref b] ∧ PS2 H a b pl st ∧ ∀ H' D, Gx (TK K) [] H H' → H' D = some (.lst (iV (salesOf pl st))) → Q (.ref D) H'
theorem calOrderOfSales (z : Cz P w K mg base) : C8.Cal P w K mg base 2 "order_of_sales" (spSales K) [] := by
  refine mkCal z.fOrderOfSales z.gOrderOfSales scOrderOfSales bOrderOfSales (fun vs H Q E h => ?_) fun cdv A outer s H vs Q E hr h => ?_
  · obtain ⟨a, b, pl, st, rfl, _⟩ := h
    rfl
  · refine ⟨_, (pss_cons (ps_set (i := 2) scOrderOfSales.nd rfl (Or.inl rfl) (C8.pe_c (calSupplierLists z) hr (by decide) rfl (pa_cons (pv 0) pa_nil)))
  (pss_cons (ps_par (i := 3) (j := 4) rfl scOrderOfSales.nd rfl rfl (by decide) rfl rfl (pa_cons (pe_lst pa_nil) (pa_cons (pe_disp (pps_cons (pe_ix ix_tup (pv 1) pe_int (fun _ _ => rfl)) pe_int pps_nil) (by rfl) (by rfl) (fun z => by cases z) (by decide)) pa_nil)) (by rfl))
  (pss_cons (ps_while PassesOwn.never (pt_cmpR (op_neD0 hr.units0) (pv 4) (pe_dnewK) (nomark _)) (pss_cons (ps_set (i := 5) scOrderOfSales.nd rfl (Or.inl rfl) (pe_callB (cr_minK rfl) (by rfl) z.nmin (by decide +kernel) (pa_cons (pv 4) pa_nil)))
  (pss_cons (ps_expr (pe_bm PySem.F.plainAttrs_list PySem.F.slot_list_append PySem.F.type_list_append mt_append (pv 3) (pa_cons (pv 5) pa_nil)))
  (pss_cons (ps_set (i := 6) scOrderOfSales.nd rfl (Or.inl rfl) (pe_dpop1 (pv 4) (pv 5) ⟨rfl, rfl, rfl, rfl⟩))
  (pss_one (ps_expr (pe_bm PySem.F.plainAttrs_dict PySem.F.slot_dict_update PySem.F.type_dict_update mt_dupd (pv 4) (pa_cons (pe_dc (own := [("supplier", 7)]) (g := gName 7) (tt := tYes) rfl scOrderOfSales.nd (pi_list (pe_ix ix_list (pv 2) (pv 6) (fun _ _ => rfl))) (blkOk_by (own := [("supplier", 7)]) (N := nOrderOfSales) (sc := defScope sOrderOfSales) (by decide +kernel)) (fun _ _ _ _ _ => (pg_name (i := 7) scOrderOfSales.nd rfl (Or.inl rfl))) (fun _ _ _ _ _ => pts_nil) (fun _ _ _ _ _ => (pe_ix (r := rIxT K) ix_tup (pv 1) (pv 7) (fun _ _ => rfl))) (fun _ _ _ _ _ => (pv 7))) pa_nil))))))))
  (pss_one (ps_ret (pv 3)))))), ?_⟩
    obtain ⟨a, b, pl, st, rfl, h, q⟩ := h
    have ok := h.ok
    have h40 := ok.plok.1
    have hlen := ok.len
    refine ⟨_, rfl, a, pl, rfl, h.pa, ok.plok, fun H1 Dl rl g1 l1 fl => ?_⟩
    refine ⟨Nat.zero_le _, fun l nl => ?_⟩
    have g2 : Gx (TK K) [] H (upd H1 l (.lst [])) := g1.more nl
    have g12 : Gx (TK K) [] H1 (upd H1 l (.lst [])) := Gx.new nl
    have pl1 := l1.fresh nl
    refine fun dk ndk => ?_
    have g3 := g2.more (o := .dK []) ndk
    have g13 := g12.more (o := .dK []) ndk
    have pd1 := (l1.keep g12).fresh ndk
    have fl0 : Fr H l := g1.fr nl
    have fd0 : Fr H dk := g2.fr ndk
    have hld : l ≠ dk := ne_of_none upd_same ndk
    refine ⟨_, rfl, b, _, 0, _, rfl, rfl, SqT.of (h.keep g3).sb, at_iV (bx_get (s := 0) (by omega)), upd_same, kvL st [0], rfl, by simp, _, _, rfl, ?_⟩
    have e0 : mergeK [] (kvL st [0]) = kvL st [0] := rfl
    rw [e0]
    have g4 := g3.put (o := .dK (kvL st [0])) (.inr fd0) upd_same trivial
    refine ⟨fun m σ H5 => ∃ so re f k, (∃ s5 s6, σ = [some (.ref a), some (.ref b), some (.ref Dl), some (.ref l), some (.ref dk), s5, s6, none]) ∧ Gx (TK K) [] H H5 ∧ LLm H5 Dl rl (nL (supL pl)) ∧ H5 l = some (.lst (iV f)) ∧ H5 dk = some (.dK (kvL st re)) ∧ Sk pl so re ∧ f.length = so.length ∧ salesGo pl st k re f = salesOf pl st ∧ pl.length + 2 ≤ k + so.length ∧ m = pl.length + 1 - so.length,
      ⟨_, [], [0], [], pl.length + 2, ⟨_, _, rfl⟩, g4, ((l1.keep g12).keep (Gx.new (T := TK K) ndk)).other pd1, by rw [upd_ne hld, upd_ne hld]; exact upd_same, upd_same, Sk.start ok.plok, rfl, rfl, Nat.le_refl _, rfl⟩, ?_⟩
    rintro m σ H5 ⟨so, re, f, k, ⟨s5, s6, rfl⟩, g5, l5, hl5, hd5, sk, hfl, he, hk, rfl⟩
    have skl := sk.len
    obtain ⟨k, rfl⟩ : ∃ n, k = n + 1 := ⟨k - 1, by omega⟩
    rw [salesGo] at he
    refine ⟨_, rfl, fun p0 np0 => ?_⟩
    have g6 := g5.more (o := .dK []) np0
    have g56 : Gx (TK K) [] H5 (upd H5 p0 (.dK [])) := Gx.new np0
    refine ⟨dk, p0, _, rfl, rfl, g56.dK hd5, upd_same, _, rfl, ?_⟩
    by_cases hre : re = []
    · subst hre
      rw [if_pos rfl] at he
      refine iteF ⟨_, rfl, q _ l g6 ?_⟩
      rw [← he]
      exact g56.lst hl5
    · rw [if_neg hre] at he
      have hne : (!(kvL st re).isEmpty) = true := by
        cases re with
        | nil => exact absurd rfl hre
        | cons x y => rfl
      rw [hne]
      have hbm := best_mem st hre
      have hlt : ∀ t ∈ re, t < st.length := fun t ht => by have := sk.le t (List.mem_append_right _ ht); omega
      have hndr : re.Nodup := (List.nodup_append.mp sk.nd).2.1
      have hd6 := g56.dK hd5
      have hl6 := g56.lst hl5
      have l6 := l5.keep g56
      refine iteT ⟨_, fun _ _ hh => hh, _, rfl, dk, kvL st re, re.map (bx st), rfl, hd6, by rw [List.map_map, List.map_map]; rfl, by simpa using hre, fun mb hmb hle => ?_⟩
      have emb : mb = bx st (best st re) := by
        obtain ⟨t, ht, e⟩ := List.mem_map.mp hmb
        have h1 := hle _ (List.mem_map.mpr ⟨_, hbm, rfl⟩)
        have h2 := best_le st ht
        omega
      subst emb
      have hsk2 := sk.step ok.plok hbm
      generalize best st re = sb at *
      have hsb := sk.le sb (List.mem_append_right _ hbm)
      refine ⟨_, rfl, .inl ⟨rfl, _, SqL.of hl6⟩, _, rfl, l, _, _, rfl, rfl, hl6, by rw [len_iV]; exact sl_le (by omega), ?_⟩
      rw [iV_snoc]
      have g7 := g6.put (o := .lst (iV (f ++ [bx st sb]))) (.inr fl0) hl6 trivial
      have hd7 : upd (upd H5 p0 (.dK [])) l (.lst (iV (f ++ [bx st sb]))) dk = some (.dK (kvL st re)) := by rw [upd_ne (Ne.symm hld)]; exact hd6
      have l7 := l6.other (o := .lst (iV (f ++ [bx st sb]))) pl1
      refine ⟨_, rfl, dk, rfl, .inl ⟨_, .inl hd7⟩, _, rfl, kvL st re, Sum.inl (bx st sb), _, hd7, rfl, kv_some ok.nd hlt hbm, ?_⟩
      rw [kv_drop ok.nd (by omega) hlt hndr]
      have g8 := g7.put (o := .dK (kvL st (re.erase sb))) (.inr fd0) hd7 trivial
      have l8 := l7.other (o := .dK (kvL st (re.erase sb))) pd1
      generalize hH8 : upd (upd (upd H5 p0 (.dK [])) l (.lst (iV (f ++ [bx st sb])))) dk (.dK (kvL st (re.erase sb))) = H8 at *
      have hd8 : H8 dk = some (.dK (kvL st (re.erase sb))) := by rw [← hH8]; exact upd_same
      have hl8 : H8 l = some (.lst (iV (f ++ [bx st sb]))) := by rw [← hH8, upd_ne hld]; exact upd_same
      obtain ⟨r, hr, hrl⟩ := l8.sup hsb
      refine ⟨_, rfl, .inr (.inr (.inl ⟨rfl, .inl ⟨_, hd8⟩⟩)), _, rfl, _, rfl, Dl, _, _, _, rfl, rfl, SqL.of l8.top, at_ref hr, r, rfl, ⟨_, SqL.of hrl⟩, fun Dd nDd => ?_⟩
      have hsul : ∀ t ∈ sups pl sb, t < st.length := fun t ht => by have := (mem_sups.mp ht).2.1; omega
      refine dc_gen (gv_list (xs := iV (nI (sups pl sb)))) (fun j H9 => Gx (TK K) [] H8 H9 ∧ H9 Dd = some (.dK (kvL st ((sups pl sb).take j)))) ⟨Gx.new nDd, upd_same⟩ (fun j H9 _ pv => SqL.of (pv.1.lst hrl)) (fun j x H9 H10 hj pv y => ?_) fun H9 pv => ?_
      · obtain ⟨g9, hk9⟩ := pv
        obtain ⟨rfl, hx⟩ := y
        obtain ⟨o, ho, rfl⟩ := get_nV hx
        have hol := hsul o (List.mem_of_getElem? ho)
        have hjl := (List.getElem?_eq_some_iff.mp ho).1
        have hsl := sups_len pl sb
        have h9 := h.keep (g8.then g9)
        have hno : o ∉ (sups pl sb).take j := fun hm => by
          obtain ⟨i, hi, e⟩ := List.mem_iff_getElem.mp hm
          rw [List.length_take] at hi
          rw [List.getElem_take] at e
          have e2 := (List.getElem?_eq_some_iff.mp ho).2
          have := (List.getElem_inj (sups_nodup pl sb)).mp (e.trans e2.symm)
          omega
        refine ⟨rfl, iteT (B := True) ⟨_, rfl, _, rfl, b, _, _, _, rfl, rfl, SqT.of h9.sb, at_iV (bx_get hol), _, rfl, _, Sum.inl (bx st o), rfl, hk9, by rw [List.length_map, List.length_take]; exact sl_le (by omega), g9.put (.inr (Fr.of nDd)) hk9 trivial, ?_⟩⟩
        rw [upd_same, kv_put ok.nd hol (fun t ht => hsul t (List.mem_of_mem_take ht)) hno, List.take_add_one, ho]
        rfl
      · obtain ⟨g9, hk9⟩ := pv
        rw [len_iV, len_nI, List.take_length] at hk9
        have hd9 := g9.dK hd8
        have hl9 := g9.lst hl8
        have hdd : dk ≠ Dd := ne_of_none hd8 nDd
        have hall : ∀ t ∈ re.erase sb ++ sups pl sb, t < st.length := fun t ht => by
          have := hsk2.le t (List.mem_append_right _ ht)
          omega
        have hnd2 : (re.erase sb ++ sups pl sb).Nodup := (List.nodup_append.mp hsk2.nd).2.1
        have sl2 := hsk2.len
        rw [List.length_append, List.length_singleton, List.length_append] at sl2
        refine ⟨dk, Dd, _, _, rfl, rfl, hdd, hd9, hk9, by rw [List.length_map, List.length_map, sizeLine_eq]; omega, ?_⟩
        rw [kv_merge ok.nd hall hnd2]
        exact ⟨_, by rw [List.length_append, List.length_singleton]; omega, so ++ [sb], re.erase sb ++ sups pl sb, f ++ [bx st sb], k, ⟨_, _, rfl⟩, (g8.then g9).put (.inr fd0) hd9 trivial, (l8.keep g9).other pd1, by rw [upd_ne hld]; exact hl9, upd_same, hsk2, by rw [List.length_append, List.length_append, hfl]; rfl, he, by rw [List.length_append, List.length_singleton]; omega, rfl⟩
def spSold (K : PySem.W.Frag) : Sp := fun vs H Q _ => ∃ a b pl st, ∃ d : Nat, vs = [.ref a, .ref b, .int (d : Nat)] ∧ PS2 H a b pl st ∧ 1 ≤ d ∧ d ≤ 1000000 ∧ ∀ H', Gx (TK K) [] H H' → Q (.int (soldOn pl st d)) H'
theorem calSoldOn (z : Cz P w K mg base) : C8.Cal P w K mg base 6 "sold_on" (spSold K) [] := by
  refine mkCal z.fSoldOn z.gSoldOn scSoldOn bSoldOn (fun vs H Q E h => ?_) fun cdv A outer s H vs Q E hr h => ?_
  · obtain ⟨a, b, pl, st, d, rfl, _⟩ := h
    rfl
  · refine ⟨_, (pss_cons (ps_expr (C8.pe_c (calRequirePlant z) hr (by decide) rfl (pa_cons (pv 0) pa_nil)))
  (pss_cons (ps_expr (C8.pe_c (calRequireStock z) hr (by decide) rfl (pa_cons (pv 0) (pa_cons (pv 1) pa_nil))))
  (pss_cons (ps_expr (C8.pe_c (calRequireDays z) hr (by decide) rfl (pa_cons (pv 2) (pa_cons pe_int (pa_cons (pe_glob (v := .int 1000000000000000000000000000000) rfl z.cMOST_DAY.choose_spec ⟨_, rfl⟩) pa_nil)))))
  (pss_cons (ps_if (pt_cmpR op_le (pv 2) (pe_callB call_lenQ (by rfl) z.nlen PySem.boot_len (pa_cons (pv 1) pa_nil)) (nomark _)) (pss_one (ps_ret (pe_ix ix_list (C8.pe_c (calOrderOfSales z) hr (by decide) rfl (pa_cons (pv 0) (pa_cons (pv 1) pa_nil))) (pe_op op_sub (pv 2) pe_int) (fun _ _ => rfl)))) pss_nil)
  (pss_one (ps_ret (pe_op op_sub (pe_op op_add (pe_callB (cr_maxT rfl hr.units) (by rfl) z.nmax (by decide +kernel) (pa_cons (pv 1) pa_nil)) (pv 2)) (pe_callB call_lenQ (by rfl) z.nlen PySem.boot_len (pa_cons (pv 1) pa_nil))))))))), ?_⟩
    obtain ⟨a, b, pl, st, d, rfl, h, h1, hd, q⟩ := h
    refine ⟨_, rfl, a, pl, rfl, h.pa, h.ok.plok, fun H1 g1 => ?_⟩
    refine ⟨_, rfl, _, rfl, a, b, pl, st, rfl, h.keep g1, fun H2 g2 => ?_⟩
    have g12 := g1.then g2
    have h2 := h.keep g12
    unfold soldOn at q
    refine ⟨_, rfl, _, _, _, rfl, by omega, by omega, ?_⟩
    refine ⟨_, rfl, _, rfl, lenS_to h2.sb ?_⟩
    refine ⟨_, _, rfl, rfl, _, rfl, ?_⟩
    by_cases c : d ≤ st.length
    · rw [decide_eq_true (by omega)]
      rw [if_pos c] at q
      have hl := salesOf_len h.ok.plok st
      have hlen := h.ok.len
      refine iteT ⟨_, rfl, _, rfl, a, b, pl, st, rfl, h2, fun H3 D g3 h3 => ?_⟩
      refine ⟨_, rfl, _, _, rfl, rfl, D, _, _, _, rfl, rfl, SqL.of h3, ?_, q _ (g12.then g3)⟩
      rw [show (((d : Nat) : Int) - 1) = ((d - 1 : Nat) : Int) by omega]
      refine at_iV ?_
      rw [List.getD_eq_getElem?_getD, List.getElem?_eq_getElem (by omega)]
      rfl
    · rw [decide_eq_false (by omega)]
      rw [if_neg c] at q
      refine iteF ⟨_, rfl, b, st, rfl, SqT.of h2.sb, st_ne h.ok, fun m hm hle => ?_⟩
      have em := maxI_uniq hm hle
      subst em
      refine ⟨_, rfl, _, _, rfl, rfl, _, rfl, lenS_to h2.sb ?_⟩
      exact ⟨_, _, rfl, rfl, q _ g12⟩
end
end K6

set_option Elab.async false
set_option linter.all false
set_option maxRecDepth 100000
set_option maxHeartbeats 4000000
/-! K6Me: the operations of a live plant, in plain Lean -/
namespace K6
inductive Op where
  | day
  | days (d : Nat)
  | sell (v : Nat)
  | add (v : Nat)
  | remove
structure Sta where
  pl : List Nat
  st : List Int
  hist : List (Op × List Nat × List Int)
namespace Sta
def did (s : Sta) (op : Op) (pl : List Nat) (st : List Int) : Sta := ⟨pl, st, s.hist ++ [(op, s.pl, s.st)]⟩
end Sta
def newPl (op : Op) (pl : List Nat) : List Nat := match op with
  | .add v => pl ++ [v]
  | .remove => pl.dropLast
  | _ => pl
def newSt (op : Op) (pl : List Nat) (st : List Int) : List Int := match op with
  | .day => nextSt st (chainOf pl st 0)
  | .days d => stockAt pl st d
  | .sell v => nextSt st (chainOf pl st v)
  | .add _ => st ++ [maxI st + 1]
  | .remove => st.dropLast
def doOp (op : Op) (s : Sta) : Sta := s.did op (newPl op s.pl) (newSt op s.pl s.st)
def retOp (op : Op) (s : Sta) : Option Int := match op with
  | .day => some (bx s.st 0)
  | .sell v => some (bx s.st v)
  | _ => none
structure OpOk (op : Op) (s : Sta) : Prop where
  ok : match op with
    | .day => True
    | .days d => 1 ≤ d ∧ d ≤ 1000000000000000000000000000000
    | .sell v => v ≤ s.pl.length
    | .add v => v ≤ s.pl.length ∧ s.st.length < 40
    | .remove => 1 ≤ s.pl.length
def undoS (s : Sta) : Sta := match s.hist.getLast? with
  | some (_, pl, st) => ⟨pl, st, s.hist.dropLast⟩
  | none => s
/-- the state, its stocks within bounds -/
structure Sok (B : Int) (s : Sta) : Prop where
  ok : StOk s.pl s.st
  bnd : Bnd (-B) B s.st
  hist : ∀ x ∈ s.hist, StOk x.2.1 x.2.2 ∧ Bnd (-B) B x.2.2
theorem Sok.mono {B B' : Int} {s : Sta} (h : Sok B s) (hb : B ≤ B') : Sok B' s := ⟨h.ok, h.bnd.mono (by omega) hb, fun x hx => ⟨(h.hist x hx).1, (h.hist x hx).2.mono (by omega) hb⟩⟩
abbrev stepB : Int := 1000000000000000000000000000200
theorem add_ok {pl : List Nat} {st : List Int} (ok : StOk pl st) {v : Nat} (hv : v ≤ pl.length) (hl : st.length < 40) : StOk (pl ++ [v]) (st ++ [maxI st + 1]) := by
  have h1 := ok.len
  refine ⟨⟨by rw [List.length_append, List.length_singleton]; omega, fun i hi => ?_⟩, by rw [List.length_append, List.length_append, h1]; rfl, List.nodup_append.mpr ⟨ok.nd, by simp, fun a ha b hb e => ?_⟩⟩
  · rw [List.length_append, List.length_singleton] at hi
    rw [List.getD_eq_getElem?_getD]
    by_cases h : i < pl.length
    · rw [List.getElem?_append_left h, ← List.getD_eq_getElem?_getD]
      exact ok.plok.2 i h
    · have : i = pl.length := by omega
      subst this
      rw [List.getElem?_append_right (Nat.le_refl _), Nat.sub_self]
      exact hv
  · have : b = maxI st + 1 := by simpa using hb
    rw [e, this] at ha
    exact max_not_mem st ha
theorem remove_ok {pl : List Nat} {st : List Int} (ok : StOk pl st) (hl : 1 ≤ pl.length) : StOk pl.dropLast st.dropLast := by
  have h1 := ok.len
  refine ⟨⟨by rw [List.length_dropLast]; have := ok.plok.1; omega, fun i hi => ?_⟩, by rw [List.length_dropLast, List.length_dropLast]; omega, ok.nd.sublist (List.dropLast_sublist _)⟩
  rw [List.length_dropLast] at hi
  have e : pl.dropLast.getD i 0 = pl.getD i 0 := by
    rw [List.getD_eq_getElem?_getD, List.getD_eq_getElem?_getD, List.dropLast_eq_take, List.getElem?_take, if_pos (by omega)]
  rw [e]
  exact ok.plok.2 i (by omega)
theorem new_ok {B : Int} (hB : 0 ≤ B) {op : Op} {s : Sta} (h : Sok B s) (o : OpOk op s) : StOk (newPl op s.pl) (newSt op s.pl s.st) ∧ Bnd (-(B + stepB)) (B + stepB) (newSt op s.pl s.st) := by
  have ok := h.ok
  have hm := h.bnd _ (maxI_mem (st_ne ok))
  have hs : stepB = 1000000000000000000000000000200 := rfl
  cases op with
  | day => exact ⟨nextSt_ok ok (Nat.zero_le _), (nextSt_bnd ok (Nat.zero_le _) h.bnd).mono (by omega) (by omega)⟩
  | days d =>
    have hd : 1 ≤ d ∧ d ≤ 1000000000000000000000000000000 := o.ok
    obtain ⟨h1, h2⟩ := stockAt_ok ok h.bnd d
    exact ⟨h1, h2.mono (by omega) (by omega)⟩
  | sell v => exact ⟨nextSt_ok ok o.ok, (nextSt_bnd ok o.ok h.bnd).mono (by omega) (by omega)⟩
  | add v =>
    have hv : v ≤ s.pl.length ∧ s.st.length < 40 := o.ok
    refine ⟨add_ok ok hv.1 hv.2, fun x hx => ?_⟩
    rcases List.mem_append.mp hx with q | q
    · have := h.bnd x q
      omega
    · have : x = maxI s.st + 1 := by simpa using q
      omega
  | remove =>
    refine ⟨remove_ok ok o.ok, fun x hx => ?_⟩
    have := h.bnd x (List.dropLast_subset _ hx)
    omega
theorem do_ok {B : Int} (hB : 0 ≤ B) {op : Op} {s : Sta} (h : Sok B s) (o : OpOk op s) : Sok (B + stepB) (doOp op s) := by
  obtain ⟨h1, h2⟩ := new_ok hB h o
  have hs : stepB = 1000000000000000000000000000200 := rfl
  refine ⟨h1, h2, fun x hx => ?_⟩
  rcases List.mem_append.mp hx with q | q
  · have := h.hist x q
    exact ⟨this.1, this.2.mono (by omega) (by omega)⟩
  · have : x = (op, s.pl, s.st) := by simpa using q
    rw [this]
    exact ⟨h.ok, h.bnd.mono (by omega) (by omega)⟩
theorem undo_ok {B : Int} {s : Sta} (h : Sok B s) : Sok B (undoS s) := by
  unfold undoS
  split
  · rename_i op pl st e
    have := h.hist _ (List.mem_of_getLast? e)
    exact ⟨this.1, this.2, fun x hx => h.hist x (List.dropLast_subset _ hx)⟩
  · exact h
theorem undo_do (op : Op) (s : Sta) : undoS (doOp op s) = s := by
  unfold undoS doOp Sta.did
  simp
end K6

set_option Elab.async false
set_option linter.all false
set_option maxRecDepth 100000
set_option maxHeartbeats 4000000
/-! K6Wo: LivePlant's methods -/
namespace K6
open PySem PySem.Spec PyProof.Rows L2
def opV : Op → List V
  | .day => [.str "day"]
  | .days d => [.str "days", .int ((d : Nat) : Int)]
  | .sell v => [.str "sell", .int ((v : Nat) : Int)]
  | .add v => [.str "add", .int ((v : Nat) : Int)]
  | .remove => [.str "remove"]
/-- the pair of a plant and its stock at c -/
def CurAt (H : Hp) (c : Addr) (pl : List Nat) (st : List Int) : Prop := ∃ a b, H c = some (.tup [.ref a, .ref b]) ∧ PS2 H a b pl st
def EntAt (H : Hp) (e : Addr) (x : Op × List Nat × List Int) : Prop := ∃ o c, H e = some (.tup [.ref o, .ref c]) ∧ H o = some (.tup (opV x.1)) ∧ CurAt H c x.2.1 x.2.2
structure HistAt (H : Hp) (l : Addr) (es : List Addr) (hs : List (Op × List Nat × List Int)) : Prop where
  top : H l = some (.lst (es.map V.ref))
  len : es.length = hs.length
  it : ∀ (i : Nat) e x, es[i]? = some e → hs[i]? = some x → EntAt H e x
structure LiveAt (K : PySem.W.Frag) (H : Hp) (a l : Addr) (s : Sta) : Prop where
  ex : ∃ dx c es, H a = some (.ins (He.ga K "LivePlant") dx [("current", .ref c), ("history", .ref l)]) ∧ CurAt H c s.pl s.st ∧ HistAt H l es s.hist
section
variable {T : TL} {ex : List Addr} {H H' : Hp}
theorem CurAt.keep {c : Addr} {pl : List Nat} {st : List Int} (h : CurAt H c pl st) (g : Gx T ex H H') : CurAt H' c pl st := by
  obtain ⟨a, b, h1, h2⟩ := h
  exact ⟨a, b, g.tup h1, h2.keep g⟩
theorem EntAt.keep {e : Addr} {x : Op × List Nat × List Int} (h : EntAt H e x) (g : Gx T ex H H') : EntAt H' e x := by
  obtain ⟨o, c, h1, h2, h3⟩ := h
  exact ⟨o, c, g.tup h1, g.tup h2, h3.keep g⟩
theorem HistAt.keep {l : Addr} {es : List Addr} {hs : List (Op × List Nat × List Int)} (h : HistAt H l es hs) (g : Gx T ex H H') (n : l ∉ ex) : HistAt H' l es hs :=
  ⟨g.lstX h.top n, h.len, fun i e x h1 h2 => (h.it i e x h1 h2).keep g⟩
theorem LiveAt.keep {K : PySem.W.Frag} {a l : Addr} {s : Sta} (h : LiveAt K H a l s) (g : Gx T ex H H') (n1 : a ∉ ex) (n2 : l ∉ ex) : LiveAt K H' a l s := by
  obtain ⟨dx, c, es, h1, h2, h3⟩ := h.ex
  exact ⟨dx, c, es, g.insX h1 n1, h2.keep g, h3.keep g n2⟩
theorem LiveAt.keep0 {K : PySem.W.Frag} {a l : Addr} {s : Sta} (h : LiveAt K H a l s) (g : Gx T [] H H') : LiveAt K H' a l s := h.keep g (by simp) (by simp)
end
section
variable {P : Program} {w : World} {K : PySem.W.Frag} {mg : Str → Option Value} {base : Heap}
def spCommit (K : PySem.W.Frag) : Sp := fun vs H Q _ => ∃ a l o p b s op pl st, vs = [.ref a, .ref o, .ref p, .ref b] ∧ LiveAt K H a l s ∧ H o = some (.tup (opV op)) ∧ PS2 H p b pl st ∧ s.hist.length < 1000 ∧
  ∀ H', Gx (TK K) [a, l] H H' → LiveAt K H' a l (s.did op pl st) → Q .non H'
theorem metLivePlantCommit (z : Cz P w K mg base) : C8.Met P w K mg base 1 (He.ga K "LivePlant") "commit" (spCommit K) [] := by
  refine mkMet z.kLivePlant z.tLivePlantCommit z.fLivePlantCommit scLivePlantCommit bLivePlantCommit (fun vs H Q E h => ?_) fun cdv A outer s H vs Q E hr h => ?_
  · obtain ⟨a, l, o, p, b, s, op, pl, st, rfl, _⟩ := h
    rfl
  · refine ⟨_, (pss_cons (ps_expr (pe_bm PySem.F.plainAttrs_list PySem.F.slot_list_append PySem.F.type_list_append mt_append (pe_fld (pv 0) rfl) (pa_cons (pe_tup (pa_cons (pv 1) (pa_cons (pe_fld (pv 0) rfl) pa_nil))) pa_nil)))
  (pss_one (ps_fld (pv 0) (pe_tup (pa_cons (pv 2) (pa_cons (pv 3) pa_nil))) rfl))), ?_⟩
    obtain ⟨a, l, o, p, b, s, op, pl, st, rfl, h, ho, hp, h1000, q⟩ := h
    obtain ⟨dx, c, es, ha, hc, hh⟩ := h.ex
    have hel : (es.map V.ref).length < sizeLine := by rw [List.length_map, hh.len]; exact sl_le (by omega)
    refine ⟨_, rfl, a, _, dx, _, _, rfl, ha, z.kLivePlant, z.aHistory, rfl, .inl ⟨rfl, _, SqL.of hh.top⟩, _, rfl, _, rfl, a, _, dx, _, _, rfl, ha, z.kLivePlant, z.aCurrent, rfl, by show 2 ≤ sizeLine; decide, fun e ne => ?_⟩
    have g1 : Gx (TK K) [] H (upd H e (.tup [.ref o, .ref c])) := Gx.new ne
    have hl1 := g1.lst hh.top
    have nal : a ≠ l := ne_of ha hh.top (by intro z; cases z)
    refine ⟨l, _, _, rfl, rfl, hl1, hel, ?_⟩
    have g2 : Gx (TK K) [a, l] H (upd (upd H e (.tup [.ref o, .ref c])) l (.lst (es.map V.ref ++ [.ref e]))) := (g1.wide0 (ex := [a, l])).put (.inl (by simp)) hl1 trivial
    refine ⟨_, rfl, _, rfl, by show 2 ≤ sizeLine; decide, fun c2 nc2 => ?_⟩
    have g3 := g2.more (o := .tup [.ref p, .ref b]) nc2
    have ha3 : upd (upd (upd H e (.tup [.ref o, .ref c])) l (.lst (es.map V.ref ++ [.ref e]))) c2 (.tup [.ref p, .ref b]) a = some (.ins (He.ga K "LivePlant") dx [("current", .ref c), ("history", .ref l)]) := by
      rw [upd_ne (ne_of_none (H := upd (upd H e (.tup [.ref o, .ref c])) l (.lst (es.map V.ref ++ [.ref e]))) (by rw [upd_ne nal]; exact g1.ins ha) nc2), upd_ne nal]
      exact g1.ins ha
    refine ⟨_, rfl, a, _, dx, _, rfl, ha3, z.kLivePlant, z.aCurrent, by show 2 < 1000; decide, ?_⟩
    have g4 := g3.put (o := .ins (He.ga K "LivePlant") dx [("current", .ref c2), ("history", .ref l)]) (.inl (by simp)) ha3 trivial
    refine q _ g4 ⟨dx, c2, es ++ [e], upd_same, ?_, ?_⟩
    · refine ⟨p, b, ?_, hp.keep g4⟩
      rw [upd_ne (ne_of ha3 upd_same (by intro z; cases z)).symm]
      exact upd_same
    · refine ⟨?_, by rw [List.length_append, hh.len]; show _ = (s.hist ++ [(op, s.pl, s.st)]).length; rw [List.length_append]; rfl, fun i e2 x h1 h2 => ?_⟩
      · rw [upd_ne (Ne.symm nal), upd_ne (ne_of_none upd_same nc2), upd_same, List.map_append]
        rfl
      · have h2 : (s.hist ++ [(op, s.pl, s.st)])[i]? = some x := h2
        by_cases hi : i < es.length
        · rw [List.getElem?_append_left hi] at h1
          rw [List.getElem?_append_left (by rw [← hh.len]; exact hi)] at h2
          exact (hh.it i e2 x h1 h2).keep g4
        · rw [List.getElem?_append_right (by omega)] at h1
          rw [List.getElem?_append_right (by rw [← hh.len]; omega), ← hh.len] at h2
          have hz : i - es.length = 0 := by
            have := (List.getElem?_eq_some_iff.mp h1).1
            simp at this
            exact this
          rw [hz] at h1 h2
          cases h1
          cases h2
          have he1 : upd (upd (upd H e (.tup [.ref o, .ref c])) l (.lst (es.map V.ref ++ [.ref e]))) c2 (.tup [.ref p, .ref b]) e = some (.tup [.ref o, .ref c]) := by
            have hel2 : e ≠ l := (ne_of_none hh.top ne).symm
            rw [upd_ne (ne_of_none (H := upd (upd H e (.tup [.ref o, .ref c])) l (.lst (es.map V.ref ++ [.ref e]))) (by rw [upd_ne hel2]; exact upd_same) nc2), upd_ne hel2]
            exact upd_same
          exact ⟨o, c, by rw [upd_ne (ne_of ha3 he1 (by intro z; cases z)).symm]; exact he1, g4.tup ho, hc.keep g4⟩
def spSellFrom (K : PySem.W.Frag) : Sp := fun vs H Q _ => ∃ a l o s op, ∃ v : Nat, vs = [.ref a, .int (v : Nat), .ref o] ∧ LiveAt K H a l s ∧ H o = some (.tup (opV op)) ∧ v ≤ s.pl.length ∧ s.hist.length < 1000 ∧
  ∀ H', Gx (TK K) [a, l] H H' → LiveAt K H' a l (s.did op s.pl (nextSt s.st (chainOf s.pl s.st v))) → Q (.int (bx s.st v)) H'
theorem metLivePlantSellFrom (z : Cz P w K mg base) : C8.Met P w K mg base 3 (He.ga K "LivePlant") "sell_from" (spSellFrom K) [] := by
  refine mkMet z.kLivePlant z.tLivePlantSellFrom z.fLivePlantSellFrom scLivePlantSellFrom bLivePlantSellFrom (fun vs H Q E h => ?_) fun cdv A outer s H vs Q E hr h => ?_
  · obtain ⟨a, l, o, s, op, v, rfl, _⟩ := h
    rfl
  · refine ⟨_, (pss_cons (ps_asg (pe_fld (pv 0) rfl) (pg_pair (i := 3) (j := 4) rfl scLivePlantSellFrom.nd rfl (Or.inl rfl) rfl (Or.inl rfl)))
  (pss_cons (ps_expr (C8.pe_mt (metLivePlantCommit z) hr (by decide) (pv 0) (pa_cons (pv 2) (pa_cons (pv 3) (pa_cons (C8.pe_c (calNextStock z) hr (by decide) rfl (pa_cons (pv 3) (pa_cons (pv 4) (pa_cons (C8.pe_c (calChainOf z) hr (by decide) rfl (pa_cons (pv 3) (pa_cons (pv 4) (pa_cons (pv 1) pa_nil)))) pa_nil)))) pa_nil)))))
  (pss_one (ps_ret (pe_ix ix_tup (pv 4) (pv 1) (fun _ _ => rfl)))))), ?_⟩
    obtain ⟨a, l, o, s, op, v, rfl, h, ho, hv, h1000, q⟩ := h
    obtain ⟨dx, c, es, ha, hc, hh⟩ := h.ex
    obtain ⟨p, b, hc1, hp⟩ := hc
    refine ⟨_, rfl, a, _, dx, _, _, rfl, ha, z.kLivePlant, z.aCurrent, rfl, ?_⟩
    refine pair_to hc1 ⟨_, rfl, a, dx, _, rfl, ha, rfl, _, rfl, _, rfl, _, rfl, _, rfl, _, rfl, _, rfl, _, rfl, p, b, s.pl, s.st, v, rfl, hp, hv, fun H1 cc g1 _ h1 => ?_⟩
    refine ⟨p, b, cc, s.pl, s.st, v, rfl, hp.keep g1, hv, h1, fun H2 b2 g2 h2 => ?_⟩
    have g12 := g1.then g2
    refine ⟨a, l, o, p, b2, s, op, s.pl, _, rfl, h.keep0 g12, g12.tup ho, h2, h1000, fun H3 g3 h3 => ?_⟩
    have g13 : Gx (TK K) [a, l] H H3 := (g12.wide0 (ex := [a, l])).trans g3 fun x hx => .inl hx
    refine ⟨_, rfl, _, rfl, b, _, _, _, rfl, rfl, SqT.of (hp.keep g13).sb, at_iV (bx_get (by rw [hp.ok.len]; omega)), q H3 g13 h3⟩
def spDay (K : PySem.W.Frag) : Sp := fun vs H Q _ => ∃ a l s, vs = [.ref a] ∧ LiveAt K H a l s ∧ s.hist.length < 1000 ∧ ∀ H', Gx (TK K) [a, l] H H' → LiveAt K H' a l (doOp .day s) → Q (.int (bx s.st 0)) H'
theorem metLivePlantDay (z : Cz P w K mg base) : C8.Met P w K mg base 4 (He.ga K "LivePlant") "day" (spDay K) [] := by
  refine mkMet z.kLivePlant z.tLivePlantDay z.fLivePlantDay scLivePlantDay bLivePlantDay (fun vs H Q E h => ?_) fun cdv A outer s H vs Q E hr h => ?_
  · obtain ⟨a, l, s, rfl, _⟩ := h
    rfl
  · refine ⟨_, (pss_one (ps_ret (C8.pe_mt (metLivePlantSellFrom z) hr (by decide) (pv 0) (pa_cons pe_int (pa_cons (pe_tup (pa_cons pe_str pa_nil)) pa_nil))))), ?_⟩
    obtain ⟨a, l, s, rfl, h, h1000, q⟩ := h
    obtain ⟨dx, c, es, ha, hc, hh⟩ := h.ex
    refine ⟨_, rfl, a, dx, _, rfl, ha, rfl, by show 1 ≤ sizeLine; decide, fun o no => ?_⟩
    have g1 : Gx (TK K) [] H (upd H o (.tup [.str "day"])) := Gx.new no
    refine ⟨a, l, o, s, .day, 0, rfl, h.keep0 g1, upd_same, Nat.zero_le _, h1000, fun H1 g2 h2 => ?_⟩
    exact q H1 ((g1.wide0 (ex := [a, l])).trans g2 fun x hx => .inl hx) h2
def spSell (K : PySem.W.Frag) : Sp := fun vs H Q _ => ∃ a l s, ∃ v : Nat, vs = [.ref a, .int (v : Nat)] ∧ LiveAt K H a l s ∧ v ≤ s.pl.length ∧ s.hist.length < 1000 ∧ ∀ H', Gx (TK K) [a, l] H H' → LiveAt K H' a l (doOp (.sell v) s) → Q (.int (bx s.st v)) H'
theorem metLivePlantSell (z : Cz P w K mg base) : C8.Met P w K mg base 4 (He.ga K "LivePlant") "sell" (spSell K) [] := by
  refine mkMet z.kLivePlant z.tLivePlantSell z.fLivePlantSell scLivePlantSell bLivePlantSell (fun vs H Q E h => ?_) fun cdv A outer s H vs Q E hr h => ?_
  · obtain ⟨a, l, s, v, rfl, _⟩ := h
    rfl
  · refine ⟨_, (pss_cons (ps_expr (C8.pe_c (calRequireStation z) hr (by decide) rfl (pa_cons (pe_ix ix_tup (pe_fld (pv 0) rfl) pe_int (fun _ _ => rfl)) (pa_cons (pv 1) pa_nil))))
  (pss_one (ps_ret (C8.pe_mt (metLivePlantSellFrom z) hr (by decide) (pv 0) (pa_cons (pv 1) (pa_cons (pe_tup (pa_cons pe_str (pa_cons (pv 1) pa_nil))) pa_nil)))))), ?_⟩
    obtain ⟨a, l, s, v, rfl, h, hv, h1000, q⟩ := h
    obtain ⟨dx, c, es, ha, hc, hh⟩ := h.ex
    obtain ⟨p, b, hc1, hp⟩ := hc
    refine ⟨_, rfl, a, _, dx, _, _, rfl, ha, z.kLivePlant, z.aCurrent, rfl, c, _, 0, _, rfl, rfl, SqT.of hc1, rfl, _, rfl, p, s.pl, v, rfl, hp.pa, hv, ?_⟩
    refine ⟨_, rfl, a, dx, _, rfl, ha, rfl, _, rfl, _, rfl, by show 2 ≤ sizeLine; decide, fun o no => ?_⟩
    have g1 : Gx (TK K) [] H (upd H o (.tup [.str "sell", .int (v : Nat)])) := Gx.new no
    refine ⟨a, l, o, s, .sell v, v, rfl, h.keep0 g1, upd_same, hv, h1000, fun H1 g2 h2 => ?_⟩
    exact q H1 ((g1.wide0 (ex := [a, l])).trans g2 fun x hx => .inl hx) h2
def spDays (K : PySem.W.Frag) : Sp := fun vs H Q _ => ∃ a l s, ∃ d : Nat, vs = [.ref a, .int (d : Nat)] ∧ LiveAt K H a l s ∧ 1 ≤ d ∧ d ≤ 1000000000000000000000000000000 ∧ LamX.Tabs (TK K) H ∧ s.hist.length < 1000 ∧ ∀ H', Gx (TK K) [a, l] H H' → LiveAt K H' a l (doOp (.days d) s) → Q .non H'
theorem metLivePlantDays (z : Cz P w K mg base) : C8.Met P w K mg base 5 (He.ga K "LivePlant") "days" (spDays K) [] := by
  refine mkMet z.kLivePlant z.tLivePlantDays z.fLivePlantDays scLivePlantDays bLivePlantDays (fun vs H Q E h => ?_) fun cdv A outer s H vs Q E hr h => ?_
  · obtain ⟨a, l, s, d, rfl, _⟩ := h
    rfl
  · refine ⟨_, (pss_cons (ps_asg (pe_fld (pv 0) rfl) (pg_pair (i := 2) (j := 3) rfl scLivePlantDays.nd rfl (Or.inl rfl) rfl (Or.inl rfl)))
  (pss_cons (ps_expr (C8.pe_c (calRequireDays z) hr (by decide) rfl (pa_cons (pv 1) (pa_cons pe_int (pa_cons (pe_glob (v := .int 1000000000000000000000000000000) rfl z.cMOST_DAYS.choose_spec ⟨_, rfl⟩) pa_nil)))))
  (pss_one (ps_expr (C8.pe_mt (metLivePlantCommit z) hr (by decide) (pv 0) (pa_cons (pe_tup (pa_cons pe_str (pa_cons (pv 1) pa_nil))) (pa_cons (pv 2) (pa_cons (C8.pe_c (calStockAt z) hr (by decide) rfl (pa_cons (pv 2) (pa_cons (pv 3) (pa_cons (pv 1) pa_nil)))) pa_nil)))))))), ?_⟩
    obtain ⟨a, l, s, d, rfl, h, hd1, hd2, ht, h1000, q⟩ := h
    obtain ⟨dx, c, es, ha, hc, hh⟩ := h.ex
    obtain ⟨p, b, hc1, hp⟩ := hc
    refine ⟨_, rfl, a, _, dx, _, _, rfl, ha, z.kLivePlant, z.aCurrent, rfl, ?_⟩
    refine pair_to hc1 ⟨_, rfl, _, _, _, rfl, by omega, by omega, ?_⟩
    refine ⟨_, rfl, a, dx, _, rfl, ha, rfl, _, rfl, by show 2 ≤ sizeLine; decide, fun o no => ?_⟩
    have g1 : Gx (TK K) [] H (upd H o (.tup [.str "days", .int (d : Nat)])) := Gx.new no
    refine ⟨_, rfl, _, rfl, _, rfl, _, rfl, p, b, s.pl, s.st, d, rfl, hp.keep g1, Nat.lt_of_le_of_lt hd2 (by decide), g1.tab ht, fun H1 D g2 h2 => ?_⟩
    have g12 := g1.then g2
    refine ⟨a, l, o, p, D, s, .days d, s.pl, _, rfl, h.keep0 g12, g2.tup upd_same, h2, h1000, fun H3 g3 h3 => ?_⟩
    exact q H3 ((g12.wide0 (ex := [a, l])).trans g3 fun x hx => .inl hx) h3
theorem one_nV (pl : List Nat) (v : Nat) : iV (nI pl) ++ [V.int ((v : Nat) : Int)] = iV (nI (pl ++ [v])) := by rw [iV_snoc, nI_snoc]
theorem dropLast_iV (xs : List Int) : (iV xs).dropLast = iV xs.dropLast := (List.map_dropLast ..).symm
theorem dropLast_nV (xs : List Nat) : (iV (nI xs)).dropLast = iV (nI xs.dropLast) := by
  rw [dropLast_iV]
  congr 1
  exact (List.map_dropLast ..).symm
def spAdd (K : PySem.W.Frag) : Sp := fun vs H Q _ => ∃ a l s, ∃ v : Nat, vs = [.ref a, .int (v : Nat)] ∧ LiveAt K H a l s ∧ v ≤ s.pl.length ∧ s.st.length < 40 ∧ s.hist.length < 1000 ∧ ∀ H', Gx (TK K) [a, l] H H' → LiveAt K H' a l (doOp (.add v) s) → Q .non H'
theorem metLivePlantAdd (z : Cz P w K mg base) : C8.Met P w K mg base 4 (He.ga K "LivePlant") "add" (spAdd K) [] := by
  refine mkMet z.kLivePlant z.tLivePlantAdd z.fLivePlantAdd scLivePlantAdd bLivePlantAdd (fun vs H Q E h => ?_) fun cdv A outer s H vs Q E hr h => ?_
  · obtain ⟨a, l, s, v, rfl, _⟩ := h
    rfl
  · refine ⟨_, (pss_cons (ps_asg (pe_fld (pv 0) rfl) (pg_pair (i := 2) (j := 3) rfl scLivePlantAdd.nd rfl (Or.inl rfl) rfl (Or.inl rfl)))
  (pss_cons (ps_expr (C8.pe_c (calRequireStation z) hr (by decide) rfl (pa_cons (pv 2) (pa_cons (pv 1) pa_nil))))
  (pss_cons (ps_if (pt_cmpR op_eq (pe_callB call_lenQ (by rfl) z.nlen PySem.boot_len (pa_cons (pv 3) pa_nil)) (pe_glob (v := .int 40) rfl z.cMOST_STATIONS_live.choose_spec ⟨_, rfl⟩) (nomark _)) (pss_one ps_never) pss_nil)
  (pss_one (ps_expr (C8.pe_mt (metLivePlantCommit z) hr (by decide) (pv 0) (pa_cons (pe_tup (pa_cons pe_str (pa_cons (pv 1) pa_nil))) (pa_cons (pe_op op_catAQ (pv 2) (pe_tup (pa_cons (pv 1) pa_nil))) (pa_cons (pe_op op_catAQ (pv 3) (pe_tup (pa_cons (pe_op op_add (pe_callB (cr_maxT rfl hr.units) (by rfl) z.nmax (by decide +kernel) (pa_cons (pv 3) pa_nil)) pe_int) pa_nil))) pa_nil))))))))), ?_⟩
    obtain ⟨a, l, s, v, rfl, h, hv, h40, h1000, q⟩ := h
    obtain ⟨dx, c, es, ha, hc, hh⟩ := h.ex
    obtain ⟨p, b, hc1, hp⟩ := hc
    refine ⟨_, rfl, a, _, dx, _, _, rfl, ha, z.kLivePlant, z.aCurrent, rfl, ?_⟩
    refine pair_to hc1 ⟨_, rfl, _, rfl, p, s.pl, v, rfl, hp.pa, hv, ?_⟩
    refine ⟨_, rfl, lenS_to hp.sb ?_⟩
    refine ⟨rfl, _, rfl, ?_⟩
    rw [decide_eq_false (fun e => by have := V.int.inj e; omega)]
    refine iteF ⟨_, rfl, a, dx, _, rfl, ha, rfl, _, rfl, by show 2 ≤ sizeLine; decide, fun o no => ?_⟩
    have g1 : Gx (TK K) [] H (upd H o (.tup [.str "add", .int (v : Nat)])) := Gx.new no
    refine ⟨_, rfl, _, rfl, by show 1 ≤ sizeLine; decide, fun t1 nt1 => ?_⟩
    have g2 := g1.more (o := .tup [.int (v : Nat)]) nt1
    refine ⟨catA_to (T := TK K) (g2.tup hp.pa) upd_same (by rw [len_iV, len_nI]; have := hp.ok.plok.1; simp; omega) fun p2 H2 g3 hp2 => ?_⟩
    have g23 := g2.then g3
    refine ⟨_, rfl, _, rfl, b, s.st, rfl, SqT.of (g23.tup hp.sb), st_ne hp.ok, fun m hm hle => ?_⟩
    have em := maxI_uniq hm hle
    subst em
    refine ⟨_, _, rfl, rfl, by show 1 ≤ sizeLine; decide, fun t2 nt2 => ?_⟩
    have g4 := g23.more (o := .tup [.int (maxI s.st + 1)]) nt2
    refine ⟨catA_to (T := TK K) (g4.tup hp.sb) upd_same (by rw [len_iV]; simp; omega) fun b2 H3 g5 hb2 => ?_⟩
    have g45 := g4.then g5
    have ok2 := add_ok hp.ok hv h40
    have h5 : PS2 H3 p2 b2 (s.pl ++ [v]) (s.st ++ [maxI s.st + 1]) := by
      refine ⟨?_, ?_, ok2⟩
      · rw [← one_nV]
        exact g5.tup ((Gx.new (T := TK K) nt2).tup hp2)
      · rw [← iV_snoc]
        exact hb2
    have ho5 : H3 o = some (.tup (opV (.add v))) := g5.tup ((Gx.new (T := TK K) nt2).tup (g3.tup ((Gx.new (T := TK K) nt1).tup upd_same)))
    refine ⟨a, l, o, p2, b2, s, .add v, _, _, rfl, h.keep0 g45, ho5, h5, h1000, fun H4 g6 h6 => ?_⟩
    exact q H4 ((g45.wide0 (ex := [a, l])).trans g6 fun x hx => .inl hx) h6
def spRemove (K : PySem.W.Frag) : Sp := fun vs H Q _ => ∃ a l s, vs = [.ref a] ∧ LiveAt K H a l s ∧ 1 ≤ s.pl.length ∧ s.hist.length < 1000 ∧ ∀ H', Gx (TK K) [a, l] H H' → LiveAt K H' a l (doOp .remove s) → Q .non H'
theorem metLivePlantRemove (z : Cz P w K mg base) : C8.Met P w K mg base 2 (He.ga K "LivePlant") "remove" (spRemove K) [] := by
  refine mkMet z.kLivePlant z.tLivePlantRemove z.fLivePlantRemove scLivePlantRemove bLivePlantRemove (fun vs H Q E h => ?_) fun cdv A outer s H vs Q E hr h => ?_
  · obtain ⟨a, l, s, rfl, _⟩ := h
    rfl
  · refine ⟨_, (pss_cons (ps_asg (pe_fld (pv 0) rfl) (pg_pair (i := 1) (j := 2) rfl scLivePlantRemove.nd rfl (Or.inl rfl) rfl (Or.inl rfl)))
  (pss_cons (ps_if (pt_cmpR op_eq (pe_callB call_lenQ (by rfl) z.nlen PySem.boot_len (pa_cons (pv 2) pa_nil)) pe_int (nomark _)) (pss_one ps_never) pss_nil)
  (pss_one (ps_expr (C8.pe_mt (metLivePlantCommit z) hr (by decide) (pv 0) (pa_cons (pe_tup (pa_cons pe_str pa_nil)) (pa_cons (pe_slice sl_tupQ (pv 1) po_none (po_some (pe_un un_neg pe_int))) (pa_cons (pe_slice sl_tupQ (pv 2) po_none (po_some (pe_un un_neg pe_int))) pa_nil)))))))), ?_⟩
    obtain ⟨a, l, s, rfl, h, h1, h1000, q⟩ := h
    obtain ⟨dx, c, es, ha, hc, hh⟩ := h.ex
    obtain ⟨p, b, hc1, hp⟩ := hc
    have hlen := hp.ok.len
    refine ⟨_, rfl, a, _, dx, _, _, rfl, ha, z.kLivePlant, z.aCurrent, rfl, ?_⟩
    refine pair_to hc1 ⟨_, rfl, lenS_to hp.sb ?_⟩
    refine ⟨rfl, _, rfl, ?_⟩
    rw [decide_eq_false (fun e => by have := V.int.inj e; omega)]
    refine iteF ⟨_, rfl, a, dx, _, rfl, ha, rfl, by show 1 ≤ sizeLine; decide, fun o no => ?_⟩
    have g1 : Gx (TK K) [] H (upd H o (.tup [.str "remove"])) := Gx.new no
    refine ⟨_, rfl, 1, rfl, -1, rfl, ⟨slA_to (T := TK K) none (some (-1)) (g1.tup hp.pa) fun p2 H2 g3 hp2 => ?_⟩⟩
    have g13 := g1.then g3
    refine ⟨_, rfl, 1, rfl, -1, rfl, ⟨slA_to (T := TK K) none (some (-1)) (g13.tup hp.sb) fun b2 H3 g5 hb2 => ?_⟩⟩
    have g45 := g13.then g5
    rw [cut_last, dropLast_nV] at hp2
    rw [cut_last, dropLast_iV] at hb2
    have h5 : PS2 H3 p2 b2 s.pl.dropLast s.st.dropLast := ⟨g5.tup hp2, hb2, remove_ok hp.ok h1⟩
    have ho5 : H3 o = some (.tup (opV .remove)) := g5.tup (g3.tup upd_same)
    refine ⟨a, l, o, p2, b2, s, .remove, _, _, rfl, h.keep0 g45, ho5, h5, h1000, fun H4 g6 h6 => ?_⟩
    exact q H4 ((g45.wide0 (ex := [a, l])).trans g6 fun x hx => .inl hx) h6
def spUndo (K : PySem.W.Frag) : Sp := fun vs H Q _ => ∃ a l s, vs = [.ref a] ∧ LiveAt K H a l s ∧ s.hist ≠ [] ∧ ∀ H', Gx (TK K) [a, l] H H' → LiveAt K H' a l (undoS s) → Q .non H'
theorem metLivePlantUndo (z : Cz P w K mg base) : C8.Met P w K mg base 1 (He.ga K "LivePlant") "undo" (spUndo K) [] := by
  refine mkMet z.kLivePlant z.tLivePlantUndo z.fLivePlantUndo scLivePlantUndo bLivePlantUndo (fun vs H Q E h => ?_) fun cdv A outer s H vs Q E hr h => ?_
  · obtain ⟨a, l, s, rfl, _⟩ := h
    rfl
  · refine ⟨_, (pss_cons (ps_if (pt_cmpR (op_eqL0 hr.units) (pe_fld (pv 0) rfl) (pe_lst pa_nil) (nomark _)) (pss_one ps_never) pss_nil)
  (pss_one (ps_asg (pe_bm0 PySem.F.plainAttrs_list PySem.F.slot_list_pop PySem.F.type_list_pop mt_pop (pe_fld (pv 0) rfl)) (pg_tup rfl (pgs_cons (pg_name (i := 1) scLivePlantUndo.nd rfl (Or.inl rfl)) (pgs_cons (pg_fld (pv 0)) pgs_nil)))))), ?_⟩
    obtain ⟨a, l, s, rfl, h, hne, q⟩ := h
    obtain ⟨dx, c, es, ha, hc, hh⟩ := h.ex
    have nal : a ≠ l := ne_of ha hh.top (by intro z; cases z)
    obtain ⟨hs0, x0, ehist⟩ : ∃ hs0 x0, s.hist = hs0 ++ [x0] := ⟨s.hist.dropLast, s.hist.getLast hne, (List.dropLast_concat_getLast hne).symm⟩
    have hlen := hh.len
    rw [ehist, List.length_append, List.length_singleton] at hlen
    have esne : es ≠ [] := fun e => by rw [e] at hlen; simp at hlen
    obtain ⟨es0, e0, ees⟩ : ∃ es0 e0, es = es0 ++ [e0] := ⟨es.dropLast, es.getLast esne, (List.dropLast_concat_getLast esne).symm⟩
    subst ees
    rw [List.length_append, List.length_singleton] at hlen
    have hent := hh.it es0.length e0 x0 (by rw [List.getElem?_append_right (Nat.le_refl _), Nat.sub_self]; rfl) (by rw [ehist, show es0.length = hs0.length from by omega, List.getElem?_append_right (Nat.le_refl _), Nat.sub_self]; rfl)
    obtain ⟨o, c0, he0, ho, hc0⟩ := hent
    refine ⟨_, rfl, a, _, dx, _, _, rfl, ha, z.kLivePlant, z.aHistory, rfl, Nat.zero_le _, fun p np => ?_⟩
    have g1 : Gx (TK K) [] H (upd H p (.lst [])) := Gx.new np
    have hl1 := g1.lst hh.top
    refine ⟨l, p, _, rfl, rfl, SqL.of hl1, upd_same, _, rfl, ?_⟩
    have hem : ((es0 ++ [e0]).map V.ref).isEmpty = false := by
      rw [List.map_append]
      cases es0 <;> rfl
    simp only [hem]
    refine iteF ⟨_, rfl, a, _, dx, _, _, rfl, g1.ins ha, z.kLivePlant, z.aHistory, rfl, .inl ⟨rfl, _, SqL.of hl1⟩, l, _, .ref e0, rfl, rfl, hl1, by rw [List.map_append, List.length_append, List.map_singleton, List.length_singleton, Nat.add_sub_cancel, List.getElem?_append_right (Nat.le_refl _), Nat.sub_self]; rfl, ?_⟩
    have g2 : Gx (TK K) [a, l] H (upd (upd H p (.lst [])) l (.lst ((es0 ++ [e0]).map V.ref).dropLast)) := (g1.wide0 (ex := [a, l])).put (.inl (by simp)) hl1 trivial
    have ha2 : upd (upd H p (.lst [])) l (.lst ((es0 ++ [e0]).map V.ref).dropLast) a = some (.ins (He.ga K "LivePlant") dx [("current", .ref c), ("history", .ref l)]) := by
      rw [upd_ne nal]
      exact g1.ins ha
    have g3 := g2.put (o := .ins (He.ga K "LivePlant") dx [("current", .ref c0), ("history", .ref l)]) (.inl (by simp)) ha2 trivial
    refine ⟨e0, _, rfl, SqT.of (g2.tup he0), rfl, _, _, rfl, _, _, rfl, _, rfl, a, _, dx, _, rfl, ha2, z.kLivePlant, z.aCurrent, by show 2 < 1000; decide, rfl, ?_⟩
    have eu : undoS s = ⟨x0.2.1, x0.2.2, hs0⟩ := by
      unfold undoS
      rw [ehist]
      simp
    refine q _ g3 ?_
    rw [eu]
    refine ⟨dx, c0, es0, upd_same, hc0.keep g3, ?_, by show es0.length = hs0.length; omega, fun i e x h1 h2 => ?_⟩
    · rw [upd_ne (Ne.symm nal), upd_same, List.map_append, List.map_singleton, List.dropLast_concat]
    · have h2 : hs0[i]? = some x := h2
      have hi := (List.getElem?_eq_some_iff.mp h1).1
      exact (hh.it i e x (by rw [List.getElem?_append_left hi]; exact h1) (by rw [ehist, List.getElem?_append_left (by omega)]; exact h2)).keep g3
def spPlant (K : PySem.W.Frag) : Sp := fun vs H Q _ => ∃ a l s, vs = [.ref a] ∧ LiveAt K H a l s ∧ ∀ c p b, (∃ dx, H a = some (.ins (He.ga K "LivePlant") dx [("current", .ref c), ("history", .ref l)])) → H c = some (.tup [.ref p, .ref b]) → PS2 H p b s.pl s.st → Q (.ref p) H
theorem metLivePlantPlant (z : Cz P w K mg base) : C8.Met P w K mg base 1 (He.ga K "LivePlant") "plant" (spPlant K) [] := by
  refine mkMet z.kLivePlant z.tLivePlantPlant z.fLivePlantPlant scLivePlantPlant bLivePlantPlant (fun vs H Q E h => ?_) fun cdv A outer s H vs Q E hr h => ?_
  · obtain ⟨a, l, s, rfl, _⟩ := h
    rfl
  · refine ⟨_, (pss_one (ps_ret (pe_ix ix_tup (pe_fld (pv 0) rfl) pe_int (fun _ _ => rfl)))), ?_⟩
    obtain ⟨a, l, s, rfl, h, q⟩ := h
    obtain ⟨dx, c, es, ha, hc, hh⟩ := h.ex
    obtain ⟨p, b, hc1, hp⟩ := hc
    exact ⟨_, rfl, a, _, dx, _, _, rfl, ha, z.kLivePlant, z.aCurrent, rfl, c, _, 0, _, rfl, rfl, SqT.of hc1, rfl, q c p b ⟨dx, ha⟩ hc1 hp⟩
def spStock (K : PySem.W.Frag) : Sp := fun vs H Q _ => ∃ a l s, vs = [.ref a] ∧ LiveAt K H a l s ∧ ∀ c p b, (∃ dx, H a = some (.ins (He.ga K "LivePlant") dx [("current", .ref c), ("history", .ref l)])) → H c = some (.tup [.ref p, .ref b]) → PS2 H p b s.pl s.st → Q (.ref b) H
theorem metLivePlantStock (z : Cz P w K mg base) : C8.Met P w K mg base 1 (He.ga K "LivePlant") "stock" (spStock K) [] := by
  refine mkMet z.kLivePlant z.tLivePlantStock z.fLivePlantStock scLivePlantStock bLivePlantStock (fun vs H Q E h => ?_) fun cdv A outer s H vs Q E hr h => ?_
  · obtain ⟨a, l, s, rfl, _⟩ := h
    rfl
  · refine ⟨_, (pss_one (ps_ret (pe_ix ix_tup (pe_fld (pv 0) rfl) pe_int (fun _ _ => rfl)))), ?_⟩
    obtain ⟨a, l, s, rfl, h, q⟩ := h
    obtain ⟨dx, c, es, ha, hc, hh⟩ := h.ex
    obtain ⟨p, b, hc1, hp⟩ := hc
    exact ⟨_, rfl, a, _, dx, _, _, rfl, ha, z.kLivePlant, z.aCurrent, rfl, c, _, 1, _, rfl, rfl, SqT.of hc1, rfl, q c p b ⟨dx, ha⟩ hc1 hp⟩
def spLog (K : PySem.W.Frag) : Sp := fun vs H Q _ => ∃ a l s, vs = [.ref a] ∧ LiveAt K H a l s ∧ s.hist.length ≤ 1000 ∧ ∀ H' D (os : List Addr), Gx (TK K) [] H H' → H' D = some (.lst (os.map V.ref)) → os.length = s.hist.length → (∀ (i : Nat) o x, os[i]? = some o → s.hist[i]? = some x → H' o = some (.tup (opV x.1))) → Q (.ref D) H'
theorem metLivePlantLog (z : Cz P w K mg base) : C8.Met P w K mg base 1 (He.ga K "LivePlant") "log" (spLog K) [] := by
  refine mkMet z.kLivePlant z.tLivePlantLog z.fLivePlantLog scLivePlantLog bLivePlantLog (fun vs H Q E h => ?_) fun cdv A outer s H vs Q E hr h => ?_
  · obtain ⟨a, l, s, rfl, _⟩ := h
    rfl
  · refine ⟨_, (pss_one (ps_ret (pe_lc (own := [("operation", 1), ("before", 2)]) (g := gTup K 2 (gCons (gName 1) (gCons (gName 2) gNil))) (tt := tYes) rfl scLivePlantLog.nd (pi_list (pe_fld (pv 0) rfl)) (blkOk_by (own := [("operation", 1), ("before", 2)]) (N := nLivePlantLog) (sc := defScope sLivePlantLog) (by decide +kernel)) (fun _ _ _ _ _ => (pg_pair (i := 1) (j := 2) rfl scLivePlantLog.nd rfl (Or.inl rfl) rfl (Or.inl rfl))) (fun _ _ _ _ _ => pts_nil) (fun _ _ _ _ _ => (pv 1))))), ?_⟩
    obtain ⟨a, l, s, rfl, h, h1000, q⟩ := h
    obtain ⟨dx, c, es, ha, hc, hh⟩ := h.ex
    have hlen := hh.len
    refine ⟨_, rfl, a, _, dx, _, _, rfl, ha, z.kLivePlant, z.aHistory, rfl, l, rfl, ⟨_, SqL.of hh.top⟩, fun D nD => ?_⟩
    have fD : Fr H D := Fr.of nD
    refine lc_gen (gv_list (xs := es.map V.ref)) (fun i H1 => Gx (TK K) [] H H1 ∧ ∃ os : List Addr, H1 D = some (.lst (os.map V.ref)) ∧ os.length = i ∧ ∀ (j : Nat) o x, os[j]? = some o → s.hist[j]? = some x → H o = some (.tup (opV x.1))) ⟨Gx.new nD, [], upd_same, rfl, fun j o x h => by simp at h⟩ (fun i H1 _ pv => SqL.of (pv.1.lst hh.top)) (fun i x H1 H2 hi pv y => ?_) fun H1 pv => ?_
    · obtain ⟨g1, os, hos, hol, hoi⟩ := pv
      obtain ⟨rfl, hx⟩ := y
      rw [List.length_map] at hi
      rw [List.getElem?_map, List.getElem?_eq_getElem hi] at hx
      obtain rfl : x = V.ref es[i] := (Option.some.inj hx).symm
      have hit := hh.it i es[i] (s.hist[i]'(by omega)) (List.getElem?_eq_getElem hi) (List.getElem?_eq_getElem (by omega))
      obtain ⟨o, c0, he0, ho, hc0⟩ := hit
      refine pair_to (g1.tup he0) ⟨rfl, iteT (B := True) ⟨_, rfl, _, hos, by rw [List.length_map, hol]; exact sl_le (by omega), g1.put (.inr fD) hos trivial, os ++ [o], by rw [upd_same, List.map_append]; rfl, by rw [List.length_append, hol]; rfl, fun j o2 x2 h1 h2 => ?_⟩⟩
      by_cases hj : j < os.length
      · rw [List.getElem?_append_left hj] at h1
        exact hoi j o2 x2 h1 h2
      · rw [List.getElem?_append_right (by omega)] at h1
        have hz : j - os.length = 0 := by
          have := (List.getElem?_eq_some_iff.mp h1).1
          simp at this
          exact this
        have hji : j = i := by omega
        rw [hz] at h1
        cases h1
        rw [hji, List.getElem?_eq_getElem (by omega)] at h2
        cases h2
        exact ho
    · obtain ⟨g1, os, hos, hol, hoi⟩ := pv
      rw [List.length_map] at hol
      exact q H1 D os g1 hos (by omega) fun i o x h1 h2 => g1.tup (hoi i o x h1 h2)
end
end K6

set_option Elab.async false
set_option linter.all false
set_option maxRecDepth 100000
set_option maxHeartbeats 4000000
/-! K6Wp: new instances -/
namespace K6
open PySem PySem.Spec PyProof.Rows L2
section
variable {P : Program} {w : World} {K : PySem.W.Frag} {mg : Str → Option Value} {base : Heap}
def spLiveInit (K : PySem.W.Frag) : Sp := fun vs H Q _ => ∃ x dx p b pl st, vs = [.ref x, .ref p, .ref b] ∧ H x = some (.ins (He.ga K "LivePlant") dx []) ∧ PS2 H p b pl st ∧ ∀ H' l, Gx (TK K) [x] H H' → Fr H l → LiveAt K H' x l ⟨pl, st, []⟩ → Q .non H'
theorem fnLiveInit (z : Cz P w K mg base) {fd : FuncData} (F : FunD K "__init__" "LivePlant.__init__" (defArgs sLivePlantInit) (defBody sLivePlantInit) (defScope sLivePlantInit) [] [("stock", .non)] (He.ma K (He.ga K "LivePlant") "__init__") fd) :
    FnOk P w K mg base C8.CX0 5 (He.ma K (He.ga K "LivePlant") "__init__") fd ["self", "plant", "stock"] (spLiveInit K) := by
  refine mkFn F scLivePlantInit (fun vs H Q E h => ?_) fun cdv A outer s H vs Q E hr h => ?_
  · obtain ⟨x, dx, p, b, pl, st, rfl, _⟩ := h
    rfl
  · refine ⟨_, (pss_cons (ps_expr (C8.pe_c (calRequirePlant z) hr (by decide) rfl (pa_cons (pv 1) pa_nil)))
  (pss_cons (ps_if (pt_cmpR op_isN (pv 2) pe_non (nomark _)) (pss_one (ps_set (i := 2) scLivePlantInit.nd rfl (Or.inl rfl) (pe_tupRg rfl rfl z.ntuple (prg_1 rfl z.nrange (pe_op op_add (pe_callB call_lenQ (by rfl) z.nlen PySem.boot_len (pa_cons (pv 1) pa_nil)) pe_int))))) pss_nil)
  (pss_cons (ps_expr (C8.pe_c (calRequireStock z) hr (by decide) rfl (pa_cons (pv 1) (pa_cons (pv 2) pa_nil))))
  (pss_cons (ps_fld (pv 0) (pe_tup (pa_cons (pv 1) (pa_cons (pv 2) pa_nil))) rfl)
  (pss_one (ps_fld (pv 0) (pe_lst pa_nil) rfl)))))), ?_⟩
    obtain ⟨x, dx, p, b, pl, st, rfl, hx, hp, q⟩ := h
    refine ⟨_, rfl, p, pl, rfl, hp.pa, hp.ok.plok, fun H1 g1 => ?_⟩
    refine ⟨_, rfl, rfl, _, rfl, ?_⟩
    refine iteF ⟨_, rfl, _, rfl, p, b, pl, st, rfl, hp.keep g1, fun H2 g2 => ?_⟩
    have g12 := g1.then g2
    refine ⟨_, rfl, _, rfl, by show 2 ≤ sizeLine; decide, fun c nc => ?_⟩
    have g3 := g12.more (o := .tup [.ref p, .ref b]) nc
    refine ⟨_, rfl, x, _, dx, _, rfl, g3.ins hx, z.kLivePlant, z.aCurrent, by show 0 < 1000; decide, ?_⟩
    have g4 := (g3.wide0 (ex := [x])).put (o := .ins (He.ga K "LivePlant") dx [("current", .ref c)]) (.inl (by simp)) (g3.ins hx) trivial
    refine ⟨Nat.zero_le _, fun l nl => ?_⟩
    have fl : Fr H l := g4.frX nl (by
      have : x ≠ l := ne_of_none upd_same nl
      simpa using Ne.symm this)
    have g5 := g4.more (o := .lst []) nl
    have hxl : x ≠ l := ne_of_none upd_same nl
    have hx5 : upd (upd (upd H2 c (.tup [.ref p, .ref b])) x (.ins (He.ga K "LivePlant") dx [("current", .ref c)])) l (.lst []) x = some (.ins (He.ga K "LivePlant") dx [("current", .ref c)]) := by
      rw [upd_ne hxl]
      exact upd_same
    refine ⟨_, rfl, x, _, dx, _, rfl, hx5, z.kLivePlant, z.aHistory, by show 1 < 1000; decide, ?_⟩
    have g6 := g5.put (o := .ins (He.ga K "LivePlant") dx [("current", .ref c), ("history", .ref l)]) (.inl (by simp)) hx5 trivial
    refine q _ l g6 fl ⟨dx, c, [], upd_same, ⟨p, b, ?_, hp.keep g6⟩, ?_, rfl, fun i e y h1 h2 => by simp at h1⟩
    · have hcx : c ≠ x := (ne_of_none (g12.ins hx) nc).symm
      have hcl : c ≠ l := ne_of_none (by rw [upd_ne hcx]; exact upd_same) nl
      rw [upd_ne hcx, upd_ne hcl, upd_ne hcx]
      exact upd_same
    · rw [upd_ne (Ne.symm hxl), upd_same]
      rfl
def gKw {α : Type} (us _ms ws : List α) : List α := us ++ ws
theorem kbLiveInit {fd : FuncData} (F : FunD K "__init__" "LivePlant.__init__" (defArgs sLivePlantInit) (defBody sLivePlantInit) (defScope sLivePlantInit) [] [("stock", .non)] (He.ma K (He.ga K "LivePlant") "__init__") fd) :
    ∃ mv : List Value, KBn K fd ["self", "plant", "stock"] 2 ["stock"] (fun us ws => gKw us mv ws) (fun vs zs => gKw vs [] zs) := by
  refine F.kbinds0 2 ["stock"] [] gKw (by simp) (by simp) (fun a _ c => ?_) (fun D doc pm an cdv ct us mv ws l1 l2 l3 => ?_)
  · exact a.append c
  · match us, ws, mv, l1, l3, l2 with
    | [_, _], [_], [], _, _, _ => rfl
def spConInit (K : PySem.W.Frag) : Sp := fun vs H Q _ => ∃ x dx, vs = [.ref x] ∧ H x = some (.ins (He.ga K "Console") dx []) ∧ ∀ H', Gx (TK K) [x] H H' → H' x = some (.ins (He.ga K "Console") dx [("live_plant", .non)]) → Q .non H'
theorem makConsole (z : Cz P w K mg base) : C8.Mak P w K mg base 1 "Console" (He.ga K "Console") (spConInit K) [] := by
  obtain ⟨fd, F⟩ := z.fConsoleInit
  refine ⟨He.ma K (He.ga K "Console") "__init__", fd, pConsoleInit, [], z.mConsole, F.ok scConsoleInit (fun vs H Q E h => ?_) fun cdv A outer s H vs Q E hr h => ?_, z.gConsole, F.bindsN bConsoleInit, .nil⟩
  · obtain ⟨x, dx, rfl, _⟩ := h
    rfl
  · refine ⟨_, PSs.nox (pss_one (ps_fld (pv 0) pe_non rfl)), ?_⟩
    obtain ⟨x, dx, rfl, hx, q⟩ := h
    refine ⟨_, rfl, x, _, dx, _, rfl, hx, z.kConsole, z.aLivePlant, by show 0 < 1000; decide, ?_⟩
    exact q _ (Gx.set hx trivial) upd_same
end
end K6

set_option Elab.async false
set_option linter.all false
set_option maxRecDepth 100000
set_option maxHeartbeats 4000000
/-! K6Mf: the signs of numbers, lines and rows -/
namespace K6
open PySem PySem.Spec PyProof.Rows L2 SX
/-- the signs of str(x) -/
def intL (x : Int) : List Nat := if x < 0 then 45 :: TL.numL x.natAbs else TL.numL x.natAbs
theorem intL_nat (n : Nat) : intL (n : Int) = TL.numL n := by
  unfold intL
  rw [if_neg (by omega)]
  rfl
theorem int_text (x : Int) : Str.ofString (toString x) = S (intL x) := by
  by_cases h : x < 0
  · obtain ⟨n, rfl⟩ : ∃ n : Nat, x = -(n : Int) := ⟨x.natAbs, by omega⟩
    unfold intL
    rw [if_pos h, toString_neg h, show (0 : Int) - -(n : Int) = (n : Int) by omega, show (-(n : Int)).natAbs = n by omega]
    have e : Str.ofString ("-" ++ toString ((n : Nat) : Int)) = S (45 :: (Str.ofString (toString ((n : Nat) : Int))).cps.toList) := by
      simp only [Str.ofString_eq_toList]
      rw [String.toList_append, List.map_append]
      rfl
    rw [e, num_S]
  · obtain ⟨n, rfl⟩ : ∃ n : Nat, x = (n : Int) := ⟨x.natAbs, by omega⟩
    rw [intL_nat]
    exact num_S n
theorem intL_sign {x : Int} {c : Nat} (h : c ∈ intL x) : c = 45 ∨ (48 ≤ c ∧ c ≤ 57) := by
  unfold intL at h
  split at h
  · rcases List.mem_cons.mp h with e | e
    · exact .inl e
    · have := TL.numL_digits _ c e
      omega
  · have := TL.numL_digits _ c h
    omega
theorem intL_free {x : Int} {c : Nat} (h : c = 10 ∨ c = 32 ∨ c = 59) : c ∉ intL x := fun hm => by
  have := intL_sign hm
  omega
theorem numL_len40 {n : Nat} (h : n < 10 ^ 40) : (TL.numL n).length ≤ 40 := TL.numL_len (by decide) h
theorem intL_len {x : Int} (h : x.natAbs < 10 ^ 40) : (intL x).length ≤ 41 := by
  unfold intL
  have := numL_len40 h
  split
  · rw [List.length_cons]
    omega
  · omega
theorem numL_head {n : Nat} (h : n ≠ 0) : ∃ c r, TL.numL n = c :: r ∧ 49 ≤ c ∧ c ≤ 57 := by
  induction n using Nat.strongRecOn with
  | _ n ih =>
    by_cases h1 : n < 10
    · exact ⟨48 + n, [], TL.numL_lt h1, by omega, by omega⟩
    · obtain ⟨c, r, e, h2, h3⟩ := ih (n / 10) (by omega) (by omega)
      exact ⟨c, r ++ [48 + n % 10], by rw [TL.numL_step (by omega), e]; rfl, h2, h3⟩
theorem numL_zero : TL.numL 0 = [48] := TL.numL_lt (by decide)
theorem joinL_len (S : List Nat) : ∀ ps : List (List Nat), (TL.joinL S ps).length ≤ (ps.map (·.length)).sum + ps.length * S.length
  | [] => by simp [TL.joinL]
  | [p] => by simp [TL.joinL]
  | p :: q :: r => by
    have := joinL_len S (q :: r)
    show (p ++ (S ++ TL.joinL S (q :: r))).length ≤ _
    rw [List.length_append, List.length_append, List.map_cons, List.sum_cons, List.length_cons (a := p)]
    have e : (List.length (q :: r) + 1) * S.length = (q :: r).length * S.length + S.length := Nat.succ_mul _ _
    omega
theorem joinL_mem {S : List Nat} {c : Nat} : ∀ {ps : List (List Nat)}, c ∈ TL.joinL S ps → c ∈ S ∨ ∃ p ∈ ps, c ∈ p
  | [], h => by simp [TL.joinL] at h
  | [p], h => .inr ⟨p, by simp, h⟩
  | p :: q :: r, h => by
    have h : c ∈ p ++ (S ++ TL.joinL S (q :: r)) := h
    rcases List.mem_append.mp h with h | h
    · exact .inr ⟨p, by simp, h⟩
    · rcases List.mem_append.mp h with h | h
      · exact .inl h
      · rcases joinL_mem h with h | ⟨z, hz, h⟩
        · exact .inl h
        · exact .inr ⟨z, List.mem_cons_of_mem _ hz, h⟩
theorem replace_S (a : List Nat) (c d : Nat) (hc : c < 256) : Txt.replace (S a) ⟨#[c]⟩ ⟨#[d]⟩ = S (TL.joinL [d] (TL.spl [c] 0 [] a)) := by
  rw [PySem.StrLaws.replace_one, show (⟨#[c]⟩ : Str) = S [c] from rfl, split_S (by simp) (by simpa using hc), ← TL.join_eq]
  exact join_S [d] _
/-! ### a plant's lines -/
abbrev shopL : List Nat := [115, 104, 111, 112]
abbrev openL : List Nat := [111, 112, 101, 110, 32]
def lineL (h : List Nat) (b : Int) : List Nat := h ++ 32 :: intL b
def headsL (pl : List Nat) : List (List Nat) := shopL :: pl.map TL.numL
def lnsL (pl : List Nat) (st : List Int) : List (List Nat) := List.zipWith lineL (headsL pl) st
theorem head_free {pl : List Nat} {h : List Nat} (hm : h ∈ headsL pl) {c : Nat} (hc : c = 10 ∨ c = 32 ∨ c = 59) : c ∉ h := by
  rcases List.mem_cons.mp hm with e | e
  · rw [e]
    rcases hc with rfl | rfl | rfl <;> decide
  · obtain ⟨n, _, rfl⟩ := List.mem_map.mp e
    exact TL.numL_free (by omega)
theorem line_free {pl : List Nat} {st : List Int} {l : List Nat} (hm : l ∈ lnsL pl st) {c : Nat} (hc : c = 10 ∨ c = 59) : c ∉ l := by
  unfold lnsL at hm
  obtain ⟨i, hi, e⟩ := List.getElem_of_mem hm
  rw [List.getElem_zipWith] at e
  rw [← e]
  intro h
  rcases List.mem_append.mp h with h | h
  · exact head_free (List.getElem_mem _) (by omega) h
  · rcases List.mem_cons.mp h with h | h
    · omega
    · exact intL_free (by omega) h
theorem lns_len {pl : List Nat} {st : List Int} (h : st.length = pl.length + 1) : (lnsL pl st).length = st.length := by
  unfold lnsL headsL
  rw [List.length_zipWith, List.length_cons, List.length_map, h, Nat.min_self]
theorem lns_ne {pl : List Nat} {st : List Int} (h : st.length = pl.length + 1) : lnsL pl st ≠ [] := fun e => by
  have := lns_len h
  rw [e] at this
  simp at this
  omega
theorem lns_get {pl : List Nat} {st : List Int} (h : st.length = pl.length + 1) {i : Nat} (hi : i < st.length) : ∃ hd, (headsL pl)[i]? = some hd ∧ (lnsL pl st)[i]? = some (lineL hd (bx st i)) := by
  have hl : (headsL pl).length = st.length := by rw [headsL, List.length_cons, List.length_map, h]
  refine ⟨(headsL pl)[i]'(by omega), List.getElem?_eq_getElem (by omega), ?_⟩
  unfold lnsL
  rw [List.getElem?_eq_getElem (by rw [List.length_zipWith]; omega), List.getElem_zipWith]
  congr 2
  have := bx_get hi
  rw [List.getElem?_eq_getElem hi] at this
  exact Option.some.inj this
theorem line_split {hd : List Nat} (b : Int) (h : 32 ∉ hd) : TL.spl [32] 0 [] (lineL hd b) = [hd, intL b] := by
  have e := spl_join (c := 32) (sep := []) (parts := [hd, intL b]) (by simp) (fun p hp => by
    rcases List.mem_cons.mp hp with e | e
    · rw [e]
      exact h
    · rw [List.mem_singleton.mp e]
      exact intL_free (by omega))
  exact e
theorem lns_split {pl : List Nat} {st : List Int} (h : st.length = pl.length + 1) : TL.spl [10] 0 [] (TL.joinL [10] (lnsL pl st)) = lnsL pl st := spl_join (lns_ne h) fun _ hp => line_free hp (by omega)
theorem lns_split59 {pl : List Nat} {st : List Int} (h : st.length = pl.length + 1) : TL.spl [59] 0 [] (TL.joinL [59] (lnsL pl st)) = lnsL pl st := spl_join (lns_ne h) fun _ hp => line_free hp (by omega)
theorem joinL_app (S : List Nat) : ∀ ps : List (List Nat), ps ≠ [] → TL.joinL S (ps ++ [[]]) = TL.joinL S ps ++ S
  | [], h => absurd rfl h
  | [p], _ => by
    show p ++ (S ++ []) = p ++ S
    rw [List.append_nil]
  | p :: q :: r, _ => by
    have := joinL_app S (q :: r) (by simp)
    show p ++ (S ++ TL.joinL S ((q :: r) ++ [[]])) = p ++ (S ++ TL.joinL S (q :: r)) ++ S
    rw [this]
    simp
end K6

set_option Elab.async false
set_option linter.all false
set_option maxRecDepth 100000
set_option maxHeartbeats 4000000
/-! K6Wq: numbers and boxes read -/
namespace K6
open PySem PySem.Spec PyProof.Rows L2 SX
theorem gv_str {a : List Nat} : Gives (Its (S a)) a.length (fun i H x H' => H' = H ∧ ∃ c, a[i]? = some c ∧ x = .str ⟨#[c]⟩) fun _ => True where
  go := fun i H hi _ => by
    show i < (S a).cps.size
    simpa using hi
  yld := fun i H x H' hi _ y => by
    obtain ⟨rfl, c, h1, h2⟩ := y
    exact ⟨rfl, c, by simpa using h1, h2⟩
  stop := fun H _ => by
    show (S a).cps.size ≤ a.length
    simp
theorem dig_mem {c : Nat} (h : 48 ≤ c ∧ c ≤ 57) : decide (c ∈ ("0123456789" : Str).cps.toList) = true := by
  have e : ∀ d : Fin 10, decide (48 + d.val ∈ ("0123456789" : Str).cps.toList) = true := by decide +kernel
  have := e ⟨c - 48, by omega⟩
  rw [show 48 + (c - 48) = c by omega] at this
  exact this
theorem sz_le {n : Nat} (h : n ≤ 5000) : n ≤ sizeLine := Nat.le_trans h (by decide)
theorem slS_to {a b : List Nat} {lo hi : Option Int} {H : Hp} {Q : VK} (hl : a.length ≤ 5000) (e : Txt.slice (S a) lo hi = S b) (q : Q (.str (S b)) H) : rSlSQ (.str (S a)) lo hi H Q := ⟨⟨_, rfl, by rw [S_len]; exact sz_le hl, by rw [e]; exact q⟩⟩
section
variable {P : Program} {w : World} {K : PySem.W.Frag} {mg : Str → Option Value} {base : Heap}
def spParseNum (K : PySem.W.Frag) : Sp := fun vs H Q _ => ∃ n m : Nat, vs = [.str (S (TL.numL n)), .int ((m : Nat) : Int)] ∧ (TL.numL n).length ≤ m ∧ m ≤ 40 ∧ ∀ H', Gx (TK K) [] H H' → Q (.int ((n : Nat) : Int)) H'
theorem calParseNumber (z : Cz P w K mg base) : C8.Cal P w K mg base 1 "parse_number" (spParseNum K) [] := by
  refine mkCal z.fParseNumber z.gParseNumber scParseNumber bParseNumber (fun vs H Q E h => ?_) fun cdv A outer s H vs Q E hr h => ?_
  · obtain ⟨n, m, rfl, _⟩ := h
    rfl
  · refine ⟨_, (pss_cons (ps_if (PW.pt (pw_or (pt_not (pt_chain op_le op_le pe_int (pe_callB call_len_str (by rfl) z.nlen PySem.boot_len (pa_cons (pv 0) pa_nil)) (pv 1))) (pw_or1 (pt_not (pt_val (pe_callB (cr_all rfl) (by rfl) z.nall (by decide +kernel) (pa_cons (pe_lc (own := [("digit", 2)]) (g := gName 2) (tt := tYes) rfl scParseNumber.nd (pi_str (pv 0)) (blkOk_by (own := [("digit", 2)]) (N := nParseNumber) (sc := defScope sParseNumber) (by decide +kernel)) (fun _ _ _ _ _ => (pg_name (i := 2) scParseNumber.nd rfl (Or.inl rfl))) (fun _ _ _ _ _ => pts_nil) (fun _ _ _ _ _ => (pe_cmpR op_in_sign (pv 2) (pe_glob (v := .str "0123456789") rfl z.cDIGITS.choose_spec ⟨_, rfl⟩) (by rfl)))) pa_nil))))))) (pss_one (ps_ret pe_non)) pss_nil)
  (pss_one (ps_ret (pe_ifExp (PW.pt (pw_or (pt_cmpR op_eq (pv 0) pe_str (nomark _)) (pw_or1 (pt_cmpR op_ne (pe_ix ix_str (pv 0) pe_int (fun _ _ => rfl)) pe_str (nomark _))))) (pe_callTy call_int_str (by rfl) z.nint (by decide +kernel) (pa_cons (pv 0) pa_nil)) pe_non)))), ?_⟩
    obtain ⟨n, m, rfl, hl, hm, q⟩ := h
    have hpos : 1 ≤ (TL.numL n).length := List.length_pos_iff.mpr (TL.numL_ne n)
    have h40 : (TL.numL n).length ≤ 40 := by omega
    refine ⟨_, rfl, S (TL.numL n), rfl, by rw [S_len]; exact Nat.le_trans h40 (by decide), _, _, rfl, rfl, _, rfl, ?_⟩
    rw [decide_eq_true (by rw [S_len]; omega)]
    refine iteT (B := True) ⟨_, rfl, _, _, rfl, rfl, _, rfl, ?_⟩
    rw [decide_eq_true (by rw [S_len]; omega)]
    refine iteF ⟨_, rfl, _, rfl, fun D hD => lc_map (T := TK K) gv_str hD (fun H g => trivial) (by omega) (List.replicate (TL.numL n).length (.bl true)) (by rw [List.length_replicate]) (fun i x y H1 H2 Ny hi g hy hys hN => ?_) mono_name fun H1 g hD1 => ?_⟩
    · obtain ⟨rfl, c, hc, rfl⟩ := hy
      obtain rfl : y = .bl true := by
        rw [List.getElem?_replicate] at hys
        split at hys <;> simp_all
      refine ⟨rfl, _, rfl, c, _, rfl, rfl, ?_⟩
      rw [dig_mem (TL.numL_digits n c (List.mem_of_getElem? hc))]
      exact hN _ Gx.refl
    · refine ⟨_, List.replicate (TL.numL n).length true, rfl, SqL.of (by rw [hD1, List.map_replicate]), _, rfl, ?_⟩
      rw [show (List.replicate (TL.numL n).length true).all id = true by simp]
      have hint := TL.int_num (n := n) (by omega)
      rw [num_S] at hint
      by_cases h0 : n = 0
      · subst h0
        refine iteF ⟨_, rfl, rfl, _, rfl, ?_⟩
        rw [decide_eq_true (by rw [numL_zero]; rfl)]
        exact iteT (B := True) ⟨_, rfl, _, _, rfl, hint, by rw [S_len]; omega, q _ g⟩
      · obtain ⟨c, r, e, h1, h2⟩ := numL_head h0
        refine iteF ⟨_, rfl, rfl, _, rfl, ?_⟩
        rw [e, decide_eq_false (fun e => by
          have : c = 48 := (List.cons.inj (S_inj (b := [48]) (V.str.inj e))).1
          omega)]
        rw [e] at hint
        refine iteF ⟨_, rfl, S (c :: r), 0, _, rfl, rfl, by rw [S_len, ← e]; exact Nat.le_trans h40 (by decide), at_pred (v := 0) rfl, ?_⟩
        refine ⟨rfl, _, rfl, ?_⟩
        rw [decide_eq_false (fun e => by
          have : c = 48 := (List.cons.inj (S_inj (a := [c]) (b := [48]) (V.str.inj e))).1
          omega)]
        exact iteT (B := True) ⟨_, rfl, _, _, rfl, hint, by rw [S_len, ← e]; omega, q _ g⟩
def spParseBox (K : PySem.W.Frag) : Sp := fun vs H Q _ => ∃ x : Int, vs = [.str (S (intL x))] ∧ x.natAbs < 10 ^ 40 ∧ ∀ H', Gx (TK K) [] H H' → Q (.int x) H'
theorem calParseBox (z : Cz P w K mg base) : C8.Cal P w K mg base 2 "parse_box" (spParseBox K) [] := by
  refine mkCal z.fParseBox z.gParseBox scParseBox bParseBox (fun vs H Q E h => ?_) fun cdv A outer s H vs Q E hr h => ?_
  · obtain ⟨x, rfl, _⟩ := h
    rfl
  · refine ⟨_, (pss_cons (ps_if (pt_cmpR op_ne (pe_slice sl_txtQ (pv 0) po_none (po_some pe_int)) pe_str (nomark _)) (pss_one (ps_ret (C8.pe_c (calParseNumber z) hr (by decide) rfl (pa_cons (pv 0) (pa_cons (pe_glob (v := .int 40) rfl z.cMOST_DIGITS_texts.choose_spec ⟨_, rfl⟩) pa_nil))))) pss_nil)
  (pss_cons (ps_set (i := 1) scParseBox.nd rfl (Or.inl rfl) (C8.pe_c (calParseNumber z) hr (by decide) rfl (pa_cons (pe_slice sl_txtQ (pv 0) (po_some pe_int) po_none) (pa_cons (pe_glob (v := .int 40) rfl z.cMOST_DIGITS_texts.choose_spec ⟨_, rfl⟩) pa_nil))))
  (pss_one (ps_ret (pe_ifExp (PW.pt (pw_or (pt_cmpR op_isN (pv 1) pe_non (nomark _)) (pw_or1 (pt_cmpR op_eq (pv 1) pe_int (nomark _))))) pe_non (pe_un un_neg (pv 1))))))), ?_⟩
    obtain ⟨x, rfl, hx, q⟩ := h
    have h41 := intL_len hx
    have h40 := numL_len40 hx
    by_cases hneg : x < 0
    · have e : intL x = 45 :: TL.numL x.natAbs := if_pos hneg
      rw [e]
      refine ⟨_, rfl, _, rfl, slS_to (b := [45]) (by rw [List.length_cons]; omega) (to_app [45] _ rfl) ⟨rfl, _, rfl, ?_⟩⟩
      rw [decide_eq_true (by rfl)]
      refine iteF ⟨_, rfl, _, rfl, slS_to (b := TL.numL x.natAbs) (by rw [List.length_cons]; omega) (from_app [45] _ rfl) ⟨x.natAbs, 40, rfl, h40, Nat.le_refl _, fun H1 g => ?_⟩⟩
      refine ⟨_, rfl, rfl, _, rfl, ?_⟩
      rw [decide_eq_false (fun e => by cases e)]
      refine iteF ⟨_, rfl, rfl, _, rfl, ?_⟩
      rw [decide_eq_false (fun e => by have := V.int.inj e; omega)]
      refine iteF ⟨_, rfl, _, rfl, ?_⟩
      have e9 : -((x.natAbs : Nat) : Int) = x := by omega
      show Q (.int (-((x.natAbs : Nat) : Int))) H1
      rw [e9]
      exact q _ g
    · have e : intL x = TL.numL x.natAbs := if_neg hneg
      rw [e]
      obtain ⟨c, r, ec, hc⟩ : ∃ c r, TL.numL x.natAbs = c :: r ∧ 48 ≤ c := by
        cases hh : TL.numL x.natAbs with
        | nil => exact absurd hh (TL.numL_ne _)
        | cons c r => exact ⟨c, r, rfl, (TL.numL_digits _ c (by rw [hh]; simp)).1⟩
      refine ⟨_, rfl, _, rfl, slS_to (b := [c]) (by omega) (by rw [ec]; exact to_app [c] r rfl) ⟨rfl, _, rfl, ?_⟩⟩
      rw [decide_eq_false (fun e => by
          have : c = 45 := (List.cons.inj (S_inj (a := [c]) (b := [45]) (V.str.inj e))).1
          omega)]
      refine iteT (B := True) ⟨_, rfl, x.natAbs, 40, rfl, h40, Nat.le_refl _, fun H1 g => ?_⟩
      rw [show ((x.natAbs : Nat) : Int) = x by omega]
      exact q _ g
end
end K6

set_option Elab.async false
set_option linter.all false
set_option maxRecDepth 100000
set_option maxHeartbeats 4000000
/-! K6Wr: a plant read -/
namespace K6
open PySem PySem.Spec PyProof.Rows L2 SX
structure LinesAt (H : Hp) (D : Addr) (rs : List Addr) (ls : List (List Nat × List Nat)) (n : Nat) : Prop where
  top : H D = some (.lst (rs.map V.ref))
  len : rs.length = n
  it : ∀ (i : Nat) r x, rs[i]? = some r → ls[i]? = some x → H r = some (.lst [.str (S x.1), .str (S x.2)])
theorem LinesAt.keep {T : TL} {H H' : Hp} {D : Addr} {rs : List Addr} {ls : List (List Nat × List Nat)} {n : Nat} (l : LinesAt H D rs ls n) (g : Gx T [] H H') : LinesAt H' D rs ls n :=
  ⟨g.lst l.top, l.len, fun i r x h1 h2 => g.lst (l.it i r x h1 h2)⟩
def prsL (pl : List Nat) (st : List Int) : List (List Nat × List Nat) := (headsL pl).zip (st.map intL)
theorem prs_len {pl : List Nat} {st : List Int} (h : st.length = pl.length + 1) : (prsL pl st).length = st.length := by
  unfold prsL headsL
  rw [List.length_zip, List.length_cons, List.length_map, List.length_map, h, Nat.min_self]
theorem prs_get {pl : List Nat} {st : List Int} (h : st.length = pl.length + 1) {i : Nat} (hi : i < st.length) : ∃ hd, (headsL pl)[i]? = some hd ∧ (prsL pl st)[i]? = some (hd, intL (bx st i)) ∧ (lnsL pl st)[i]? = some (lineL hd (bx st i)) := by
  obtain ⟨hd, h1, h2⟩ := lns_get h hi
  refine ⟨hd, h1, ?_, h2⟩
  unfold prsL
  rw [List.getElem?_zip_eq_some]
  refine ⟨h1, ?_⟩
  rw [List.getElem?_map, bx_get hi]
  rfl
theorem headsL_succ (pl : List Nat) (i : Nat) : (headsL pl)[i + 1]? = (pl[i]?).map TL.numL := by
  unfold headsL
  rw [List.getElem?_cons_succ, List.getElem?_map]
theorem head_len {pl : List Nat} (ok : PlOk pl) {hd : List Nat} (hm : hd ∈ headsL pl) : hd.length ≤ 4 := by
  rcases List.mem_cons.mp hm with e | e
  · rw [e]
    exact Nat.le_refl _
  · obtain ⟨n, hn, rfl⟩ := List.mem_map.mp e
    obtain ⟨i, hi, ei⟩ := List.getElem_of_mem hn
    have h1 := ok.2 i hi
    have h2 := ok.1
    have e9 : pl.getD i 0 = n := by rw [List.getD_eq_getElem?_getD, List.getElem?_eq_getElem hi]; exact ei
    rw [e9] at h1
    have : (TL.numL n).length ≤ 2 := TL.numL_len (k := 2) (by decide) (by omega)
    omega
theorem pl_num {pl : List Nat} (ok : PlOk pl) {i v : Nat} (h : pl[i]? = some v) : (TL.numL v).length ≤ 2 := by
  have hi := (List.getElem?_eq_some_iff.mp h).1
  have h1 := ok.2 i hi
  have h2 := ok.1
  have e9 : pl.getD i 0 = v := by rw [List.getD_eq_getElem?_getD, h]; rfl
  rw [e9] at h1
  exact TL.numL_len (k := 2) (by decide) (by omega)
/-- the boxes are short enough to be read -/
def Sml (st : List Int) : Prop := ∀ x ∈ st, x.natAbs < 10 ^ 40
theorem line_len {pl : List Nat} {st : List Int} (ok : StOk pl st) (hs : Sml st) {l : List Nat} (hm : l ∈ lnsL pl st) : l.length ≤ 46 := by
  unfold lnsL at hm
  obtain ⟨i, hi, e⟩ := List.getElem_of_mem hm
  rw [List.getElem_zipWith] at e
  rw [← e]
  unfold lineL
  rw [List.length_append, List.length_cons]
  have hi2 := hi
  rw [List.length_zipWith] at hi2
  have h1 := head_len ok.plok (List.getElem_mem (show i < (headsL pl).length by omega))
  have h2 := intL_len (hs _ (List.getElem_mem (show i < st.length by omega)))
  omega
theorem sum_le {k : Nat} : ∀ {xs : List Nat}, (∀ x ∈ xs, x ≤ k) → xs.sum ≤ xs.length * k
  | [], _ => by simp
  | x :: r, h => by
    have h1 := h x (by simp)
    have h2 := sum_le (xs := r) fun y hy => h y (by simp [hy])
    rw [List.sum_cons, List.length_cons, Nat.succ_mul]
    omega
theorem lns_joined {pl : List Nat} {st : List Int} (ok : StOk pl st) (hs : Sml st) (c : Nat) : (TL.joinL [c] (lnsL pl st)).length ≤ 1880 := by
  have h1 := joinL_len [c] (lnsL pl st)
  have h2 := sum_le (k := 46) (xs := (lnsL pl st).map (·.length)) (fun x hx => by
    obtain ⟨l, hl, rfl⟩ := List.mem_map.mp hx
    exact line_len ok hs hl)
  rw [List.length_map, lns_len ok.len, ok.len] at h2
  rw [lns_len ok.len, ok.len] at h1
  have h3 := ok.plok.1
  simp only [List.length_singleton] at h1
  have : (pl.length + 1) * 46 ≤ 40 * 46 := Nat.mul_le_mul_right _ (by omega)
  omega
theorem split_to {a sep : Str} {ys : List Str} {H : Hp} {Q : VK} (hsep : (sep.length == 0) = false) (hl : a.length + 2 ≤ sizeLine) (e : Txt.split a sep = ys) (q : ∀ p, H p = none → Q (.ref p) (upd H p (.lst (ys.map V.str)))) :
    ∃ a' b', V.str a = .str a' ∧ [V.str sep] = [.str b'] ∧ (b'.length == 0) = false ∧ a'.length + 2 ≤ sizeLine ∧ rNewStrs (Txt.split a' b') H Q := ⟨a, sep, rfl, rfl, hsep, hl, by rw [e]; exact q⟩
section
variable {P : Program} {w : World} {K : PySem.W.Frag} {mg : Str → Option Value} {base : Heap}
def spReadPlant (K : PySem.W.Frag) : Sp := fun vs H Q _ => ∃ pl st, vs = [.str (S (TL.joinL [10] (lnsL pl st) ++ [10]))] ∧ StOk pl st ∧ Sml st ∧ ∀ H' t p b, Gx (TK K) [] H H' → H' t = some (.tup [.ref p, .ref b]) → PS2 H' p b pl st → Q (.ref t) H'
theorem calReadPlant (z : Cz P w K mg base) : C8.Cal P w K mg base 6 "read_plant" (spReadPlant K) [] := by
  refine mkCal z.fReadPlant z.gReadPlant scReadPlant bReadPlant (fun vs H Q E h => ?_) fun cdv A outer s H vs Q E hr h => ?_
  · obtain ⟨pl, st, rfl, _⟩ := h
    rfl
  · refine ⟨_, (pss_cons (ps_if (PW.pt (pw_or (pt_not (pt_val (pe_callB call_isA (by rfl) z.nisinstance (by decide +kernel) (pa_cons (pv 0) (pa_cons (pe_bltn (v := .ty "str") (u := .type "str") (by rfl) z.nstr (by decide +kernel) rfl) pa_nil))))) (pw_or1 (pt_cmpR op_ne (pe_slice sl_txtQ (pv 0) (po_some (pe_un un_neg pe_int)) po_none) pe_str (nomark _))))) (pss_one ps_never) pss_nil)
  (pss_cons (ps_setLc (i := 1) (own := [("line", 4)]) (g := gName 4) (tt := tYes) rfl scReadPlant.nd rfl rfl (sw_true rfl rfl rfl (by decide +kernel)) (pi_list (pe_split (pe_slice sl_txtQ (pv 0) po_none (po_some (pe_un un_neg pe_int))) pe_str)) (blkOk_by (own := [("line", 4)]) (N := nReadPlant) (sc := defScope sReadPlant) (by decide +kernel)) (fun _ _ _ _ _ => (pg_name (i := 4) scReadPlant.nd rfl (Or.inl rfl))) (fun _ _ _ _ _ => pts_nil) (fun _ _ _ _ _ => (pe_split (pv 4) pe_str)))
  (pss_cons (ps_if (PW.pt (pw_or (pt_not (pt_val (pe_callB (cr_all rfl) (by rfl) z.nall (by decide +kernel) (pa_cons (pe_lc (own := [("line", 4)]) (g := gName 4) (tt := tYes) rfl scReadPlant.nd (pi_list (pv 1)) (blkOk_by (own := [("line", 4)]) (N := nReadPlant) (sc := defScope sReadPlant) (by decide +kernel)) (fun _ _ _ _ _ => (pg_name (i := 4) scReadPlant.nd rfl (Or.inl rfl))) (fun _ _ _ _ _ => pts_nil) (fun _ _ _ _ _ => (pe_cmpR op_eq (pe_callB (r := rLenQ K) call_lenQ (by rfl) z.nlen PySem.boot_len (pa_cons (pv 4) pa_nil)) pe_int (nomark _)))) pa_nil)))) (pw_or1 (pt_cmpR op_ne (pe_ix ix_list (pe_ix ix_list (pv 1) pe_int (fun _ _ => rfl)) pe_int (fun _ _ => rfl)) (pe_glob (v := .str "shop") rfl z.cTOP.choose_spec ⟨_, rfl⟩) (nomark _))))) (pss_one ps_never) pss_nil)
  (pss_cons (ps_set (i := 2) scReadPlant.nd rfl (Or.inl rfl) (pe_callTy call_tupQ (by rfl) z.ntuple (by decide +kernel) (pa_cons (pe_lc (own := [("line", 4)]) (g := gName 4) (tt := tYes) rfl scReadPlant.nd (pi_list (pe_slice sl_listQ (pv 1) (po_some pe_int) po_none)) (blkOk_by (own := [("line", 4)]) (N := nReadPlant) (sc := defScope sReadPlant) (by decide +kernel)) (fun _ _ _ _ _ => (pg_name (i := 4) scReadPlant.nd rfl (Or.inl rfl))) (fun _ _ _ _ _ => pts_nil) (fun _ _ _ _ _ => (C8.pe_c (calParseNumber z) hr (by decide) rfl (pa_cons (pe_ix (r := rIxL K) ix_list (pv 4) pe_int (fun _ _ => rfl)) (pa_cons pe_int pa_nil))))) pa_nil)))
  (pss_cons (ps_set (i := 3) scReadPlant.nd rfl (Or.inl rfl) (pe_callTy call_tupQ (by rfl) z.ntuple (by decide +kernel) (pa_cons (pe_lc (own := [("line", 4)]) (g := gName 4) (tt := tYes) rfl scReadPlant.nd (pi_list (pv 1)) (blkOk_by (own := [("line", 4)]) (N := nReadPlant) (sc := defScope sReadPlant) (by decide +kernel)) (fun _ _ _ _ _ => (pg_name (i := 4) scReadPlant.nd rfl (Or.inl rfl))) (fun _ _ _ _ _ => pts_nil) (fun _ _ _ _ _ => (C8.pe_c (calParseBox z) hr (by decide) rfl (pa_cons (pe_ix (r := rIxL K) ix_list (pv 4) pe_int (fun _ _ => rfl)) pa_nil)))) pa_nil)))
  (pss_cons (ps_if (PW.pt (pw_or (pt_not (pt_val (C8.pe_c (calIsPlant z) hr (by decide) rfl (pa_cons (pv 2) pa_nil)))) (pw_or1 (pt_not (pt_val (C8.pe_c (calIsStock z) hr (by decide) rfl (pa_cons (pv 2) (pa_cons (pv 3) pa_nil)))))))) (pss_one ps_never) pss_nil)
  (pss_one (ps_ret (pe_tup (pa_cons (pv 2) (pa_cons (pv 3) pa_nil))))))))))), ?_⟩
    obtain ⟨pl, st, rfl, ok, hs, q⟩ := h
    have hlen := ok.len
    have hpl := ok.plok.1
    have hj := lns_joined ok hs 10
    refine ⟨_, rfl, .inr (.inr ⟨_, rfl, _, rfl, iteF ⟨_, rfl, 1, rfl, -1, rfl, slS_to (b := [10]) (by rw [List.length_append, List.length_singleton]; omega) (last_snoc _ _) ⟨rfl, _, rfl, ?_⟩⟩⟩)⟩
    rw [decide_eq_true (by rfl)]
    refine iteF ⟨_, rfl, 1, rfl, -1, rfl, slS_to (b := TL.joinL [10] (lnsL pl st)) (by rw [List.length_append, List.length_singleton]; omega) (butlast_snoc _ _) ⟨⟨_, rfl⟩, split_to (ys := (lnsL pl st).map S) rfl (by rw [S_len]; exact sz_le (by omega)) (by rw [show ("\n" : Str) = S [10] from rfl, split_S (by simp) (by decide), lns_split hlen]) fun p np => ?_⟩⟩
    have g1 : Gx (TK K) [] H (upd H p (.lst (((lnsL pl st).map S).map V.str))) := Gx.new np
    refine ⟨p, rfl, ⟨_, SqL.of upd_same⟩, fun D nD => ?_⟩
    have fD : Fr (upd H p (.lst (((lnsL pl st).map S).map V.str))) D := Fr.of nD
    have hn : (((lnsL pl st).map S).map V.str).length = st.length := by rw [List.length_map, List.length_map, lns_len hlen]
    refine lc_gen gv_list (fun i H1 => Gx (TK K) [] (upd H p (.lst (((lnsL pl st).map S).map V.str))) H1 ∧ ∃ rs, LinesAt H1 D rs (prsL pl st) i) ⟨Gx.new nD, [], upd_same, rfl, fun j r x h => by simp at h⟩ (fun i H1 _ pv => SqL.of (pv.1.lst upd_same)) (fun i x H1 H2 hi pv y => ?_) fun H1 pv => ?_
    · obtain ⟨g2, rs, lr⟩ := pv
      obtain ⟨rfl, hx⟩ := y
      rw [hn] at hi
      obtain ⟨hd, e1, e2, e3⟩ := prs_get hlen hi
      rw [List.getElem?_map, List.getElem?_map, e3] at hx
      obtain rfl : x = .str (S (lineL hd (bx st i))) := (Option.some.inj hx).symm
      have hll := line_len ok hs (List.mem_of_getElem? e3)
      refine ⟨rfl, iteT (B := True) ⟨_, rfl, ⟨_, rfl⟩, split_to (ys := [hd, intL (bx st i)].map S) rfl (by rw [S_len]; exact sz_le (by omega)) (by rw [show (" " : Str) = S [32] from rfl, split_S (by simp) (by decide), line_split _ (head_free (List.mem_of_getElem? e1) (by omega))]) fun r nr => ?_⟩⟩
      have g3 := g2.more (o := .lst [.str (S hd), .str (S (intL (bx st i)))]) nr
      have l3 : LinesAt (upd H2 r (.lst [.str (S hd), .str (S (intL (bx st i)))])) D rs (prsL pl st) i := lr.keep (T := TK K) (Gx.new nr)
      refine ⟨_, l3.top, by rw [List.length_map, l3.len]; exact sz_le (by omega), g3.put (.inr fD) l3.top trivial, rs ++ [r], by rw [upd_same, List.map_append]; rfl, by rw [List.length_append, l3.len]; rfl, fun j r2 x2 h1 h2 => ?_⟩
      have hne : ∀ r3 (u v : V), (∀ q, u ≠ .ref q) → (upd H2 r (.lst [.str (S hd), .str (S (intL (bx st i)))])) r3 = some (.lst [u, v]) → upd (upd H2 r (.lst [.str (S hd), .str (S (intL (bx st i)))])) D (.lst (rs.map V.ref ++ [.ref r])) r3 = some (.lst [u, v]) := fun r3 u v hu h4 => by
        rw [upd_ne]
        · exact h4
        · intro e
          rw [e, l3.top] at h4
          have h5 := HO.lst.inj (Option.some.inj h4)
          cases rs with
          | nil => cases h5
          | cons r0 rs0 => exact hu r0 (List.cons.inj h5).1.symm
      by_cases hj : j < rs.length
      · rw [List.getElem?_append_left hj] at h1
        exact hne r2 _ _ (fun q z => by cases z) (l3.it j r2 x2 h1 h2)
      · rw [List.getElem?_append_right (by omega)] at h1
        have hz : j - rs.length = 0 := by
          have := (List.getElem?_eq_some_iff.mp h1).1
          simp at this
          exact this
        have hji : j = i := by have := l3.len; omega
        rw [hz] at h1
        cases h1
        rw [hji, e2] at h2
        cases h2
        exact hne r _ _ (fun q z => by cases z) upd_same
    · obtain ⟨g2, rs, lr⟩ := pv
      rw [hn] at lr
      have g3 := g1.then g2
      have hrs := lr.len
      refine ⟨_, rfl, D, rfl, ⟨_, SqL.of lr.top⟩, fun D2 nD2 => lc_map (T := TK K) gv_list nD2 (fun H g => SqL.of (g.lst lr.top)) (by rw [List.length_map]; omega) (List.replicate st.length (.bl true)) (by rw [List.length_replicate, List.length_map, hrs]) (fun i x y H4 H5 Ny hi g4 hy hys hN => ?_) mono_name fun H4 g4 hD4 => ?_⟩
      · obtain ⟨rfl, hx⟩ := hy
        rw [List.length_map, hrs] at hi
        rw [List.getElem?_map, List.getElem?_eq_getElem (by omega)] at hx
        obtain rfl : x = .ref rs[i] := (Option.some.inj hx).symm
        obtain rfl : y = .bl true := by
          rw [List.getElem?_replicate] at hys
          split at hys <;> simp_all
        obtain ⟨hd, e1, e2, e3⟩ := prs_get hlen hi
        have hr := (lr.keep g4).it i rs[i] _ (List.getElem?_eq_getElem (by omega)) e2
        refine ⟨rfl, _, rfl, lenV_to hr ⟨rfl, ?_⟩⟩
        exact hN _ Gx.refl
      · have g5 := g3.then g4
        have l5 := lr.keep g4
        refine ⟨_, List.replicate st.length true, rfl, SqL.of (by rw [hD4, List.map_replicate]), _, rfl, ?_⟩
        rw [show (List.replicate st.length true).all id = true by simp]
        obtain ⟨hd0, a1, a2, a3⟩ := prs_get hlen (show 0 < st.length by omega)
        have hr0 : ∃ r0, rs[0]? = some r0 := ⟨rs[0]'(by omega), List.getElem?_eq_getElem _⟩
        obtain ⟨r0, hr0⟩ := hr0
        have hz := l5.it 0 r0 _ hr0 a2
        have ehd : hd0 = shopL := (Option.some.inj a1).symm
        subst ehd
        refine iteF ⟨_, rfl, D, _, 0, _, rfl, rfl, SqL.of l5.top, at_ref (v := 0) hr0, r0, _, 0, _, rfl, rfl, SqL.of hz, at_pred (v := 0) rfl, rfl, _, rfl, ?_⟩
        rw [decide_eq_true (by rfl)]
        have e6 : cutV (rs.map V.ref) (some 1) none = (rs.drop 1).map V.ref := by rw [show (1 : Int) = ((1 : Nat) : Int) from rfl, cut_from, List.map_drop]
        refine iteF ⟨_, rfl, 1, rfl, ⟨D, _, rfl, SqL.of l5.top, fun p6 np6 => ?_⟩⟩
        rw [e6]
        have g6 : Gx (TK K) [] H4 (upd H4 p6 (.lst ((rs.drop 1).map V.ref))) := Gx.new np6
        have l6 := l5.keep g6
        have hd6 : (rs.drop 1).length = pl.length := by rw [List.length_drop]; omega
        refine ⟨p6, rfl, ⟨_, SqL.of upd_same⟩, fun D3 nD3 => lc_map (T := TK K) gv_list nD3 (fun H g => SqL.of (g.lst upd_same)) (by rw [List.length_map]; omega) (iV (nI pl)) (by rw [len_iV, len_nI, List.length_map, hd6]) (fun i x y H6 H7 Ny hi g7 hy hys hN => ?_) mono_name fun H6 g7 hD6 => ?_⟩
        · obtain ⟨rfl, hx⟩ := hy
          rw [List.length_map, hd6] at hi
          have hri : rs[i + 1]? = some (rs[i + 1]'(by omega)) := List.getElem?_eq_getElem (by omega)
          rw [List.getElem?_map, List.getElem?_drop, Nat.add_comm, hri] at hx
          obtain rfl : x = .ref rs[i + 1] := (Option.some.inj hx).symm
          obtain ⟨v, hv, rfl⟩ := get_nV hys
          obtain ⟨hd, b1, b2, b3⟩ := prs_get hlen (show i + 1 < st.length by omega)
          have hr := (l6.keep g7).it (i + 1) _ _ hri b2
          rw [headsL_succ, hv] at b1
          obtain rfl : hd = TL.numL v := (Option.some.inj b1).symm
          exact ⟨rfl, _, rfl, _, _, 0, _, rfl, rfl, SqL.of hr, at_pred (v := 0) rfl, v, 2, rfl, pl_num ok.plok hv, by omega, fun H8 g8 => hN _ g8⟩
        · have g67 := g6.then g7
          refine ⟨D3, _, rfl, .inl ⟨SqL.of hD6, fun pa npa => ?_⟩⟩
          have g8 := g67.more (o := .tup (iV (nI pl))) npa
          have l8 := l5.keep g8
          refine ⟨_, rfl, D, rfl, ⟨_, SqL.of l8.top⟩, fun D4 nD4 => lc_map (T := TK K) gv_list nD4 (fun H g => SqL.of (g.lst l8.top)) (by rw [List.length_map]; omega) (iV st) (by rw [len_iV, List.length_map, hrs]) (fun i x y H8 H9 Ny hi g9 hy hys hN => ?_) mono_name fun H8 g9 hD8 => ?_⟩
          · obtain ⟨rfl, hx⟩ := hy
            rw [List.length_map, hrs] at hi
            have hri : rs[i]? = some (rs[i]'(by omega)) := List.getElem?_eq_getElem (by omega)
            rw [List.getElem?_map, hri] at hx
            obtain rfl : x = .ref rs[i] := (Option.some.inj hx).symm
            obtain ⟨n, hn2, rfl⟩ := get_iV hys
            obtain ⟨hd, b1, b2, b3⟩ := prs_get hlen hi
            have hr := (l8.keep g9).it i _ _ hri b2
            have en : bx st i = n := by
              have := bx_get hi
              rw [hn2] at this
              exact (Option.some.inj this).symm
            rw [en] at hr
            exact ⟨rfl, _, rfl, _, _, 1, _, rfl, rfl, SqL.of hr, at_pred (v := 1) rfl, n, rfl, hs n (List.mem_of_getElem? hn2), fun H8 g8 => hN _ g8⟩
          · refine ⟨D4, _, rfl, .inl ⟨SqL.of hD8, fun pb npb => ?_⟩⟩
            have hpa : H8 pa = some (.tup (iV (nI pl))) := g9.tup upd_same
            have gb : Gx (TK K) [] H8 (upd H8 pb (.tup (iV st))) := Gx.new npb
            have hp : PS2 (upd H8 pb (.tup (iV st))) pa pb pl st := ⟨gb.tup hpa, upd_same, ok⟩
            have g10 := ((g5.then g8).then g9).then gb
            refine ⟨_, rfl, pa, pl, rfl, hp.pa, ok.plok, fun H10 g11 => ⟨_, rfl, iteF ⟨_, rfl, _, rfl, pa, pb, pl, st, rfl, hp.keep g11, fun H11 g12 => ⟨_, rfl, iteF ?_⟩⟩⟩⟩
            have hp2 := (hp.keep g11).keep g12
            have g13 := (g10.then g11).then g12
            refine ⟨_, rfl, _, rfl, by show 2 ≤ sizeLine; decide, fun t nt => ?_⟩
            exact q _ t pa pb (g13.more nt) upd_same (hp2.keep (Gx.new (T := TK K) nt))
end
end K6

set_option Elab.async false
set_option linter.all false
set_option maxRecDepth 100000
set_option maxHeartbeats 4000000
/-! K6Ws: a row read -/
namespace K6
open PySem PySem.Spec PyProof.Rows L2 SX
/-- the names of rows, the number of words behind each -/
def frms : List (List Nat × Nat) := [([100, 97, 121], 0), ([114, 101, 109, 111, 118, 101], 0), ([117, 110, 100, 111], 0), ([115, 116, 111, 99, 107], 0), ([119, 97, 105, 116], 0), ([99, 121, 99, 108, 101], 0),
  ([115, 101, 108, 108], 1), ([100, 97, 121, 115], 1), ([97, 100, 100], 1), ([119, 111, 114, 100], 1), ([115, 111, 108, 100], 1), ([109, 97, 107, 101, 114], 1)]
section
variable {P : Program} {w : World} {K : PySem.W.Frag} {mg : Str → Option Value} {base : Heap}
theorem forms_at (z : Cz P w K mg base) {nm : List Nat} {k : Nat} (h : (nm, k) ∈ frms) : ∃ u, PySem.W.nsIn K (He.ga K "FORMS") (S nm) = some (some u) ∧ RelV (.int ((k : Nat) : Int)) u := by
  have e : ∃ q ∈ formsV, q.1 = S nm ∧ q.2.v K = .int ((k : Nat) : Int) := by
    have : ∀ p ∈ frms, ∃ q ∈ formsV, q.1 = S p.1 ∧ q.2.v K = .int ((p.2 : Nat) : Int) := by
      intro p hp
      simp only [frms, List.mem_cons, List.not_mem_nil, or_false] at hp
      rcases hp with rfl | rfl | rfl | rfl | rfl | rfl | rfl | rfl | rfl | rfl | rfl | rfl
      all_goals exact ⟨(_, _), by first | exact List.mem_cons_self .. | (simp only [formsV]; repeat (first | exact List.mem_cons_self .. | apply List.mem_cons_of_mem)), rfl, rfl⟩
    exact this _ h
  obtain ⟨q, h1, h2, h3⟩ := e
  obtain ⟨u, h4, h5⟩ := He.valsB_ok z.fv h1
  rw [h2] at h4
  rw [h3] at h5
  exact ⟨u, h4, h5⟩
def spParseOpen (K : PySem.W.Frag) : Sp := fun vs H Q _ => ∃ a, vs = [.str (S (openL ++ a))] ∧ 10 ∉ a ∧ a.length ≤ 4000 ∧ ∀ p, H p = none → Q (.ref p) (upd H p (.tup [.str "open", .str (S a)]))
def spParse0 (K : PySem.W.Frag) : Sp := fun vs H Q _ => ∃ nm, vs = [.str (S nm)] ∧ (nm, 0) ∈ frms ∧ ∀ H' p, Gx (TK K) [] H H' → H' p = some (.tup [.str (S nm), .non]) → Q (.ref p) H'
def spParse1 (K : PySem.W.Frag) : Sp := fun vs H Q _ => ∃ nm, ∃ n : Nat, vs = [.str (S (nm ++ 32 :: TL.numL n))] ∧ (nm, 1) ∈ frms ∧ n < 10 ^ 31 ∧ ∀ H' p, Gx (TK K) [] H H' → H' p = some (.tup [.str (S nm), .int ((n : Nat) : Int)]) → Q (.ref p) H'
def spParseRow (K : PySem.W.Frag) : Sp := fun vs H Q E => spParseOpen K vs H Q E ∨ spParse0 K vs H Q E ∨ spParse1 K vs H Q E
theorem frm_free {nm : List Nat} {k : Nat} (h : (nm, k) ∈ frms) : 10 ∉ nm ∧ 32 ∉ nm ∧ nm.length ≤ 6 ∧ nm.take 5 ≠ openL ∧ 3 ≤ nm.length := by
  have : ∀ p ∈ frms, 10 ∉ p.1 ∧ 32 ∉ p.1 ∧ p.1.length ≤ 6 ∧ p.1.take 5 ≠ openL ∧ 3 ≤ p.1.length := by decide
  exact this _ h
theorem frm_free1 {nm : List Nat} (h : (nm, 1) ∈ frms) (r : List Nat) : (nm ++ 32 :: r).take 5 ≠ openL := by
  simp only [frms, List.mem_cons, List.not_mem_nil, or_false, Prod.mk.injEq] at h
  rcases h with ⟨rfl, h⟩ | ⟨rfl, h⟩ | ⟨rfl, h⟩ | ⟨rfl, h⟩ | ⟨rfl, h⟩ | ⟨rfl, h⟩ | ⟨rfl, h⟩ | ⟨rfl, h⟩ | ⟨rfl, h⟩ | ⟨rfl, h⟩ | ⟨rfl, h⟩ | ⟨rfl, h⟩
  all_goals first
    | exact absurd h (by decide)
    | (intro e; injection e with e1 e2; exact absurd e1 (by decide))
theorem split1 (nm r : List Nat) (h1 : 32 ∉ nm) (h2 : 32 ∉ r) : TL.spl [32] 0 [] (nm ++ 32 :: r) = [nm, r] := spl_join (c := 32) (sep := []) (parts := [nm, r]) (by simp) fun p hp => by
  rcases List.mem_cons.mp hp with e | e
  · rw [e]
    exact h1
  · rw [List.mem_singleton.mp e]
    exact h2
theorem split0 (nm : List Nat) (h1 : 32 ∉ nm) : TL.spl [32] 0 [] nm = [nm] := spl_join (c := 32) (sep := []) (parts := [nm]) (by simp) fun p hp => by
  rw [List.mem_singleton.mp hp]
  exact h1
theorem calParseRow (z : Cz P w K mg base) : C8.Cal P w K mg base 2 "parse_row" (spParseRow K) [] := by
  refine mkCal z.fParseRow z.gParseRow scParseRow bParseRow (fun vs H Q E h => ?_) fun cdv A outer s H vs Q E hr h => ?_
  · rcases h with ⟨a, rfl, _⟩ | ⟨a, rfl, _⟩ | ⟨a, n, rfl, _⟩
    · rfl
    · rfl
    · rfl
  · refine ⟨_, (pss_cons (ps_if (PW.pt (pw_or (pt_not (pt_val (pe_callB call_isA (by rfl) z.nisinstance (by decide +kernel) (pa_cons (pv 0) (pa_cons (pe_bltn (v := .ty "str") (u := .type "str") (by rfl) z.nstr (by decide +kernel) rfl) pa_nil))))) (pw_or1 (pt_cmpR op_in_sign pe_str (pv 0) (by rfl))))) (pss_one ps_never) pss_nil)
  (pss_cons (ps_if (pt_cmpR op_eq (pe_slice sl_txtQ (pv 0) po_none (po_some (pe_callB call_len_str (by rfl) z.nlen PySem.boot_len (pa_cons (pe_glob (v := .str "open ") rfl z.cOPEN.choose_spec ⟨_, rfl⟩) pa_nil)))) (pe_glob (v := .str "open ") rfl z.cOPEN.choose_spec ⟨_, rfl⟩) (nomark _)) (pss_one (ps_ret (pe_tup (pa_cons pe_str (pa_cons (pe_slice sl_txtQ (pv 0) (po_some (pe_callB call_len_str (by rfl) z.nlen PySem.boot_len (pa_cons (pe_glob (v := .str "open ") rfl z.cOPEN.choose_spec ⟨_, rfl⟩) pa_nil))) po_none) pa_nil))))) pss_nil)
  (pss_cons (ps_set (i := 1) scParseRow.nd rfl (Or.inl rfl) (pe_split (pv 0) pe_str))
  (pss_cons (ps_if (pt_cmpR op_ne (pe_kget (pe_glob (v := .ref (He.ga K "FORMS")) rfl z.gFORMS rfl) (pe_ix ix_list (pv 1) pe_int (fun _ _ => rfl)) ⟨rfl, rfl, rfl, rfl⟩) (pe_op op_sub (pe_callB call_lenQ (by rfl) z.nlen PySem.boot_len (pa_cons (pv 1) pa_nil)) pe_int) (nomark _)) (pss_one ps_never) pss_nil)
  (pss_cons (ps_if (pt_cmpR op_eq (pe_callB call_lenQ (by rfl) z.nlen PySem.boot_len (pa_cons (pv 1) pa_nil)) pe_int (nomark _)) (pss_one (ps_ret (pe_tup (pa_cons (pe_ix ix_list (pv 1) pe_int (fun _ _ => rfl)) (pa_cons pe_non pa_nil))))) pss_nil)
  (pss_cons (ps_set (i := 2) scParseRow.nd rfl (Or.inl rfl) (C8.pe_c (calParseNumber z) hr (by decide) rfl (pa_cons (pe_ix ix_list (pv 1) pe_int (fun _ _ => rfl)) (pa_cons (pe_glob (v := .int 31) rfl z.cMOST_DIGITS_console.choose_spec ⟨_, rfl⟩) pa_nil))))
  (pss_cons (ps_if (pt_cmpR op_isN (pv 2) pe_non (nomark _)) (pss_one ps_never) pss_nil)
  (pss_one (ps_ret (pe_tup (pa_cons (pe_ix ix_list (pv 1) pe_int (fun _ _ => rfl)) (pa_cons (pv 2) pa_nil)))))))))))), ?_⟩
    rcases h with ⟨a, rfl, ha, hl, q⟩ | ⟨nm, rfl, hm, q⟩ | ⟨nm, n, rfl, hm, hn, q⟩
    · refine ⟨_, rfl, .inr (.inr ⟨_, rfl, _, rfl, iteF ⟨_, rfl, 10, _, rfl, rfl, _, rfl, ?_⟩⟩)⟩
      rw [decide_eq_false (show (10 : Nat) ∉ openL ++ a by
        rw [List.mem_append]
        rintro (h | h)
        · exact absurd h (by decide)
        · exact ha h)]
      refine iteF ⟨_, rfl, _, rfl, by decide, 5, rfl, slS_to (b := openL) (by rw [List.length_append]; show 5 + _ ≤ _; omega) (to_app openL a rfl) ⟨rfl, _, rfl, ?_⟩⟩
      rw [decide_eq_true (by rfl)]
      refine iteT (B := True) ⟨_, rfl, _, rfl, by decide, 5, rfl, slS_to (b := a) (by rw [List.length_append]; show 5 + _ ≤ _; omega) (from_app openL a rfl) ⟨by show 2 ≤ sizeLine; decide, fun p np => ?_⟩⟩
      exact q p np
    · obtain ⟨f1, f2, f3, f4, f5⟩ := frm_free hm
      refine ⟨_, rfl, .inr (.inr ⟨_, rfl, _, rfl, iteF ⟨_, rfl, 10, _, rfl, rfl, _, rfl, ?_⟩⟩)⟩
      rw [decide_eq_false f1]
      refine iteF ⟨_, rfl, _, rfl, by decide, 5, rfl, slS_to (b := nm.take 5) (by omega) (slice_to (by decide)) ⟨rfl, _, rfl, ?_⟩⟩
      rw [decide_eq_false (show ¬ V.str (S (nm.take 5)) = V.str "open " from fun e => f4 (S_inj (b := openL) (V.str.inj e)))]
      refine iteF ⟨_, rfl, ⟨_, rfl⟩, split_to (ys := [nm].map S) rfl (by rw [S_len]; exact sz_le (by omega)) (by rw [show (" " : Str) = S [32] from rfl, split_S (by simp) (by decide), split0 _ f2]) fun p np => ?_⟩
      have hp : upd H p (.lst [.str (S nm)]) p = some (.lst [.str (S nm)]) := upd_same
      obtain ⟨es, m, hf⟩ := z.forms
      obtain ⟨u, hu1, hu2⟩ := forms_at z hm
      refine ⟨_, es, m, rfl, hf.at_, hf.lit, hf.low, _, rfl, p, _, 0, _, rfl, rfl, SqL.of hp, at_pred (v := 0) rfl, S nm, u, _, rfl, hu1, hu2, ?_⟩
      refine ⟨_, rfl, lenV_to hp ⟨_, _, rfl, rfl, rfl, ?_⟩⟩
      refine ⟨_, rfl, iteF ⟨_, rfl, lenV_to hp ⟨rfl, _, rfl, ?_⟩⟩⟩
      rw [decide_eq_true (by rfl)]
      refine iteT (B := True) ⟨_, rfl, p, _, 0, _, rfl, rfl, SqL.of hp, at_pred (v := 0) rfl, by show 2 ≤ sizeLine; decide, fun t nt => ?_⟩
      exact q _ t ((Gx.new (T := TK K) np).more nt) upd_same
    · obtain ⟨f1, f2, f3, f4, f5⟩ := frm_free hm
      have h5 := frm_free1 hm (TL.numL n)
      have hnl : (TL.numL n).length ≤ 31 := TL.numL_len (by decide) hn
      have hll : (nm ++ 32 :: TL.numL n).length ≤ 40 := by
        rw [List.length_append, List.length_cons]
        omega
      refine ⟨_, rfl, .inr (.inr ⟨_, rfl, _, rfl, iteF ⟨_, rfl, 10, _, rfl, rfl, _, rfl, ?_⟩⟩)⟩
      rw [decide_eq_false (show (10 : Nat) ∉ nm ++ 32 :: TL.numL n by
        rw [List.mem_append, List.mem_cons]
        rintro (h | h | h)
        · exact f1 h
        · omega
        · exact TL.numL_free (by omega) h)]
      refine iteF ⟨_, rfl, _, rfl, by decide, 5, rfl, slS_to (b := (nm ++ 32 :: TL.numL n).take 5) (by omega) (slice_to (by decide)) ⟨rfl, _, rfl, ?_⟩⟩
      rw [decide_eq_false (show ¬ V.str (S ((nm ++ 32 :: TL.numL n).take 5)) = V.str "open " from fun e => h5 (S_inj (b := openL) (V.str.inj e)))]
      refine iteF ⟨_, rfl, ⟨_, rfl⟩, split_to (ys := [nm, TL.numL n].map S) rfl (by rw [S_len]; exact sz_le (by omega)) (by rw [show (" " : Str) = S [32] from rfl, split_S (by simp) (by decide), split1 _ _ f2 (TL.numL_free (by omega))]) fun p np => ?_⟩
      have hp : upd H p (.lst [.str (S nm), .str (S (TL.numL n))]) p = some (.lst [.str (S nm), .str (S (TL.numL n))]) := upd_same
      obtain ⟨es, m, hf⟩ := z.forms
      obtain ⟨u, hu1, hu2⟩ := forms_at z hm
      refine ⟨_, es, m, rfl, hf.at_, hf.lit, hf.low, _, rfl, p, _, 0, _, rfl, rfl, SqL.of hp, at_pred (v := 0) rfl, S nm, u, _, rfl, hu1, hu2, ?_⟩
      refine ⟨_, rfl, lenV_to hp ⟨_, _, rfl, rfl, rfl, ?_⟩⟩
      refine ⟨_, rfl, iteF ⟨_, rfl, lenV_to hp ⟨rfl, _, rfl, ?_⟩⟩⟩
      rw [decide_eq_false (fun e => by cases e)]
      refine iteF ⟨_, rfl, p, _, 1, _, rfl, rfl, SqL.of hp, at_pred (v := 1) rfl, n, 31, rfl, hnl, by decide, fun H1 g1 => ?_⟩
      refine ⟨_, rfl, rfl, _, rfl, ?_⟩
      rw [decide_eq_false (fun e => by cases e)]
      refine iteF ⟨_, rfl, p, _, 0, _, rfl, rfl, SqL.of (g1.lst hp), at_pred (v := 0) rfl, _, rfl, by show 2 ≤ sizeLine; decide, fun t nt => ?_⟩
      exact q _ t (((Gx.new (T := TK K) np).then g1).more nt) upd_same
end
end K6

set_option Elab.async false
set_option linter.all false
set_option maxRecDepth 100000
set_option maxHeartbeats 4000000
/-! K6Mg: the answers of a console, in plain Lean -/
namespace K6
open PySem PySem.Spec PyProof.Rows L2 SX
theorem lg_of {x : Int} (h : x.natAbs < 2 ^ 255) : x.natAbs.log2 < 1920 := by
  by_cases h0 : x.natAbs = 0
  · rw [h0]
    decide
  · exact (Nat.log2_lt h0).mpr (Nat.lt_of_lt_of_le h (Nat.pow_le_pow_right (by decide) (by decide)))
theorem sml_lg {x : Int} (h : x.natAbs < 10 ^ 40) : x.natAbs.log2 < 1920 := lg_of (Nat.lt_trans h (by decide))
theorem Sml.bnd {st : List Int} (h : Sml st) : Bnd (-(10 ^ 40 : Nat)) (10 ^ 40 : Nat) st := fun x hx => by
  have := h x hx
  omega
inductive Ask where
  | stock
  | wait
  | cycle
  | sold (d : Nat)
  | maker (d : Nat)
def ansI (r : Ask) (pl : List Nat) (st : List Int) : Int := match r with
  | .stock => 0
  | .wait => ((ordDays pl st).1 : Nat)
  | .cycle => (cycOf pl st : Nat)
  | .sold d => soldOn pl st d
  | .maker d => (makerOn pl st d : Nat)
def ansL (r : Ask) (pl : List Nat) (st : List Int) : List Nat := match r with
  | .stock => TL.joinL [32] (st.map intL)
  | r => intL (ansI r pl st)
structure AskOk (r : Ask) : Prop where
  ok : match r with
    | .sold d => 1 ≤ d ∧ d ≤ 1000000
    | .maker d => 1 ≤ d ∧ d ≤ 1000000
    | _ => True
theorem cyc_le {pl : List Nat} {st : List Int} (ok : StOk pl st) (hs : Sml st) : cycOf pl st ≤ big := by
  obtain ⟨h1, h2, h3, h4⟩ := ord_all ok hs.bnd
  have w := words_ok ok.plok (ordL_perm h1.len)
  exact (lenGo_ok ok.plok w _ _ (Nat.le_refl _) (Fk.init _)).big ok.plok w 0 (Nat.zero_le _)
theorem maker_le {pl : List Nat} {st : List Int} (ok : StOk pl st) (d : Nat) : makerOn pl st d ≤ pl.length := by
  unfold makerOn chainOf
  have h := chain_le (st := stockAt pl st (d - 1)) ok.plok
  generalize hc : chain pl (stockAt pl st (d - 1)) _ 0 = ch
  have h := h (pl.length + 1) 0 (Nat.zero_le _)
  have hne := chain_ne (pl := pl) (st := stockAt pl st (d - 1)) (pl.length + 1) 0
  rw [hc] at h hne
  obtain ⟨pre, x, rfl⟩ : ∃ pre x, ch = pre ++ [x] := ⟨ch.dropLast, ch.getLast hne, (List.dropLast_concat_getLast hne).symm⟩
  rw [List.getLastD_concat]
  exact h x (by simp)
theorem ans_lg {r : Ask} {pl : List Nat} {st : List Int} (ok : StOk pl st) (hs : Sml st) (hr : AskOk r) : (ansI r pl st).natAbs.log2 < 1920 := by
  have h40 := ok.plok.1
  refine lg_of ?_
  cases r with
  | stock => exact Nat.pow_pos (by decide)
  | wait =>
    obtain ⟨h1, h2, h3, h4⟩ := ord_all ok hs.bnd
    refine Nat.lt_of_le_of_lt (m := 40) ?_ (by decide)
    show (((ordDays pl st).1 : Nat) : Int).natAbs ≤ 40
    omega
  | cycle =>
    refine Nat.lt_of_le_of_lt (m := big) ?_ (by decide)
    have := cyc_le ok hs
    show (((cycOf pl st) : Nat) : Int).natAbs ≤ big
    omega
  | sold d =>
    have h : 1 ≤ d ∧ d ≤ 1000000 := hr.ok
    obtain ⟨h1, h2⟩ := soldOn_bnd ok hs.bnd h.1
    refine Nat.lt_of_le_of_lt (m := 10 ^ 40 + 1000000) ?_ (by decide)
    show (soldOn pl st d).natAbs ≤ _
    omega
  | maker d =>
    have := maker_le ok d
    refine Nat.lt_of_le_of_lt (m := 40) ?_ (by decide)
    show (((makerOn pl st d) : Nat) : Int).natAbs ≤ 40
    omega
end K6

set_option Elab.async false
set_option linter.all false
set_option maxRecDepth 100000
set_option maxHeartbeats 4000000
/-! K6Wt: Console's operate and answer -/
namespace K6
open PySem PySem.Spec PyProof.Rows L2 SX
structure ConAt (K : PySem.W.Frag) (H : Hp) (c : Addr) (v : V) : Prop where
  ex : ∃ dx, H c = some (.ins (He.ga K "Console") dx [("live_plant", v)])
theorem ConAt.keep {K : PySem.W.Frag} {T : TL} {ex : List Addr} {H H' : Hp} {c : Addr} {v : V} (h : ConAt K H c v) (g : Gx T ex H H') (n : c ∉ ex) : ConAt K H' c v := by
  obtain ⟨dx, h⟩ := h.ex
  exact ⟨dx, g.insX h n⟩
theorem ne_S {a b : List Nat} (h : a ≠ b) : ¬ V.str (S a) = V.str (S b) := fun e => h (S_inj (V.str.inj e))
theorem ite_df {p : Prop} [Decidable p] {A B : Prop} (h : ¬p) (q : B) : if decide p = true then A else B := by
  rw [decide_eq_false h]
  exact q
theorem ite_dt {p : Prop} [Decidable p] {A B : Prop} (h : p) (q : A) : if decide p = true then A else B := by
  rw [decide_eq_true h]
  exact q
def opN : Op → List Nat
  | .day => [100, 97, 121]
  | .days _ => [100, 97, 121, 115]
  | .sell _ => [115, 101, 108, 108]
  | .add _ => [97, 100, 100]
  | .remove => [114, 101, 109, 111, 118, 101]
def opA : Op → V
  | .days d => .int ((d : Nat) : Int)
  | .sell v => .int ((v : Nat) : Int)
  | .add v => .int ((v : Nat) : Int)
  | _ => .non
abbrev undoN : List Nat := [117, 110, 100, 111]
def askN : Ask → List Nat
  | .stock => [115, 116, 111, 99, 107]
  | .wait => [119, 97, 105, 116]
  | .cycle => [99, 121, 99, 108, 101]
  | .sold _ => [115, 111, 108, 100]
  | .maker _ => [109, 97, 107, 101, 114]
def askA : Ask → V
  | .sold d => .int ((d : Nat) : Int)
  | .maker d => .int ((d : Nat) : Int)
  | _ => .non
/-- an operation of operate -/
inductive Cop where
  | op (o : Op)
  | undo
def copN : Cop → List Nat
  | .op o => opN o
  | .undo => undoN
def copA : Cop → V
  | .op o => opA o
  | .undo => .non
def copS : Cop → Sta → Sta
  | .op o, s => doOp o s
  | .undo, s => undoS s
structure CopOk (c : Cop) (s : Sta) : Prop where
  ok : match c with
    | .op .day => False
    | .op (.sell _) => False
    | .op o => OpOk o s ∧ s.hist.length < 1000
    | .undo => s.hist ≠ []
section
variable {P : Program} {w : World} {K : PySem.W.Frag} {mg : Str → Option Value} {base : Heap}
theorem LiveAt.ne_con {H : Hp} {a l c : Addr} {s : Sta} {v : V} (h : LiveAt K H a l s) (hc : ConAt K H c v) : c ∉ [a, l] := by
  obtain ⟨dx, hc⟩ := hc.ex
  obtain ⟨dx2, cc, es, h1, h2, h3⟩ := h.ex
  intro hm
  rcases List.mem_cons.mp hm with e | e
  · rw [e, h1] at hc
    have e2 := (HO.ins.inj (Option.some.inj hc)).2.2
    exact absurd (congrArg List.length e2) (fun z => by cases z)
  · rw [List.mem_singleton.mp e, h3.top] at hc
    cases hc
def spOperate (K : PySem.W.Frag) : Sp := fun vs H Q _ => ∃ c a l s o, vs = [.ref c, .str (S (copN o)), copA o] ∧ ConAt K H c (.ref a) ∧ LiveAt K H a l s ∧ CopOk o s ∧ LamX.Tabs (TK K) H ∧ ∀ H', Gx (TK K) [a, l] H H' → LiveAt K H' a l (copS o s) → Q .non H'
theorem metConsoleOperate (z : Cz P w K mg base) : C8.Met P w K mg base 6 (He.ga K "Console") "operate" (spOperate K) [] := by
  refine mkMet z.kConsole z.tConsoleOperate z.fConsoleOperate scConsoleOperate bConsoleOperate (fun vs H Q E h => ?_) fun cdv A outer s H vs Q E hr h => ?_
  · obtain ⟨c, a, l, s, o, rfl, _⟩ := h
    rfl
  · refine ⟨_, (pss_one (ps_if (pt_cmpR op_eq (pv 1) pe_str (nomark _)) (pss_one (ps_expr (C8.pe_mt (metLivePlantDays z) hr (by decide) (pe_fld (pv 0) rfl) (pa_cons (pv 2) pa_nil)))) (pss_one (ps_if (pt_cmpR op_eq (pv 1) pe_str (nomark _)) (pss_one (ps_expr (C8.pe_mt (metLivePlantAdd z) hr (by decide) (pe_fld (pv 0) rfl) (pa_cons (pv 2) pa_nil)))) (pss_one (ps_if (pt_cmpR op_eq (pv 1) pe_str (nomark _)) (pss_one (ps_expr (C8.pe_mt0 (metLivePlantRemove z) hr (by decide) (pe_fld (pv 0) rfl)))) (pss_one (ps_expr (C8.pe_mt0 (metLivePlantUndo z) hr (by decide) (pe_fld (pv 0) rfl)))))))))), ?_⟩
    obtain ⟨c, a, l, s, o, rfl, hc, h, ho, ht, q⟩ := h
    obtain ⟨dx, hc1⟩ := hc.ex
    cases o with
    | op o =>
      cases o with
      | day => exact ho.ok.elim
      | sell v => exact ho.ok.elim
      | days d =>
        obtain ⟨h1, h2⟩ : OpOk (.days d) s ∧ s.hist.length < 1000 := ho.ok
        have h3 : 1 ≤ d ∧ d ≤ 1000000000000000000000000000000 := h1.ok
        refine ⟨_, rfl, rfl, _, rfl, ?_⟩
        refine ite_dt rfl ⟨_, rfl, c, _, dx, _, _, rfl, hc1, z.kConsole, z.aLivePlant, rfl, ?_⟩
        obtain ⟨dx2, cc, es, i1, i2, i3⟩ := h.ex
        exact ⟨a, dx2, _, rfl, i1, rfl, _, rfl, a, l, s, d, rfl, h, h3.1, h3.2, ht, h2, fun H' g k => q H' g k⟩
      | add v =>
        obtain ⟨h1, h2⟩ : OpOk (.add v) s ∧ s.hist.length < 1000 := ho.ok
        have h3 : v ≤ s.pl.length ∧ s.st.length < 40 := h1.ok
        refine ⟨_, rfl, rfl, _, rfl, ?_⟩
        refine ite_df (ne_S (a := [97, 100, 100]) (b := [100, 97, 121, 115]) (by decide)) ⟨_, rfl, rfl, _, rfl, ?_⟩
        refine ite_dt rfl ⟨_, rfl, c, _, dx, _, _, rfl, hc1, z.kConsole, z.aLivePlant, rfl, ?_⟩
        obtain ⟨dx2, cc, es, i1, i2, i3⟩ := h.ex
        exact ⟨a, dx2, _, rfl, i1, rfl, _, rfl, a, l, s, v, rfl, h, h3.1, h3.2, h2, fun H' g k => q H' g k⟩
      | remove =>
        obtain ⟨h1, h2⟩ : OpOk .remove s ∧ s.hist.length < 1000 := ho.ok
        have h3 : 1 ≤ s.pl.length := h1.ok
        refine ⟨_, rfl, rfl, _, rfl, ?_⟩
        refine ite_df (ne_S (a := [114, 101, 109, 111, 118, 101]) (b := [100, 97, 121, 115]) (by decide)) ⟨_, rfl, rfl, _, rfl, ?_⟩
        refine ite_df (ne_S (a := [114, 101, 109, 111, 118, 101]) (b := [97, 100, 100]) (by decide)) ⟨_, rfl, rfl, _, rfl, ?_⟩
        refine ite_dt rfl ⟨_, rfl, c, _, dx, _, _, rfl, hc1, z.kConsole, z.aLivePlant, rfl, ?_⟩
        obtain ⟨dx2, cc, es, i1, i2, i3⟩ := h.ex
        exact ⟨a, dx2, _, rfl, i1, rfl, a, l, s, rfl, h, h3, h2, fun H' g k => q H' g k⟩
    | undo =>
      have h1 : s.hist ≠ [] := ho.ok
      refine ⟨_, rfl, rfl, _, rfl, ?_⟩
      refine ite_df (ne_S (a := undoN) (b := [100, 97, 121, 115]) (by decide)) ⟨_, rfl, rfl, _, rfl, ?_⟩
      refine ite_df (ne_S (a := undoN) (b := [97, 100, 100]) (by decide)) ⟨_, rfl, rfl, _, rfl, ?_⟩
      refine ite_df (ne_S (a := undoN) (b := [114, 101, 109, 111, 118, 101]) (by decide)) ⟨_, rfl, c, _, dx, _, _, rfl, hc1, z.kConsole, z.aLivePlant, rfl, ?_⟩
      obtain ⟨dx2, cc, es, i1, i2, i3⟩ := h.ex
      exact ⟨a, dx2, _, rfl, i1, rfl, a, l, s, rfl, h, h1, fun H' g k => q H' g k⟩
def spAnswer (K : PySem.W.Frag) : Sp := fun vs H Q _ => ∃ c a l s r, vs = [.ref c, .str (S (askN r)), askA r] ∧ ConAt K H c (.ref a) ∧ LiveAt K H a l s ∧ AskOk r ∧ StOk s.pl s.st ∧ Sml s.st ∧ LamX.Tabs (TK K) H ∧ ∀ H', Gx (TK K) [] H H' → Q (.str (S (ansL r s.pl s.st))) H'
theorem metConsoleAnswer (z : Cz P w K mg base) : C8.Met P w K mg base 7 (He.ga K "Console") "answer" (spAnswer K) [] := by
  refine mkMet z.kConsole z.tConsoleAnswer z.fConsoleAnswer scConsoleAnswer bConsoleAnswer (fun vs H Q E h => ?_) fun cdv A outer s H vs Q E hr h => ?_
  · obtain ⟨c, a, l, s, r, rfl, _⟩ := h
    rfl
  · refine ⟨_, (pss_cons (ps_par (i := 3) (j := 4) rfl scConsoleAnswer.nd rfl rfl (by decide) rfl rfl (pa_cons (C8.pe_mt0 (metLivePlantPlant z) hr (by decide) (pe_fld (pv 0) rfl)) (pa_cons (C8.pe_mt0 (metLivePlantStock z) hr (by decide) (pe_fld (pv 0) rfl)) pa_nil)) (by rfl))
  (pss_cons (ps_if (pt_cmpR op_eq (pv 1) pe_str (nomark _)) (pss_one (ps_ret (pe_join pe_str (pe_lc (own := [("box", 5)]) (g := gName 5) (tt := tYes) rfl scConsoleAnswer.nd (pi_tup (pv 4)) (blkOk_by (own := [("box", 5)]) (N := nConsoleAnswer) (sc := defScope sConsoleAnswer) (by decide +kernel)) (fun _ _ _ _ _ => (pg_name (i := 5) scConsoleAnswer.nd rfl (Or.inl rfl))) (fun _ _ _ _ _ => pts_nil) (fun _ _ _ _ _ => (pe_callTy call_strA (by rfl) z.nstr (by decide +kernel) (pa_cons (pv 5) pa_nil))))))) pss_nil)
  (pss_cons (ps_if (pt_cmpR op_eq (pv 1) pe_str (nomark _)) (pss_one ps_never) pss_nil)
  (pss_cons (ps_if (pt_cmpR op_eq (pv 1) pe_str (nomark _)) (pss_one (ps_ret (pe_callTy call_strA (by rfl) z.nstr (by decide +kernel) (pa_cons (C8.pe_c (calDaysUntilOrdered z) hr (by decide) rfl (pa_cons (pv 3) (pa_cons (pv 4) pa_nil))) pa_nil)))) pss_nil)
  (pss_cons (ps_if (pt_cmpR op_eq (pv 1) pe_str (nomark _)) (pss_one (ps_ret (pe_callTy call_strA (by rfl) z.nstr (by decide +kernel) (pa_cons (C8.pe_c (calCycleLength z) hr (by decide) rfl (pa_cons (pv 3) (pa_cons (pv 4) pa_nil))) pa_nil)))) pss_nil)
  (pss_one (ps_ret (pe_callTy call_strA (by rfl) z.nstr (by decide +kernel) (pa_cons (pe_ifExp (pt_cmpR op_eq (pv 1) pe_str (nomark _)) (C8.pe_c (calSoldOn z) hr (by decide) rfl (pa_cons (pv 3) (pa_cons (pv 4) (pa_cons (pv 2) pa_nil)))) (C8.pe_c (calMakerOn z) hr (by decide) rfl (pa_cons (pv 3) (pa_cons (pv 4) (pa_cons (pv 2) pa_nil))))) pa_nil))))))))), ?_⟩
    obtain ⟨c, a, l, s, r, rfl, hc, h, hr2, ok, hs, ht, q⟩ := h
    obtain ⟨dx, hc1⟩ := hc.ex
    obtain ⟨dx2, cc, es, i1, ⟨p, b, i2, hp⟩, i3⟩ := h.ex
    have hlg := ans_lg ok hs hr2
    refine ⟨_, rfl, c, _, dx, _, _, rfl, hc1, z.kConsole, z.aLivePlant, rfl, a, dx2, _, rfl, i1, rfl, a, l, s, rfl, h, fun c1 p1 b1 ⟨dx3, j0⟩ j1 j2 => ?_⟩
    refine ⟨_, rfl, c, _, dx, _, _, rfl, hc1, z.kConsole, z.aLivePlant, rfl, a, dx2, _, rfl, i1, rfl, a, l, s, rfl, h, fun c2 p2 b2 j3 j4 j5 => ?_⟩
    have hps : PS2 H p1 b2 s.pl s.st := ⟨j2.pa, j5.sb, ok⟩
    have h40 := ok.plok.1
    have hlen := ok.len
    have two : ∀ {x : Int} {H2 : Hp} {Q2 : VK}, x.natAbs.log2 < 1920 → Q2 (.str (S (intL x))) H2 → rStrA [.int x] H2 Q2 := fun {x H2 Q2} h1 h2 => .inl ⟨x, rfl, h1, by rw [int_text]; exact h2⟩
    cases r with
    | stock =>
      refine ⟨_, _, rfl, _, rfl, rfl, _, rfl, ite_dt rfl ⟨⟨_, rfl⟩, _, rfl, b2, rfl, ⟨_, SqT.of hps.sb⟩, fun D nD => lc_map (T := TK K) gv_tup nD (fun H g => SqT.of (g.tup hps.sb)) (by rw [len_iV]; omega) (s.st.map fun x => V.str (S (intL x))) (by rw [List.length_map, len_iV]) (fun i x y H4 H5 Ny hi g4 hy hys hN => ?_) mono_name fun H4 g4 hD4 => ?_⟩⟩
      · obtain ⟨rfl, hx⟩ := hy
        obtain ⟨n, hn, rfl⟩ := get_iV hx
        rw [List.getElem?_map, hn] at hys
        obtain rfl : y = V.str (S (intL n)) := (Option.some.inj hys).symm
        exact ⟨rfl, _, rfl, two (sml_lg (hs n (List.mem_of_getElem? hn))) (hN _ Gx.refl)⟩
      · have e1 : s.st.map (fun x => V.str (S (intL x))) = ((s.st.map intL).map S).map V.str := by rw [List.map_map, List.map_map]; rfl
        rw [e1] at hD4
        refine ⟨_, D, (s.st.map intL).map S, rfl, rfl, .inl (SqL.of hD4), ?_, ?_⟩
        · have h2 := sum_le (k := 41) (xs := ((s.st.map intL).map S).map (·.length)) (fun x hx => by
            rw [List.map_map, List.map_map] at hx
            obtain ⟨y, hy, rfl⟩ := List.mem_map.mp hx
            show (S (intL y)).length ≤ 41
            rw [S_len]
            exact intL_len (hs y hy))
          rw [List.length_map, List.length_map, List.length_map] at h2
          rw [List.length_map, List.length_map]
          have : s.st.length * 41 ≤ 40 * 41 := Nat.mul_le_mul_right _ (by omega)
          have e9 : (" " : Str).length = 1 := by decide
          rw [e9]
          omega
        · rw [show (" " : Str) = S [32] from rfl, join_S]
          exact q _ g4
    | wait =>
      refine ⟨_, _, rfl, _, rfl, rfl, _, rfl, ite_df (ne_S (a := [119, 97, 105, 116]) (b := [115, 116, 111, 99, 107]) (by decide)) ⟨_, rfl, rfl, _, rfl, ite_df (ne_S (a := [119, 97, 105, 116]) (b := [119, 111, 114, 100]) (by decide)) ⟨_, rfl, rfl, _, rfl, ite_dt rfl ?_⟩⟩⟩
      exact ⟨_, rfl, _, rfl, p1, b2, s.pl, s.st, rfl, hps, fun H' g => two hlg (q _ g)⟩
    | cycle =>
      refine ⟨_, _, rfl, _, rfl, rfl, _, rfl, ite_df (ne_S (a := [99, 121, 99, 108, 101]) (b := [115, 116, 111, 99, 107]) (by decide)) ⟨_, rfl, rfl, _, rfl, ite_df (ne_S (a := [99, 121, 99, 108, 101]) (b := [119, 111, 114, 100]) (by decide)) ⟨_, rfl, rfl, _, rfl, ite_df (ne_S (a := [99, 121, 99, 108, 101]) (b := [119, 97, 105, 116]) (by decide)) ⟨_, rfl, rfl, _, rfl, ite_dt rfl ?_⟩⟩⟩⟩
      exact ⟨_, rfl, _, rfl, p1, b2, s.pl, s.st, rfl, hps, ht, fun H' g => two hlg (q _ g)⟩
    | sold d =>
      have hd : 1 ≤ d ∧ d ≤ 1000000 := hr2.ok
      refine ⟨_, _, rfl, _, rfl, rfl, _, rfl, ite_df (ne_S (a := [115, 111, 108, 100]) (b := [115, 116, 111, 99, 107]) (by decide)) ⟨_, rfl, rfl, _, rfl, ite_df (ne_S (a := [115, 111, 108, 100]) (b := [119, 111, 114, 100]) (by decide)) ⟨_, rfl, rfl, _, rfl, ite_df (ne_S (a := [115, 111, 108, 100]) (b := [119, 97, 105, 116]) (by decide)) ⟨_, rfl, rfl, _, rfl, ite_df (ne_S (a := [115, 111, 108, 100]) (b := [99, 121, 99, 108, 101]) (by decide)) ⟨_, rfl, rfl, _, rfl, ite_dt rfl ?_⟩⟩⟩⟩⟩
      exact ⟨_, rfl, _, rfl, _, rfl, p1, b2, s.pl, s.st, d, rfl, hps, hd.1, hd.2, fun H' g => two hlg (q _ g)⟩
    | maker d =>
      have hd : 1 ≤ d ∧ d ≤ 1000000 := hr2.ok
      refine ⟨_, _, rfl, _, rfl, rfl, _, rfl, ite_df (ne_S (a := [109, 97, 107, 101, 114]) (b := [115, 116, 111, 99, 107]) (by decide)) ⟨_, rfl, rfl, _, rfl, ite_df (ne_S (a := [109, 97, 107, 101, 114]) (b := [119, 111, 114, 100]) (by decide)) ⟨_, rfl, rfl, _, rfl, ite_df (ne_S (a := [109, 97, 107, 101, 114]) (b := [119, 97, 105, 116]) (by decide)) ⟨_, rfl, rfl, _, rfl, ite_df (ne_S (a := [109, 97, 107, 101, 114]) (b := [99, 121, 99, 108, 101]) (by decide)) ⟨_, rfl, rfl, _, rfl, ite_df (ne_S (a := [109, 97, 107, 101, 114]) (b := [115, 111, 108, 100]) (by decide)) ?_⟩⟩⟩⟩⟩
      exact ⟨_, rfl, _, rfl, _, rfl, p1, b2, s.pl, s.st, d, rfl, hps, hd.1, hd.2, ht, fun H' g => two hlg (q _ g)⟩
end
end K6

set_option Elab.async false
set_option linter.all false
set_option maxRecDepth 100000
set_option maxHeartbeats 4000000
/-! K6Wu: Console's say -/
namespace K6
open PySem PySem.Spec PyProof.Rows L2 SX
theorem Fr.back {T : TL} {H H1 : Hp} {l : Addr} (g : Gx T [] H H1) (f : Fr H1 l) : Fr H l := fun o e => by
  apply Classical.byContradiction
  intro hn
  have := g.oth e (fun ps z => hn ⟨ps, z⟩) (by simp)
  exact hn (f o this)
/-- a row of a name and maybe a number -/
def rowL (nm : List Nat) : V → List Nat
  | .int n => nm ++ 32 :: intL n
  | _ => nm
def copR : Cop → Sta → List Nat
  | .op .day, s => intL (bx s.st 0)
  | .op (.sell v), s => intL (bx s.st v)
  | _, _ => [111, 107]
structure CopOk2 (c : Cop) (s : Sta) : Prop where
  ok : match c with
    | .op o => OpOk o s ∧ s.hist.length < 1000
    | .undo => s.hist ≠ []
section
variable {P : Program} {w : World} {K : PySem.W.Frag} {mg : Str → Option Value} {base : Heap}
def spSayOpen (K : PySem.W.Frag) : Sp := fun vs H Q _ => ∃ c v pl st, vs = [.ref c, .str (S (openL ++ TL.joinL [59] (lnsL pl st)))] ∧ ConAt K H c v ∧ StOk pl st ∧ Sml st ∧ ∀ H' a l, Gx (TK K) [c] H H' → ConAt K H' c (.ref a) → LiveAt K H' a l ⟨pl, st, []⟩ → Fr H a → Fr H l → Q (.str (S [111, 107])) H'
def spSayOp (K : PySem.W.Frag) : Sp := fun vs H Q _ => ∃ c a l s o, vs = [.ref c, .str (S (rowL (copN o) (copA o)))] ∧ ConAt K H c (.ref a) ∧ LiveAt K H a l s ∧ CopOk2 o s ∧ StOk s.pl s.st ∧ Sml s.st ∧ LamX.Tabs (TK K) H ∧ ∀ H', Gx (TK K) [a, l] H H' → LiveAt K H' a l (copS o s) → Q (.str (S (copR o s))) H'
def spSayAsk (K : PySem.W.Frag) : Sp := fun vs H Q _ => ∃ c a l s r, vs = [.ref c, .str (S (rowL (askN r) (askA r)))] ∧ ConAt K H c (.ref a) ∧ LiveAt K H a l s ∧ AskOk r ∧ StOk s.pl s.st ∧ Sml s.st ∧ LamX.Tabs (TK K) H ∧ ∀ H', Gx (TK K) [] H H' → Q (.str (S (ansL r s.pl s.st))) H'
def spSay (K : PySem.W.Frag) : Sp := fun vs H Q E => spSayOpen K vs H Q E ∨ spSayOp K vs H Q E ∨ spSayAsk K vs H Q E
theorem parse_to {nm : List Nat} {arg : V} (h : (arg = .non ∧ (nm, 0) ∈ frms) ∨ ∃ n : Nat, arg = .int ((n : Nat) : Int) ∧ (nm, 1) ∈ frms ∧ n < 10 ^ 31) {H : Hp} {Q : VK} {E : XK}
    (q : ∀ H' p, Gx (TK K) [] H H' → H' p = some (.tup [.str (S nm), arg]) → Q (.ref p) H') : spParseRow K [.str (S (rowL nm arg))] H Q E := by
  rcases h with ⟨rfl, h⟩ | ⟨n, rfl, h, hn⟩
  · exact .inr (.inl ⟨nm, rfl, h, q⟩)
  · exact .inr (.inr ⟨nm, n, by rw [← intL_nat]; rfl, h, hn, q⟩)
theorem ite_t {b : Bool} {A B : Prop} (h : b = true) (q : A) : if b = true then A else B := by
  rw [h]
  exact q
theorem ite_f {b : Bool} {A B : Prop} (h : b = false) (q : B) : if b = true then A else B := by
  rw [h]
  exact q
abbrev openN : List Nat := [111, 112, 101, 110]
abbrev opsV : List V := [.str "days", .str "add", .str "remove", .str "undo"]
theorem metConsoleSay (z : Cz P w K mg base) : C8.Met P w K mg base 8 (He.ga K "Console") "say" (spSay K) [] := by
  obtain ⟨fd0, F0⟩ := z.fLivePlantInit
  obtain ⟨mv, hkb⟩ := kbLiveInit F0
  refine mkMet z.kConsole z.tConsoleSay z.fConsoleSay scConsoleSay bConsoleSay (fun vs H Q E h => ?_) fun cdv A outer s H vs Q E hr h => ?_
  · rcases h with ⟨c, v, pl, st, rfl, _⟩ | ⟨c, a, l, s, o, rfl, _⟩ | ⟨c, a, l, s, o, rfl, _⟩
    · rfl
    · rfl
    · rfl
  · refine ⟨_, (pss_cons (ps_asg (C8.pe_c (calParseRow z) hr (by decide) rfl (pa_cons (pv 1) pa_nil)) (pg_pair (i := 2) (j := 3) rfl scConsoleSay.nd rfl (Or.inl rfl) rfl (Or.inl rfl)))
      (pss_cons (ps_ifTok (pv 2) (psst_cons (pst_asgC (calReadPlant z) hr (by decide) rfl (CwR.pet_op op_add_str (CwR.pet_replC (pv 3)) (CwR.PET.of pe_str)) (pg_pair (i := 4) (j := 5) rfl scConsoleSay.nd rfl (Or.inl rfl) rfl (Or.inl rfl)))
        (PSsT.of (pss_cons (ps_fld (pv 0) (pe_makeN z.mLivePlant (fnLiveInit z F0) (hr.mono (by decide)) rfl z.gLivePlant hkb (C8.pass0 (E := C8.E0)) (pa_cons (pv 4) pa_nil) (pk_cons (pv 5) pk_nil)) rfl) (pss_one (ps_ret pe_str))))) pss_nil)
      (pss_cons (ps_if (pt_cmpR op_isN (pe_fld (pv 0) rfl) pe_non (nomark _)) (pss_one ps_never) pss_nil)
      (pss_cons (ps_if (pt_cmpR op_in_seq (pv 2) (pe_tup (pa_cons pe_str (pa_cons pe_str (pa_cons pe_str (pa_cons pe_str pa_nil))))) (by rfl)) (pss_cons (ps_expr (C8.pe_mt (metConsoleOperate z) hr (by decide) (pv 0) (pa_cons (pv 2) (pa_cons (pv 3) pa_nil))))
        (pss_one (ps_ret pe_str))) pss_nil)
      (pss_cons (ps_if (pt_cmpR op_eq (pv 2) pe_str (nomark _)) (pss_one (ps_ret (pe_callTy call_strA (by rfl) z.nstr (by decide +kernel) (pa_cons (C8.pe_mt0 (metLivePlantDay z) hr (by decide) (pe_fld (pv 0) rfl)) pa_nil)))) pss_nil)
      (pss_one (ps_ret (pe_ifExp (pt_cmpR op_eq (pv 2) pe_str (nomark _)) (pe_callTy call_strA (by rfl) z.nstr (by decide +kernel) (pa_cons (C8.pe_mt (metLivePlantSell z) hr (by decide) (pe_fld (pv 0) rfl) (pa_cons (pv 3) pa_nil)) pa_nil)) (C8.pe_mt (metConsoleAnswer z) hr (by decide) (pv 0) (pa_cons (pv 2) (pa_cons (pv 3) pa_nil))))))))))), ?_⟩
    rcases h with ⟨c, v, pl, st, rfl, hc, ok, hs, q⟩ | ⟨c, a, l, s, o, rfl, hc, h, ho, ok, hs, ht, q⟩ | ⟨c, a, l, s, r, rfl, hc, h, hr2, ok, hs, ht, q⟩
    · have hj := lns_joined ok hs 59
      obtain ⟨dx, hc1⟩ := hc.ex
      refine ⟨_, rfl, .inl ⟨_, rfl, fun hm => ?_, by omega, fun p np => ?_⟩⟩
      · rcases joinL_mem hm with h | ⟨z, h1, h2⟩
        · exact absurd h (by decide)
        · exact line_free h1 (by omega) h2
      · have g1 := Gx.new (T := TK K) (o := .tup [.str "open", .str (S (TL.joinL [59] (lnsL pl st)))]) np
        have e1 : Txt.replace (S (TL.joinL [59] (lnsL pl st))) ";" "\n" = S (TL.joinL [10] (lnsL pl st)) := by
          rw [show (";" : Str) = ⟨#[59]⟩ from rfl, show ("\n" : Str) = ⟨#[10]⟩ from rfl, replace_S _ _ _ (by decide), lns_split59 ok.len]
        have hj10 := lns_joined ok hs 10
        refine pair_to upd_same ⟨_, rfl, rfl, _, rfl, ite_dt rfl ⟨_, rfl, _, rfl, by rw [S_len, show ("\n" : Str).length = 1 from rfl]; omega, _, _, rfl, rfl, by rw [e1, S_len, show ("\n" : Str).length = 1 from rfl]; exact sz_le (by omega), pl, st, by rw [e1, show ("\n" : Str) = S [10] from rfl, S_cat]; rfl, ok, hs, fun H1 t p1 b1 g2 ht hps => ?_⟩⟩
        have g12 := g1.then g2
        refine pair_to ht ⟨_, rfl, _, rfl, rfl, rfl, fun x dx2 hx hdx hne => ?_⟩
        have hH2 : Gx (TK K) [] H (upd (upd H1 dx2 (.own x)) x (.ins (He.ga K "LivePlant") dx2 [])) := by
          refine (g12.more hdx).more ?_
          rw [upd_ne hne.symm]
          exact hx
        have fx : Fr H x := g12.fr hx
        have hps2 : PS2 (upd (upd H1 dx2 (.own x)) x (.ins (He.ga K "LivePlant") dx2 [])) p1 b1 pl st := by
          have := (Gx.new (T := TK K) (o := .own x) hdx).more (p := x) (o := .ins (He.ga K "LivePlant") dx2 []) (by rw [upd_ne hne.symm]; exact hx)
          exact hps.keep this
        refine ⟨x, dx2, p1, b1, pl, st, rfl, upd_same, hps2, fun H3 l g3 fl hl => ⟨rfl, ?_⟩⟩
        have hc3 := (hc.keep hH2 (by simp))
        obtain ⟨dx3, hc4⟩ := hc3.ex
        have ncx : c ≠ x := fun e => by
          rw [e, upd_same] at hc4
          have e2 := (HO.ins.inj (Option.some.inj hc4)).2.2
          exact absurd (congrArg List.length e2) (fun z => by cases z)
        have hc5 := g3.insX hc4 (by simpa using ncx)
        refine ⟨_, rfl, c, _, dx3, _, rfl, hc5, z.kConsole, z.aLivePlant, by show 1 < 1000; decide, ?_⟩
        have gA : Gx (TK K) [c] H H3 := (hH2.wide0 (ex := [c])).trans g3 fun y hy => by
          rw [List.mem_singleton.mp hy]
          exact .inr fx
        have gB := gA.put (o := .ins (He.ga K "Console") dx3 [("live_plant", .ref x)]) (.inl (by simp)) hc5 trivial
        refine q _ x l gB ⟨dx3, upd_same⟩ ?_ fx (fl.back hH2)
        have gC : Gx (TK K) [c] H3 (upd H3 c (.ins (He.ga K "Console") dx3 [("live_plant", .ref x)])) := Gx.set hc5 trivial
        refine hl.keep gC (by simpa using ncx.symm) ?_
        obtain ⟨dx6, cc, es, k1, k2, k3⟩ := hl.ex
        have : l ≠ c := fun e => by
          have := k3.top
          rw [e, hc5] at this
          cases this
        simpa using this
    · have hb : ∀ v, v ≤ s.pl.length → (bx s.st v).natAbs.log2 < 1920 := fun v hv => sml_lg (hs _ (bx_mem (by rw [ok.len]; omega)))
      have two : ∀ {x : Int} {H2 : Hp} {Q2 : VK}, x.natAbs.log2 < 1920 → Q2 (.str (S (intL x))) H2 → rStrA [.int x] H2 Q2 := fun {x H2 Q2} h1 h2 => .inl ⟨x, rfl, h1, by rw [int_text]; exact h2⟩
      have h40 := ok.plok.1
      have hpar : (copA o = .non ∧ (copN o, 0) ∈ frms) ∨ ∃ n : Nat, copA o = .int ((n : Nat) : Int) ∧ (copN o, 1) ∈ frms ∧ n < 10 ^ 31 := by
        cases o with
        | undo => exact .inl ⟨rfl, by show (undoN, 0) ∈ frms; decide⟩
        | op o =>
          cases o with
          | day => exact .inl ⟨rfl, by show (opN .day, 0) ∈ frms; decide⟩
          | remove => exact .inl ⟨rfl, by show (opN .remove, 0) ∈ frms; decide⟩
          | days d =>
            have h3 : OpOk (.days d) s ∧ s.hist.length < 1000 := ho.ok
            have h4 : 1 ≤ d ∧ d ≤ 1000000000000000000000000000000 := h3.1.ok
            exact .inr ⟨d, rfl, by show ([100, 97, 121, 115], 1) ∈ frms; decide, Nat.lt_of_le_of_lt h4.2 (by decide)⟩
          | sell v =>
            have h3 : OpOk (.sell v) s ∧ s.hist.length < 1000 := ho.ok
            have h4 : v ≤ s.pl.length := h3.1.ok
            exact .inr ⟨v, rfl, by show ([115, 101, 108, 108], 1) ∈ frms; decide, Nat.lt_of_le_of_lt (m := 40) (by omega) (by decide)⟩
          | add v =>
            have h3 : OpOk (.add v) s ∧ s.hist.length < 1000 := ho.ok
            have h4 : v ≤ s.pl.length ∧ s.st.length < 40 := h3.1.ok
            exact .inr ⟨v, rfl, by show ([97, 100, 100], 1) ∈ frms; decide, Nat.lt_of_le_of_lt (m := 40) (by omega) (by decide)⟩
      have hno : copN o ≠ openN := by
        rcases o with (_ | d | v | v | _) | _
        all_goals intro e; injection e with e1 e2; exact absurd e1 (by decide)
      refine ⟨_, rfl, parse_to hpar fun H1 p g1 hp => pair_to hp ⟨_, rfl, rfl, _, rfl, ite_df (ne_S (b := openN) hno) ?_⟩⟩
      have hcc := hc.keep g1 (by simp)
      have hl1 := h.keep0 g1
      obtain ⟨dx, hc1⟩ := hcc.ex
      refine ⟨_, rfl, c, _, dx, _, _, rfl, hc1, z.kConsole, z.aLivePlant, rfl, rfl, _, rfl, ite_df (fun e => by cases e) ⟨_, rfl, by show 4 ≤ sizeLine; decide, fun t nt => ?_⟩⟩
      have g2 := g1.more (o := .tup opsV) nt
      have gt : Gx (TK K) [] H1 (upd H1 t (.tup opsV)) := Gx.new nt
      have hcc2 := hcc.keep gt (by simp)
      have hl2 := hl1.keep0 gt
      obtain ⟨dx2, hc2⟩ := hcc2.ex
      refine ⟨t, _, rfl, .inr (SqT.of upd_same), rfl, rfl, _, rfl, ?_⟩
      have gw : ∀ {H3}, Gx (TK K) [a, l] (upd H1 t (.tup opsV)) H3 → Gx (TK K) [a, l] H H3 := fun g => (g2.wide0 (ex := [a, l])).trans g fun x hx => .inl hx
      by_cases hop : CopOk o s ∧ copR o s = [111, 107] ∧ inV (.str (S (copN o))) opsV = true
      · obtain ⟨ck, cr, ci⟩ := hop
        refine ite_t ci ⟨_, rfl, c, dx2, _, rfl, hc2, rfl, _, rfl, _, rfl, c, a, l, s, o, rfl, hcc2, hl2, ck, g2.tab ht, fun H' g k => ?_⟩
        have := q H' (gw g) k
        rw [cr] at this
        exact this
      rcases o with (_ | d | v | v | _) | _
      · have h3 : OpOk .day s ∧ s.hist.length < 1000 := ho.ok
        refine ite_f (by decide +kernel) ⟨_, rfl, rfl, _, rfl, ite_dt rfl ⟨_, rfl, c, _, dx2, _, _, rfl, hc2, z.kConsole, z.aLivePlant, rfl, ?_⟩⟩
        obtain ⟨dx3, cc, es, i1, i2, i3⟩ := hl2.ex
        exact ⟨a, dx3, _, rfl, i1, rfl, a, l, s, rfl, hl2, h3.2, fun H3 g k => two (hb 0 (Nat.zero_le _)) (q H3 (gw g) k)⟩
      · exact absurd ⟨⟨ho.ok⟩, rfl, (by decide +kernel : inV (.str (S [100, 97, 121, 115])) opsV = true)⟩ hop
      · have h3 : OpOk (.sell v) s ∧ s.hist.length < 1000 := ho.ok
        have h4 : v ≤ s.pl.length := h3.1.ok
        refine ite_f (show inV (.str (S [115, 101, 108, 108])) opsV = false by decide +kernel) ⟨_, rfl, rfl, _, rfl, ite_df (ne_S (a := [115, 101, 108, 108]) (b := [100, 97, 121]) (by decide)) ⟨_, rfl, rfl, _, rfl, ite_dt rfl ⟨_, rfl, c, _, dx2, _, _, rfl, hc2, z.kConsole, z.aLivePlant, rfl, ?_⟩⟩⟩
        obtain ⟨dx3, cc, es, i1, i2, i3⟩ := hl2.ex
        exact ⟨a, dx3, _, rfl, i1, rfl, _, rfl, a, l, s, v, rfl, hl2, h4, h3.2, fun H3 g k => two (hb v h4) (q H3 (gw g) k)⟩
      · exact absurd ⟨⟨ho.ok⟩, rfl, (by decide +kernel : inV (.str (S [97, 100, 100])) opsV = true)⟩ hop
      · exact absurd ⟨⟨ho.ok⟩, rfl, by decide +kernel⟩ hop
      · exact absurd ⟨⟨ho.ok⟩, rfl, by decide +kernel⟩ hop
    · have hpar : (askA r = .non ∧ (askN r, 0) ∈ frms) ∨ ∃ n : Nat, askA r = .int ((n : Nat) : Int) ∧ (askN r, 1) ∈ frms ∧ n < 10 ^ 31 := by
        cases r with
        | stock => exact .inl ⟨rfl, by show (askN .stock, 0) ∈ frms; decide⟩
        | wait => exact .inl ⟨rfl, by show (askN .wait, 0) ∈ frms; decide⟩
        | cycle => exact .inl ⟨rfl, by show (askN .cycle, 0) ∈ frms; decide⟩
        | sold d =>
          have h4 : 1 ≤ d ∧ d ≤ 1000000 := hr2.ok
          exact .inr ⟨d, rfl, by show ([115, 111, 108, 100], 1) ∈ frms; decide, Nat.lt_of_le_of_lt h4.2 (by decide)⟩
        | maker d =>
          have h4 : 1 ≤ d ∧ d ≤ 1000000 := hr2.ok
          exact .inr ⟨d, rfl, by show ([109, 97, 107, 101, 114], 1) ∈ frms; decide, Nat.lt_of_le_of_lt h4.2 (by decide)⟩
      have hno : askN r ≠ openN ∧ askN r ≠ [100, 97, 121] ∧ askN r ≠ [115, 101, 108, 108] := by
        rcases r with _ | _ | _ | d | d
        · exact (by decide : askN .stock ≠ openN ∧ askN .stock ≠ [100, 97, 121] ∧ askN .stock ≠ [115, 101, 108, 108])
        · exact (by decide : askN .wait ≠ openN ∧ askN .wait ≠ [100, 97, 121] ∧ askN .wait ≠ [115, 101, 108, 108])
        · exact (by decide : askN .cycle ≠ openN ∧ askN .cycle ≠ [100, 97, 121] ∧ askN .cycle ≠ [115, 101, 108, 108])
        · exact (by decide : ([115, 111, 108, 100] : List Nat) ≠ openN ∧ ([115, 111, 108, 100] : List Nat) ≠ [100, 97, 121] ∧ ([115, 111, 108, 100] : List Nat) ≠ [115, 101, 108, 108])
        · exact (by decide : ([109, 97, 107, 101, 114] : List Nat) ≠ openN ∧ ([109, 97, 107, 101, 114] : List Nat) ≠ [100, 97, 121] ∧ ([109, 97, 107, 101, 114] : List Nat) ≠ [115, 101, 108, 108])
      have hin : inV (.str (S (askN r))) opsV = false := by
        rcases r with _ | _ | _ | d | d
        · decide +kernel
        · decide +kernel
        · decide +kernel
        · exact (by decide +kernel : inV (.str (S [115, 111, 108, 100])) opsV = false)
        · exact (by decide +kernel : inV (.str (S [109, 97, 107, 101, 114])) opsV = false)
      refine ⟨_, rfl, parse_to hpar fun H1 p g1 hp => pair_to hp ⟨_, rfl, rfl, _, rfl, ite_df (ne_S (b := openN) hno.1) ?_⟩⟩
      have hcc := hc.keep g1 (by simp)
      have hl1 := h.keep0 g1
      obtain ⟨dx, hc1⟩ := hcc.ex
      refine ⟨_, rfl, c, _, dx, _, _, rfl, hc1, z.kConsole, z.aLivePlant, rfl, rfl, _, rfl, ite_df (fun e => by cases e) ⟨_, rfl, by show 4 ≤ sizeLine; decide, fun t nt => ?_⟩⟩
      have g2 := g1.more (o := .tup opsV) nt
      have gt : Gx (TK K) [] H1 (upd H1 t (.tup opsV)) := Gx.new nt
      have hcc2 := hcc.keep gt (by simp)
      have hl2 := hl1.keep0 gt
      obtain ⟨dx2, hc2⟩ := hcc2.ex
      refine ⟨t, _, rfl, .inr (SqT.of upd_same), rfl, rfl, _, rfl, ite_f hin ⟨_, rfl, rfl, _, rfl, ite_df (ne_S (b := [100, 97, 121]) hno.2.1) ⟨_, rfl, rfl, _, rfl, ite_df (ne_S (b := [115, 101, 108, 108]) hno.2.2) ?_⟩⟩⟩
      exact ⟨_, rfl, c, dx2, _, rfl, hc2, rfl, _, rfl, _, rfl, c, a, l, s, r, rfl, hcc2, hl2, hr2, ok, hs, g2.tab ht, fun H' g => q H' (g2.then g)⟩
end
end K6

set_option Elab.async false
set_option linter.all false
set_option maxRecDepth 100000
set_option maxHeartbeats 4000000
/-! K6Wv: the law's fount -/
namespace K6
open PySem PySem.Spec PyProof.Rows L2
structure FA (H : Hp) (f : Addr) (n : Nat) : Prop where
  ex : ∃ a b c : Nat, H f = some (.lst [.int ((a : Nat) : Int), .int ((b : Nat) : Int), .int ((c : Nat) : Int)]) ∧ b < 2 ^ 150 ∧ c ≤ n
theorem FA.keep {T : TL} {ex : List Addr} {H H' : Hp} {f : Addr} {n : Nat} (h : FA H f n) (g : Gx T ex H H') (ne : f ∉ ex) : FA H' f n := by
  obtain ⟨a, b, c, h1, h2, h3⟩ := h.ex
  exact ⟨a, b, c, g.lstX h1 ne, h2, h3⟩
theorem FA.mono {H : Hp} {f : Addr} {n m : Nat} (h : FA H f n) (l : n ≤ m) : FA H f m := by
  obtain ⟨a, b, c, h1, h2, h3⟩ := h.ex
  exact ⟨a, b, c, h1, h2, by omega⟩
section
variable {P : Program} {w : World} {K : PySem.W.Frag} {mg : Str → Option Value} {base : Heap}
def spFount (K : PySem.W.Frag) : Sp := fun vs H Q _ => ∃ (a : Addr) (ns : List Int) (k : Nat), vs = [.ref a, .int ((k : Nat) : Int)] ∧ SqL K H a (ns.map V.int) ∧ k < 1000 ∧ ∀ H' f, Gx (TK K) [] H H' → Fr H f → FA H' f 0 → Q (.ref f) H'
theorem calLawFount (z : Cz P w K mg base) : C8.Cal P w K mg base 1 "_law_fount" (spFount K) [] := by
  refine mkCal z.fLawFount z.gLawFount scLawFount bLawFount (fun vs H Q E h => ?_) fun cdv A outer s H vs Q E hr h => ?_
  · obtain ⟨a, ns, k, rfl, _⟩ := h
    rfl
  · refine ⟨_, (pss_cons (ps_set (i := 2) scLawFount.nd rfl (Or.inl rfl) pe_int)
  (pss_cons (ps_if (pt_cmpR op_lt (pv 1) (pe_callB call_lenQ (by rfl) z.nlen PySem.boot_len (pa_cons (pv 0) pa_nil)) (nomark _)) (pss_one (ps_set (i := 2) scLawFount.nd rfl (Or.inl rfl) (pe_ix ix_list (pv 0) (pv 1) (fun _ _ => rfl)))) pss_nil)
  (pss_one (ps_ret (pe_lst (pa_cons (pe_callB (call_max2Q rfl) (by rfl) z.nmax (by decide +kernel) (pa_cons pe_int (pa_cons (pe_op op_sub (pv 2) (pe_op op_powW pe_int pe_int)) pa_nil))) (pa_cons (pe_op op_add (pe_op op_mulQ (pe_op op_modQ (pv 2) (pe_op op_add (pe_op op_powW pe_int pe_int) pe_int)) pe_int) (pv 1)) (pa_cons pe_int pa_nil)))))))), ?_⟩
    obtain ⟨a, ns, k, rfl, ha, hk, q⟩ := h
    have mulB : ∀ cell : Int, CMulW (cell % (10 ^ (38 : Int).toNat + 133)) 512 := fun cell => by
      have h1 : 0 ≤ cell % (10 ^ (38 : Int).toNat + 133) := Int.emod_nonneg _ (by decide)
      have h2 : cell % (10 ^ (38 : Int).toNat + 133) < 10 ^ (38 : Int).toNat + 133 := Int.emod_lt_of_pos _ (by decide)
      have e10 : (10 : Int) ^ (38 : Int).toNat + 133 = 100000000000000000000000000000000000133 := by decide
      rw [e10] at h1 h2 ⊢
      generalize cell % 100000000000000000000000000000000000133 = c at *
      have := mulW_ok (a := c.toNat) (b := 512) (by omega) (by decide)
      rw [Int.toNat_of_nonneg h1] at this
      exact this
    have fin : ∀ cell : Int, ∀ f : Addr, H f = none → Q (.ref f) (upd H f (.lst [.int (if cell - 10 ^ (18 : Int).toNat > 0 then cell - 10 ^ (18 : Int).toNat else 0), .int (cell % (10 ^ (38 : Int).toNat + 133) * 512 + (k : Nat)), .int 0])) := by
      intro cell f hf
      have h1 : 0 ≤ cell % (10 ^ (38 : Int).toNat + 133) := Int.emod_nonneg _ (by decide)
      have h2 : cell % (10 ^ (38 : Int).toNat + 133) < 10 ^ (38 : Int).toNat + 133 := Int.emod_lt_of_pos _ (by decide)
      have e10 : (10 : Int) ^ (38 : Int).toNat + 133 = 100000000000000000000000000000000000133 := by decide
      rw [e10] at h1 h2
      refine q _ f (Gx.new hf) (Fr.of hf) ⟨(if cell - 10 ^ (18 : Int).toNat > 0 then cell - 10 ^ (18 : Int).toNat else 0).toNat, (cell % (10 ^ (38 : Int).toNat + 133) * 512 + (k : Nat)).toNat, 0, ?_, ?_, Nat.le_refl _⟩
      · rw [upd_same, Int.toNat_of_nonneg (by split <;> omega), Int.toNat_of_nonneg (by rw [e10]; omega)]
        rfl
      · rw [e10]
        omega
    refine ⟨_, rfl, _, rfl, a, _, rfl, .inl ha, _, _, rfl, rfl, _, rfl, ?_⟩
    rw [List.length_map]
    by_cases hl : k < ns.length
    · rw [decide_eq_true (by omega)]
      refine iteT (B := True) ⟨_, rfl, _, rfl, a, _, _, _, rfl, rfl, ha, atI_nat (by rw [List.getElem?_map, List.getElem?_eq_getElem hl]; rfl), ?_⟩
      exact ⟨_, rfl, _, _, rfl, rfl, ⟨by decide, by decide, by decide⟩, _, _, rfl, rfl, _, _, rfl, _, rfl, _, _, rfl, rfl, ⟨by decide, by decide, by decide⟩, _, _, rfl, rfl, _, _, rfl, rfl, by decide, _, _, rfl, rfl, mulB _, _, rfl, _, _, rfl, rfl, by show 3 ≤ sizeLine; decide, fun f hf => fin _ f hf⟩
    · rw [decide_eq_false (by omega)]
      exact iteF ⟨_, rfl, _, _, rfl, rfl, ⟨by decide, by decide, by decide⟩, _, _, rfl, rfl, _, _, rfl, _, rfl, _, _, rfl, rfl, ⟨by decide, by decide, by decide⟩, _, _, rfl, rfl, _, _, rfl, rfl, by decide, _, _, rfl, rfl, mulB _, _, rfl, _, _, rfl, rfl, by show 3 ≤ sizeLine; decide, fun f hf => fin _ f hf⟩
end
end K6

set_option Elab.async false
set_option linter.all false
set_option maxRecDepth 100000
set_option maxHeartbeats 4000000
/-! K6Ww: the law's sips -/
namespace K6
open PySem PySem.Spec PyProof.Rows L2
theorem powB {i : Int} (h0 : 0 ≤ i) (h : i < 2 ^ 250) : CPowW i 3 := by
  refine ⟨by decide, by decide, ?_⟩
  have h1 : i.natAbs < 2 ^ 250 := by omega
  have := log2_small (k := 250) (by decide) h1
  omega
theorem mulB {i j : Int} (h0 : 0 ≤ i) (h : i < 2 ^ 250) (h2 : 0 ≤ j) (h3 : j < 2 ^ 250) : CMulW i j := by
  have := mulW_ok (a := i.toNat) (b := j.toNat) (by omega) (by omega)
  rw [Int.toNat_of_nonneg h0, Int.toNat_of_nonneg h2] at this
  exact this
section
variable {P : Program} {w : World} {K : PySem.W.Frag} {mg : Str → Option Value} {base : Heap}
def spSip (K : PySem.W.Frag) : Sp := fun vs H Q _ => ∃ (f : Addr) (m n : Nat), vs = [.ref f, .int ((m : Nat) : Int)] ∧ 1 ≤ m ∧ m < 2 ^ 250 ∧ FA H f n ∧ n ≤ 1000000 ∧ ∀ H' (r : Nat), r < m → Gx (TK K) [f] H H' → FA H' f (n + 1) → Q (.int ((r : Nat) : Int)) H'
theorem calLawSip (z : Cz P w K mg base) : C8.Cal P w K mg base 1 "_law_sip" (spSip K) [] := by
  refine mkCal z.fLawSip z.gLawSip scLawSip bLawSip (fun vs H Q E h => ?_) fun cdv A outer s H vs Q E hr h => ?_
  · obtain ⟨f, m, n, rfl, _⟩ := h
    rfl
  · refine ⟨_, (pss_cons (ps_if (pt_cmpR op_gt (pe_ix ix_list (pv 0) pe_int (fun _ _ => rfl)) pe_int (nomark _)) (pss_cons (ps_set (i := 2) scLawSip.nd rfl (Or.inl rfl) (pe_op op_modQ (pe_ix ix_list (pv 0) pe_int (fun _ _ => rfl)) (pv 1)))
  (pss_cons (ps_asg (pe_op op_divQ (pe_ix ix_list (pv 0) pe_int (fun _ _ => rfl)) (pv 1)) (pg_sub (pv 0) pe_int set_list))
  (pss_one (ps_ret (pv 2))))) pss_nil)
  (pss_cons (ps_asg (pe_op op_add (pe_ix ix_list (pv 0) pe_int (fun _ _ => rfl)) pe_int) (pg_sub (pv 0) pe_int set_list))
  (pss_cons (ps_set (i := 3) scLawSip.nd rfl (Or.inl rfl) (pe_op op_modQ (pe_op op_powW (pe_op op_add (pe_ix ix_list (pv 0) pe_int (fun _ _ => rfl)) (pe_op op_mulQ pe_int (pe_ix ix_list (pv 0) pe_int (fun _ _ => rfl)))) pe_int) (pe_op op_add (pe_op op_powW pe_int pe_int) pe_int)))
  (pss_cons (ps_set (i := 3) scLawSip.nd rfl (Or.inl rfl) (pe_op op_modQ (pe_op op_powW (pe_op op_add (pv 3) (pe_op op_mulQ pe_int (pe_ix ix_list (pv 0) pe_int (fun _ _ => rfl)))) pe_int) (pe_op op_add (pe_op op_powW pe_int pe_int) pe_int)))
  (pss_one (ps_ret (pe_op op_modQ (pe_op op_divQ (pv 3) pe_int) (pv 1)))))))), ?_⟩
    obtain ⟨f, m, n, rfl, h1, h2, hf, hn, q⟩ := h
    obtain ⟨a, b, c, hf, hb, hc⟩ := hf.ex
    have hS := fun {H2 : Hp} {xs : List V} (h : H2 f = some (.lst xs)) => SqL.of (K := K) h
    refine ⟨_, rfl, f, _, 0, _, rfl, rfl, hS hf, at_pred (v := 0) rfl, _, _, rfl, rfl, _, rfl, ?_⟩
    by_cases ha : 0 < a
    · refine ite_dt (by omega) ⟨_, rfl, f, _, 0, _, rfl, rfl, hS hf, at_pred (v := 0) rfl, _, rfl, modN_to h1 ?_⟩
      refine ⟨_, rfl, f, _, 0, _, rfl, rfl, hS hf, at_pred (v := 0) rfl, _, rfl, divN_to h1 h2 ⟨_, rfl, f, _, 0, 0, rfl, rfl, hf, rfl, _, rfl, ?_⟩⟩
      exact q _ _ (Nat.mod_lt _ h1) (Gx.set hf trivial) ⟨a / m, b, c, upd_same, hb, by omega⟩
    · refine ite_df (by omega) ⟨_, rfl, f, _, 2, _, rfl, rfl, hS hf, at_pred (v := 2) rfl, _, _, rfl, rfl, _, rfl, f, _, 2, 2, rfl, rfl, hf, rfl, ?_⟩
      generalize hH1 : upd H f (.lst ([V.int ((a : Nat) : Int), V.int ((b : Nat) : Int), V.int ((c : Nat) : Int)].set 2 (V.int (((c : Nat) : Int) + 1)))) = H1
      have hf1 : H1 f = some (.lst [.int ((a : Nat) : Int), .int ((b : Nat) : Int), .int (((c : Nat) : Int) + 1)]) := by
        rw [← hH1]
        exact upd_same
      have e43 : (10 : Int) ^ (43 : Int).toNat + 103 = 10000000000000000000000000000000000000000103 := by decide
      have e41 : (10 : Int) ^ (41 : Int).toNat + 109 = 100000000000000000000000000000000000000109 := by decide
      refine ⟨_, rfl, f, _, 1, _, rfl, rfl, hS hf1, at_pred (v := 1) rfl, _, rfl, f, _, 2, _, rfl, rfl, hS hf1, at_pred (v := 2) rfl, _, _, rfl, rfl, mulB (by decide) (by decide) (by omega) (by omega), _, _, rfl, rfl, _, _, rfl, rfl, powB (by omega) (by omega), 10, 43, rfl, rfl, ⟨by decide, by decide, by decide⟩, _, _, rfl, rfl, _, _, rfl, rfl, by decide, ?_⟩
      rw [e43]
      have b1 := Int.emod_nonneg (((b : Nat) : Int) + 67867979 * (((c : Nat) : Int) + 1)) (b := 1) (by decide)
      generalize hx : (((b : Nat) : Int) + 67867979 * (((c : Nat) : Int) + 1)) ^ (3 : Int).toNat = x1
      have b1 : 0 ≤ x1 % 10000000000000000000000000000000000000000103 := Int.emod_nonneg _ (by decide)
      have b2 : x1 % 10000000000000000000000000000000000000000103 < 10000000000000000000000000000000000000000103 := Int.emod_lt_of_pos _ (by decide)
      generalize x1 % 10000000000000000000000000000000000000000103 = m1 at *
      refine ⟨_, rfl, _, rfl, f, _, 2, _, rfl, rfl, hS hf1, at_pred (v := 2) rfl, _, _, rfl, rfl, mulB (by decide) (by decide) (by omega) (by omega), _, _, rfl, rfl, _, _, rfl, rfl, powB (by omega) (by omega), 10, 41, rfl, rfl, ⟨by decide, by decide, by decide⟩, _, _, rfl, rfl, _, _, rfl, rfl, by decide, ?_⟩
      generalize (m1 + 32452867 * (((c : Nat) : Int) + 1)) ^ (3 : Int).toNat % (10 ^ (41 : Int).toNat + 109) = m2
      refine ⟨_, rfl, _, _, rfl, rfl, ⟨by decide, by decide⟩, _, rfl, _, _, rfl, rfl, by omega, ?_⟩
      have b3 : 0 ≤ m2 / 262147 % ((m : Nat) : Int) := Int.emod_nonneg _ (by omega)
      have b4 : m2 / 262147 % ((m : Nat) : Int) < m := Int.emod_lt_of_pos _ (by omega)
      have := q H1 (m2 / 262147 % ((m : Nat) : Int)).toNat (by omega) (by rw [← hH1]; exact Gx.set hf trivial) ⟨a, b, c + 1, by rw [hf1]; rfl, hb, by omega⟩
      rw [Int.toNat_of_nonneg b3] at this
      exact this
end
end K6

set_option Elab.async false
set_option linter.all false
set_option maxRecDepth 100000
set_option maxHeartbeats 4000000
/-! K6Wx: a mixed list, a grown plant -/
namespace K6
open PySem PySem.Spec PyProof.Rows L2
theorem Fr.ne2 {T : TL} {ex : List Addr} {H H1 : Hp} {a b : Addr} {o : HO} (f : Fr H a) (h : H b = some o) (n : ∀ ps, o ≠ .tbl ps) : a ≠ b := f.ne h n
theorem seq_at {n r : Nat} (h : r < n) : seqIndex? ((r : Nat) : Int) n = some r := (ixN_seq (ixN_nat h)).1
theorem erase_map {α β : Type} (f : α → β) : ∀ (xs : List α) (r : Nat), (xs.map f).eraseIdx r = (xs.eraseIdx r).map f
  | [], _ => rfl
  | x :: xs, 0 => rfl
  | x :: xs, r + 1 => by
    show f x :: (xs.map f).eraseIdx r = f x :: (xs.eraseIdx r).map f
    rw [erase_map f xs r]
theorem erase_perm {α : Type} : ∀ (xs : List α) (r : Nat) (h : r < xs.length), (xs[r] :: xs.eraseIdx r).Perm xs
  | [], _, h => absurd h (Nat.not_lt_zero _)
  | x :: xs, 0, _ => List.Perm.refl _
  | x :: xs, r + 1, h => by
    have h2 : r < xs.length := Nat.lt_of_succ_lt_succ h
    show (xs[r] :: x :: xs.eraseIdx r).Perm (x :: xs)
    exact (List.Perm.swap x xs[r] _).trans ((erase_perm xs r h2).cons x)
/-- pe_bm, its tables' fragment named -/
theorem pe_bmK {X : Cx} {K : PySem.W.Frag} (hK : X.K = K) {T id : String} {name : Str} {o e : Expr} {es : List Expr} {apos cpos : Pos} {r : V → List V → Hp → VK → Prop} {to : TE} {t : TA}
    (pa : PlainAttrs T) (slot : Slot T name id) (hty : typeOf (.builtin id) = pure (.type "method_descriptor")) (hm : MtR X id r) (ho : PE X o to) (ha : PA X (e :: es) t) (hbase : attributeBase o name X.env (eval o X.env) = eval o X.env := by rfl) (hfew : ((backTo cpos (starEach (e :: es) X.env)).all (fun x => !x.1) && (backToKw cpos (keywordEach [] X.env)).all (fun x => x.1.isSome) && decide ((e :: es).length + ([] : List Keyword).length + (if ([] : List Keyword).isEmpty then 0 else 1) < 30)) = true := by rfl)
    (hl : (apos.endLine == cpos.line) = true := by rfl) (hs : starEach (e :: es) X.env = (false, eval e X.env) :: starEach es X.env := by rfl) (hp : (backTo cpos (starEach es X.env)).any (·.1) = false := by rfl) : PE X (.Call (.Attribute o name apos) (e :: es) [] cpos) (tBM K T r to t) := by
  subst hK
  exact pe_bm pa slot hty hm ho ha hbase hfew hl hs hp
section
variable {P : Program} {w : World} {K : PySem.W.Frag} {mg : Str → Option Value} {base : Heap}
def spMixed (K : PySem.W.Frag) : Sp := fun vs H Q _ => ∃ (f it : Addr) (xs : List Int) (n : Nat), vs = [.ref f, .ref it] ∧ FA H f n ∧ n ≤ 900000 ∧ H it = some (.lst (iV xs)) ∧ xs.length ≤ 60 ∧ ∀ H' D ys, ys.Perm xs → Gx (TK K) [f] H H' → FA H' f (n + xs.length) → Fr H D → H' D = some (.lst (iV ys)) → Q (.ref D) H'
theorem calLawMixed (z : Cz P w K mg base) : C8.Cal P w K mg base 2 "_law_mixed" (spMixed K) [] := by
  refine mkCal z.fLawMixed z.gLawMixed scLawMixed bLawMixed (fun vs H Q E h => ?_) fun cdv A outer s H vs Q E hr h => ?_
  · obtain ⟨f, it, xs, n, rfl, _⟩ := h
    rfl
  · refine ⟨_, (pss_cons (ps_set (i := 2) scLawMixed.nd rfl (Or.inr rfl) (pe_callTy call_list_of (by rfl) z.nlist (by decide +kernel) (pa_cons (pv 1) pa_nil)))
  (pss_one (ps_ret (pe_lc (own := [("turn", 3)]) (g := gName 3) (tt := tYes) rfl scLawMixed.nd (pi_range1 rfl z.nrange (pa_cons (pe_callB call_lenQ (by rfl) z.nlen PySem.boot_len (pa_cons (pv 2) pa_nil)) pa_nil)) (blkOk_by (own := [("turn", 3)]) (N := nLawMixed) (sc := defScope sLawMixed) (by decide +kernel)) (fun _ _ _ _ _ => (pg_name (i := 3) scLawMixed.nd rfl (Or.inl rfl))) (fun _ _ _ _ _ => pts_nil) (fun _ _ _ _ _ => (pe_bmK (K := K) rfl PySem.F.plainAttrs_list PySem.F.slot_list_pop PySem.F.type_list_pop mt_popAt (pv 2) (pa_cons (C8.pe_c (calLawSip z) hr (by decide) rfl (pa_cons (pv 0) (pa_cons (pe_callB (r := rLenQ K) call_lenQ (by rfl) z.nlen PySem.boot_len (pa_cons (pv 2) pa_nil)) pa_nil))) pa_nil))))))), ?_⟩
    obtain ⟨f, it, xs, n, rfl, hf, hn, hit, hl, q⟩ := h
    refine ⟨_, rfl, it, _, rfl, .inl (SqL.of hit), fun l nl => ?_⟩
    have g1 : Gx (TK K) [] H (upd H l (.lst (iV xs))) := Gx.new nl
    have hf1 := hf.keep g1 (by simp)
    have hl1 : upd H l (.lst (iV xs)) l = some (.lst (iV xs)) := upd_same
    have fl : Fr H l := Fr.of nl
    refine ⟨_, rfl, lenV_to hl1 ⟨_, rfl, by omega, by rw [len_iV]; omega, fun D nD => ?_⟩⟩
    have fD : Fr H D := g1.fr nD
    have nlD : l ≠ D := ne_of_none hl1 nD
    have nfl : f ≠ l := by
      obtain ⟨a, b, c, e, _⟩ := hf.ex
      exact (fl.lst e).symm
    have nfD : f ≠ D := by
      obtain ⟨a, b, c, e, _⟩ := hf.ex
      exact (fD.lst e).symm
    have g2 := g1.more (o := .lst []) nD
    refine lc_gen (gv_range (n := (((iV xs).length : Nat) : Int).toNat)) (fun i H1 => Gx (TK K) [f] H H1 ∧ FA H1 f (n + i) ∧ ∃ ds rest, H1 D = some (.lst (iV ds)) ∧ H1 l = some (.lst (iV rest)) ∧ ds.length = i ∧ rest.length + i = xs.length ∧ (ds ++ rest).Perm xs) ⟨g2.wide0, hf1.keep (Gx.new (T := TK K) nD) (by simp), [], xs, upd_same, (Gx.new (T := TK K) nD).lst hl1, rfl, rfl, List.Perm.refl _⟩ (fun _ _ _ _ => trivial) (fun i x H1 H2 hi pv y => ?_) fun H1 pv => ?_
    · obtain ⟨gg, hfa, ds, rest, hD, hL, hdl, hrl, hp⟩ := pv
      obtain ⟨rfl, rfl⟩ := y
      have hi2 : i < xs.length := by rw [len_iV] at hi; omega
      refine ⟨rfl, iteT (B := True) ⟨_, rfl, .inl ⟨rfl, _, SqL.of hL⟩, _, rfl, _, rfl, lenV_to hL ⟨f, rest.length, n + i, by rw [len_iV]; rfl, by omega, Nat.lt_of_le_of_lt (m := 60) (by omega) (by decide), hfa, by omega, fun H3 r hr3 g3 hf3 => ?_⟩⟩⟩
      have hL3 := g3.lstX hL (by simpa using nfl.symm)
      have hD3 := g3.lstX hD (by simpa using nfD.symm)
      have gg3 : Gx (TK K) [f] H H3 := gg.trans g3 fun x hx => .inl hx
      refine ⟨l, _, _, r, .int rest[r], rfl, rfl, hL3, by omega, by omega, seq_at (by rw [len_iV]; exact hr3), by rw [List.getElem?_map, List.getElem?_eq_getElem hr3]; rfl, ?_⟩
      have e1 : (iV rest).eraseIdx r = iV (rest.eraseIdx r) := erase_map ..
      rw [e1]
      have hD4 : upd H3 l (.lst (iV (rest.eraseIdx r))) D = some (.lst (iV ds)) := by
        rw [upd_ne nlD.symm]
        exact hD3
      have gg4 := gg3.put (o := .lst (iV (rest.eraseIdx r))) (.inr fl) hL3 trivial
      have hf4 : FA (upd H3 l (.lst (iV (rest.eraseIdx r)))) f (n + i + 1) := hf3.keep (Gx.set (T := TK K) hL3 trivial) (by simpa using nfl)
      refine ⟨_, hD4, by rw [len_iV]; exact sl_le (by omega), gg4.put (.inr fD) hD4 trivial, hf4.keep (Gx.set (T := TK K) hD4 trivial) (by simpa using nfD), ds ++ [rest[r]], rest.eraseIdx r, by rw [upd_same, iV_snoc], by rw [upd_ne nlD]; exact upd_same, by rw [List.length_append, hdl]; rfl, by rw [List.length_eraseIdx, if_pos hr3]; omega, ?_⟩
      rw [List.append_assoc]
      exact (List.Perm.append_left ds (erase_perm rest r hr3)).trans hp
    · obtain ⟨gg, hfa, ds, rest, hD, hL, hdl, hrl, hp⟩ := pv
      rw [len_iV] at hdl hrl hfa
      have hr0 : rest = [] := List.eq_nil_of_length_eq_zero (by omega)
      rw [hr0, List.append_nil] at hp
      exact q H1 D ds hp gg (hfa.mono (by omega)) fD hD
end
end K6

set_option Elab.async false
set_option linter.all false
set_option maxRecDepth 100000
set_option maxHeartbeats 4000000
/-! K6Wy: a grown plant -/
namespace K6
open PySem PySem.Spec PyProof.Rows L2
theorem FA.ne_of {H : Hp} {f p : Addr} {n : Nat} (h : FA H f n) (np : H p = none) : f ≠ p := by
  obtain ⟨a, b, c, e, _⟩ := h.ex
  exact ne_of_none e np
section
variable {P : Program} {w : World} {K : PySem.W.Frag} {mg : Str → Option Value} {base : Heap}
def spGrown (K : PySem.W.Frag) : Sp := fun vs H Q _ => ∃ (f : Addr) (m n : Nat), vs = [.ref f, .int ((m : Nat) : Int)] ∧ 1 ≤ m ∧ m ≤ 40 ∧ FA H f n ∧ n ≤ 900000 ∧ ∀ H' p pl, Gx (TK K) [f] H H' → FA H' f (n + 100) → H' p = some (.tup (iV (nI pl))) → PlOk pl → Q (.ref p) H'
theorem calLawGrown (z : Cz P w K mg base) : C8.Cal P w K mg base 2 "_law_grown" (spGrown K) [] := by
  refine mkCal z.fLawGrown z.gLawGrown scLawGrown bLawGrown (fun vs H Q E h => ?_) fun cdv A outer s H vs Q E hr h => ?_
  · obtain ⟨f, m, n, rfl, _⟩ := h
    rfl
  · refine ⟨_, (pss_cons (ps_set (i := 2) scLawGrown.nd rfl (Or.inl rfl) (pe_ix ix_list (pe_lst (pa_cons (pe_op op_add pe_int (C8.pe_c (calLawSip z) hr (by decide) rfl (pa_cons (pv 0) (pa_cons (pv 1) pa_nil)))) (pa_cons (pv 1) (pa_cons (pe_op op_add pe_int (C8.pe_c (calLawSip z) hr (by decide) rfl (pa_cons (pv 0) (pa_cons (pe_callB (call_min2 rfl) (by rfl) z.nmin (by decide +kernel) (pa_cons (pv 1) (pa_cons pe_int pa_nil))) pa_nil)))) pa_nil)))) (C8.pe_c (calLawSip z) hr (by decide) rfl (pa_cons (pv 0) (pa_cons pe_int pa_nil))) (fun _ _ => rfl)))
  (pss_cons (ps_par (i := 3) (j := 4) rfl scLawGrown.nd rfl rfl (by decide) rfl rfl (pa_cons (C8.pe_c (calLawSip z) hr (by decide) rfl (pa_cons (pv 0) (pa_cons pe_int pa_nil))) (pa_cons (pe_lst pa_nil) pa_nil)) (by rfl))
  (pss_cons (ps_for PassesOwn.never rfl (pi_range2 rfl z.nrange (pa_cons pe_int (pa_cons (pv 2) pa_nil))) (pg_name (i := 5) scLawGrown.nd rfl (Or.inl rfl)) (pss_cons (ps_set (i := 6) scLawGrown.nd rfl (Or.inl rfl) (C8.pe_c (calLawSip z) hr (by decide) rfl (pa_cons (pv 0) (pa_cons (pv 5) pa_nil))))
  (pss_one (ps_expr (pe_bm PySem.F.plainAttrs_list PySem.F.slot_list_append PySem.F.type_list_append mt_append (pv 4) (pa_cons (pe_ix ix_list (pe_lst (pa_cons (pe_op op_sub (pv 5) pe_int) (pa_cons pe_int (pa_cons (pe_callB (call_max2Q rfl) (by rfl) z.nmax (by decide +kernel) (pa_cons pe_int (pa_cons (pe_op op_sub (pv 5) pe_int) pa_nil))) (pa_cons (pe_op op_divQ (pe_op op_sub (pv 5) pe_int) pe_int) (pa_cons (pv 6) pa_nil)))))) (pv 3) (fun _ _ => rfl)) pa_nil))))))
  (pss_one (ps_ret (pe_callTy call_tupQ (by rfl) z.ntuple (by decide +kernel) (pa_cons (pv 4) pa_nil))))))), ?_⟩
    obtain ⟨f, m, n, rfl, hm, hm2, hf, hn, q⟩ := h
    have mb : ∀ {k : Nat}, k ≤ 1000 → k < 2 ^ 250 := fun {k} h => Nat.lt_of_le_of_lt h (by decide)
    refine ⟨_, rfl, _, rfl, f, m, n, rfl, hm, mb (by omega), hf, by omega, fun H1 r1 hr1 g1 hf1 => ⟨_, _, rfl, rfl, _, rfl, _, rfl, _, rfl, _, _, rfl, ?_⟩⟩
    have e5 : (if (5 : Int) < ((m : Nat) : Int) then (5 : Int) else ((m : Nat) : Int)) = ((min m 5 : Nat) : Int) := by
      split <;> omega
    rw [e5]
    refine ⟨f, min m 5, n + 1, rfl, by omega, mb (by omega), hf1, by omega, fun H2 r2 hr2 g2 hf2 => ⟨_, _, rfl, rfl, by show 3 ≤ sizeLine; decide, fun L nL => ?_⟩⟩
    have g12 := g1.trans g2 fun x hx => .inl hx
    have gL : Gx (TK K) [] H2 (upd H2 L (.lst [.int (1 + ((r1 : Nat) : Int)), .int ((m : Nat) : Int), .int (1 + ((r2 : Nat) : Int))])) := Gx.new nL
    have hfL := hf2.keep gL (by simp)
    have nfL := hf2.ne_of nL
    refine ⟨_, rfl, f, 3, n + 2, rfl, by decide, mb (by decide), hfL, by omega, fun H3 r3 hr3 g3 hf3 => ?_⟩
    have hL3 := g3.lstX (l := L) upd_same (by simpa using nfL.symm)
    obtain ⟨k, hk1, hk2, hk⟩ : ∃ k : Nat, 1 ≤ k ∧ k ≤ m ∧ [V.int (1 + ((r1 : Nat) : Int)), .int ((m : Nat) : Int), .int (1 + ((r2 : Nat) : Int))][r3]? = some (.int ((k : Nat) : Int)) := by
      match r3, hr3 with
      | 0, _ => exact ⟨1 + r1, by omega, by omega, by rw [Int.natCast_add]; rfl⟩
      | 1, _ => exact ⟨m, hm, Nat.le_refl _, rfl⟩
      | 2, _ => exact ⟨1 + r2, by omega, by omega, by rw [Int.natCast_add]; rfl⟩
    refine ⟨L, _, _, _, rfl, rfl, SqL.of hL3, atI_nat hk, ?_⟩
    have g13 := (g12.then gL).trans g3 fun x hx => .inl hx
    refine ⟨_, rfl, f, 5, n + 3, rfl, by decide, mb (by decide), hf3, by omega, fun H4 r4 hr4 g4 hf4 => ⟨Nat.zero_le _, fun F nF => ⟨_, _, rfl, ?_⟩⟩⟩
    have g14 := g13.trans g4 fun x hx => .inl hx
    have g15 := g14.more (o := .lst []) nF
    have hf5 := hf4.keep (Gx.new (T := TK K) (o := .lst []) nF) (by simp)
    have nfF := hf4.ne_of nF
    have fF : Fr H F := g14.frX nF (by simpa using nfF.symm)
    refine ⟨_, rfl, 1, _, rfl, ⟨by decide, by decide, by omega, by omega⟩, for_gen (gv_range (n := (((k : Nat) : Int) - 1).toNat)) (fun i σ H2 => (∃ s5 s6, σ = [some (.ref f), some (.int ((m : Nat) : Int)), some (.int ((k : Nat) : Int)), some (.int ((r4 : Nat) : Int)), some (.ref F), s5, s6]) ∧ Gx (TK K) [f] H H2 ∧ FA H2 f (n + 4 + i) ∧ ∃ ys : List Nat, H2 F = some (.lst (iV (nI ys))) ∧ ys.length = i ∧ ∀ j, j < i → ys.getD j 0 ≤ j) ⟨⟨_, _, rfl⟩, g15, hf5, [], upd_same, rfl, fun j h => absurd h (Nat.not_lt_zero _)⟩ (fun _ _ _ _ _ => trivial) (fun i x σ H5 H6 hi pv y => ?_) fun σ H5 pv => ?_⟩
    · obtain ⟨⟨s5, s6, rfl⟩, g6, hf6, ys, hF, hyl, hyb⟩ := pv
      obtain ⟨rfl, rfl⟩ := y
      have ei : (1 : Int) + ((i : Nat) : Int) = ((1 + i : Nat) : Int) := by omega
      rw [ei]
      refine ⟨_, rfl, _, rfl, f, 1 + i, n + 4 + i, rfl, by omega, mb (by omega), hf6, by omega, fun H7 r7 hr7 g7 hf7 => ?_⟩
      have hF7 := g7.lstX hF (by simpa using nfF.symm)
      have g67 := g6.trans g7 fun x hx => .inl hx
      refine ⟨_, rfl, .inl ⟨rfl, _, SqL.of hF7⟩, ?_⟩
      obtain ⟨v, hv, hz⟩ : ∃ v : Nat, v ≤ i ∧ [V.int (((1 + i : Nat) : Int) - 1), .int 0, .int (if ((1 + i : Nat) : Int) - 2 > 0 then ((1 + i : Nat) : Int) - 2 else 0), .int ((((1 + i : Nat) : Int) - 1) / 2), .int ((r7 : Nat) : Int)][r4]? = some (.int ((v : Nat) : Int)) := by
        match r4, hr4 with
        | 0, _ => exact ⟨i, Nat.le_refl _, by rw [show ((1 + i : Nat) : Int) - 1 = ((i : Nat) : Int) by omega]; rfl⟩
        | 1, _ => exact ⟨0, Nat.zero_le _, rfl⟩
        | 2, _ => exact ⟨i - 1, by omega, by rw [show (if ((1 + i : Nat) : Int) - 2 > 0 then ((1 + i : Nat) : Int) - 2 else 0) = ((i - 1 : Nat) : Int) by split <;> omega]; rfl⟩
        | 3, _ => exact ⟨i / 2, by omega, by rw [show (((1 + i : Nat) : Int) - 1) / 2 = ((i / 2 : Nat) : Int) by omega]; rfl⟩
        | 4, _ => exact ⟨r7, by omega, rfl⟩
      refine ⟨_, rfl, _, _, rfl, rfl, _, rfl, _, _, rfl, rfl, _, _, rfl, _, rfl, _, _, rfl, rfl, _, _, rfl, rfl, ⟨by decide, by decide⟩, _, rfl, by show 5 ≤ sizeLine; decide, fun L2 nL2 => ⟨_, rfl, L2, _, _, _, rfl, rfl, SqL.of upd_same, atI_nat hz, ?_⟩⟩
      have gN : Gx (TK K) [] H7 (upd H7 L2 (.lst [V.int (((1 + i : Nat) : Int) - 1), .int 0, .int (if ((1 + i : Nat) : Int) - 2 > 0 then ((1 + i : Nat) : Int) - 2 else 0), .int ((((1 + i : Nat) : Int) - 1) / 2), .int ((r7 : Nat) : Int)])) := Gx.new nL2
      have hF8 := gN.lst hF7
      have hf8 := hf7.keep gN (by simp)
      refine ⟨F, _, _, rfl, rfl, hF8, by rw [len_iV, len_nI]; exact sl_le (by omega), ?_⟩
      refine ⟨⟨_, _, rfl⟩, (g67.then gN).put (.inr fF) hF8 trivial, (hf8.keep (Gx.set (T := TK K) hF8 trivial) (by simpa using nfF)).mono (by omega), ys ++ [v], by rw [upd_same, ← one_nV], by rw [List.length_append, hyl]; rfl, fun j hj => ?_⟩
      rw [List.getD_eq_getElem?_getD]
      by_cases hj2 : j < ys.length
      · rw [List.getElem?_append_left hj2, ← List.getD_eq_getElem?_getD]
        exact hyb j (by omega)
      · rw [List.getElem?_append_right (by omega), show j - ys.length = 0 by omega]
        show v ≤ j
        omega
    · obtain ⟨⟨s5, s6, rfl⟩, g6, hf6, ys, hF, hyl, hyb⟩ := pv
      refine ⟨_, rfl, F, _, rfl, .inl ⟨SqL.of hF, fun p np => ?_⟩⟩
      have gN : Gx (TK K) [] H5 (upd H5 p (.tup (iV (nI ys)))) := Gx.new np
      exact q _ p ys (g6.then gN) ((hf6.keep gN (by simp)).mono (by omega)) upd_same ⟨by omega, fun j hj => hyb j (by omega)⟩
end
end K6

set_option Elab.async false
set_option linter.all false
set_option maxRecDepth 100000
set_option maxHeartbeats 4000000
/-! K6Wz: a filled plant -/
namespace K6
open PySem PySem.Spec PyProof.Rows L2
def stp (r : Nat) : Int := match r with
  | 0 => 1
  | 1 => 7
  | 2 => 10000000000000000000000000000000000
  | _ => 1
def arith (a d : Int) (n : Nat) : List Int := (List.range n).map fun i => a + ((i : Nat) : Int) * d
theorem arith_len (a d : Int) (n : Nat) : (arith a d n).length = n := by
  unfold arith
  rw [List.length_map, List.length_range]
theorem arith_nodup {a d : Int} (h : 0 < d) (n : Nat) : (arith a d n).Nodup := by
  unfold arith
  refine List.Pairwise.map _ ?_ List.nodup_range
  intro i j hij e
  have h1 : ((i : Nat) : Int) * d = ((j : Nat) : Int) * d := by omega
  have h2 := Int.eq_of_mul_eq_mul_right (by omega) h1
  omega
theorem stp_pos (r : Nat) : 0 < stp r := by
  unfold stp
  split <;> decide
theorem arith_bnd {a : Int} {r : Nat} (h1 : -1000000000000000000000000000000000000 ≤ a) (h2 : a ≤ 1000000000000000000000000000000000000) {n : Nat} (hn : n ≤ 40) : Bnd (-10000000000000000000000000000000000000) 10000000000000000000000000000000000000 (arith a (stp r) n) := fun x hx => by
  unfold arith at hx
  obtain ⟨i, hi, rfl⟩ := List.mem_map.mp hx
  have hi := List.mem_range.mp hi
  unfold stp
  split <;> omega
section
variable {P : Program} {w : World} {K : PySem.W.Frag} {mg : Str → Option Value} {base : Heap}
abbrev B37 : Int := 10000000000000000000000000000000000000
def spFilled (K : PySem.W.Frag) : Sp := fun vs H Q _ => ∃ (f p : Addr) (pl : List Nat) (n : Nat), vs = [.ref f, .ref p] ∧ H p = some (.tup (iV (nI pl))) ∧ PlOk pl ∧ FA H f n ∧ n ≤ 800000 ∧ ∀ H' b st, Gx (TK K) [f] H H' → FA H' f (n + 400) → H' b = some (.tup (iV st)) → StOk pl st → Bnd (-B37) B37 st → Q (.ref b) H'
theorem calLawFilled (z : Cz P w K mg base) : C8.Cal P w K mg base 3 "_law_filled" (spFilled K) [] := by
  refine mkCal z.fLawFilled z.gLawFilled scLawFilled bLawFilled (fun vs H Q E h => ?_) fun cdv A outer s H vs Q E hr h => ?_
  · obtain ⟨f, p, pl, n, rfl, _⟩ := h
    rfl
  · refine ⟨_, (pss_cons (ps_asg (pe_tup (pa_cons (pe_op op_add (pe_callB call_lenQ (by rfl) z.nlen PySem.boot_len (pa_cons (pv 1) pa_nil)) pe_int) (pa_cons (C8.pe_c (calLawSip z) hr (by decide) rfl (pa_cons (pv 0) (pa_cons pe_int pa_nil))) (pa_cons (C8.pe_c (calLawSip z) hr (by decide) rfl (pa_cons (pv 0) (pa_cons pe_int pa_nil))) pa_nil)))) (pg_tup rfl (pgs_cons (pg_name (i := 2) scLawFilled.nd rfl (Or.inl rfl)) (pgs_cons (pg_name (i := 3) scLawFilled.nd rfl (Or.inr rfl)) (pgs_cons (pg_name (i := 4) scLawFilled.nd rfl (Or.inl rfl)) pgs_nil)))))
  (pss_cons (ps_set (i := 5) scLawFilled.nd rfl (Or.inr rfl) (pe_ix ix_list (pe_lst (pa_cons pe_int (pa_cons (pe_op op_sub (C8.pe_c (calLawSip z) hr (by decide) rfl (pa_cons (pv 0) (pa_cons pe_int pa_nil))) pe_int) (pa_cons (pe_op op_sub pe_int (pe_op op_powW pe_int pe_int)) (pa_cons (pe_op op_sub (pe_op op_powW pe_int pe_int) pe_int) (pa_cons (pe_op op_sub pe_int (C8.pe_c (calLawSip z) hr (by decide) rfl (pa_cons (pv 0) (pa_cons (pe_op op_powW pe_int pe_int) pa_nil)))) pa_nil)))))) (pv 3) (fun _ _ => rfl)))
  (pss_cons (ps_setLc (i := 6) (own := [("at", 7)]) (g := gName 7) (tt := tYes) rfl scLawFilled.nd rfl rfl (sw_true rfl rfl rfl (by decide +kernel)) (pi_range1 rfl z.nrange (pa_cons (pv 2) pa_nil)) (blkOk_by (own := [("at", 7)]) (N := nLawFilled) (sc := defScope sLawFilled) (by decide +kernel)) (fun _ _ _ _ _ => (pg_name (i := 7) scLawFilled.nd rfl (Or.inl rfl))) (fun _ _ _ _ _ => pts_nil) (fun _ _ _ _ _ => (pe_op op_add (pv 5) (pe_op op_mulQ (pv 7) (pe_ix (r := rIxL K) ix_list (pe_lst (pa_cons pe_int (pa_cons pe_int (pa_cons (pe_op op_powW pe_int pe_int) (pa_cons pe_int (pa_cons pe_int pa_nil)))))) (pv 3) (fun _ _ => rfl))))))
  (pss_cons (ps_if (pt_cmpR op_eq (pv 3) pe_int (nomark _)) (pss_cons (ps_set (i := 6) scLawFilled.nd rfl (Or.inl rfl) (pe_lst pa_nil))
  (pss_one (ps_for PassesOwn.never rfl (pi_range1 rfl z.nrange (pa_cons (pv 2) pa_nil)) (pg_name (i := 7) scLawFilled.nd rfl (Or.inl rfl)) (pss_cons (ps_set (i := 8) scLawFilled.nd rfl (Or.inl rfl) (pe_ix ix_list (pe_lst (pa_cons (pe_op op_powW pe_int pe_int) (pa_cons (pe_op op_powW pe_int pe_int) (pa_cons (pe_op op_powW pe_int pe_int) (pa_cons (pe_op op_powW pe_int pe_int) (pa_cons (pe_op op_powW pe_int pe_int) (pa_cons (pe_op op_powW pe_int pe_int) pa_nil))))))) (C8.pe_c (calLawSip z) hr (by decide) rfl (pa_cons (pv 0) (pa_cons pe_int pa_nil))) (fun _ _ => rfl)))
  (pss_cons (ps_set (i := 5) scLawFilled.nd rfl (Or.inr rfl) (pe_op op_add (pe_op op_add (pv 5) pe_int) (C8.pe_c (calLawSip z) hr (by decide) rfl (pa_cons (pv 0) (pa_cons (pv 8) pa_nil)))))
  (pss_one (ps_expr (pe_bm PySem.F.plainAttrs_list PySem.F.slot_list_append PySem.F.type_list_append mt_append (pv 6) (pa_cons (pv 5) pa_nil))))))))) pss_nil)
  (pss_cons (ps_if (pt_cmpR op_eq (pv 4) pe_int (nomark _)) (pss_one (ps_set (i := 6) scLawFilled.nd rfl (Or.inl rfl) (C8.pe_c (calLawMixed z) hr (by decide) rfl (pa_cons (pv 0) (pa_cons (pv 6) pa_nil))))) pss_nil)
  (pss_one (ps_ret (pe_callTy call_tupQ (by rfl) z.ntuple (by decide +kernel) (pa_cons (pe_ifExp (pt_cmpR op_eq (pv 4) pe_int (nomark _)) (pe_revL (pv 6)) (pv 6)) pa_nil))))))))), ?_⟩
    obtain ⟨f, p, pl, n, rfl, hp, ok, hf, hn, q⟩ := h
    have h40 := ok.1
    have mb : ∀ {k : Nat}, k ≤ 1000 → k < 2 ^ 250 := fun {k} h => Nat.lt_of_le_of_lt h (by decide)
    refine ⟨_, rfl, lenT_to hp ⟨_, _, rfl, rfl, _, rfl, f, 5, n, rfl, by decide, mb (by decide), hf, by omega, fun H1 r1 hr1 g1 hf1 => ⟨_, rfl, f, 3, n + 1, rfl, by decide, mb (by decide), hf1, by omega, fun H2 r2 hr2 g2 hf2 => ⟨by show 3 ≤ sizeLine; decide, fun t nt => ?_⟩⟩⟩⟩
    have g12 := g1.trans g2 fun x hx => .inl hx
    refine ⟨t, _, rfl, SqT.of upd_same, rfl, _, _, rfl, _, _, rfl, _, _, rfl, rfl, ?_⟩
    generalize hH3 : upd H2 t (.tup [.int (((pl.length : Nat) : Int) + 1), .int ((r1 : Nat) : Int), .int ((r2 : Nat) : Int)]) = H3
    have g3 : Gx (TK K) [] H2 H3 := by
      rw [← hH3]
      exact Gx.new nt
    have hf3 := hf2.keep g3 (by simp)
    have e20 : (10 : Int) ^ (20 : Int).toNat = ((100000000000000000000 : Nat) : Int) := by decide
    refine ⟨_, rfl, f, 50, n + 2, rfl, by decide, mb (by decide), hf3, by omega, fun H4 r4 hr4 g4 hf4 => ⟨_, _, rfl, rfl, 10, 36, rfl, rfl, ⟨by decide, by decide, by decide⟩, _, _, rfl, rfl, 10, 36, rfl, rfl, ⟨by decide, by decide, by decide⟩, _, _, rfl, rfl, _, rfl, 10, 20, rfl, rfl, ⟨by decide, by decide, by decide⟩, f, 100000000000000000000, n + 3, by show [V.ref f, V.int ((10 : Int) ^ (20 : Int).toNat)] = _; rw [e20], by decide, by decide, hf4, by omega, fun H5 r5 hr5 g5 hf5 => ⟨_, _, rfl, rfl, by show 5 ≤ sizeLine; decide, fun L nL => ?_⟩⟩⟩
    have e36 : (10 : Int) ^ (36 : Int).toNat = 1000000000000000000000000000000000000 := by decide
    obtain ⟨la, hz, hl1, hl2⟩ : ∃ la : Int, [V.int 0, .int (((r4 : Nat) : Int) - 25), .int (0 - 10 ^ (36 : Int).toNat), .int (10 ^ (36 : Int).toNat - 40), .int (0 - ((r5 : Nat) : Int))][r1]? = some (.int la) ∧ -1000000000000000000000000000000000000 ≤ la ∧ la ≤ 999999999999999999999999999999999960 := by
      match r1, hr1 with
      | 0, _ => exact ⟨0, rfl, by decide, by decide⟩
      | 1, _ => exact ⟨_, rfl, by omega, by omega⟩
      | 2, _ => exact ⟨_, rfl, by rw [e36]; decide, by rw [e36]; decide⟩
      | 3, _ => exact ⟨_, rfl, by rw [e36]; decide, by rw [e36]; decide⟩
      | 4, _ => exact ⟨_, rfl, by omega, by omega⟩
    refine ⟨_, rfl, L, _, _, _, rfl, rfl, SqL.of upd_same, atI_nat hz, ?_⟩
    generalize hH6 : upd H5 L _ = H6
    have g6 : Gx (TK K) [] H5 H6 := by
      rw [← hH6]
      exact Gx.new nL
    have hf6 := hf5.keep g6 (by simp)
    have gH6 : Gx (TK K) [f] H H6 := (((g12.then g3).trans g4 fun x hx => .inl hx).trans g5 fun x hx => .inl hx).then g6
    refine ⟨_, rfl, _, rfl, by omega, by omega, fun D nD => ?_⟩
    have done : ∀ (H9 : Hp) (b : Addr) (zs : List Int), Gx (TK K) [f] H H9 → FA H9 f (n + 400) → H9 b = some (.tup (iV zs)) → zs.length = pl.length + 1 → zs.Nodup → Bnd (-B37) B37 zs → Q (.ref b) H9 := fun H9 b zs g9 h9 hb hl hnd hbd => q H9 b zs g9 h9 hb ⟨ok, hl, hnd⟩ hbd
    refine lc_map (T := TK K) (gv_range (n := (((pl.length : Nat) : Int) + 1).toNat)) nD (fun _ _ => trivial) (by omega) (iV (arith la (stp r1) (pl.length + 1))) (by rw [len_iV, arith_len]; omega) (fun i x y H7 H8 Ny hi g7 hy hys hN => ?_) mono_name fun H7 g7 hD7 => ?_
    · obtain ⟨rfl, rfl⟩ := hy
      have ey : y = .int (la + ((i : Nat) : Int) * stp r1) := by
        unfold arith at hys
        rw [List.getElem?_map, List.getElem?_map, List.getElem?_range (by omega)] at hys
        exact (Option.some.inj hys).symm
      subst ey
      have hz2 : [V.int 1, .int 7, .int (10 ^ (34 : Int).toNat), .int 1, .int 1][r1]? = some (.int (stp r1)) := by
        match r1, hr1 with
        | 0, _ => rfl
        | 1, _ => rfl
        | 2, _ => exact congrArg (fun z => some (V.int z)) (by decide)
        | 3, _ => rfl
        | 4, _ => rfl
      have hs1 := stp_pos r1
      have hs2 : stp r1 ≤ 10000000000000000000000000000000000 := by unfold stp; split <;> decide
      refine ⟨rfl, _, rfl, _, rfl, 10, 34, rfl, rfl, ⟨by decide, by decide, by decide⟩, by show 5 ≤ sizeLine; decide, fun L2 nL2 => ⟨_, rfl, L2, _, _, _, rfl, rfl, SqL.of upd_same, atI_nat hz2, _, _, rfl, rfl, mulB (by omega) (by omega) (by omega) (by omega), _, _, rfl, rfl, ?_⟩⟩
      rw [Int.zero_add]
      exact hN _ (Gx.new nL2)
    · have hf7 := hf6.keep g7 (by simp)
      have g8 := gH6.then g7
      have nfD := hf6.ne_of nD
      have hln := arith_len la (stp r1) (pl.length + 1)
      have hnd := arith_nodup (a := la) (stp_pos r1) (pl.length + 1)
      have hbd : Bnd (-B37) B37 (arith la (stp r1) (pl.length + 1)) := arith_bnd hl1 (by omega) (by omega)
      by_cases h4 : r1 = 4
      · refine ⟨_, rfl, rfl, _, rfl, ite_dt (by rw [h4]; rfl) ⟨Nat.zero_le _, fun F nF => ?_⟩⟩
        have nfF := hf7.ne_of nF
        have fF : Fr H F := g8.frX nF (by simpa using nfF.symm)
        have hf8 := hf7.keep (Gx.new (T := TK K) (o := .lst []) nF) (by simp)
        refine ⟨_, rfl, _, rfl, by omega, by omega, for_gen (gv_range (n := (((pl.length : Nat) : Int) + 1).toNat)) (fun i σ H2 => ∃ (ls : Int) (s7 s8 : Option V) (xs : List Int), σ = [some (.ref f), some (.ref p), some (.int (((pl.length : Nat) : Int) + 1)), some (.int ((r1 : Nat) : Int)), some (.int ((r2 : Nat) : Int)), some (.int ls), some (.ref F), s7, s8] ∧ Gx (TK K) [f] H H2 ∧ FA H2 f (n + 4 + 2 * i) ∧ H2 F = some (.lst (iV xs)) ∧ xs.length = i ∧ xs.Pairwise (· < ·) ∧ (∀ x ∈ xs, la ≤ x ∧ x ≤ ls) ∧ la ≤ ls ∧ ls ≤ la + ((i : Nat) : Int) * 1000000000000000000000000000000001) ⟨la, _, _, [], rfl, g8.more nF, hf8, upd_same, rfl, List.Pairwise.nil, fun x hx => absurd hx (by simp), Int.le_refl _, by omega⟩ (fun _ _ _ _ _ => trivial) (fun i x σ H8 H9 hi pv y => ?_) fun σ H8 pv => ?_⟩
        · obtain ⟨ls, s7, s8, xs, rfl, g9, hf9, hF9, hxl, hxp, hxb, hl3, hl4⟩ := pv
          obtain ⟨rfl, rfl⟩ := y
          have hi2 : i < pl.length + 1 := by omega
          refine ⟨10, 3, rfl, rfl, ⟨by decide, by decide, by decide⟩, 10, 7, rfl, rfl, ⟨by decide, by decide, by decide⟩, 10, 12, rfl, rfl, ⟨by decide, by decide, by decide⟩, 10, 18, rfl, rfl, ⟨by decide, by decide, by decide⟩, 10, 25, rfl, rfl, ⟨by decide, by decide, by decide⟩, 10, 33, rfl, rfl, ⟨by decide, by decide, by decide⟩, by show 6 ≤ sizeLine; decide, fun L2 nL2 => ?_⟩
          generalize hHA : upd H9 L2 _ = HA
          have gA : Gx (TK K) [] H9 HA := by
            rw [← hHA]
            exact Gx.new nL2
          have hfA := hf9.keep gA (by simp)
          have nfL := hf9.ne_of nL2
          refine ⟨_, rfl, f, 6, n + 4 + 2 * i, rfl, by decide, mb (by decide), hfA, by omega, fun HB r6 hr6 gB hfB => ?_⟩
          obtain ⟨wd, hw1, hw2, hzw⟩ : ∃ wd : Nat, 1 ≤ wd ∧ wd ≤ 1000000000000000000000000000000000 ∧ [V.int (10 ^ (3 : Int).toNat), .int (10 ^ (7 : Int).toNat), .int (10 ^ (12 : Int).toNat), .int (10 ^ (18 : Int).toNat), .int (10 ^ (25 : Int).toNat), .int (10 ^ (33 : Int).toNat)][r6]? = some (.int ((wd : Nat) : Int)) := by
            match r6, hr6 with
            | 0, _ => exact ⟨1000, by decide, by decide, congrArg (fun z => some (V.int z)) (by decide)⟩
            | 1, _ => exact ⟨10000000, by decide, by decide, congrArg (fun z => some (V.int z)) (by decide)⟩
            | 2, _ => exact ⟨1000000000000, by decide, by decide, congrArg (fun z => some (V.int z)) (by decide)⟩
            | 3, _ => exact ⟨1000000000000000000, by decide, by decide, congrArg (fun z => some (V.int z)) (by decide)⟩
            | 4, _ => exact ⟨10000000000000000000000000, by decide, by decide, congrArg (fun z => some (V.int z)) (by decide)⟩
            | 5, _ => exact ⟨1000000000000000000000000000000000, by decide, by decide, congrArg (fun z => some (V.int z)) (by decide)⟩
          have hLB := gB.lstX (l := L2) (by rw [← hHA]; exact upd_same) (by simpa using nfL.symm)
          refine ⟨L2, _, _, _, rfl, rfl, SqL.of hLB, atI_nat hzw, ?_⟩
          refine ⟨_, rfl, _, _, rfl, rfl, _, rfl, _, rfl, f, wd, n + 4 + 2 * i + 1, rfl, hw1, Nat.lt_of_le_of_lt hw2 (by decide), hfB, by omega, fun HC r7 hr7 gC hfC => ⟨_, _, rfl, rfl, ?_⟩⟩
          have hFC := gC.lstX (gB.lstX (gA.lst hF9) (by simpa using nfF.symm)) (by simpa using nfF.symm)
          have g10 : Gx (TK K) [f] H HC := ((g9.then gA).trans gB fun x hx => .inl hx).trans gC fun x hx => .inl hx
          refine ⟨_, rfl, .inl ⟨rfl, _, SqL.of hFC⟩, _, rfl, F, _, _, rfl, rfl, hFC, by rw [len_iV]; exact sl_le (by omega), ?_⟩
          refine ⟨ls + 1 + ((r7 : Nat) : Int), _, _, xs ++ [ls + 1 + ((r7 : Nat) : Int)], rfl, g10.put (.inr fF) hFC trivial, (hfC.keep (Gx.set (T := TK K) hFC trivial) (by simpa using nfF)).mono (by omega), by rw [upd_same, iV_snoc], by rw [List.length_append, hxl]; rfl, ?_, ?_, by omega, by omega⟩
          · refine List.pairwise_append.mpr ⟨hxp, by simp, fun a ha b hb => ?_⟩
            have e : b = ls + 1 + ((r7 : Nat) : Int) := by simpa using hb
            have := hxb a ha
            omega
          · intro x hx
            rcases List.mem_append.mp hx with hx | hx
            · have := hxb x hx
              omega
            · have e : x = ls + 1 + ((r7 : Nat) : Int) := by simpa using hx
              omega
        · obtain ⟨ls, s7, s8, xs, rfl, g9, hf9, hF9, hxl, hxp, hxb, hl3, hl4⟩ := pv
          have hln : xs.length = pl.length + 1 := by omega
          have hnd : xs.Nodup := hxp.imp (fun {a b} h => by omega)
          have hbd : Bnd (-B37) B37 xs := fun x hx => by
            have := hxb x hx
            show -10000000000000000000000000000000000000 ≤ x ∧ x ≤ 10000000000000000000000000000000000000
            omega
          by_cases h2 : r2 = 2
          · refine ⟨_, rfl, rfl, _, rfl, ite_dt (by rw [h2]; rfl) ⟨_, rfl, _, rfl, f, F, xs, _, rfl, hf9, by omega, hF9, by omega, fun K1 D1 ys hpm gg hff fD1 hD1 => ?_⟩⟩
            refine ⟨_, rfl, rfl, _, rfl, ite_df (fun e => by have := V.int.inj e; omega) ⟨_, rfl, D1, _, rfl, .inl ⟨SqL.of hD1, fun b nb => ?_⟩⟩⟩
            exact done _ b ys ((g9.trans gg fun x hx => .inl hx).more nb) ((hff.keep (Gx.new (T := TK K) nb) (by simp)).mono (by omega)) upd_same (hpm.length_eq.trans hln) (hpm.nodup_iff.mpr hnd) (fun x hx => hbd x (hpm.mem_iff.mp hx))
          · refine ⟨_, rfl, rfl, _, rfl, ite_df (fun e => by have := V.int.inj e; omega) ?_⟩
            by_cases h1 : r2 = 1
            · refine ⟨_, rfl, rfl, _, rfl, ite_dt (by rw [h1]; rfl) ⟨_, rfl, F, _, rfl, SqL.of hF9, fun p1 np1 => ⟨p1, _, rfl, .inl ⟨SqL.of upd_same, fun b nb => ?_⟩⟩⟩⟩
              have e9 : (iV xs).reverse = iV (xs).reverse := (List.map_reverse ..).symm
              rw [e9] at nb ⊢
              exact done _ b (xs).reverse ((g9.more np1).more nb) (((hf9).keep (Gx.new (T := TK K) np1) (by simp)).keep (Gx.new (T := TK K) nb) (by simp) |>.mono (by omega)) upd_same ((List.length_reverse ..).trans hln) ((List.reverse_perm _).nodup_iff.mpr hnd) (fun x hx => hbd x (List.mem_reverse.mp hx))
            · refine ⟨_, rfl, rfl, _, rfl, ite_df (fun e => by have := V.int.inj e; omega) ⟨_, rfl, F, _, rfl, .inl ⟨SqL.of hF9, fun b nb => ?_⟩⟩⟩
              exact done _ b xs (g9.more nb) (((hf9).keep (Gx.new (T := TK K) nb) (by simp)).mono (by omega)) upd_same hln hnd hbd
      · refine ⟨_, rfl, rfl, _, rfl, ite_df (fun e => by have := V.int.inj e; omega) ?_⟩
        by_cases h2 : r2 = 2
        · refine ⟨_, rfl, rfl, _, rfl, ite_dt (by rw [h2]; rfl) ⟨_, rfl, _, rfl, f, D, (arith la (stp r1) (pl.length + 1)), (n + 3 + 1), rfl, hf7, by omega, hD7, by omega, fun K1 D1 ys hpm gg hff fD1 hD1 => ?_⟩⟩
          refine ⟨_, rfl, rfl, _, rfl, ite_df (fun e => by have := V.int.inj e; omega) ⟨_, rfl, D1, _, rfl, .inl ⟨SqL.of hD1, fun b nb => ?_⟩⟩⟩
          exact done _ b ys ((g8.trans gg fun x hx => .inl hx).more nb) ((hff.keep (Gx.new (T := TK K) nb) (by simp)).mono (by omega)) upd_same (hpm.length_eq.trans hln) (hpm.nodup_iff.mpr hnd) (fun x hx => hbd x (hpm.mem_iff.mp hx))
        · refine ⟨_, rfl, rfl, _, rfl, ite_df (fun e => by have := V.int.inj e; omega) ?_⟩
          by_cases h1 : r2 = 1
          · refine ⟨_, rfl, rfl, _, rfl, ite_dt (by rw [h1]; rfl) ⟨_, rfl, D, _, rfl, SqL.of hD7, fun p1 np1 => ⟨p1, _, rfl, .inl ⟨SqL.of upd_same, fun b nb => ?_⟩⟩⟩⟩
            have e9 : (iV (arith la (stp r1) (pl.length + 1))).reverse = iV ((arith la (stp r1) (pl.length + 1))).reverse := (List.map_reverse ..).symm
            rw [e9] at nb ⊢
            exact done _ b ((arith la (stp r1) (pl.length + 1))).reverse ((g8.more np1).more nb) (((hf7).keep (Gx.new (T := TK K) np1) (by simp)).keep (Gx.new (T := TK K) nb) (by simp) |>.mono (by omega)) upd_same ((List.length_reverse ..).trans hln) ((List.reverse_perm _).nodup_iff.mpr hnd) (fun x hx => hbd x (List.mem_reverse.mp hx))
          · refine ⟨_, rfl, rfl, _, rfl, ite_df (fun e => by have := V.int.inj e; omega) ⟨_, rfl, D, _, rfl, .inl ⟨SqL.of hD7, fun b nb => ?_⟩⟩⟩
            exact done _ b (arith la (stp r1) (pl.length + 1)) (g8.more nb) (((hf7).keep (Gx.new (T := TK K) nb) (by simp)).mono (by omega)) upd_same hln hnd hbd
end
end K6

set_option Elab.async false
set_option linter.all false
set_option maxRecDepth 100000
set_option maxHeartbeats 4000000
/-! K6Xa: the law's operations -/
namespace K6
open PySem PySem.Spec PyProof.Rows L2 SX
section
variable {P : Program} {w : World} {K : PySem.W.Frag} {mg : Str → Option Value} {base : Heap}
def spOperation (K : PySem.W.Frag) : Sp := fun vs H Q _ => ∃ (f t p b : Addr) (s : Sta) (n : Nat), vs = [.ref f, .ref t, .int 40, .int 1000000000000000000000000000000] ∧ H t = some (.tup [.ref p, .ref b]) ∧ PS2 H p b s.pl s.st ∧ FA H f n ∧ n ≤ 800000 ∧ ∀ H' o op, Gx (TK K) [f] H H' → FA H' f (n + 20) → H' o = some (.tup (opV op)) → OpOk op s → Q (.ref o) H'
theorem calLawOperation (z : Cz P w K mg base) : C8.Cal P w K mg base 2 "_law_operation" (spOperation K) [] := by
  refine mkCal z.fLawOperation z.gLawOperation scLawOperation bLawOperation (fun vs H Q E h => ?_) fun cdv A outer s H vs Q E hr h => ?_
  · obtain ⟨f, t, p, b, s, n, rfl, _⟩ := h
    rfl
  · refine ⟨_, (pss_cons (ps_set (i := 4) scLawOperation.nd rfl (Or.inl rfl) (pe_callB call_lenQ (by rfl) z.nlen PySem.boot_len (pa_cons (pe_ix ix_tup (pv 1) pe_int (fun _ _ => rfl)) pa_nil)))
  (pss_cons (ps_set (i := 5) scLawOperation.nd rfl (Or.inl rfl) (C8.pe_c (calLawSip z) hr (by decide) rfl (pa_cons (pv 0) (pa_cons pe_int pa_nil))))
  (pss_cons (ps_if (pt_cmpR op_lt (pv 5) pe_int (nomark _)) (pss_one (ps_ret (pe_tup (pa_cons pe_str (pa_cons (pe_ix ix_list (pe_lst (pa_cons pe_int (pa_cons (pe_op op_add pe_int (C8.pe_c (calLawSip z) hr (by decide) rfl (pa_cons (pv 0) (pa_cons pe_int pa_nil)))) (pa_cons (pe_op op_add pe_int (C8.pe_c (calLawSip z) hr (by decide) rfl (pa_cons (pv 0) (pa_cons (pv 3) pa_nil)))) (pa_cons (pv 3) pa_nil))))) (C8.pe_c (calLawSip z) hr (by decide) rfl (pa_cons (pv 0) (pa_cons pe_int pa_nil))) (fun _ _ => rfl)) pa_nil))))) pss_nil)
  (pss_cons (ps_if (pt_cmpR op_lt (pv 5) pe_int (nomark _)) (pss_one (ps_ret (pe_tup (pa_cons pe_str (pa_cons (C8.pe_c (calLawSip z) hr (by decide) rfl (pa_cons (pv 0) (pa_cons (pv 4) pa_nil))) pa_nil))))) pss_nil)
  (pss_cons (ps_if (PW.pt (pw_and (pt_cmpR op_eq (pv 5) pe_int (nomark _)) (pw_and1 (pt_cmpR op_lt (pv 4) (pv 2) (nomark _))))) (pss_one (ps_ret (pe_tup (pa_cons pe_str (pa_cons (C8.pe_c (calLawSip z) hr (by decide) rfl (pa_cons (pv 0) (pa_cons (pv 4) pa_nil))) pa_nil))))) pss_nil)
  (pss_cons (ps_if (PW.pt (pw_and (pt_cmpR op_eq (pv 5) pe_int (nomark _)) (pw_and1 (pt_cmpR op_gt (pv 4) pe_int (nomark _))))) (pss_one (ps_ret (pe_tup (pa_cons pe_str pa_nil)))) pss_nil)
  (pss_one (ps_ret (pe_tup (pa_cons pe_str pa_nil)))))))))), ?_⟩
    obtain ⟨f, t, p, b, s, n, rfl, ht, hp, hf, hn, q⟩ := h
    have h40 := hp.ok.plok.1
    have hlen := hp.ok.len
    have mb : ∀ {k : Nat}, k ≤ 1000 → k < 2 ^ 250 := fun {k} h => Nat.lt_of_le_of_lt h (by decide)
    refine ⟨_, rfl, t, _, 1, _, rfl, rfl, SqT.of ht, at_pred (v := 1) rfl, lenS_to hp.sb ?_⟩
    refine ⟨_, rfl, f, 8, n, rfl, by decide, mb (by decide), hf, by omega, fun H1 r1 hr1 g1 hf1 => ⟨_, rfl, _, _, rfl, rfl, _, rfl, ?_⟩⟩
    by_cases c1 : r1 < 2
    · refine ite_dt (by omega) ⟨_, rfl, f, 5, n + 1, rfl, by decide, mb (by decide), hf1, by omega, fun H2 r2 hr2 g2 hf2 => ⟨_, _, rfl, rfl, _, rfl, _, rfl, f, 1000000000000000000000000000000, n + 2, rfl, by decide, by decide, hf2, by omega, fun H3 r3 hr3 g3 hf3 => ⟨_, _, rfl, rfl, _, rfl, by show 4 ≤ sizeLine; decide, fun L nL => ?_⟩⟩⟩
      have g13 := (g1.trans g2 fun x hx => .inl hx).trans g3 fun x hx => .inl hx
      have gL : Gx (TK K) [] H3 (upd H3 L (.lst [.int 1, .int (1 + ((r2 : Nat) : Int)), .int (1 + ((r3 : Nat) : Int)), .int 1000000000000000000000000000000])) := Gx.new nL
      have hfL := hf3.keep gL (by simp)
      have nfL := hf3.ne_of nL
      refine ⟨_, rfl, f, 4, n + 3, rfl, by decide, mb (by decide), hfL, by omega, fun H4 r4 hr4 g4 hf4 => ?_⟩
      have hL4 := g4.lstX (l := L) upd_same (by simpa using nfL.symm)
      obtain ⟨d, hd1, hd2, hz⟩ : ∃ d : Nat, 1 ≤ d ∧ d ≤ 1000000000000000000000000000000 ∧ [V.int 1, .int (1 + ((r2 : Nat) : Int)), .int (1 + ((r3 : Nat) : Int)), .int 1000000000000000000000000000000][r4]? = some (.int ((d : Nat) : Int)) := by
        match r4, hr4 with
        | 0, _ => exact ⟨1, by decide, by decide, rfl⟩
        | 1, _ => exact ⟨1 + r2, by omega, by omega, by rw [Int.natCast_add]; rfl⟩
        | 2, _ => exact ⟨1 + r3, by omega, by omega, by rw [Int.natCast_add]; rfl⟩
        | 3, _ => exact ⟨1000000000000000000000000000000, by decide, by decide, rfl⟩
      refine ⟨L, _, _, _, rfl, rfl, SqL.of hL4, atI_nat hz, by show 2 ≤ sizeLine; decide, fun o no => ?_⟩
      have g5 : Gx (TK K) [] H4 (upd H4 o (.tup [.str "days", .int ((d : Nat) : Int)])) := Gx.new no
      exact q _ o (.days d) (((g13.then gL).trans g4 fun x hx => .inl hx).then g5) ((hf4.keep g5 (by simp)).mono (by omega)) upd_same ⟨⟨hd1, hd2⟩⟩
    refine ite_df (by omega) ⟨_, rfl, _, _, rfl, rfl, _, rfl, ?_⟩
    by_cases c2 : r1 < 4
    · refine ite_dt (by omega) ⟨_, rfl, _, rfl, f, s.st.length, n + 1, rfl, by omega, mb (by omega), hf1, by omega, fun H2 r2 hr2 g2 hf2 => ⟨by show 2 ≤ sizeLine; decide, fun o no => ?_⟩⟩
      have g5 : Gx (TK K) [] H2 (upd H2 o (.tup [.str "sell", .int ((r2 : Nat) : Int)])) := Gx.new no
      exact q _ o (.sell r2) ((g1.trans g2 fun x hx => .inl hx).then g5) ((hf2.keep g5 (by simp)).mono (by omega)) upd_same ⟨by show r2 ≤ s.pl.length; omega⟩
    refine ite_df (by omega) ⟨_, rfl, rfl, _, rfl, ?_⟩
    by_cases c3 : r1 = 4 ∧ s.st.length < 40
    · refine ite_dt (by rw [c3.1]; rfl) ⟨_, rfl, _, rfl, _, _, rfl, rfl, _, rfl, ite_dt (by omega) ⟨_, rfl, _, rfl, f, s.st.length, n + 1, rfl, by omega, mb (by omega), hf1, by omega, fun H2 r2 hr2 g2 hf2 => ⟨by show 2 ≤ sizeLine; decide, fun o no => ?_⟩⟩⟩
      have g5 : Gx (TK K) [] H2 (upd H2 o (.tup [.str "add", .int ((r2 : Nat) : Int)])) := Gx.new no
      exact q _ o (.add r2) ((g1.trans g2 fun x hx => .inl hx).then g5) ((hf2.keep g5 (by simp)).mono (by omega)) upd_same ⟨by show r2 ≤ s.pl.length ∧ s.st.length < 40; omega⟩
    have last : ∀ o, H1 o = none → Q (.ref o) (upd H1 o (.tup [.str "day"])) := fun o no => by
      have g5 : Gx (TK K) [] H1 (upd H1 o (.tup [.str "day"])) := Gx.new no
      exact q _ o .day (g1.then g5) ((hf1.keep g5 (by simp)).mono (by omega)) upd_same ⟨trivial⟩
    by_cases c4 : r1 = 4
    · refine ite_dt (by rw [c4]; rfl) ⟨_, rfl, _, rfl, _, _, rfl, rfl, _, rfl, ite_df (by omega) ⟨_, rfl, rfl, _, rfl, ite_df (fun e => by have := V.int.inj e; omega) (iteF ⟨by show 1 ≤ sizeLine; decide, fun o no => last o no⟩)⟩⟩
    · refine ite_df (fun e => by have := V.int.inj e; omega) (iteF ⟨_, rfl, rfl, _, rfl, ?_⟩)
      by_cases c5 : r1 = 5
      · refine ite_dt (by rw [c5]; rfl) ⟨_, rfl, _, _, rfl, rfl, _, rfl, ?_⟩
        by_cases c6 : 1 < s.st.length
        · refine ite_dt (by omega) ⟨by show 1 ≤ sizeLine; decide, fun o no => ?_⟩
          have g5 : Gx (TK K) [] H1 (upd H1 o (.tup [.str "remove"])) := Gx.new no
          exact q _ o .remove (g1.then g5) ((hf1.keep g5 (by simp)).mono (by omega)) upd_same ⟨by show 1 ≤ s.pl.length; omega⟩
        · exact ite_df (by omega) ⟨by show 1 ≤ sizeLine; decide, fun o no => last o no⟩
      · exact ite_df (fun e => by have := V.int.inj e; omega) (iteF ⟨by show 1 ≤ sizeLine; decide, fun o no => last o no⟩)
theorem op_row {op : Op} {s : Sta} (h : OpOk op s) (h40 : s.pl.length < 40) : (opA op = .non ∧ opV op = [.str (S (opN op))]) ∨ ∃ n : Nat, opA op = .int ((n : Nat) : Int) ∧ n < 10 ^ 31 ∧ opV op = [.str (S (opN op)), .int ((n : Nat) : Int)] := by
  cases op with
  | day => exact .inl ⟨rfl, rfl⟩
  | remove => exact .inl ⟨rfl, rfl⟩
  | days d =>
    have h4 : 1 ≤ d ∧ d ≤ 1000000000000000000000000000000 := h.ok
    exact .inr ⟨d, rfl, Nat.lt_of_le_of_lt h4.2 (by decide), rfl⟩
  | sell v =>
    have h4 : v ≤ s.pl.length := h.ok
    exact .inr ⟨v, rfl, Nat.lt_of_le_of_lt (m := 40) (by omega) (by decide), rfl⟩
  | add v =>
    have h4 : v ≤ s.pl.length ∧ s.st.length < 40 := h.ok
    exact .inr ⟨v, rfl, Nat.lt_of_le_of_lt (m := 40) (by omega) (by decide), rfl⟩
def spRow (K : PySem.W.Frag) : Sp := fun vs H Q _ => ∃ (o : Addr) (op : Op), vs = [.ref o] ∧ H o = some (.tup (opV op)) ∧ ((opA op = .non ∧ opV op = [.str (S (opN op))]) ∨ ∃ n : Nat, opA op = .int ((n : Nat) : Int) ∧ n < 10 ^ 31 ∧ opV op = [.str (S (opN op)), .int ((n : Nat) : Int)]) ∧ ∀ H', Gx (TK K) [] H H' → Q (.str (S (rowL (opN op) (opA op)))) H'
theorem calLawRow (z : Cz P w K mg base) : C8.Cal P w K mg base 1 "_law_row" (spRow K) [] := by
  refine mkCal z.fLawRow z.gLawRow scLawRow bLawRow (fun vs H Q E h => ?_) fun cdv A outer s H vs Q E hr h => ?_
  · obtain ⟨o, op, rfl, _⟩ := h
    rfl
  · refine ⟨_, (pss_one (ps_ret (pe_join pe_str (pe_lc (own := [("part", 1)]) (g := gName 1) (tt := tYes) rfl scLawRow.nd (pi_tup (pv 0)) (blkOk_by (own := [("part", 1)]) (N := nLawRow) (sc := defScope sLawRow) (by decide +kernel)) (fun _ _ _ _ _ => (pg_name (i := 1) scLawRow.nd rfl (Or.inl rfl))) (fun _ _ _ _ _ => pts_nil) (fun _ _ _ _ _ => (pe_callTy call_strA (by rfl) z.nstr (by decide +kernel) (pa_cons (pv 1) pa_nil))))))), ?_⟩
    obtain ⟨o, op, rfl, ho, hop, q⟩ := h
    have one : ∀ {x : Str} {H2 : Hp} {Q2 : VK}, Q2 (.str x) H2 → rStrA [.str x] H2 Q2 := fun {x H2 Q2} h2 => .inr ⟨x, rfl, h2⟩
    have two : ∀ {x : Int} {H2 : Hp} {Q2 : VK}, x.natAbs.log2 < 1920 → Q2 (.str (S (intL x))) H2 → rStrA [.int x] H2 Q2 := fun {x H2 Q2} h1 h2 => .inl ⟨x, rfl, h1, by rw [int_text]; exact h2⟩
    have hN6 : (opN op).length ≤ 6 := by cases op <;> simp [opN]
    rcases hop with ⟨e1, e2⟩ | ⟨n, e1, hn, e2⟩
    · rw [e2] at ho
      refine ⟨⟨_, rfl⟩, _, rfl, o, rfl, ⟨_, SqT.of ho⟩, fun D nD => lc_map (T := TK K) gv_tup nD (fun H g => SqT.of (g.tup ho)) (by show 1 ≤ 1000000; decide) [.str (S (opN op))] rfl (fun i x y H4 H5 Ny hi g4 hy hys hN => ?_) mono_name fun H4 g4 hD4 => ?_⟩
      · obtain ⟨rfl, hx⟩ := hy
        match i, hi with
        | 0, _ =>
          cases hx
          cases hys
          exact ⟨rfl, _, rfl, one (hN _ Gx.refl)⟩
      · refine ⟨_, D, [S (opN op)], rfl, rfl, .inl (SqL.of hD4), ?_, ?_⟩
        · rw [show (" " : Str).length = 1 from by decide]
          simp only [List.map_cons, List.map_nil, List.sum_cons, List.sum_nil, List.length_cons, List.length_nil, S_len]
          omega
        · rw [show (" " : Str) = S [32] from rfl, show [S (opN op)] = [opN op].map S from rfl, join_S, show TL.joinL [32] [opN op] = rowL (opN op) (opA op) by rw [e1]; rfl]
          exact q _ g4
    · rw [e2] at ho
      have hnl : (TL.numL n).length ≤ 31 := TL.numL_len (by decide) hn
      refine ⟨⟨_, rfl⟩, _, rfl, o, rfl, ⟨_, SqT.of ho⟩, fun D nD => lc_map (T := TK K) gv_tup nD (fun H g => SqT.of (g.tup ho)) (by show 2 ≤ 1000000; decide) [.str (S (opN op)), .str (S (intL ((n : Nat) : Int)))] rfl (fun i x y H4 H5 Ny hi g4 hy hys hN => ?_) mono_name fun H4 g4 hD4 => ?_⟩
      · obtain ⟨rfl, hx⟩ := hy
        match i, hi with
        | 0, _ =>
          cases hx
          cases hys
          exact ⟨rfl, _, rfl, one (hN _ Gx.refl)⟩
        | 1, _ =>
          cases hx
          cases hys
          exact ⟨rfl, _, rfl, two (lg_of (Nat.lt_trans (by rw [Int.natAbs_natCast]; exact hn) (by decide))) (hN _ Gx.refl)⟩
      · refine ⟨_, D, [S (opN op), S (intL ((n : Nat) : Int))], rfl, rfl, .inl (SqL.of hD4), ?_, ?_⟩
        · rw [show (" " : Str).length = 1 from by decide]
          simp only [List.map_cons, List.map_nil, List.sum_cons, List.sum_nil, List.length_cons, List.length_nil, S_len, intL_nat]
          omega
        · rw [show (" " : Str) = S [32] from rfl, show [S (opN op), S (intL ((n : Nat) : Int))] = [opN op, intL ((n : Nat) : Int)].map S from rfl, join_S, show TL.joinL [32] [opN op, intL ((n : Nat) : Int)] = rowL (opN op) (opA op) by rw [e1]; rfl]
          exact q _ g4
def retV (op : Op) (s : Sta) : V := match op with
  | .day => .int (bx s.st 0)
  | .sell v => .int (bx s.st v)
  | _ => .non
structure ShownP (vs : List V) (H : Hp) (Q : VK) : Prop where
  h : (vs = [.non] ∧ Q (.str (S [111, 107])) H) ∨ ∃ x : Int, vs = [.int x] ∧ x.natAbs.log2 < 1920 ∧ Q (.str (S (intL x))) H
def spShown (_ : PySem.W.Frag) : Sp := fun vs H Q _ => ShownP vs H Q
theorem calLawShown (z : Cz P w K mg base) : C8.Cal P w K mg base 1 "_law_shown" (spShown K) [] := by
  refine mkCal z.fLawShown z.gLawShown scLawShown bLawShown (fun vs H Q E h => ?_) fun cdv A outer s H vs Q E hr h => ?_
  · rcases h.h with ⟨rfl, _⟩ | ⟨x, rfl, _⟩
    · rfl
    · rfl
  · refine ⟨_, (pss_one (ps_ret (pe_ifExp (pt_cmpR op_isN (pv 0) pe_non (nomark _)) pe_str (pe_callTy call_strA (by rfl) z.nstr (by decide +kernel) (pa_cons (pv 0) pa_nil))))), ?_⟩
    rcases h.h with ⟨rfl, q⟩ | ⟨x, rfl, hx, q⟩
    · exact ⟨_, rfl, rfl, _, rfl, ite_dt rfl q⟩
    · exact ⟨_, rfl, rfl, _, rfl, ite_df (fun e => by cases e) ⟨_, rfl, .inl ⟨x, rfl, hx, by rw [int_text]; exact q⟩⟩⟩
def spDone (K : PySem.W.Frag) : Sp := fun vs H Q _ => ∃ a l o s op, vs = [.ref a, .ref o] ∧ LiveAt K H a l s ∧ H o = some (.tup (opV op)) ∧ OpOk op s ∧ s.hist.length < 1000 ∧ LamX.Tabs (TK K) H ∧ ∀ H', Gx (TK K) [a, l] H H' → LiveAt K H' a l (doOp op s) → Q (retV op s) H'
theorem calLawDone (z : Cz P w K mg base) : C8.Cal P w K mg base 6 "_law_done" (spDone K) [] := by
  refine mkCal z.fLawDone z.gLawDone scLawDone bLawDone (fun vs H Q E h => ?_) fun cdv A outer s H vs Q E hr h => ?_
  · obtain ⟨a, l, o, s, op, rfl, _⟩ := h
    rfl
  · refine ⟨_, (pss_cons (ps_if (pt_cmpR op_eq (pe_ix ix_tup (pv 1) pe_int (fun _ _ => rfl)) pe_str (nomark _)) (pss_one (ps_ret (C8.pe_mt0 (metLivePlantDay z) hr (by decide) (pv 0)))) pss_nil)
  (pss_cons (ps_if (pt_cmpR op_eq (pe_ix ix_tup (pv 1) pe_int (fun _ _ => rfl)) pe_str (nomark _)) (pss_one (ps_ret (C8.pe_mt (metLivePlantDays z) hr (by decide) (pv 0) (pa_cons (pe_ix ix_tup (pv 1) pe_int (fun _ _ => rfl)) pa_nil)))) pss_nil)
  (pss_cons (ps_if (pt_cmpR op_eq (pe_ix ix_tup (pv 1) pe_int (fun _ _ => rfl)) pe_str (nomark _)) (pss_one (ps_ret (C8.pe_mt (metLivePlantSell z) hr (by decide) (pv 0) (pa_cons (pe_ix ix_tup (pv 1) pe_int (fun _ _ => rfl)) pa_nil)))) pss_nil)
  (pss_cons (ps_if (pt_cmpR op_eq (pe_ix ix_tup (pv 1) pe_int (fun _ _ => rfl)) pe_str (nomark _)) (pss_one (ps_ret (C8.pe_mt (metLivePlantAdd z) hr (by decide) (pv 0) (pa_cons (pe_ix ix_tup (pv 1) pe_int (fun _ _ => rfl)) pa_nil)))) pss_nil)
  (pss_one (ps_ret (C8.pe_mt0 (metLivePlantRemove z) hr (by decide) (pv 0)))))))), ?_⟩
    obtain ⟨a, l, o, s, op, rfl, h, ho, hk, h1000, ht, q⟩ := h
    obtain ⟨dx2, cc, es, i1, i2, i3⟩ := h.ex
    cases op with
    | day =>
      refine ⟨_, rfl, o, _, 0, _, rfl, rfl, SqT.of ho, at_pred (v := 0) rfl, rfl, _, rfl, ite_dt rfl ?_⟩
      exact ⟨_, rfl, a, dx2, _, rfl, i1, rfl, a, l, s, rfl, h, h1000, fun H' g k => q H' g k⟩
    | days d =>
      have h4 : 1 ≤ d ∧ d ≤ 1000000000000000000000000000000 := hk.ok
      refine ⟨_, rfl, o, _, 0, _, rfl, rfl, SqT.of ho, at_pred (v := 0) rfl, rfl, _, rfl, ite_df (ne_S (a := [100, 97, 121, 115]) (b := [100, 97, 121]) (by decide)) ?_⟩
      refine ⟨_, rfl, o, _, 0, _, rfl, rfl, SqT.of ho, at_pred (v := 0) rfl, rfl, _, rfl, ite_dt rfl ?_⟩
      exact ⟨_, rfl, a, dx2, _, rfl, i1, rfl, _, rfl, o, _, 1, _, rfl, rfl, SqT.of ho, at_pred (v := 1) rfl, a, l, s, d, rfl, h, h4.1, h4.2, ht, h1000, fun H' g k => q H' g k⟩
    | sell v =>
      have h4 : v ≤ s.pl.length := hk.ok
      refine ⟨_, rfl, o, _, 0, _, rfl, rfl, SqT.of ho, at_pred (v := 0) rfl, rfl, _, rfl, ite_df (ne_S (a := [115, 101, 108, 108]) (b := [100, 97, 121]) (by decide)) ?_⟩
      refine ⟨_, rfl, o, _, 0, _, rfl, rfl, SqT.of ho, at_pred (v := 0) rfl, rfl, _, rfl, ite_df (ne_S (a := [115, 101, 108, 108]) (b := [100, 97, 121, 115]) (by decide)) ?_⟩
      refine ⟨_, rfl, o, _, 0, _, rfl, rfl, SqT.of ho, at_pred (v := 0) rfl, rfl, _, rfl, ite_dt rfl ?_⟩
      exact ⟨_, rfl, a, dx2, _, rfl, i1, rfl, _, rfl, o, _, 1, _, rfl, rfl, SqT.of ho, at_pred (v := 1) rfl, a, l, s, v, rfl, h, h4, h1000, fun H' g k => q H' g k⟩
    | add v =>
      have h4 : v ≤ s.pl.length ∧ s.st.length < 40 := hk.ok
      refine ⟨_, rfl, o, _, 0, _, rfl, rfl, SqT.of ho, at_pred (v := 0) rfl, rfl, _, rfl, ite_df (ne_S (a := [97, 100, 100]) (b := [100, 97, 121]) (by decide)) ?_⟩
      refine ⟨_, rfl, o, _, 0, _, rfl, rfl, SqT.of ho, at_pred (v := 0) rfl, rfl, _, rfl, ite_df (ne_S (a := [97, 100, 100]) (b := [100, 97, 121, 115]) (by decide)) ?_⟩
      refine ⟨_, rfl, o, _, 0, _, rfl, rfl, SqT.of ho, at_pred (v := 0) rfl, rfl, _, rfl, ite_df (ne_S (a := [97, 100, 100]) (b := [115, 101, 108, 108]) (by decide)) ?_⟩
      refine ⟨_, rfl, o, _, 0, _, rfl, rfl, SqT.of ho, at_pred (v := 0) rfl, rfl, _, rfl, ite_dt rfl ?_⟩
      exact ⟨_, rfl, a, dx2, _, rfl, i1, rfl, _, rfl, o, _, 1, _, rfl, rfl, SqT.of ho, at_pred (v := 1) rfl, a, l, s, v, rfl, h, h4.1, h4.2, h1000, fun H' g k => q H' g k⟩
    | remove =>
      have h4 : 1 ≤ s.pl.length := hk.ok
      refine ⟨_, rfl, o, _, 0, _, rfl, rfl, SqT.of ho, at_pred (v := 0) rfl, rfl, _, rfl, ite_df (ne_S (a := [114, 101, 109, 111, 118, 101]) (b := [100, 97, 121]) (by decide)) ?_⟩
      refine ⟨_, rfl, o, _, 0, _, rfl, rfl, SqT.of ho, at_pred (v := 0) rfl, rfl, _, rfl, ite_df (ne_S (a := [114, 101, 109, 111, 118, 101]) (b := [100, 97, 121, 115]) (by decide)) ?_⟩
      refine ⟨_, rfl, o, _, 0, _, rfl, rfl, SqT.of ho, at_pred (v := 0) rfl, rfl, _, rfl, ite_df (ne_S (a := [114, 101, 109, 111, 118, 101]) (b := [115, 101, 108, 108]) (by decide)) ?_⟩
      refine ⟨_, rfl, o, _, 0, _, rfl, rfl, SqT.of ho, at_pred (v := 0) rfl, rfl, _, rfl, ite_df (ne_S (a := [114, 101, 109, 111, 118, 101]) (b := [97, 100, 100]) (by decide)) ?_⟩
      exact ⟨_, rfl, a, dx2, _, rfl, i1, rfl, a, l, s, rfl, h, h4, h1000, fun H' g k => q H' g k⟩
end
end K6

set_option Elab.async false
set_option linter.all false
set_option maxRecDepth 100000
set_option maxHeartbeats 4000000
/-! K6Xb: the law's texts -/
namespace K6
open PySem PySem.Spec PyProof.Rows L2 SX
theorem joinL_lines (c : Nat) : ∀ ps : List (List Nat), TL.joinL [] (ps.map (· ++ [c])) = TL.joinL [c] (ps ++ [[]])
  | [] => rfl
  | [p] => by
    show p ++ [c] = p ++ ([c] ++ [])
    rw [List.append_nil]
  | p :: q :: r => by
    have h := joinL_lines c (q :: r)
    show (p ++ [c]) ++ ([] ++ TL.joinL [] ((q :: r).map (· ++ [c]))) = p ++ ([c] ++ TL.joinL [c] ((q :: r) ++ [[]]))
    rw [h, List.nil_append, List.append_assoc]
def textL (pl : List Nat) (st : List Int) : List Nat := TL.joinL [] ((lnsL pl st).map (· ++ [10]))
theorem text_split {pl : List Nat} {st : List Int} : TL.spl [10] 0 [] (textL pl st) = lnsL pl st ++ [[]] := by
  unfold textL
  rw [joinL_lines]
  refine spl_join (by simp) fun p hp => ?_
  rcases List.mem_append.mp hp with h | h
  · exact line_free h (by omega)
  · rw [List.mem_singleton.mp h]
    simp
theorem text_len {pl : List Nat} {st : List Int} (ok : StOk pl st) (hs : Sml st) : (textL pl st).length ≤ 1900 := by
  unfold textL
  rw [joinL_lines, joinL_app _ _ (lns_ne ok.len), List.length_append, List.length_singleton]
  have := lns_joined ok hs 10
  omega
section
variable {P : Program} {w : World} {K : PySem.W.Frag} {mg : Str → Option Value} {base : Heap}
theorem addS_to {a b : List Nat} {H : Hp} {Q : VK} (h : a.length + b.length ≤ 5000) (q : Q (.str (S (a ++ b))) H) : ∃ i j, V.str (S a) = .str i ∧ V.str (S b) = .str j ∧ i.length + j.length ≤ sizeLine ∧ Q (.str (i ++ j)) H :=
  ⟨_, _, rfl, rfl, by rw [S_len, S_len]; exact sz_le h, by rw [S_cat]; exact q⟩
def spText (K : PySem.W.Frag) : Sp := fun vs H Q _ => ∃ p b pl st, vs = [.ref p, .ref b] ∧ PS2 H p b pl st ∧ Sml st ∧ ∀ H', Gx (TK K) [] H H' → Q (.str (S (textL pl st))) H'
theorem calLawText (z : Cz P w K mg base) : C8.Cal P w K mg base 1 "_law_text" (spText K) [] := by
  refine mkCal z.fLawText z.gLawText scLawText bLawText (fun vs H Q E h => ?_) fun cdv A outer s H vs Q E hr h => ?_
  · obtain ⟨p, b, pl, st, rfl, _⟩ := h
    rfl
  · refine ⟨_, (pss_cons (ps_set (i := 2) scLawText.nd rfl (Or.inl rfl) (pe_op op_catQ (pe_lst (pa_cons (pe_op op_add_str pe_str (pe_callTy call_strA (by rfl) z.nstr (by decide +kernel) (pa_cons (pe_ix ix_tup (pv 1) pe_int (fun _ _ => rfl)) pa_nil))) pa_nil)) (pe_lc (own := [("boss", 3), ("box", 4)]) (g := gTup K 2 (gCons (gName 3) (gCons (gName 4) gNil))) (tt := tYes) rfl scLawText.nd (RZ.pi_zipA (by rfl) z.nzip (pa_cons (pv 0) (pa_cons (pe_slice sl_tupQ (pv 1) (po_some pe_int) po_none) pa_nil))) (blkOk_by (own := [("boss", 3), ("box", 4)]) (N := nLawText) (sc := defScope sLawText) (by decide +kernel)) (fun _ _ _ _ _ => (pg_pair (i := 3) (j := 4) rfl scLawText.nd rfl (Or.inl rfl) rfl (Or.inl rfl))) (fun _ _ _ _ _ => pts_nil) (fun _ _ _ _ _ => (pe_op op_add_str (pe_op op_add_str (pe_callTy call_strA (by rfl) z.nstr (by decide +kernel) (pa_cons (pv 3) pa_nil)) pe_str) (pe_callTy call_strA (by rfl) z.nstr (by decide +kernel) (pa_cons (pv 4) pa_nil)))))))
  (pss_one (ps_ret (pe_join pe_str (pe_lc (own := [("line", 5)]) (g := gName 5) (tt := tYes) rfl scLawText.nd (pi_list (pv 2)) (blkOk_by (own := [("line", 5)]) (N := nLawText) (sc := defScope sLawText) (by decide +kernel)) (fun _ _ _ _ _ => (pg_name (i := 5) scLawText.nd rfl (Or.inl rfl))) (fun _ _ _ _ _ => pts_nil) (fun _ _ _ _ _ => (pe_op op_add_str (pv 5) pe_str))))))), ?_⟩
    obtain ⟨p, b, pl, st, rfl, hp, hs, q⟩ := h
    have hlen := hp.ok.len
    have h40 := hp.ok.plok.1
    have two : ∀ {x : Int} {H2 : Hp} {Q2 : VK}, x.natAbs.log2 < 1920 → Q2 (.str (S (intL x))) H2 → rStrA [.int x] H2 Q2 := fun {x H2 Q2} h1 h2 => .inl ⟨x, rfl, h1, by rw [int_text]; exact h2⟩
    obtain ⟨b0, rest, est⟩ : ∃ b0 rest, st = b0 :: rest := by
      cases st with
      | nil => simp at hlen
      | cons b0 rest => exact ⟨b0, rest, rfl⟩
    have hrl : rest.length = pl.length := by rw [est] at hlen; simpa using hlen
    have hs0 : b0.natAbs < 10 ^ 40 := hs b0 (by rw [est]; simp)
    have hl0 := intL_len hs0
    refine ⟨_, rfl, b, _, 0, _, rfl, rfl, SqT.of hp.sb, at_iV (v := 0) (n := b0) (by rw [est]; rfl), ?_⟩
    refine .inl ⟨_, rfl, sml_lg hs0, ?_⟩
    rw [int_text]
    refine ⟨_, _, rfl, rfl, by rw [show ("shop " : Str) = S [115, 104, 111, 112, 32] from rfl, S_len, S_len]; exact sz_le (by show 5 + _ ≤ _; omega), ?_⟩
    rw [show ("shop " : Str) = S [115, 104, 111, 112, 32] from rfl, S_cat]
    refine ⟨by show 1 ≤ sizeLine; decide, fun L nL => ?_⟩
    have gL : Gx (TK K) [] H (upd H L (.lst [.str (S (lineL shopL b0))])) := Gx.new nL
    refine ⟨_, rfl, _, rfl, 1, rfl, ⟨slA_to (T := TK K) (some 1) none (gL.tup hp.sb) fun b2 H2 g2 hb2 => ?_⟩⟩
    have eb : cutV (iV st) (some 1) none = iV rest := by rw [show (1 : Int) = ((1 : Nat) : Int) from rfl, cut_from, drop_iV, est]; rfl
    rw [eb] at hb2
    have g12 := gL.then g2
    have hpa := g12.tup hp.pa
    have hL2 := g2.lst (upd_same (H := H) (a := L) (o := .lst [.str (S (lineL shopL b0))]))
    have hzl : (List.zipWith lineL (pl.map TL.numL) rest).length = pl.length := by rw [List.length_zipWith, List.length_map, hrl, Nat.min_self]
    refine ⟨p, b2, _, _, rfl, .inr ⟨SqT.of hpa, SqT.of hb2, fun D nD => lc_map (T := TK K) gv_zipT nD (fun H g => ⟨SqT.of (g.tup hpa), SqT.of (g.tup hb2)⟩) (by rw [len_iV, len_iV, len_nI]; omega) ((List.zipWith lineL (pl.map TL.numL) rest).map fun l => V.str (S l)) (by rw [List.length_map, hzl, len_iV, len_iV, len_nI]; omega) (fun i x y H4 H5 Ny hi g4 hy hys hN => ?_) mono_pair fun H4 g4 hD4 => ?_⟩⟩
    · obtain ⟨p2, v1, v2, rfl, np2, rfl, hv1, hv2⟩ := hy
      rw [len_iV, len_iV, len_nI] at hi
      obtain ⟨k, hk, rfl⟩ := get_nV hv1
      obtain ⟨m, hm, rfl⟩ := get_iV hv2
      have ey : y = V.str (S (lineL (TL.numL k) m)) := by
        rw [List.getElem?_map, List.getElem?_zipWith, List.getElem?_map, hk, hm] at hys
        exact (Option.some.inj hys).symm
      subst ey
      have hkl := pl_num hp.ok.plok hk
      have hms : m.natAbs < 10 ^ 40 := hs m (by rw [est]; exact List.mem_cons_of_mem _ (List.mem_of_getElem? hm))
      have hml := intL_len hms
      refine pair_to upd_same ⟨rfl, _, rfl, ?_⟩
      refine .inl ⟨_, rfl, lg_of ?_, ?_⟩
      · rw [Int.natAbs_natCast]
        have h9 := hp.ok.plok.2 i (List.getElem?_eq_some_iff.mp hk).1
        rw [List.getD_eq_getElem?_getD, hk] at h9
        have h9 : k ≤ i := h9
        exact Nat.lt_of_le_of_lt (m := 40) (by omega) (by decide)
      · rw [int_text, intL_nat]
        refine ⟨_, _, rfl, rfl, by rw [show (" " : Str) = S [32] from rfl, S_len, S_len]; exact sz_le (by show _ + 1 ≤ _; omega), ?_⟩
        rw [show (" " : Str) = S [32] from rfl, S_cat]
        refine ⟨_, rfl, ?_⟩
        refine .inl ⟨_, rfl, sml_lg hms, ?_⟩
        rw [int_text]
        refine ⟨_, _, rfl, rfl, by rw [S_len, S_len, List.length_append]; exact sz_le (by show _ + 1 + _ ≤ _; omega), ?_⟩
        rw [S_cat, List.append_assoc]
        exact hN _ (Gx.new np2)
    · refine ⟨L, D, _, _, rfl, rfl, g4.lst hL2, hD4, by rw [List.length_map, hzl]; show 1 + _ ≤ _; rw [sizeLine_eq]; omega, fun F nF => ?_⟩
      have gF : Gx (TK K) [] H4 (upd H4 F (.lst ([V.str (S (lineL shopL b0))] ++ (List.zipWith lineL (pl.map TL.numL) rest).map fun l => V.str (S l)))) := Gx.new nF
      have eF : [V.str (S (lineL shopL b0))] ++ ((List.zipWith lineL (pl.map TL.numL) rest).map fun l => V.str (S l)) = (lnsL pl st).map fun l => V.str (S l) := by
        unfold lnsL headsL
        rw [est]
        rfl
      rw [eF] at gF ⊢
      have hll := lns_len hlen
      have g14 := (g12.then g4).then gF
      refine ⟨⟨_, rfl⟩, _, rfl, F, rfl, ⟨_, SqL.of upd_same⟩, fun D2 nD2 => lc_map (T := TK K) gv_list nD2 (fun H g => SqL.of (g.lst upd_same)) (by rw [List.length_map]; omega) ((lnsL pl st).map fun l => V.str (S (l ++ [10]))) (by rw [List.length_map, List.length_map]) (fun i x y H6 H7 Ny hi g6 hy hys hN => ?_) mono_name fun H6 g6 hD6 => ?_⟩
      · obtain ⟨rfl, hx⟩ := hy
        rw [List.length_map] at hi
        rw [List.getElem?_map, List.getElem?_eq_getElem hi] at hx hys
        obtain rfl : x = V.str (S (lnsL pl st)[i]) := (Option.some.inj hx).symm
        obtain rfl : y = V.str (S ((lnsL pl st)[i] ++ [10])) := (Option.some.inj hys).symm
        have h9 := line_len hp.ok hs (List.getElem_mem hi)
        refine ⟨rfl, _, rfl, _, _, rfl, rfl, by rw [show ("\n" : Str) = S [10] from rfl, S_len, S_len]; exact sz_le (by show _ + 1 ≤ _; omega), ?_⟩
        rw [show ("\n" : Str) = S [10] from rfl, S_cat]
        exact hN _ Gx.refl
      · have e1 : ((lnsL pl st).map fun l => V.str (S (l ++ [10]))) = (((lnsL pl st).map (· ++ [10])).map S).map V.str := by rw [List.map_map, List.map_map]; rfl
        rw [e1] at hD6
        refine ⟨_, D2, ((lnsL pl st).map (· ++ [10])).map S, rfl, rfl, .inl (SqL.of hD6), ?_, ?_⟩
        · have h2 := sum_le (k := 47) (xs := (((lnsL pl st).map (· ++ [10])).map S).map (·.length)) (fun x hx => by
            rw [List.map_map, List.map_map] at hx
            obtain ⟨y, hy, rfl⟩ := List.mem_map.mp hx
            show (S (y ++ [10])).length ≤ 47
            rw [S_len, List.length_append, List.length_singleton]
            have := line_len hp.ok hs hy
            omega)
          rw [List.length_map, List.length_map, List.length_map] at h2
          have : (lnsL pl st).length * 47 ≤ 40 * 47 := Nat.mul_le_mul_right _ (by omega)
          have e9 : ("" : Str).length = 0 := by decide
          rw [e9]
          omega
        · rw [show ("" : Str) = S [] from rfl, join_S]
          exact q _ (g14.then g6)
def spOpenT (K : PySem.W.Frag) : Sp := fun vs H Q _ => ∃ p b pl st, vs = [.ref p, .ref b] ∧ PS2 H p b pl st ∧ Sml st ∧ ∀ H', Gx (TK K) [] H H' → Q (.str (S (openL ++ TL.joinL [59] (lnsL pl st)))) H'
theorem calLawOpen (z : Cz P w K mg base) : C8.Cal P w K mg base 2 "_law_open" (spOpenT K) [] := by
  refine mkCal z.fLawOpen z.gLawOpen scLawOpen bLawOpen (fun vs H Q E h => ?_) fun cdv A outer s H vs Q E hr h => ?_
  · obtain ⟨p, b, pl, st, rfl, _⟩ := h
    rfl
  · refine ⟨_, (pss_one (ps_ret (pe_op op_add_str pe_str (pe_join pe_str (pe_slice sl_listQ (pe_split (C8.pe_c (calLawText z) hr (by decide) rfl (pa_cons (pv 0) (pa_cons (pv 1) pa_nil))) pe_str) po_none (po_some (pe_un un_neg pe_int))))))), ?_⟩
    obtain ⟨p, b, pl, st, rfl, hp, hs, q⟩ := h
    have htl := text_len hp.ok hs
    refine ⟨⟨_, rfl⟩, _, rfl, _, rfl, p, b, pl, st, rfl, hp, hs, fun H1 g1 => ?_⟩
    refine ⟨⟨_, rfl⟩, split_to (ys := (lnsL pl st ++ [[]]).map S) rfl (by rw [S_len]; exact sz_le (by omega)) (by rw [show ("\n" : Str) = S [10] from rfl, split_S (by simp) (by decide), text_split]) fun p1 np1 => ?_⟩
    have g2 := Gx.new (T := TK K) (o := .lst (((lnsL pl st ++ [[]]).map S).map V.str)) np1
    refine ⟨1, rfl, -1, rfl, ⟨p1, _, rfl, SqL.of upd_same, fun p2 np2 => ?_⟩⟩
    have e1 : cutV (((lnsL pl st ++ [[]]).map S).map V.str) none (some (-1)) = ((lnsL pl st).map S).map V.str := by
      rw [cut_last, List.map_append, List.map_append]
      exact List.dropLast_concat
    rw [e1]
    refine ⟨_, p2, (lnsL pl st).map S, rfl, rfl, .inl (SqL.of upd_same), ?_, ?_⟩
    · have h2 := sum_le (k := 46) (xs := ((lnsL pl st).map S).map (·.length)) (fun x hx => by
        rw [List.map_map] at hx
        obtain ⟨y, hy, rfl⟩ := List.mem_map.mp hx
        show (S y).length ≤ 46
        rw [S_len]
        exact line_len hp.ok hs hy)
      rw [List.length_map, List.length_map] at h2
      rw [List.length_map]
      have h3 := lns_len hp.ok.len
      have h4 := hp.ok.len
      have h5 := hp.ok.plok.1
      have : (lnsL pl st).length * 46 ≤ 40 * 46 := Nat.mul_le_mul_right _ (by omega)
      have e9 : (";" : Str).length = 1 := by decide
      rw [e9]
      omega
    · rw [show (";" : Str) = S [59] from rfl, join_S]
      have hj := lns_joined hp.ok hs 59
      refine ⟨_, _, rfl, rfl, by rw [show ("open " : Str) = S openL from rfl, S_len, S_len]; exact sz_le (by show 5 + _ ≤ _; omega), ?_⟩
      rw [show ("open " : Str) = S openL from rfl, S_cat]
      exact q _ ((g1.then g2).more np2)
end
end K6

set_option Elab.async false
set_option linter.all false
set_option maxRecDepth 100000
set_option maxHeartbeats 4000000
/-! K6Xc: the law's answers -/
namespace K6
open PySem PySem.Spec PyProof.Rows L2 SX
def asks : List Ask := [.stock, .wait, .cycle, .sold 3, .sold 1000, .maker 3, .maker 1000]
def rowsV : List V := [.str "stock", .str "wait", .str "cycle", .str "sold 3", .str "sold 1000", .str "maker 3", .str "maker 1000"]
def ansV (pl : List Nat) (st : List Int) : List V := asks.map fun r => V.str (S (ansL r pl st))
theorem n3 : TL.numL 3 = [51] := TL.numL_lt (by decide)
theorem n1000 : TL.numL 1000 = [49, 48, 48, 48] := by decide +kernel
theorem row_num (nm : List Nat) (n : Nat) : rowL nm (.int ((n : Nat) : Int)) = nm ++ 32 :: TL.numL n := by
  show nm ++ 32 :: intL ((n : Nat) : Int) = _
  rw [intL_nat]
theorem rows_at {i : Nat} {x : V} (h : rowsV[i]? = some x) : ∃ r, asks[i]? = some r ∧ x = .str (S (rowL (askN r) (askA r))) ∧ AskOk r := by
  have hi : i < 7 := (List.getElem?_eq_some_iff.mp h).1
  match i, hi with
  | 0, _ => cases h; exact ⟨.stock, rfl, rfl, ⟨trivial⟩⟩
  | 1, _ => cases h; exact ⟨.wait, rfl, rfl, ⟨trivial⟩⟩
  | 2, _ => cases h; exact ⟨.cycle, rfl, rfl, ⟨trivial⟩⟩
  | 3, _ => cases h; exact ⟨.sold 3, rfl, by show _ = V.str (S (rowL [115, 111, 108, 100] (.int ((3 : Nat) : Int)))); rw [row_num, n3]; rfl, ⟨⟨by decide, by decide⟩⟩⟩
  | 4, _ => cases h; exact ⟨.sold 1000, rfl, by show _ = V.str (S (rowL [115, 111, 108, 100] (.int ((1000 : Nat) : Int)))); rw [row_num, n1000]; rfl, ⟨⟨by decide, by decide⟩⟩⟩
  | 5, _ => cases h; exact ⟨.maker 3, rfl, by show _ = V.str (S (rowL [109, 97, 107, 101, 114] (.int ((3 : Nat) : Int)))); rw [row_num, n3]; rfl, ⟨⟨by decide, by decide⟩⟩⟩
  | 6, _ => cases h; exact ⟨.maker 1000, rfl, by show _ = V.str (S (rowL [109, 97, 107, 101, 114] (.int ((1000 : Nat) : Int)))); rw [row_num, n1000]; rfl, ⟨⟨by decide, by decide⟩⟩⟩
section
variable {P : Program} {w : World} {K : PySem.W.Frag} {mg : Str → Option Value} {base : Heap}
def spAnswers (K : PySem.W.Frag) : Sp := fun vs H Q _ => ∃ c a l s, vs = [.ref c] ∧ ConAt K H c (.ref a) ∧ LiveAt K H a l s ∧ StOk s.pl s.st ∧ Sml s.st ∧ LamX.Tabs (TK K) H ∧ ∀ H' D, Gx (TK K) [] H H' → H' D = some (.lst (ansV s.pl s.st)) → Q (.ref D) H'
theorem calLawAnswers (z : Cz P w K mg base) : C8.Cal P w K mg base 9 "_law_answers" (spAnswers K) [] := by
  refine mkCal z.fLawAnswers z.gLawAnswers scLawAnswers bLawAnswers (fun vs H Q E h => ?_) fun cdv A outer s H vs Q E hr h => ?_
  · obtain ⟨c, a, l, s, rfl, _⟩ := h
    rfl
  · refine ⟨_, (pss_one (ps_ret (pe_lc (own := [("row", 1)]) (g := gName 1) (tt := tYes) rfl scLawAnswers.nd (pi_list (pe_lst (pa_cons pe_str (pa_cons pe_str (pa_cons pe_str (pa_cons pe_str (pa_cons pe_str (pa_cons pe_str (pa_cons pe_str pa_nil))))))))) (blkOk_by (own := [("row", 1)]) (N := nLawAnswers) (sc := defScope sLawAnswers) (by decide +kernel)) (fun _ _ _ _ _ => (pg_name (i := 1) scLawAnswers.nd rfl (Or.inl rfl))) (fun _ _ _ _ _ => pts_nil) (fun _ _ _ _ _ => (C8.pe_mt (metConsoleSay z) hr (by decide) (pv 0) (pa_cons (pv 1) pa_nil)))))), ?_⟩
    obtain ⟨c, a, l, s, rfl, hc, h, ok, hs, ht, q⟩ := h
    refine ⟨by show 7 ≤ sizeLine; decide, fun L nL => ⟨L, rfl, ⟨_, SqL.of upd_same⟩, fun D nD => ?_⟩⟩
    have gL : Gx (TK K) [] H (upd H L (.lst rowsV)) := Gx.new nL
    refine lc_map (T := TK K) (gv_list (xs := rowsV)) nD (fun H g => SqL.of (g.lst upd_same)) (by show 7 ≤ 1000000; decide) (ansV s.pl s.st) rfl (fun i x y H1 H2 Ny hi g1 hy hys hN => ?_) mono_name fun H1 g1 hD1 => q H1 D (gL.then g1) hD1
    obtain ⟨rfl, hx⟩ := hy
    obtain ⟨r, hr1, rfl, hr2⟩ := rows_at hx
    have ey : y = V.str (S (ansL r s.pl s.st)) := by
      unfold ansV at hys
      rw [List.getElem?_map, hr1] at hys
      exact (Option.some.inj hys).symm
    subst ey
    have g2 := gL.then g1
    have hc2 := hc.keep g2 (by simp)
    obtain ⟨dx, hc3⟩ := hc2.ex
    exact ⟨rfl, _, rfl, c, dx, _, rfl, hc3, rfl, _, rfl, .inr (.inr ⟨c, a, l, s, r, rfl, hc2, h.keep0 g2, hr2, ok, hs, g2.tab ht, fun H' g => hN _ g⟩)⟩
end
end K6

set_option Elab.async false
set_option linter.all false
set_option maxRecDepth 100000
set_option maxHeartbeats 4000000
/-! K6Mh: answers and logs compared; runs of operations -/
namespace K6
open PySem PySem.Spec PyProof.Rows L2 SX
theorem strOk_of {l : List Nat} (h : ∀ c ∈ l, c < 128) : PyData.strOk (S l) = true := by
  unfold PyData.strOk
  rw [← Array.all_toList, List.all_eq_true]
  intro c hc
  have := h c hc
  simp
  omega
theorem ans_small (r : Ask) (pl : List Nat) (st : List Int) : ∀ c ∈ ansL r pl st, c < 128 := by
  have hi : ∀ x : Int, ∀ c ∈ intL x, c < 128 := fun x c hc => by
    have := intL_sign hc
    omega
  cases r with
  | stock =>
    intro c hc
    rcases joinL_mem hc with h | ⟨p, hp, h⟩
    · have : c = 32 := by simpa using h
      omega
    · obtain ⟨x, _, rfl⟩ := List.mem_map.mp hp
      exact hi x c h
  | wait => exact hi _
  | cycle => exact hi _
  | sold d => exact hi _
  | maker d => exact hi _
def ansD (pl : List Nat) (st : List Int) : PyData := .list (asks.map fun r => PyData.str (S (ansL r pl st)))
theorem canAll {ds : List PyData} (h : ∀ d ∈ ds, d.canLay0 = true) : PyData.canLayAll0 ds = true := by
  induction ds with
  | nil => rfl
  | cons d r ih =>
    show (PyData.canLay0 d && PyData.canLayAll0 r) = true
    rw [h d (by simp), ih fun x hx => h x (by simp [hx])]
    rfl
theorem depAll {ds : List PyData} {k : Nat} (h : ∀ d ∈ ds, d.depth ≤ k) : PyData.depthAll ds ≤ k := by
  induction ds with
  | nil => exact Nat.zero_le _
  | cons d r ih =>
    show max (PyData.depth d) (PyData.depthAll r) ≤ k
    exact Nat.max_le.mpr ⟨h d (by simp), ih fun x hx => h x (by simp [hx])⟩
theorem shaped_list {ds : List PyData} {k : Nat} (hk : k ≤ 60) (h : ∀ d ∈ ds, d.canLay0 = true ∧ d.depth ≤ k) : SeqAt.shaped (.list ds) = true := by
  have h1 := canAll fun d hd => (h d hd).1
  have h2 := depAll fun d hd => (h d hd).2
  unfold SeqAt.shaped
  rw [Bool.and_eq_true]
  exact ⟨h1, decide_eq_true (by show PyData.depthAll ds + 1 ≤ 64; omega)⟩
theorem ans_shaped (pl : List Nat) (st : List Int) : SeqAt.shaped (ansD pl st) = true := by
  refine shaped_list (k := 0) (by decide) fun d hd => ?_
  obtain ⟨r, _, rfl⟩ := List.mem_map.mp hd
  exact ⟨strOk_of (ans_small r pl st), Nat.le_refl _⟩
theorem ans_eqv (pl : List Nat) (st : List Int) : PyData.eqv (ansD pl st) (ansD pl st) = true := SeqAt.eqv_refl _ (SeqAt.canLay_of_shaped (ans_shaped pl st))
theorem ans_dp {K : PySem.W.Frag} {H : Hp} {D : Addr} {pl : List Nat} {st : List Int} (h : H D = some (.lst (ansV pl st))) : Dp K H (.ref D) (ansD pl st) :=
  .lst (SqL.of h) (.cons (.str _) (.cons (.str _) (.cons (.str _) (.cons (.str _) (.cons (.str _) (.cons (.str _) (.cons (.str _) .nil)))))))
def opD (op : Op) : PyData := match opA op with
  | .int n => .tuple [.str (S (opN op)), .int n]
  | _ => .tuple [.str (S (opN op))]
theorem opD_ok (op : Op) : (opD op).canLay0 = true ∧ (opD op).depth ≤ 1 := by
  cases op <;> exact ⟨by simp [opD, opA, opN, PyData.canLay0, PyData.canLayAll0, PyData.strOk], by simp [opD, opA, PyData.depth, PyData.depthAll]⟩
theorem op_dp {K : PySem.W.Frag} {H : Hp} {o : Addr} {op : Op} (h : H o = some (.tup (opV op))) : Dp K H (.ref o) (opD op) := by
  cases op with
  | day => exact .tup (SqT.of h) (.cons (.str _) .nil)
  | remove => exact .tup (SqT.of h) (.cons (.str _) .nil)
  | days d => exact .tup (SqT.of h) (.cons (.str _) (.cons (.int _) .nil))
  | sell d => exact .tup (SqT.of h) (.cons (.str _) (.cons (.int _) .nil))
  | add d => exact .tup (SqT.of h) (.cons (.str _) (.cons (.int _) .nil))
theorem ops_dp {K : PySem.W.Frag} {H : Hp} : ∀ {os : List Addr} {ops : List Op}, os.length = ops.length → (∀ (i : Nat) o op, os[i]? = some o → ops[i]? = some op → H o = some (.tup (opV op))) → DpAll K H (os.map V.ref) (ops.map opD)
  | [], [], _, _ => .nil
  | [], _ :: _, h, _ => by simp at h
  | _ :: _, [], h, _ => by simp at h
  | o :: os, op :: ops, h, hi => .cons (op_dp (hi 0 o op rfl rfl)) (ops_dp (by simpa using h) fun i o2 op2 h1 h2 => hi (i + 1) o2 op2 h1 h2)
theorem ops_shaped (ops : List Op) : SeqAt.shaped (.list (ops.map opD)) = true := by
  refine shaped_list (k := 1) (by decide) fun d hd => ?_
  obtain ⟨op, _, rfl⟩ := List.mem_map.mp hd
  exact opD_ok op
theorem rev_ind {α : Type} {P : List α → Prop} (h0 : P []) (h1 : ∀ l a, P l → P (l ++ [a])) (l : List α) : P l := by
  have h : ∀ r : List α, P r.reverse := fun r => by
    induction r with
    | nil => exact h0
    | cons a r ih =>
      rw [List.reverse_cons]
      exact h1 _ _ ih
  have := h l.reverse
  rw [List.reverse_reverse] at this
  exact this
/-! ### runs -/
def run (s : Sta) (ops : List Op) : Sta := ops.foldl (fun s op => doOp op s) s
theorem run_snoc (s : Sta) (ops : List Op) (op : Op) : run s (ops ++ [op]) = doOp op (run s ops) := by
  unfold run
  rw [List.foldl_append]
  rfl
def Good (s : Sta) (ops : List Op) : Prop := ∀ (j : Nat) op, ops[j]? = some op → OpOk op (run s (ops.take j))
theorem Good.nil (s : Sta) : Good s [] := fun j op h => by simp at h
theorem Good.snoc {s : Sta} {ops : List Op} {op : Op} (g : Good s ops) (h : OpOk op (run s ops)) : Good s (ops ++ [op]) := fun j o ho => by
  by_cases hj : j < ops.length
  · rw [List.getElem?_append_left hj] at ho
    rw [List.take_append_of_le_length (by omega)]
    exact g j o ho
  · rw [List.getElem?_append_right (by omega)] at ho
    have hz : j - ops.length = 0 := by
      have := (List.getElem?_eq_some_iff.mp ho).1
      simp at this
      exact this
    rw [hz] at ho
    cases ho
    have : j = ops.length := by omega
    subst this
    rw [List.take_left']
    · exact h
    · rfl
theorem Good.init {s : Sta} {ops : List Op} {op : Op} (g : Good s (ops ++ [op])) : Good s ops := fun j o ho => by
  have hj := (List.getElem?_eq_some_iff.mp ho).1
  have := g j o (by rw [List.getElem?_append_left hj]; exact ho)
  rw [List.take_append_of_le_length (by omega)] at this
  exact this
theorem run_hist {s : Sta} (h : s.hist = []) (ops : List Op) : (run s ops).hist.map (·.1) = ops := by
  refine rev_ind (P := fun ops => (run s ops).hist.map (·.1) = ops) ?_ (fun ops op ih => ?_) ops
  · show s.hist.map (·.1) = []
    rw [h]
    rfl
  · rw [run_snoc]
    show ((run s ops).hist ++ [(op, (run s ops).pl, (run s ops).st)]).map (·.1) = _
    rw [List.map_append, ih]
    rfl
theorem run_hlen {s : Sta} (h : s.hist = []) (ops : List Op) : (run s ops).hist.length = ops.length := by
  have := congrArg List.length (run_hist h ops)
  rw [List.length_map] at this
  exact this
theorem good_sok {s : Sta} {B : Int} (hB : 0 ≤ B) (h : Sok B s) : ∀ {ops : List Op}, Good s ops → Sok (B + ((ops.length : Nat) : Int) * stepB) (run s ops) := by
  intro ops
  refine rev_ind (P := fun ops => Good s ops → Sok (B + ((ops.length : Nat) : Int) * stepB) (run s ops)) ?_ (fun ops op ih => ?_) ops
  · intro _
    exact h.mono (by show B ≤ B + ((0 : Nat) : Int) * stepB; omega)
  · intro g
    rw [run_snoc]
    have h1 := ih g.init
    have h2 := g ops.length op (by rw [List.getElem?_append_right (Nat.le_refl _), Nat.sub_self]; rfl)
    rw [List.take_left' rfl] at h2
    have hs : stepB = 1000000000000000000000000000200 := rfl
    have h3 := do_ok (by rw [hs]; omega) h1 h2
    refine h3.mono ?_
    rw [List.length_append, List.length_singleton, hs]
    omega
end K6

set_option Elab.async false
set_option linter.all false
set_option maxRecDepth 100000
set_option maxHeartbeats 8000000
/-! K6Xd: the law -/
namespace K6
open PySem PySem.Spec PyProof.Rows L2 SX
theorem sqL_keep {K : PySem.W.Frag} {T : TL} {ex : List Addr} {H H' : Hp} {a : Addr} {xs : List V} (h : SqL K H a xs) (g : Gx T ex H H') (n : a ∉ ex) : SqL K H' a xs := by
  rcases h with (h | ⟨o, h⟩) | h
  · exact .inl (.inl (g.oth h (fun ps z => by cases z) n))
  · exact .inl (.inr ⟨o, g.oth h (fun ps z => by cases z) n⟩)
  · exact .inr h
theorem FA.kp {H H' : Hp} {T : TL} {ex : List Addr} {f : Addr} {n m : Nat} (h : FA H f n) (g : Gx T ex H H') (ne : f ∉ ex) (l : n ≤ m) : FA H' f m := (h.keep g ne).mono l
structure Old (H : Hp) (x : Addr) : Prop where
  ex : ∃ o, H x = some o ∧ ∀ ps, o ≠ .tbl ps
theorem Fr.neO {H : Hp} {a b : Addr} (f : Fr H a) (h : Old H b) : a ≠ b := by
  obtain ⟨o, h1, h2⟩ := h.ex
  exact f.ne h1 h2
theorem FA.old {H : Hp} {f : Addr} {n : Nat} (h : FA H f n) : Old H f := by
  obtain ⟨a, b, c, e, _⟩ := h.ex
  exact ⟨_, e, fun ps z => by cases z⟩
theorem ConAt.old {K : PySem.W.Frag} {H : Hp} {c : Addr} {v : V} (h : ConAt K H c v) : Old H c := by
  obtain ⟨dx, e⟩ := h.ex
  exact ⟨_, e, fun ps z => by cases z⟩
theorem LiveAt.old {K : PySem.W.Frag} {H : Hp} {a l : Addr} {s : Sta} (h : LiveAt K H a l s) : Old H a ∧ Old H l ∧ a ≠ l := by
  obtain ⟨dx, c, es, h1, h2, h3⟩ := h.ex
  exact ⟨⟨_, h1, fun ps z => by cases z⟩, ⟨_, h3.top, fun ps z => by cases z⟩, ne_of h1 h3.top (by intro z; cases z)⟩
theorem con_lst {K : PySem.W.Frag} {H : Hp} {c T : Addr} {v : V} {xs : List V} (h : ConAt K H c v) (hT : H T = some (.lst xs)) : T ≠ c := by
  obtain ⟨dx, e⟩ := h.ex
  exact (ne_of e hT (by intro z; cases z)).symm
theorem old_lst {H : Hp} {a : Addr} {xs : List V} (h : H a = some (.lst xs)) : Old H a := ⟨_, h, fun ps z => by cases z⟩
theorem Gx.mk2 {T : TL} {H : Hp} {x dx : Addr} {o : HO} (hx : H x = none) (hdx : H dx = none) (hne : dx ≠ x) : Gx T [] H (upd (upd H dx (.own x)) x o) :=
  (Gx.new hdx).more (by rw [upd_ne hne.symm]; exact hx)
theorem rep_zero (k : Nat) : (List.replicate k [V.int 0]).flatten = iV (nI (List.replicate k 0)) := by
  induction k with
  | zero => rfl
  | succ k ih =>
    rw [List.replicate_succ, List.flatten_cons, ih, List.replicate_succ]
    rfl
theorem zero_ok {pl : List Nat} {st : List Int} (ok : StOk pl st) : StOk (List.replicate pl.length 0) st.reverse := by
  have h1 := ok.len
  have h2 := ok.plok.1
  refine ⟨⟨by rw [List.length_replicate]; exact h2, fun i hi => ?_⟩, by rw [List.length_reverse, List.length_replicate]; exact h1, (List.reverse_perm _).nodup_iff.mpr ok.nd⟩
  rw [List.length_replicate] at hi
  rw [List.getD_eq_getElem?_getD, List.getElem?_replicate, if_pos hi]
  exact Nat.zero_le _
theorem bnd_sml {st : List Int} {B : Int} (h : Bnd (-B) B st) (hB : B ≤ 1000000000000000000000000000000000000000) : Sml st := fun x hx => by
  have := h x hx
  omega
theorem nd_false {p : Prop} [Decidable p] (h : p) : (!decide p) = false := by
  rw [decide_eq_true h]
  rfl
theorem shop7 : ("open shop 7" : Str) = S (openL ++ TL.joinL [59] (lnsL [] [7])) :=
  congrArg S (by decide +kernel : [111, 112, 101, 110, 32, 115, 104, 111, 112, 32, 55] = openL ++ TL.joinL [59] (lnsL [] [7]))
theorem ok7 : StOk [] [7] := ⟨⟨by decide, fun i hi => absurd hi (Nat.not_lt_zero _)⟩, rfl, by simp⟩
theorem sml7 : Sml [7] := fun x hx => by
  have : x = 7 := by simpa using hx
  rw [this]
  decide
structure Ds (f c1 c2 ac lc ah lh ao lo O : Addr) : Prop where
  nf : c1 ≠ f ∧ c2 ≠ f ∧ ac ≠ f ∧ lc ≠ f ∧ ah ≠ f ∧ lh ≠ f ∧ ao ≠ f ∧ lo ≠ f ∧ O ≠ f
  nO : c1 ≠ O ∧ c2 ≠ O ∧ ac ≠ O ∧ lc ≠ O ∧ ah ≠ O ∧ lh ≠ O ∧ ao ≠ O ∧ lo ≠ O
  nc : c1 ≠ ac ∧ c1 ≠ lc ∧ c2 ≠ ac ∧ c2 ≠ lc ∧ ah ≠ ac ∧ ah ≠ lc ∧ lh ≠ ac ∧ lh ≠ lc ∧ ao ≠ ac ∧ ao ≠ lc ∧ lo ≠ ac ∧ lo ≠ lc
  nh : c1 ≠ ah ∧ c1 ≠ lh ∧ c2 ≠ ah ∧ c2 ≠ lh ∧ ac ≠ ah ∧ ac ≠ lh ∧ lc ≠ ah ∧ lc ≠ lh ∧ ao ≠ ah ∧ ao ≠ lh ∧ lo ≠ ah ∧ lo ≠ lh
structure Fx (K : PySem.W.Frag) (H2 : Hp) (f c1 c2 ac lc ah lh ao lo O : Addr) (s0 s1 s2 : Sta) (H : Hp) (N : Nat) (os : List Addr) (ops : List Op) : Prop where
  fa : FA H f N
  con1 : ConAt K H c1 (.ref ac)
  live1 : LiveAt K H ac lc s1
  liveh : LiveAt K H ah lh s2
  con2 : ConAt K H c2 (.ref ao)
  liveo : LiveAt K H ao lo s0
  ol : H O = some (.lst (os.map V.ref))
  len : os.length = ops.length
  it : ∀ (i : Nat) o op, os[i]? = some o → ops[i]? = some op → H o = some (.tup (opV op))
  gx : Gx (TK K) [] H2 H
  frs : Fr H2 f ∧ Fr H2 ac ∧ Fr H2 lc ∧ Fr H2 ah ∧ Fr H2 lh ∧ Fr H2 O
section
variable {K : PySem.W.Frag} {H2 : Hp} {f c1 c2 ac lc ah lh ao lo O : Addr} {s0 s1 s2 : Sta} {H X : Hp} {N M : Nat} {os : List Addr} {ops : List Op}
theorem Fx.keep (x : Fx K H2 f c1 c2 ac lc ah lh ao lo O s0 s1 s2 H N os ops) (g : Gx (TK K) [] H X) : Fx K H2 f c1 c2 ac lc ah lh ao lo O s0 s1 s2 X N os ops :=
  ⟨x.fa.keep g (by simp), x.con1.keep g (by simp), x.live1.keep0 g, x.liveh.keep0 g, x.con2.keep g (by simp), x.liveo.keep0 g, g.lst x.ol, x.len, fun i o op h1 h2 => g.tup (x.it i o op h1 h2), x.gx.then g, x.frs⟩
theorem Fx.oth (d : Ds f c1 c2 ac lc ah lh ao lo O) (x : Fx K H2 f c1 c2 ac lc ah lh ao lo O s0 s1 s2 H N os ops) (g : Gx (TK K) [ao, lo] H X) {s3 : Sta} (h : LiveAt K X ao lo s3) (f1 : Fr H2 ao) (f2 : Fr H2 lo) : Fx K H2 f c1 c2 ac lc ah lh ao lo O s3 s1 s2 X N os ops := by
  have n1 := x.liveo.ne_con x.con1
  have n2 := x.liveo.ne_con x.con2
  obtain ⟨_, _, _, _, _, _, _, _, n9, n10, n11, n12⟩ := d.nc
  obtain ⟨_, _, _, _, _, _, _, _, m9, m10, m11, m12⟩ := d.nh
  exact ⟨x.fa.keep g (by simp only [List.mem_cons, List.not_mem_nil, or_false, not_or]; exact ⟨d.nf.2.2.2.2.2.2.1.symm, d.nf.2.2.2.2.2.2.2.1.symm⟩), x.con1.keep g n1, x.live1.keep g (by simp only [List.mem_cons, List.not_mem_nil, or_false, not_or]; exact ⟨n9.symm, n11.symm⟩) (by simp only [List.mem_cons, List.not_mem_nil, or_false, not_or]; exact ⟨n10.symm, n12.symm⟩), x.liveh.keep g (by simp only [List.mem_cons, List.not_mem_nil, or_false, not_or]; exact ⟨m9.symm, m11.symm⟩) (by simp only [List.mem_cons, List.not_mem_nil, or_false, not_or]; exact ⟨m10.symm, m12.symm⟩), x.con2.keep g n2, h,
    g.lstX x.ol (by simp only [List.mem_cons, List.not_mem_nil, or_false, not_or]; exact ⟨d.nO.2.2.2.2.2.2.1.symm, d.nO.2.2.2.2.2.2.2.symm⟩), x.len, fun i o op h1 h2 => g.tup (x.it i o op h1 h2), x.gx.trans g fun y hy => .inr (by
      rcases List.mem_cons.mp hy with e | e
      · rw [e]
        exact f1
      · rw [List.mem_singleton.mp e]
        exact f2), x.frs⟩
theorem Good.take {s : Sta} {ops : List Op} (g : Good s ops) (j : Nat) : Good s (ops.take j) := fun i op h => by
  have hi := (List.getElem?_eq_some_iff.mp h).1
  rw [List.length_take] at hi
  rw [List.getElem?_take, if_pos (by omega)] at h
  have := g i op h
  rw [List.take_take, Nat.min_eq_left (by omega)]
  exact this
theorem hist_at {s : Sta} (h : s.hist = []) {ops : List Op} {i : Nat} {op : Op} (e : ops[i]? = some op) : ∃ x, (run s ops).hist[i]? = some x ∧ x.1 = op := by
  have h1 := run_hist h ops
  have h2 : ((run s ops).hist.map (·.1))[i]? = some op := by rw [h1]; exact e
  rw [List.getElem?_map] at h2
  cases hx : (run s ops).hist[i]? with
  | none => rw [hx] at h2; cases h2
  | some x =>
    rw [hx] at h2
    exact ⟨x, rfl, Option.some.inj h2⟩
theorem Fx.le (x : Fx K H2 f c1 c2 ac lc ah lh ao lo O s0 s1 s2 H N os ops) (h : N ≤ M) : Fx K H2 f c1 c2 ac lc ah lh ao lo O s0 s1 s2 H M os ops :=
  ⟨x.fa.mono h, x.con1, x.live1, x.liveh, x.con2, x.liveo, x.ol, x.len, x.it, x.gx, x.frs⟩
theorem shown_to {Q : VK} {op : Op} {s : Sta} (ok : StOk s.pl s.st) (sml : Sml s.st) (hok : OpOk op s) (q : Q (.str (S (copR (.op op) s))) H) : ShownP [retV op s] H Q := by
  have hb : ∀ v, v ≤ s.pl.length → (bx s.st v).natAbs.log2 < 1920 := fun v hv => sml_lg (sml _ (bx_mem (by rw [ok.len]; omega)))
  cases op with
  | day => exact ⟨.inr ⟨_, rfl, hb 0 (Nat.zero_le _), q⟩⟩
  | sell v => exact ⟨.inr ⟨_, rfl, hb v hok.ok, q⟩⟩
  | days d => exact ⟨.inl ⟨rfl, q⟩⟩
  | add v => exact ⟨.inl ⟨rfl, q⟩⟩
  | remove => exact ⟨.inl ⟨rfl, q⟩⟩
theorem Fx.sip (d : Ds f c1 c2 ac lc ah lh ao lo O) (x : Fx K H2 f c1 c2 ac lc ah lh ao lo O s0 s1 s2 H N os ops) (g : Gx (TK K) [f] H X) (h : FA X f M) : Fx K H2 f c1 c2 ac lc ah lh ao lo O s0 s1 s2 X M os ops := by
  obtain ⟨n1, n2, n3, n4, n5, n6, n7, n8, n9⟩ := d.nf
  exact ⟨h, x.con1.keep g (by simpa using n1), x.live1.keep g (by simpa using n3) (by simpa using n4), x.liveh.keep g (by simpa using n5) (by simpa using n6), x.con2.keep g (by simpa using n2), x.liveo.keep g (by simpa using n7) (by simpa using n8), g.lstX x.ol (by simpa using n9), x.len, fun i o op h1 h2 => g.tup (x.it i o op h1 h2),
    x.gx.trans g fun y hy => .inr (by rw [List.mem_singleton.mp hy]; exact x.frs.1), x.frs⟩
theorem Fx.con (d : Ds f c1 c2 ac lc ah lh ao lo O) (x : Fx K H2 f c1 c2 ac lc ah lh ao lo O s0 s1 s2 H N os ops) (g : Gx (TK K) [ac, lc] H X) {s3 : Sta} (h : LiveAt K X ac lc s3) : Fx K H2 f c1 c2 ac lc ah lh ao lo O s0 s3 s2 X N os ops := by
  obtain ⟨n1, n2, n3, n4, n5, n6, n7, n8, n9, n10, n11, n12⟩ := d.nc
  exact ⟨x.fa.keep g (by simp only [List.mem_cons, List.not_mem_nil, or_false, not_or]; exact ⟨d.nf.2.2.1.symm, d.nf.2.2.2.1.symm⟩), x.con1.keep g (by simp only [List.mem_cons, List.not_mem_nil, or_false, not_or]; exact ⟨n1, n2⟩), h, x.liveh.keep g (by simp only [List.mem_cons, List.not_mem_nil, or_false, not_or]; exact ⟨n5, n6⟩) (by simp only [List.mem_cons, List.not_mem_nil, or_false, not_or]; exact ⟨n7, n8⟩), x.con2.keep g (by simp only [List.mem_cons, List.not_mem_nil, or_false, not_or]; exact ⟨n3, n4⟩), x.liveo.keep g (by simp only [List.mem_cons, List.not_mem_nil, or_false, not_or]; exact ⟨n9, n10⟩) (by simp only [List.mem_cons, List.not_mem_nil, or_false, not_or]; exact ⟨n11, n12⟩),
    g.lstX x.ol (by simp only [List.mem_cons, List.not_mem_nil, or_false, not_or]; exact ⟨d.nO.2.2.1.symm, d.nO.2.2.2.1.symm⟩), x.len, fun i o op h1 h2 => g.tup (x.it i o op h1 h2), x.gx.trans g fun y hy => .inr (by
      rcases List.mem_cons.mp hy with e | e
      · rw [e]
        exact x.frs.2.1
      · rw [List.mem_singleton.mp e]
        exact x.frs.2.2.1), x.frs⟩
theorem Fx.liv (d : Ds f c1 c2 ac lc ah lh ao lo O) (x : Fx K H2 f c1 c2 ac lc ah lh ao lo O s0 s1 s2 H N os ops) (g : Gx (TK K) [ah, lh] H X) {s3 : Sta} (h : LiveAt K X ah lh s3) : Fx K H2 f c1 c2 ac lc ah lh ao lo O s0 s1 s3 X N os ops := by
  obtain ⟨n1, n2, n3, n4, n5, n6, n7, n8, n9, n10, n11, n12⟩ := d.nh
  exact ⟨x.fa.keep g (by simp only [List.mem_cons, List.not_mem_nil, or_false, not_or]; exact ⟨d.nf.2.2.2.2.1.symm, d.nf.2.2.2.2.2.1.symm⟩), x.con1.keep g (by simp only [List.mem_cons, List.not_mem_nil, or_false, not_or]; exact ⟨n1, n2⟩), x.live1.keep g (by simp only [List.mem_cons, List.not_mem_nil, or_false, not_or]; exact ⟨n5, n6⟩) (by simp only [List.mem_cons, List.not_mem_nil, or_false, not_or]; exact ⟨n7, n8⟩), h, x.con2.keep g (by simp only [List.mem_cons, List.not_mem_nil, or_false, not_or]; exact ⟨n3, n4⟩), x.liveo.keep g (by simp only [List.mem_cons, List.not_mem_nil, or_false, not_or]; exact ⟨n9, n10⟩) (by simp only [List.mem_cons, List.not_mem_nil, or_false, not_or]; exact ⟨n11, n12⟩),
    g.lstX x.ol (by simp only [List.mem_cons, List.not_mem_nil, or_false, not_or]; exact ⟨d.nO.2.2.2.2.1.symm, d.nO.2.2.2.2.2.1.symm⟩), x.len, fun i o op h1 h2 => g.tup (x.it i o op h1 h2), x.gx.trans g fun y hy => .inr (by
      rcases List.mem_cons.mp hy with e | e
      · rw [e]
        exact x.frs.2.2.2.1
      · rw [List.mem_singleton.mp e]
        exact x.frs.2.2.2.2.1), x.frs⟩
theorem Fx.put (d : Ds f c1 c2 ac lc ah lh ao lo O) (x : Fx K H2 f c1 c2 ac lc ah lh ao lo O s0 s1 s2 H N os ops) {os2 : List Addr} {ops2 : List Op} (hl : os2.length = ops2.length) (hi : ∀ (i : Nat) o op, os2[i]? = some o → ops2[i]? = some op → H o = some (.tup (opV op))) :
    Fx K H2 f c1 c2 ac lc ah lh ao lo O s0 s1 s2 (upd H O (.lst (os2.map V.ref))) N os2 ops2 := by
  have g : Gx (TK K) [O] H (upd H O (.lst (os2.map V.ref))) := Gx.set x.ol trivial
  obtain ⟨n1, n2, n3, n4, n5, n6, n7, n8⟩ := d.nO
  exact ⟨x.fa.keep g (by simpa using d.nf.2.2.2.2.2.2.2.2.symm), x.con1.keep g (by simpa using n1), x.live1.keep g (by simpa using n3) (by simpa using n4), x.liveh.keep g (by simpa using n5) (by simpa using n6), x.con2.keep g (by simpa using n2), x.liveo.keep g (by simpa using n7) (by simpa using n8), upd_same, hl, fun i o op h1 h2 => g.tup (hi i o op h1 h2),
    x.gx.trans g fun y hy => .inr (by rw [List.mem_singleton.mp hy]; exact x.frs.2.2.2.2.2), x.frs⟩
end
section
variable {P : Program} {w : World} {K : PySem.W.Frag} {mg : Str → Option Value} {base : Heap}
def spLaw (K : PySem.W.Frag) : Sp := fun vs H Q _ => ∃ (a : Addr) (ns : List Int), vs = [.ref a] ∧ SqL K H a (ns.map V.int) ∧ ns.length ≤ 63 ∧ LamX.Tabs (TK K) H ∧ ∀ H', Q (.bl true) H'
theorem okLaw (z : Cz P w K mg base) {fd : FuncData} (FL : FnP K "law" sLaw (He.ga K "law") fd) : FnOk P w K mg base C8.CX0 10 (He.ga K "law") fd pLaw (spLaw K) := by
  obtain ⟨fd0, F0⟩ := z.fLivePlantInit
  obtain ⟨mv, hkb⟩ := kbLiveInit F0
  obtain ⟨cf, cfd, cps, cds, cM, cF, cH, cB, cD⟩ := (makConsole z).ex
  refine mkFn FL scLaw (fun vs H Q E h => ?_) fun cdv A outer s H vs Q E hr h => ?_
  · obtain ⟨a, ns, rfl, _⟩ := h
    rfl
  · refine ⟨_, (pss_cons (ps_for PassesOwn.never rfl (pi_range1 rfl z.nrange (pa_cons (pe_callB (call_max2Q rfl) (by rfl) z.nmax (by decide +kernel) (pa_cons pe_int (pa_cons (pe_callB (call_min2 rfl) (by rfl) z.nmin (by decide +kernel) (pa_cons pe_int (pa_cons (pe_callB call_lenQ (by rfl) z.nlen PySem.boot_len (pa_cons (pv 0) pa_nil)) pa_nil))) pa_nil))) pa_nil)) (pg_name (i := 1) scLaw.nd rfl (Or.inl rfl)) (pss_cons (ps_set (i := 2) scLaw.nd rfl (Or.inl rfl) (C8.pe_c (calLawFount z) hr (by decide) rfl (pa_cons (pv 0) (pa_cons (pv 1) pa_nil))))
  (pss_cons (ps_set (i := 3) scLaw.nd rfl (Or.inl rfl) (C8.pe_c (calLawGrown z) hr (by decide) rfl (pa_cons (pv 2) (pa_cons (pe_ix ix_list (pe_lst (pa_cons pe_int (pa_cons pe_int pa_nil))) (C8.pe_c (calLawSip z) hr (by decide) rfl (pa_cons (pv 2) (pa_cons pe_int pa_nil))) (fun _ _ => rfl)) pa_nil))))
  (pss_cons (ps_set (i := 4) scLaw.nd rfl (Or.inl rfl) (C8.pe_c (calLawFilled z) hr (by decide) rfl (pa_cons (pv 2) (pa_cons (pv 3) pa_nil))))
  (pss_cons (ps_par3 (i := 5) (j := 6) (l := 7) rfl scLaw.nd rfl rfl rfl (by decide) (by decide) (by decide) rfl rfl rfl (pa_cons (pe_make0 cM cF (hr.mono (by decide)) rfl cH cB cD (C8.pass0 (E := C8.E0))) (pa_cons (pe_make0 cM cF (hr.mono (by decide)) rfl cH cB cD (C8.pass0 (E := C8.E0))) (pa_cons (pe_makeN z.mLivePlant (fnLiveInit z F0) (hr.mono (by decide)) rfl z.gLivePlant hkb (C8.pass0 (E := C8.E0)) (pa_cons (pv 3) pa_nil) (pk_cons (pv 4) pk_nil)) pa_nil))) (by rfl))
  (pss_cons (ps_set (i := 8) scLaw.nd rfl (Or.inl rfl) (pe_lst pa_nil))
  (pss_cons (ps_if (pt_cmpR op_ne (C8.pe_mt (metConsoleSay z) hr (by decide) (pv 5) (pa_cons (C8.pe_c (calLawOpen z) hr (by decide) rfl (pa_cons (pe_op op_repAQ (pe_tup (pa_cons pe_int pa_nil)) (pe_callB call_lenQ (by rfl) z.nlen PySem.boot_len (pa_cons (pv 3) pa_nil))) (pa_cons (pe_revT (pv 4)) pa_nil))) pa_nil)) pe_str (nomark _)) (pss_one (ps_ret pe_bl)) pss_nil)
  (pss_cons (ps_set (i := 9) scLaw.nd rfl (Or.inl rfl) (C8.pe_c (calLawAnswers z) hr (by decide) rfl (pa_cons (pv 5) pa_nil)))
  (pss_cons (ps_for PassesOwn.never rfl (pi_tup (pe_tup (pa_cons (pv 5) (pa_cons (pv 6) pa_nil)))) (pg_name (i := 10) scLaw.nd rfl (Or.inl rfl)) (pss_one (ps_if (PW.pt (pw_or (pt_cmpR op_ne (pe_callB call_lenQ (by rfl) z.nlen PySem.boot_len (pa_cons (pv 9) pa_nil)) pe_int (nomark _)) (pw_or (pt_cmpR op_ne (C8.pe_mt (metConsoleSay z) hr (by decide) (pv 10) (pa_cons pe_str pa_nil)) pe_str (nomark _)) (pw_or1 (pt_cmpR op_ne (C8.pe_mt (metConsoleSay z) hr (by decide) (pv 10) (pa_cons (C8.pe_c (calLawOpen z) hr (by decide) rfl (pa_cons (pv 3) (pa_cons (pv 4) pa_nil))) pa_nil)) pe_str (nomark _)))))) (pss_one (ps_ret pe_bl)) pss_nil)))
  (pss_cons (ps_if (pt_cmpR (op_neD hr.units) (C8.pe_c (calLawAnswers z) hr (by decide) rfl (pa_cons (pv 5) pa_nil)) (C8.pe_c (calLawAnswers z) hr (by decide) rfl (pa_cons (pv 6) pa_nil)) (nomark _)) (pss_one (ps_ret pe_bl)) pss_nil)
  (pss_cons (ps_for PassesOwn.never rfl (pi_range1 rfl z.nrange (pa_cons (C8.pe_c (calLawSip z) hr (by decide) rfl (pa_cons (pv 2) (pa_cons (pe_ix ix_list (pe_lst (pa_cons pe_int (pa_cons (pe_ix ix_list (pe_lst (pa_cons pe_int (pa_cons pe_int pa_nil))) (pe_callTy call_int1 (by rfl) z.nint (by decide +kernel) (pa_cons (pe_cmpR op_eq (pv 1) pe_int (nomark _)) pa_nil)) (fun _ _ => rfl)) pa_nil))) (C8.pe_c (calLawSip z) hr (by decide) rfl (pa_cons (pv 2) (pa_cons pe_int pa_nil))) (fun _ _ => rfl)) pa_nil))) pa_nil)) (pg_name (i := 11) scLaw.nd rfl (Or.inl rfl)) (pss_cons (ps_if (PW.pt (pw_and (pt_cmpR (op_neL0 hr.units) (pv 8) (pe_lst pa_nil) (nomark _)) (pw_and1 (pt_cmpR op_eq (C8.pe_c (calLawSip z) hr (by decide) rfl (pa_cons (pv 2) (pa_cons pe_int pa_nil))) pe_int (nomark _))))) (pss_cons (ps_expr (pe_bm0 PySem.F.plainAttrs_list PySem.F.slot_list_pop PySem.F.type_list_pop mt_pop (pv 8)))
  (pss_cons (ps_expr (C8.pe_mt0 (metLivePlantUndo z) hr (by decide) (pv 7)))
  (pss_one (ps_if (pt_cmpR op_ne (C8.pe_mt (metConsoleSay z) hr (by decide) (pv 5) (pa_cons pe_str pa_nil)) pe_str (nomark _)) (pss_one (ps_ret pe_bl)) pss_nil)))) (pss_cons (ps_expr (pe_bm PySem.F.plainAttrs_list PySem.F.slot_list_append PySem.F.type_list_append mt_append (pv 8) (pa_cons (C8.pe_c (calLawOperation z) hr (by decide) rfl (pa_cons (pv 2) (pa_cons (pe_tup (pa_cons (C8.pe_mt0 (metLivePlantPlant z) hr (by decide) (pv 7)) (pa_cons (C8.pe_mt0 (metLivePlantStock z) hr (by decide) (pv 7)) pa_nil))) (pa_cons pe_int (pa_cons (pe_op op_powW pe_int pe_int) pa_nil))))) pa_nil)))
  (pss_one (ps_if (pt_cmpR op_ne (C8.pe_mt (metConsoleSay z) hr (by decide) (pv 5) (pa_cons (C8.pe_c (calLawRow z) hr (by decide) rfl (pa_cons (pe_ix ix_list (pv 8) (pe_un un_neg pe_int) (fun _ _ => rfl)) pa_nil)) pa_nil)) (C8.pe_c (calLawShown z) hr (by decide) rfl (pa_cons (C8.pe_c (calLawDone z) hr (by decide) rfl (pa_cons (pv 7) (pa_cons (pe_ix ix_list (pv 8) (pe_un un_neg pe_int) (fun _ _ => rfl)) pa_nil))) pa_nil)) (nomark _)) (pss_one (ps_ret pe_bl)) pss_nil))))
  (pss_one (ps_if (pt_cmpR op_ne (C8.pe_mt (metConsoleSay z) hr (by decide) (pv 5) (pa_cons pe_str pa_nil)) (pe_join pe_str (pe_lc (own := [("box", 13)]) (g := gName 13) (tt := tYes) rfl scLaw.nd (pi_tup (C8.pe_mt0 (metLivePlantStock z) hr (by decide) (pv 7))) (blkOk_by (own := [("box", 13)]) (N := nLaw) (sc := defScope sLaw) (by decide +kernel)) (fun _ _ _ _ _ => (pg_name (i := 13) scLaw.nd rfl (Or.inl rfl))) (fun _ _ _ _ _ => pts_nil) (fun _ _ _ _ _ => (pe_callTy call_strA (by rfl) z.nstr (by decide +kernel) (pa_cons (pv 13) pa_nil))))) (nomark _)) (pss_one (ps_ret pe_bl)) pss_nil))))
  (pss_cons (ps_if (pt_cmpR (op_neD hr.units) (C8.pe_mt0 (metLivePlantLog z) hr (by decide) (pv 7)) (pv 8) (nomark _)) (pss_one (ps_ret pe_bl)) pss_nil)
  (pss_cons (ps_for PassesOwn.never rfl (pi_list (pv 8)) (pg_name (i := 12) scLaw.nd rfl (Or.inl rfl)) (pss_one (ps_expr (C8.pe_mt (metConsoleSay z) hr (by decide) (pv 6) (pa_cons (C8.pe_c (calLawRow z) hr (by decide) rfl (pa_cons (pv 12) pa_nil)) pa_nil)))))
  (pss_one (ps_if (pt_cmpR (op_neD hr.units) (C8.pe_c (calLawAnswers z) hr (by decide) rfl (pa_cons (pv 6) pa_nil)) (C8.pe_c (calLawAnswers z) hr (by decide) rfl (pa_cons (pv 5) pa_nil)) (nomark _)) (pss_one (ps_ret pe_bl)) pss_nil)))))))))))))))
  (pss_one (ps_ret pe_bl))), ?_⟩
    obtain ⟨a, ns, rfl, ha, hns, ht, q⟩ := h
    have mb : ∀ {k : Nat}, k ≤ 1000 → k < 2 ^ 250 := fun {k} h => Nat.lt_of_le_of_lt h (by decide)
    have hNb : ∀ n : Nat, 0 ≤ (if (if ((n : Nat) : Int) < 3 then ((n : Nat) : Int) else 3) > 1 then (if ((n : Nat) : Int) < 3 then ((n : Nat) : Int) else 3) else 1) ∧ (if (if ((n : Nat) : Int) < 3 then ((n : Nat) : Int) else 3) > 1 then (if ((n : Nat) : Int) < 3 then ((n : Nat) : Int) else 3) else (1 : Int)) ≤ 3 := fun n => by
      constructor <;> (split <;> split <;> omega)
    obtain ⟨hN0, hN3⟩ := hNb (ns.map V.int).length
    refine ⟨_, rfl, a, _, rfl, .inl ha, _, _, rfl, _, _, rfl, _, rfl, by omega, by omega, ?_⟩
    generalize (if (if (((ns.map V.int).length : Nat) : Int) < 3 then (((ns.map V.int).length : Nat) : Int) else 3) > 1 then (if (((ns.map V.int).length : Nat) : Int) < 3 then (((ns.map V.int).length : Nat) : Int) else 3) else (1 : Int)) = N at *
    refine for_gen (gv_range (n := N.toNat)) (fun i σ H1 => (∃ s1 s2 s3 s4 s5 s6 s7 s8 s9 s10 s11 s12 s13, σ = [some (.ref a), s1, s2, s3, s4, s5, s6, s7, s8, s9, s10, s11, s12, s13]) ∧ Gx (TK K) [] H H1) ⟨⟨_, _, _, _, _, _, _, _, _, _, _, _, _, rfl⟩, Gx.refl⟩ (fun _ _ _ _ _ => trivial) (fun i x σ H1 H2 hi pv y => ?_) fun σ H1 pv => ?_
    · obtain ⟨⟨s1, s2, s3, s4, s5, s6, s7, s8, s9, s10, s11, s12, s13, rfl⟩, g1⟩ := pv
      obtain ⟨rfl, rfl⟩ := y
      have ht1 := g1.tab ht
      have ha1 := sqL_keep ha g1 (by simp)
      refine ⟨_, rfl, _, rfl, a, ns, i, by rw [Int.zero_add]; rfl, ha1, by omega, fun H3 f g3 ff hf3 => ?_⟩
      refine ⟨_, rfl, by show 2 ≤ sizeLine; decide, fun L1 nL1 => ?_⟩
      have gL1 : Gx (TK K) [] H3 (upd H3 L1 (.lst [.int 9, .int 40])) := Gx.new nL1
      have hfL1 := hf3.keep gL1 (by simp)
      have nfL1 := hf3.ne_of nL1
      refine ⟨_, rfl, f, 2, 0, rfl, by decide, mb (by decide), hfL1, by omega, fun H4 r4 hr4 g4 hf4 => ?_⟩
      have hL4 := g4.lstX (l := L1) upd_same (by simpa using nfL1.symm)
      obtain ⟨mo, hm1, hm2, hz⟩ : ∃ mo : Nat, 1 ≤ mo ∧ mo ≤ 40 ∧ [V.int 9, .int 40][r4]? = some (.int ((mo : Nat) : Int)) := by
        match r4, hr4 with
        | 0, _ => exact ⟨9, by decide, by decide, rfl⟩
        | 1, _ => exact ⟨40, by decide, by decide, rfl⟩
      refine ⟨L1, _, _, _, rfl, rfl, SqL.of hL4, atI_nat hz, f, mo, 1, rfl, hm1, hm2, hf4, by omega, fun H5 p pl g5 hf5 hp5 ok => ?_⟩
      refine ⟨_, rfl, _, rfl, f, p, pl, 101, rfl, hp5, ok, hf5, by omega, fun H6 b st g6 hf6 hb6 sok bnd => ?_⟩
      have gf : ∀ {X Y : Hp}, Gx (TK K) [] H2 X → Gx (TK K) [f] X Y → Gx (TK K) [] H2 Y := fun g h => g.trans h fun y hy => .inr (by rw [List.mem_singleton.mp hy]; exact ff)
      have gA6 := gf (gf (gf (g3.then gL1) g4) g5) g6
      have ps6 : PS2 H6 p b pl st := ⟨g6.tup hp5, hb6, sok⟩
      have sml := bnd_sml bnd (by decide)
      refine fun c1 x1 nc1 nx1 ne1 => ⟨c1, x1, rfl, upd_same, fun H7 g7 h7 => ⟨rfl, fun c2 x2 nc2 nx2 ne2 => ⟨c2, x2, rfl, upd_same, fun H8 g8 h8 => ⟨rfl, ?_⟩⟩⟩⟩
      have m1 := Gx.mk2 (T := TK K) (o := .ins (He.ga K "Console") x1 []) nc1 nx1 ne1
      have gN7 : Gx (TK K) [] H6 H7 := m1.trans g7 fun y hy => .inr (by rw [List.mem_singleton.mp hy]; exact Fr.of nc1)
      have m2 := Gx.mk2 (T := TK K) (o := .ins (He.ga K "Console") x2 []) nc2 nx2 ne2
      have gN8 : Gx (TK K) [] H7 H8 := m2.trans g8 fun y hy => .inr (by rw [List.mem_singleton.mp hy]; exact Fr.of nc2)
      have gN68 := gN7.then gN8
      have ps8 := ps6.keep gN68
      refine ⟨_, rfl, _, rfl, rfl, rfl, fun ah x3 nah nx3 ne3 => ?_⟩
      have m3 := Gx.mk2 (T := TK K) (o := .ins (He.ga K "LivePlant") x3 []) nah nx3 ne3
      refine ⟨ah, x3, p, b, pl, st, rfl, upd_same, ps8.keep m3, fun H9 lh g9 flh hlh => ⟨rfl, ?_⟩⟩
      have gN9 : Gx (TK K) [] H8 H9 := m3.trans g9 fun y hy => .inr (by rw [List.mem_singleton.mp hy]; exact Fr.of nah)
      have flh8 : Fr H8 lh := flh.back m3
      have hc1 : ConAt K H9 c1 .non := ConAt.keep (ConAt.keep ⟨x1, h7⟩ gN8 (by simp)) gN9 (by simp)
      have hc2 : ConAt K H9 c2 .non := ConAt.keep ⟨x2, h8⟩ gN9 (by simp)
      have hf9 := (hf6.keep gN68 (by simp)).keep gN9 (by simp)
      have gA9 := (gA6.then gN68).then gN9
      have ps9 := ps8.keep gN9
      have d_c1f : c1 ≠ f := (Fr.of nc1).neO hf6.old
      have d_c2f : c2 ≠ f := (Fr.of nc2).neO (hf6.keep gN7 (by simp)).old
      have d_c2c1 : c2 ≠ c1 := (Fr.of nc2).neO (ConAt.old ⟨x1, h7⟩)
      have hf8 := hf6.keep gN68 (by simp)
      have hc18 : ConAt K H8 c1 .non := ConAt.keep ⟨x1, h7⟩ gN8 (by simp)
      have d_ahf : ah ≠ f := (Fr.of nah).neO hf8.old
      have d_ahc1 : ah ≠ c1 := (Fr.of nah).neO hc18.old
      have d_ahc2 : ah ≠ c2 := (Fr.of nah).neO (ConAt.old ⟨x2, h8⟩)
      have d_lhf : lh ≠ f := flh8.neO hf8.old
      have d_lhc1 : lh ≠ c1 := flh8.neO hc18.old
      have d_lhc2 : lh ≠ c2 := flh8.neO (ConAt.old ⟨x2, h8⟩)
      have d_ahlh := hlh.old.2.2
      refine ⟨_, _, _, rfl, Nat.zero_le _, fun O nO => ?_⟩
      have gO : Gx (TK K) [] H9 (upd H9 O (.lst [])) := Gx.new nO
      have d_Of : O ≠ f := (Fr.of nO).neO hf9.old
      have d_Oc1 : O ≠ c1 := (Fr.of nO).neO hc1.old
      have d_Oc2 : O ≠ c2 := (Fr.of nO).neO hc2.old
      have d_Oah : O ≠ ah := (Fr.of nO).neO hlh.old.1
      have d_Olh : O ≠ lh := (Fr.of nO).neO hlh.old.2.1
      have hO : upd H9 O (.lst []) O = some (.lst []) := upd_same
      generalize hHA : upd H9 O (.lst []) = HA at *
      have gAA := gA9.then gO
      have hc1 := hc1.keep gO (by simp)
      have hc2 := hc2.keep gO (by simp)
      have hf := hf9.keep gO (by simp)
      have hlh := hlh.keep0 gO
      have ps := ps9.keep gO
      obtain ⟨dx1, hc1i⟩ := hc1.ex
      refine ⟨_, rfl, c1, dx1, _, rfl, hc1i, rfl, by show 1 ≤ sizeLine; decide, fun t nt => ⟨_, rfl, lenT_to ((Gx.new (T := TK K) nt).tup ps.pa) ?_⟩⟩
      have gt : Gx (TK K) [] HA (upd HA t (.tup [.int 0])) := Gx.new nt
      refine ⟨repA_to (T := TK K) pl.length (upd_same) (by simp) (by have := ok.1; omega) (by show 1 ≤ 1000; decide) fun p0 HB gB hp0 => ?_⟩
      rw [rep_zero] at hp0
      have gAB := gt.then gB
      refine ⟨_, rfl, b, _, rfl, SqT.of (gAB.tup ps.sb), fun p1 np1 => ?_⟩
      have e1 : (iV st).reverse = iV st.reverse := (List.map_reverse ..).symm
      rw [e1]
      have gR : Gx (TK K) [] HB (upd HB p1 (.tup (iV st.reverse))) := Gx.new np1
      have ok0 := zero_ok sok
      have sml0 : Sml st.reverse := fun x hx => sml x (List.mem_reverse.mp hx)
      refine ⟨p0, p1, _, _, rfl, ⟨gR.tup hp0, upd_same, ok0⟩, sml0, fun HC gC => ?_⟩
      have gAC := (gAB.then gR).then gC
      refine .inl ⟨c1, .non, _, _, rfl, hc1.keep gAC (by simp), ok0, sml0, fun HD a0 l0 gD hcD hlD fa0 fl0 => ⟨rfl, _, rfl, ite_f (nd_false rfl) ?_⟩⟩
      have hfC := hf.keep gAC (by simp)
      have hc2C := hc2.keep gAC (by simp)
      have hlhC := hlh.keep0 gAC
      have hOC := gAC.lst hO
      have gAD : Gx (TK K) [c1] HA HD := (gAC.wide0 (ex := [c1])).trans gD fun y hy => .inl hy
      have f_c1 : Fr H2 c1 := gA6.fr nc1
      have f_c2 : Fr H2 c2 := (gA6.then gN7).fr nc2
      have f_ah : Fr H2 ah := (gA6.then gN68).fr nah
      have f_lh : Fr H2 lh := flh8.back (gA6.then gN68)
      have f_O : Fr H2 O := gA9.fr nO
      have gg : ∀ {X Y : Hp} {e : List Addr}, Gx (TK K) [] H2 X → Gx (TK K) e X Y → (∀ y ∈ e, Fr H2 y) → Gx (TK K) [] H2 Y := fun g h k => g.trans h fun y hy => .inr (k y hy)
      have gED := gg gAA gAD (fun y hy => by rw [List.mem_singleton.mp hy]; exact f_c1)
      have hfD := hfC.keep gD (by simpa using d_c1f.symm)
      have hc2D := hc2C.keep gD (by simpa using d_c2c1)
      have hlhD := hlhC.keep gD (by simpa using d_ahc1) (by simpa using d_lhc1)
      have hOD := gD.lstX hOC (by simpa using d_Oc1)
      have psD := ps.keep gAD
      refine ⟨_, rfl, c1, a0, l0, _, rfl, hcD, hlD, ok0, sml0, gED.tab ht1, fun HE T gE hT => ?_⟩
      refine ⟨_, rfl, _, rfl, by show 2 ≤ sizeLine; decide, fun tt ntt => ?_⟩
      have gTT : Gx (TK K) [] HE (upd HE tt (.tup [.ref c1, .ref c2])) := Gx.new ntt
      have htt : upd HE tt (.tup [.ref c1, .ref c2]) tt = some (.tup [.ref c1, .ref c2]) := upd_same
      generalize hHF : upd HE tt (.tup [.ref c1, .ref c2]) = HF at *
      have gEF := gE.then gTT
      have hTF := gTT.lst hT
      generalize hs0 : (⟨pl, st, []⟩ : Sta) = s0 at *
      have es0 : s0.pl = pl ∧ s0.st = st ∧ s0.hist = [] := by rw [← hs0]; exact ⟨rfl, rfl, rfl⟩
      let six : List Addr := [f, c1, c2, ah, lh, O]
      let Six : Hp → Prop := fun H => FA H f 600 ∧ LiveAt K H ah lh s0 ∧ H O = some (.lst []) ∧ H T = some (.lst (ansV (List.replicate pl.length 0) st.reverse)) ∧ PS2 H p b pl st ∧ Gx (TK K) [] H2 H ∧ H tt = some (.tup [.ref c1, .ref c2])
      have six0 : Six HF := ⟨(hfD.keep gEF (by simp)).mono (by omega), hlhD.keep0 gEF, gEF.lst hOD, hTF, psD.keep gEF, gED.then gEF, htt⟩
      let Pv : Nat → Hp → Prop := fun i H => Six H ∧ match i with
        | 0 => ∃ v1 v2, ConAt K H c1 v1 ∧ ConAt K H c2 v2
        | 1 => ∃ ac lc v2, ConAt K H c1 (.ref ac) ∧ LiveAt K H ac lc s0 ∧ ac ∉ six ∧ lc ∉ six ∧ Fr H2 ac ∧ Fr H2 lc ∧ ConAt K H c2 v2
        | _ => ∃ ac lc ao lo, ConAt K H c1 (.ref ac) ∧ LiveAt K H ac lc s0 ∧ ac ∉ six ∧ lc ∉ six ∧ Fr H2 ac ∧ Fr H2 lc ∧ ConAt K H c2 (.ref ao) ∧ LiveAt K H ao lo s0 ∧ ao ∉ six ∧ lo ∉ six ∧ Fr H2 ao ∧ Fr H2 lo ∧ ao ∉ [ac, lc] ∧ lo ∉ [ac, lc]
      refine ⟨tt, rfl, ⟨_, SqT.of htt⟩, for_gen gv_tup (fun j σ H => (∃ s10 s11 s12 s13, σ = [some (.ref a), some (.int (0 + ((i : Nat) : Int))), some (.ref f), some (.ref p), some (.ref b), some (.ref c1), some (.ref c2), some (.ref ah), some (.ref O), some (.ref T), s10, s11, s12, s13]) ∧ Pv j H) ⟨⟨_, _, _, _, rfl⟩, six0, _, _, hcD.keep gEF (by simp), hc2D.keep gEF (by simp)⟩ (fun _ _ _ _ pv => SqT.of pv.2.1.2.2.2.2.2.2) (fun j x σ H5' H5 hj pv y => ?_) fun σ H5 pv => ?_⟩
      · obtain ⟨⟨s10, s11, s12, s13, rfl⟩, hsix, hpv⟩ := pv
        obtain ⟨rfl, hx⟩ := y
        obtain ⟨uf, ulh, uO, uT, ups, ug, utt⟩ := hsix
        have n6 : f ∉ [c1] ∧ f ∉ [c2] ∧ ah ∉ [c1] ∧ ah ∉ [c2] ∧ lh ∉ [c1] ∧ lh ∉ [c2] ∧ O ∉ [c1] ∧ O ∉ [c2] ∧ c1 ∉ [c2] ∧ c2 ∉ [c1] := by
          simp only [List.mem_singleton]
          exact ⟨d_c1f.symm, d_c2f.symm, d_ahc1, d_ahc2, d_lhc1, d_lhc2, d_Oc1, d_Oc2, d_c2c1.symm, d_c2c1⟩
        have hcj : ∃ c v, x = .ref c ∧ ConAt K H5 c v ∧ (c = c1 ∨ c = c2) ∧ f ∉ [c] ∧ ah ∉ [c] ∧ lh ∉ [c] ∧ O ∉ [c] ∧ T ∉ [c] ∧ (∃ u, ConAt K H5 c1 u) ∧ (∃ u, ConAt K H5 c2 u) := by
          match j, hj with
          | 0, _ =>
            obtain ⟨v1, v2, k1, k2⟩ := hpv
            cases hx
            exact ⟨c1, v1, rfl, k1, .inl rfl, n6.1, n6.2.2.1, n6.2.2.2.2.1, n6.2.2.2.2.2.2.1, by simpa using con_lst k1 uT, ⟨_, k1⟩, ⟨_, k2⟩⟩
          | 1, _ =>
            obtain ⟨ac, lc, v2, k1, k2, k3, k4, k5, k6, k7⟩ := hpv
            cases hx
            exact ⟨c2, v2, rfl, k7, .inr rfl, n6.2.1, n6.2.2.2.1, n6.2.2.2.2.2.1, n6.2.2.2.2.2.2.2.1, by simpa using con_lst k7 uT, ⟨_, k1⟩, ⟨_, k7⟩⟩
        obtain ⟨c, v, rfl, hcv, hcc, m1, m2, m3, m4, m5, ⟨w1, hw1⟩, ⟨w2, hw2⟩⟩ := hcj
        obtain ⟨dxc, hci⟩ := hcv.ex
        refine ⟨_, rfl, lenV_to uT ⟨rfl, _, rfl, ite_f (nd_false rfl) ?_⟩⟩
        refine ⟨_, rfl, c, dxc, _, rfl, hci, rfl, .inl ⟨c, v, [], [7], by rw [← shop7]; rfl, hcv, ok7, sml7, fun H6 a1 l1 gX hcX hlX fa1 fl1 => ⟨rfl, _, rfl, ite_f (nd_false rfl) ?_⟩⟩⟩
        obtain ⟨dxX, hcXi⟩ := hcX.ex
        have psX := ups.keep gX
        refine ⟨_, rfl, c, dxX, _, rfl, hcXi, rfl, _, rfl, _, rfl, p, b, pl, st, rfl, psX, sml, fun H7 gY => ?_⟩
        have hcY := hcX.keep gY (by simp)
        refine .inl ⟨c, .ref a1, pl, st, rfl, hcY, sok, sml, fun H8 ac lc gZ hcZ hlZ fac flc => ⟨rfl, _, rfl, ite_f (nd_false rfl) ?_⟩⟩
        have gc : Fr H2 c := by
          rcases hcc with e | e
          · rw [e]
            exact f_c1
          · rw [e]
            exact f_c2
        have gXY : Gx (TK K) [c] H5 H7 := gX.then gY
        have gXZ : Gx (TK K) [c] H5 H8 := gXY.trans gZ fun y hy => .inl hy
        have gall : ∀ y ∈ [c], Fr H2 y := fun y hy => by rw [List.mem_singleton.mp hy]; exact gc
        have ug7 := gg ug gXY gall
        have ug8 := gg ug gXZ gall
        have f_ac : Fr H2 ac := fun o e => by
          apply Classical.byContradiction
          intro hn
          have := ug7.oth e (fun ps z => hn ⟨ps, z⟩) (by simp)
          exact hn (fac o this)
        have f_lc : Fr H2 lc := fun o e => by
          apply Classical.byContradiction
          intro hn
          have := ug7.oth e (fun ps z => hn ⟨ps, z⟩) (by simp)
          exact hn (flc o this)
        have six8 : Six H8 := ⟨uf.keep gXZ m1, ulh.keep gXZ m2 m3, gXZ.lstX uO m4, gXZ.lstX uT m5, ups.keep gXZ, ug8, gXZ.tup utt⟩
        have o7 : ∀ y ∈ six, Old H7 y := by
          intro y hy
          simp only [six, List.mem_cons, List.not_mem_nil, or_false] at hy
          have hlh7 := ulh.keep gXY m2 m3
          have hcon : Old H7 c1 ∧ Old H7 c2 := by
            rcases hcc with e | e
            · refine ⟨by rw [← e]; exact hcY.old, (hw2.keep gXY ?_).old⟩
              rw [e]
              exact n6.2.2.2.2.2.2.2.2.2
            · refine ⟨(hw1.keep gXY ?_).old, by rw [← e]; exact hcY.old⟩
              rw [e]
              exact n6.2.2.2.2.2.2.2.2.1
          rcases hy with rfl | rfl | rfl | rfl | rfl | rfl
          · exact (uf.keep gXY m1).old
          · exact hcon.1
          · exact hcon.2
          · exact hlh7.old.1
          · exact hlh7.old.2.1
          · exact old_lst (gXY.lstX uO m4)
        have nac : ac ∉ six := fun h => fac.neO (o7 ac h) rfl
        have nlc : lc ∉ six := fun h => flc.neO (o7 lc h) rfl
        rw [hs0] at hlZ
        refine ⟨⟨_, _, _, _, rfl⟩, six8, ?_⟩
        match j, hj with
        | 0, _ =>
          obtain ⟨v1, v2, k1, k2⟩ := hpv
          cases hx
          exact ⟨ac, lc, v2, hcZ, hlZ, nac, nlc, f_ac, f_lc, k2.keep gXZ n6.2.2.2.2.2.2.2.2.2⟩
        | 1, _ =>
          obtain ⟨ac1, lc1, v2, k1, k2, k3, k4, k5, k6, k7⟩ := hpv
          cases hx
          have e1 : ac1 ∉ [c2] ∧ lc1 ∉ [c2] := by
            constructor
            · intro h
              rw [List.mem_singleton.mp h] at k3
              exact k3 (by simp [six])
            · intro h
              rw [List.mem_singleton.mp h] at k4
              exact k4 (by simp [six])
          have k27 := k2.keep gXY e1.1 e1.2
          refine ⟨ac1, lc1, ac, lc, k1.keep gXZ n6.2.2.2.2.2.2.2.2.1, k2.keep gXZ e1.1 e1.2, k3, k4, k5, k6, hcZ, hlZ, nac, nlc, f_ac, f_lc, ?_, ?_⟩
          · intro h
            rcases List.mem_cons.mp h with e | e
            · exact fac.neO k27.old.1 e
            · exact fac.neO k27.old.2.1 (List.mem_singleton.mp e)
          · intro h
            rcases List.mem_cons.mp h with e | e
            · exact flc.neO k27.old.1 e
            · exact flc.neO k27.old.2.1 (List.mem_singleton.mp e)
      · obtain ⟨⟨s10, s11, s12, s13, rfl⟩, hsix, hpv⟩ := pv
        obtain ⟨uf, ulh, uO, uT, ups, ug, utt⟩ := hsix
        obtain ⟨ac, lc, ao, lo, k1, k2, k3, k4, k5, k6, k7, k8, k9, k10, k11, k12, k13, k14⟩ := hpv
        have sok0 : StOk s0.pl s0.st := by rw [← hs0]; exact sok
        have sml00 : Sml s0.st := by rw [← hs0]; exact sml
        refine ⟨_, rfl, c1, ac, lc, s0, rfl, k1, k2, sok0, sml00, ug.tab ht1, fun HG D1 gG hD1 => ⟨_, rfl, c2, ao, lo, s0, rfl, k7.keep gG (by simp), k8.keep0 gG, sok0, sml00, (ug.then gG).tab ht1, fun HI D2 gI hD2 => ⟨_, _, ans_dp (gI.lst hD1), ans_dp hD2, ans_shaped _ _, ans_shaped _ _, _, rfl, ite_f (by rw [ans_eqv]; rfl) ?_⟩⟩⟩
        have gGI := gG.then gI
        have ufI := uf.keep gGI (by simp)
        refine ⟨_, rfl, by show 2 ≤ sizeLine; decide, fun L2 nL2 => ⟨_, rfl, rfl, ?_⟩⟩
        generalize hbk : decide (V.int (0 + ((i : Nat) : Int)) = V.int 0) = bk
        obtain ⟨zz, hzz1, hzz2, hzz⟩ : ∃ zz : Nat, 1 ≤ zz ∧ zz ≤ 191 ∧ atI [V.int 60, .int 191] (if bk = true then 1 else 0) = some (.int ((zz : Nat) : Int)) := by
          cases bk
          · exact ⟨60, by decide, by decide, at_pred (v := 0) rfl⟩
          · exact ⟨191, by decide, by decide, at_pred (v := 1) rfl⟩
        have gL2 : Gx (TK K) [] HI (upd HI L2 (.lst [.int 60, .int 191])) := Gx.new nL2
        refine .inr ⟨bk, rfl, L2, _, _, _, rfl, rfl, SqL.of upd_same, hzz, by show 2 ≤ sizeLine; decide, fun L3 nL3 => ?_⟩
        have gL3 := gL2.more (o := .lst [.int 12, .int ((zz : Nat) : Int)]) nL3
        have ufL := ufI.keep gL3 (by simp)
        have nfL3 : L3 ≠ f := (Fr.of nL3).neO (ufI.keep gL2 (by simp)).old
        refine ⟨_, rfl, f, 2, 600, rfl, by decide, mb (by decide), ufL, by omega, fun HJ r5 hr5 gJ hfJ => ?_⟩
        have hL3 := gJ.lstX (l := L3) upd_same (by simpa using nfL3)
        obtain ⟨mt, hmt1, hmt2, hz5⟩ : ∃ mt : Nat, 1 ≤ mt ∧ mt ≤ 191 ∧ [V.int 12, .int ((zz : Nat) : Int)][r5]? = some (.int ((mt : Nat) : Int)) := by
          match r5, hr5 with
          | 0, _ => exact ⟨12, by decide, by decide, rfl⟩
          | 1, _ => exact ⟨zz, hzz1, hzz2, rfl⟩
        refine ⟨L3, _, _, _, rfl, rfl, SqL.of hL3, atI_nat hz5, f, mt, 601, rfl, hmt1, mb (by omega), hfJ, by omega, fun HK rn hrn gK hfK => ⟨_, rfl, by omega, by omega, ?_⟩⟩
        have gGK : Gx (TK K) [f] H5 HK := ((((gGI.then gL3).wide0 (ex := [f])).trans gJ fun y hy => .inl hy).trans gK fun y hy => .inl hy)
        have f1 : ∀ y ∈ [f], Fr H2 y := fun y hy => by rw [List.mem_singleton.mp hy]; exact ff
        have ugK := gg ug gGK f1
        have nf6 : ah ∉ [f] ∧ lh ∉ [f] ∧ O ∉ [f] ∧ c1 ∉ [f] ∧ c2 ∉ [f] := by
          simp only [List.mem_singleton]
          exact ⟨d_ahf, d_lhf, d_Of, d_c1f, d_c2f⟩
        simp only [six, List.mem_cons, List.not_mem_nil, or_false, not_or] at k3 k4 k9 k10 k13 k14
        have acf := k3.1
        have e_c1c2 := d_c2c1
        obtain ⟨a1, a2, a3, a4, a5, a6⟩ := k3
        obtain ⟨b1, b2, b3, b4, b5, b6⟩ := k4
        obtain ⟨o1, o2, o3, o4, o5, o6⟩ := k9
        obtain ⟨l1, l2, l3, l4, l5, l6⟩ := k10
        have D : Ds f c1 c2 ac lc ah lh ao lo O := ⟨⟨d_c1f, d_c2f, a1, b1, d_ahf, d_lhf, o1, l1, d_Of⟩, ⟨Ne.symm d_Oc1, Ne.symm d_Oc2, a6, b6, Ne.symm d_Oah, Ne.symm d_Olh, o6, l6⟩,
          ⟨Ne.symm a2, Ne.symm b2, Ne.symm a3, Ne.symm b3, Ne.symm a4, Ne.symm b4, Ne.symm a5, Ne.symm b5, k13.1, k13.2, k14.1, k14.2⟩, ⟨Ne.symm d_ahc1, Ne.symm d_lhc1, Ne.symm d_ahc2, Ne.symm d_lhc2, a4, a5, b4, b5, o4, o5, l4, l5⟩⟩
        have x0 : Fx K H2 f c1 c2 ac lc ah lh ao lo O s0 s0 s0 HK 602 [] [] :=
          ⟨hfK, k1.keep gGK nf6.2.2.2.1, k2.keep gGK (by simpa using a1) (by simpa using b1), ulh.keep gGK nf6.1 nf6.2.1, k7.keep gGK nf6.2.2.2.2, k8.keep gGK (by simpa using o1) (by simpa using l1), gGK.lstX uO nf6.2.2.1, rfl, fun i o op h => by simp at h, ugK, ff, k5, k6, f_ah, f_lh, f_O⟩
        have sk0 : Sok B37 s0 := ⟨sok0, by rw [← hs0]; exact bnd, fun x hx => by rw [← hs0] at hx; simp at hx⟩
        have hh0 : s0.hist = [] := es0.2.2
        have sm : ∀ ops, Good s0 ops → ops.length ≤ 191 → StOk (run s0 ops).pl (run s0 ops).st ∧ Sml (run s0 ops).st ∧ (run s0 ops).hist.length < 1000 := fun ops hg hl => by
          have h1 := good_sok (by decide) sk0 hg
          refine ⟨h1.ok, bnd_sml h1.bnd ?_, by rw [run_hlen hh0]; omega⟩
          have hs : stepB = 1000000000000000000000000000200 := rfl
          have hB : B37 = 10000000000000000000000000000000000000 := rfl
          rw [hs, hB]
          omega
        refine for_gen (gv_range (n := (((rn : Nat) : Int)).toNat)) (fun j σ H => (∃ s10 s11 s12 s13, σ = [some (.ref a), some (.int (0 + ((i : Nat) : Int))), some (.ref f), some (.ref p), some (.ref b), some (.ref c1), some (.ref c2), some (.ref ah), some (.ref O), some (.ref T), s10, s11, s12, s13]) ∧ ∃ os ops, Fx K H2 f c1 c2 ac lc ah lh ao lo O s0 (run s0 ops) (run s0 ops) H (602 + 25 * j) os ops ∧ Good s0 ops ∧ ops.length ≤ j) ⟨⟨_, _, _, _, rfl⟩, [], [], x0, Good.nil _, Nat.le_refl _⟩ (fun _ _ _ _ _ => trivial) (fun j x σ H6' H6 hj pv y => ?_) fun σ H6 pv => ?_
        · obtain ⟨⟨s10, s11, s12, s13, rfl⟩, os, ops, xx, hgood, hopl⟩ := pv
          obtain ⟨rfl, rfl⟩ := y
          have hj191 : j ≤ 190 := by omega
          have sokr := sm ops hgood (by omega)
          have hosl := xx.len
          refine ⟨_, rfl, Nat.zero_le _, fun pe npe => ⟨O, pe, _, rfl, rfl, SqL.of ((Gx.new (T := TK K) npe).lst xx.ol), upd_same, _, rfl, ?_⟩⟩
          have x1 := xx.keep (Gx.new (T := TK K) (o := .lst []) npe)
          generalize hHE : upd H6 pe (.lst []) = HE1 at *
          by_cases hem : os = []
          · refine ite_f (by rw [hem]; rfl) (iteF ?_)
            refine ⟨_, rfl, .inl ⟨rfl, _, SqL.of x1.ol⟩, ?_⟩
            obtain ⟨dxa, cca, esa, ia1, ia2, ia3⟩ := x1.liveh.ex
            refine ⟨_, rfl, _, rfl, ah, dxa, _, rfl, ia1, rfl, ah, lh, _, rfl, x1.liveh, fun cq pq bq jq1 jq2 jq3 => ⟨_, rfl, ah, dxa, _, rfl, ia1, rfl, ah, lh, _, rfl, x1.liveh, fun cr pr br jr1 jr2 jr3 => ⟨by show 2 ≤ sizeLine; decide, fun tq ntq => ?_⟩⟩⟩
            have gq : Gx (TK K) [] HE1 (upd HE1 tq (.tup [.ref pq, .ref br])) := Gx.new ntq
            have xq := x1.keep gq
            refine ⟨10, 30, rfl, rfl, ⟨by decide, by decide, by decide⟩, f, tq, pq, br, run s0 ops, (602 + 25 * j), rfl, upd_same, ⟨gq.tup jq3.pa, gq.tup jr3.sb, sokr.1⟩, xq.fa, by omega, fun HO2 oo op gO2 hfO hoo hok => ?_⟩
            have xo := xq.sip D gO2 hfO
            refine ⟨O, _, _, rfl, rfl, xo.ol, by rw [List.length_map, xo.len]; exact sl_le (by omega), ?_⟩
            have good2 : Good s0 (ops ++ [op]) := hgood.snoc hok
            have xp := xo.put D (os2 := os ++ [oo]) (ops2 := ops ++ [op]) (by rw [List.length_append, List.length_append, xo.len]; rfl) (fun i2 o2 op2 q1 q2 => by
              by_cases hj2 : i2 < os.length
              · rw [List.getElem?_append_left hj2] at q1
                rw [List.getElem?_append_left (by rw [← xo.len]; exact hj2)] at q2
                exact xo.it i2 o2 op2 q1 q2
              · rw [List.getElem?_append_right (by omega)] at q1
                rw [List.getElem?_append_right (by rw [← xo.len]; omega), ← xo.len] at q2
                have hz : i2 - os.length = 0 := by
                  have := (List.getElem?_eq_some_iff.mp q1).1
                  simp at this
                  exact this
                rw [hz] at q1 q2
                cases q1
                cases q2
                exact hoo)
            rw [List.map_append] at xp
            have eap : (os.map V.ref ++ [V.ref oo]) = ((os ++ [oo]).map V.ref) := by rw [List.map_append]; rfl
            obtain ⟨dxb, hcb⟩ := xp.con1.ex
            have hop := op_row hok sokr.1.plok.1
            have q1 : (os ++ [oo])[os.length]? = some oo := by rw [List.getElem?_append_right (Nat.le_refl _), Nat.sub_self]; rfl
            have q2 : (ops ++ [op])[os.length]? = some op := by rw [xo.len, List.getElem?_append_right (Nat.le_refl _), Nat.sub_self]; rfl
            refine ⟨_, rfl, c1, dxb, _, rfl, hcb, rfl, _, rfl, 1, rfl, O, _, _, _, rfl, rfl, SqL.of xp.ol, by rw [← eap]; exact atI_last _ _, oo, op, rfl, xp.it os.length oo op q1 q2, hop, fun HP gP => ?_⟩
            have xP := xp.keep gP
            refine .inr (.inl ⟨c1, ac, lc, run s0 ops, .op op, rfl, xP.con1, xP.live1, ⟨hok, sokr.2.2⟩, sokr.1, sokr.2.1, xP.gx.tab ht1, fun HQ gQ kQ => ?_⟩)
            have xQ := xP.con D gQ kQ
            refine ⟨_, rfl, _, rfl, 1, rfl, O, _, _, _, rfl, rfl, SqL.of xQ.ol, by rw [← eap]; exact atI_last _ _, ah, lh, oo, run s0 ops, op, rfl, xQ.liveh, xQ.it os.length oo op q1 q2, hok, sokr.2.2, xQ.gx.tab ht1, fun HR gR kR => ?_⟩
            have xR := xQ.liv D gR kR
            refine shown_to sokr.1 sokr.2.1 hok ?_
            refine ⟨rfl, _, rfl, ite_f (nd_false rfl) ?_⟩
            have xS : Fx K H2 f c1 c2 ac lc ah lh ao lo O s0 (run s0 (ops ++ [op])) (run s0 (ops ++ [op])) HR ((602 + 25 * j) + 20) (os ++ [oo]) (ops ++ [op]) := by
              rw [run_snoc]
              exact xR
            have sok3 := sm (ops ++ [op]) good2 (by rw [List.length_append, List.length_singleton]; omega)
            obtain ⟨dxs, hcs⟩ := xS.con1.ex
            refine ⟨_, rfl, c1, dxs, _, rfl, hcs, rfl, .inr (.inr ⟨c1, ac, lc, run s0 (ops ++ [op]), .stock, rfl, xS.con1, xS.live1, ⟨trivial⟩, sok3.1, sok3.2.1, xS.gx.tab ht1, fun HY gY => ?_⟩)⟩
            have xY := xS.keep gY
            obtain ⟨dxl, ccl, esl, il1, il2, il3⟩ := xY.liveh.ex
            refine ⟨⟨_, rfl⟩, _, rfl, ah, dxl, _, rfl, il1, rfl, ah, lh, _, rfl, xY.liveh, fun ccc ppp bbb jj1 jj2 jj3 => ⟨bbb, rfl, ⟨_, SqT.of jj3.sb⟩, fun DS nDS => lc_map (T := TK K) gv_tup nDS (fun H g => SqT.of (g.tup jj3.sb)) (by rw [len_iV, sok3.1.len]; have := sok3.1.plok.1; omega) ((run s0 (ops ++ [op])).st.map fun x => V.str (S (intL x))) (by rw [List.length_map, len_iV]) (fun i2 x2 y2 HA2 HB2 Ny hi2 g2 hy2 hys2 hN2 => ?_) mono_name fun HZ gZ hDZ => ?_⟩⟩
            · obtain ⟨rfl, hx2⟩ := hy2
              obtain ⟨n2, hn2, rfl⟩ := get_iV hx2
              rw [List.getElem?_map, hn2] at hys2
              obtain rfl : y2 = V.str (S (intL n2)) := (Option.some.inj hys2).symm
              refine ⟨rfl, _, rfl, .inl ⟨n2, rfl, sml_lg (sok3.2.1 n2 (List.mem_of_getElem? hn2)), ?_⟩⟩
              rw [int_text]
              exact hN2 _ Gx.refl
            have e1 : (run s0 (ops ++ [op])).st.map (fun x => V.str (S (intL x))) = (((run s0 (ops ++ [op])).st.map intL).map S).map V.str := by rw [List.map_map, List.map_map]; rfl
            rw [e1] at hDZ
            refine ⟨_, DS, ((run s0 (ops ++ [op])).st.map intL).map S, rfl, rfl, .inl (SqL.of hDZ), ?_, ?_⟩
            · have h2 := sum_le (k := 41) (xs := (((run s0 (ops ++ [op])).st.map intL).map S).map (·.length)) (fun x hx => by
                rw [List.map_map, List.map_map] at hx
                obtain ⟨y, hy, rfl⟩ := List.mem_map.mp hx
                show (S (intL y)).length ≤ 41
                rw [S_len]
                exact intL_len (sok3.2.1 y hy))
              rw [List.length_map, List.length_map, List.length_map] at h2
              rw [List.length_map, List.length_map]
              have h4 := sok3.1.len
              have h5 := sok3.1.plok.1
              have : (run s0 (ops ++ [op])).st.length * 41 ≤ 40 * 41 := Nat.mul_le_mul_right _ (by omega)
              have e9 : (" " : Str).length = 1 := by decide
              rw [e9]
              omega
            rw [show (" " : Str) = S [32] from rfl, join_S]
            refine ⟨rfl, _, rfl, ite_f (nd_false rfl) ?_⟩
            have xZ := xY.keep gZ
            exact ⟨⟨_, _, _, _, rfl⟩, os ++ [oo], ops ++ [op], xZ.le (by omega), good2, by rw [List.length_append, List.length_singleton]; omega⟩
          · refine ite_t (by cases os with | nil => exact absurd rfl hem | cons o1 r1 => rfl) ⟨_, rfl, f, 4, 602 + 25 * j, rfl, by decide, mb (by decide), x1.fa, by omega, fun HM r8 hr8 gM hfM => ⟨rfl, _, rfl, ?_⟩⟩
            have x2 := x1.sip D gM hfM
            by_cases h8 : r8 = 0
            · refine ite_dt (by rw [h8]; rfl) ?_
              obtain ⟨ops0, op0, eop⟩ : ∃ ops0 op0, ops = ops0 ++ [op0] := by
                have : ops ≠ [] := fun e => by
                  rw [e] at hosl
                  exact hem (List.eq_nil_of_length_eq_zero hosl)
                exact ⟨ops.dropLast, ops.getLast this, (List.dropLast_concat_getLast this).symm⟩
              obtain ⟨os0, o0, eos⟩ : ∃ os0 o0, os = os0 ++ [o0] := ⟨os.dropLast, os.getLast hem, (List.dropLast_concat_getLast hem).symm⟩
              subst eop
              subst eos
              have hl0 : os0.length = ops0.length := by
                rw [List.length_append, List.length_append, List.length_singleton, List.length_singleton] at hosl
                omega
              have good0 := hgood.init
              have hopl0 : ops0.length + 1 ≤ j := by
                rw [List.length_append, List.length_singleton] at hopl
                exact hopl
              refine ⟨_, rfl, .inl ⟨rfl, _, SqL.of x2.ol⟩, O, _, .ref o0, rfl, rfl, x2.ol, by rw [List.map_append, List.length_append, List.map_singleton, List.length_singleton, Nat.add_sub_cancel, List.getElem?_append_right (Nat.le_refl _), Nat.sub_self]; rfl, ?_⟩
              have edl : ((os0 ++ [o0]).map V.ref).dropLast = os0.map V.ref := by rw [List.map_append, List.map_singleton, List.dropLast_concat]
              rw [edl]
              have x3 := x2.put D (os2 := os0) (ops2 := ops0) hl0 (fun i2 o2 op2 q1 q2 => x2.it i2 o2 op2 (by rw [List.getElem?_append_left (List.getElem?_eq_some_iff.mp q1).1]; exact q1) (by rw [List.getElem?_append_left (List.getElem?_eq_some_iff.mp q2).1]; exact q2))
              have hne : (run s0 (ops0 ++ [op0])).hist ≠ [] := fun e => by
                have := run_hlen hh0 (ops0 ++ [op0])
                rw [e, List.length_append] at this
                simp at this
              have eun : undoS (run s0 (ops0 ++ [op0])) = run s0 ops0 := by rw [run_snoc, undo_do]
              obtain ⟨dxa, cca, esa, ia1, ia2, ia3⟩ := x3.liveh.ex
              refine ⟨_, rfl, ah, dxa, _, rfl, ia1, rfl, ah, lh, _, rfl, x3.liveh, hne, fun HP gP kP => ?_⟩
              have x4 := x3.liv D gP kP
              obtain ⟨dxb, hcb⟩ := x4.con1.ex
              refine ⟨_, rfl, c1, dxb, _, rfl, hcb, rfl, .inr (.inl ⟨c1, ac, lc, run s0 (ops0 ++ [op0]), .undo, rfl, x4.con1, x4.live1, ⟨hne⟩, sokr.1, sokr.2.1, x4.gx.tab ht1, fun HQ gQ kQ => ⟨rfl, _, rfl, ite_f (nd_false rfl) ?_⟩⟩)⟩
              have x5 := x4.con D gQ kQ
              have xS : Fx K H2 f c1 c2 ac lc ah lh ao lo O s0 (run s0 ops0) (run s0 ops0) HQ (602 + 25 * j + 1) os0 ops0 := by
                have e2 : copS .undo (run s0 (ops0 ++ [op0])) = run s0 ops0 := eun
                rw [eun, e2] at x5
                exact x5
              have sok3 := sm ops0 good0 (by omega)
              obtain ⟨dxs, hcs⟩ := xS.con1.ex
              refine ⟨_, rfl, c1, dxs, _, rfl, hcs, rfl, .inr (.inr ⟨c1, ac, lc, run s0 (ops0), .stock, rfl, xS.con1, xS.live1, ⟨trivial⟩, sok3.1, sok3.2.1, xS.gx.tab ht1, fun HY gY => ?_⟩)⟩
              have xY := xS.keep gY
              obtain ⟨dxl, ccl, esl, il1, il2, il3⟩ := xY.liveh.ex
              refine ⟨⟨_, rfl⟩, _, rfl, ah, dxl, _, rfl, il1, rfl, ah, lh, _, rfl, xY.liveh, fun ccc ppp bbb jj1 jj2 jj3 => ⟨bbb, rfl, ⟨_, SqT.of jj3.sb⟩, fun DS nDS => lc_map (T := TK K) gv_tup nDS (fun H g => SqT.of (g.tup jj3.sb)) (by rw [len_iV, sok3.1.len]; have := sok3.1.plok.1; omega) ((run s0 (ops0)).st.map fun x => V.str (S (intL x))) (by rw [List.length_map, len_iV]) (fun i2 x2 y2 HA2 HB2 Ny hi2 g2 hy2 hys2 hN2 => ?_) mono_name fun HZ gZ hDZ => ?_⟩⟩
              · obtain ⟨rfl, hx2⟩ := hy2
                obtain ⟨n2, hn2, rfl⟩ := get_iV hx2
                rw [List.getElem?_map, hn2] at hys2
                obtain rfl : y2 = V.str (S (intL n2)) := (Option.some.inj hys2).symm
                refine ⟨rfl, _, rfl, .inl ⟨n2, rfl, sml_lg (sok3.2.1 n2 (List.mem_of_getElem? hn2)), ?_⟩⟩
                rw [int_text]
                exact hN2 _ Gx.refl
              have e1 : (run s0 (ops0)).st.map (fun x => V.str (S (intL x))) = (((run s0 (ops0)).st.map intL).map S).map V.str := by rw [List.map_map, List.map_map]; rfl
              rw [e1] at hDZ
              refine ⟨_, DS, ((run s0 (ops0)).st.map intL).map S, rfl, rfl, .inl (SqL.of hDZ), ?_, ?_⟩
              · have h2 := sum_le (k := 41) (xs := (((run s0 (ops0)).st.map intL).map S).map (·.length)) (fun x hx => by
                  rw [List.map_map, List.map_map] at hx
                  obtain ⟨y, hy, rfl⟩ := List.mem_map.mp hx
                  show (S (intL y)).length ≤ 41
                  rw [S_len]
                  exact intL_len (sok3.2.1 y hy))
                rw [List.length_map, List.length_map, List.length_map] at h2
                rw [List.length_map, List.length_map]
                have h4 := sok3.1.len
                have h5 := sok3.1.plok.1
                have : (run s0 (ops0)).st.length * 41 ≤ 40 * 41 := Nat.mul_le_mul_right _ (by omega)
                have e9 : (" " : Str).length = 1 := by decide
                rw [e9]
                omega
              rw [show (" " : Str) = S [32] from rfl, join_S]
              refine ⟨rfl, _, rfl, ite_f (nd_false rfl) ?_⟩
              have xZ := xY.keep gZ
              exact ⟨⟨_, _, _, _, rfl⟩, os0, ops0, xZ.le (by omega), good0, by omega⟩
            · refine ite_df (fun e => by have := V.int.inj e; omega) ?_
              refine ⟨_, rfl, .inl ⟨rfl, _, SqL.of x2.ol⟩, ?_⟩
              obtain ⟨dxa, cca, esa, ia1, ia2, ia3⟩ := x2.liveh.ex
              refine ⟨_, rfl, _, rfl, ah, dxa, _, rfl, ia1, rfl, ah, lh, _, rfl, x2.liveh, fun cq pq bq jq1 jq2 jq3 => ⟨_, rfl, ah, dxa, _, rfl, ia1, rfl, ah, lh, _, rfl, x2.liveh, fun cr pr br jr1 jr2 jr3 => ⟨by show 2 ≤ sizeLine; decide, fun tq ntq => ?_⟩⟩⟩
              have gq : Gx (TK K) [] HM (upd HM tq (.tup [.ref pq, .ref br])) := Gx.new ntq
              have xq := x2.keep gq
              refine ⟨10, 30, rfl, rfl, ⟨by decide, by decide, by decide⟩, f, tq, pq, br, run s0 ops, (602 + 25 * j + 1), rfl, upd_same, ⟨gq.tup jq3.pa, gq.tup jr3.sb, sokr.1⟩, xq.fa, by omega, fun HO2 oo op gO2 hfO hoo hok => ?_⟩
              have xo := xq.sip D gO2 hfO
              refine ⟨O, _, _, rfl, rfl, xo.ol, by rw [List.length_map, xo.len]; exact sl_le (by omega), ?_⟩
              have good2 : Good s0 (ops ++ [op]) := hgood.snoc hok
              have xp := xo.put D (os2 := os ++ [oo]) (ops2 := ops ++ [op]) (by rw [List.length_append, List.length_append, xo.len]; rfl) (fun i2 o2 op2 q1 q2 => by
                by_cases hj2 : i2 < os.length
                · rw [List.getElem?_append_left hj2] at q1
                  rw [List.getElem?_append_left (by rw [← xo.len]; exact hj2)] at q2
                  exact xo.it i2 o2 op2 q1 q2
                · rw [List.getElem?_append_right (by omega)] at q1
                  rw [List.getElem?_append_right (by rw [← xo.len]; omega), ← xo.len] at q2
                  have hz : i2 - os.length = 0 := by
                    have := (List.getElem?_eq_some_iff.mp q1).1
                    simp at this
                    exact this
                  rw [hz] at q1 q2
                  cases q1
                  cases q2
                  exact hoo)
              rw [List.map_append] at xp
              have eap : (os.map V.ref ++ [V.ref oo]) = ((os ++ [oo]).map V.ref) := by rw [List.map_append]; rfl
              obtain ⟨dxb, hcb⟩ := xp.con1.ex
              have hop := op_row hok sokr.1.plok.1
              have q1 : (os ++ [oo])[os.length]? = some oo := by rw [List.getElem?_append_right (Nat.le_refl _), Nat.sub_self]; rfl
              have q2 : (ops ++ [op])[os.length]? = some op := by rw [xo.len, List.getElem?_append_right (Nat.le_refl _), Nat.sub_self]; rfl
              refine ⟨_, rfl, c1, dxb, _, rfl, hcb, rfl, _, rfl, 1, rfl, O, _, _, _, rfl, rfl, SqL.of xp.ol, by rw [← eap]; exact atI_last _ _, oo, op, rfl, xp.it os.length oo op q1 q2, hop, fun HP gP => ?_⟩
              have xP := xp.keep gP
              refine .inr (.inl ⟨c1, ac, lc, run s0 ops, .op op, rfl, xP.con1, xP.live1, ⟨hok, sokr.2.2⟩, sokr.1, sokr.2.1, xP.gx.tab ht1, fun HQ gQ kQ => ?_⟩)
              have xQ := xP.con D gQ kQ
              refine ⟨_, rfl, _, rfl, 1, rfl, O, _, _, _, rfl, rfl, SqL.of xQ.ol, by rw [← eap]; exact atI_last _ _, ah, lh, oo, run s0 ops, op, rfl, xQ.liveh, xQ.it os.length oo op q1 q2, hok, sokr.2.2, xQ.gx.tab ht1, fun HR gR kR => ?_⟩
              have xR := xQ.liv D gR kR
              refine shown_to sokr.1 sokr.2.1 hok ?_
              refine ⟨rfl, _, rfl, ite_f (nd_false rfl) ?_⟩
              have xS : Fx K H2 f c1 c2 ac lc ah lh ao lo O s0 (run s0 (ops ++ [op])) (run s0 (ops ++ [op])) HR ((602 + 25 * j + 1) + 20) (os ++ [oo]) (ops ++ [op]) := by
                rw [run_snoc]
                exact xR
              have sok3 := sm (ops ++ [op]) good2 (by rw [List.length_append, List.length_singleton]; omega)
              obtain ⟨dxs, hcs⟩ := xS.con1.ex
              refine ⟨_, rfl, c1, dxs, _, rfl, hcs, rfl, .inr (.inr ⟨c1, ac, lc, run s0 (ops ++ [op]), .stock, rfl, xS.con1, xS.live1, ⟨trivial⟩, sok3.1, sok3.2.1, xS.gx.tab ht1, fun HY gY => ?_⟩)⟩
              have xY := xS.keep gY
              obtain ⟨dxl, ccl, esl, il1, il2, il3⟩ := xY.liveh.ex
              refine ⟨⟨_, rfl⟩, _, rfl, ah, dxl, _, rfl, il1, rfl, ah, lh, _, rfl, xY.liveh, fun ccc ppp bbb jj1 jj2 jj3 => ⟨bbb, rfl, ⟨_, SqT.of jj3.sb⟩, fun DS nDS => lc_map (T := TK K) gv_tup nDS (fun H g => SqT.of (g.tup jj3.sb)) (by rw [len_iV, sok3.1.len]; have := sok3.1.plok.1; omega) ((run s0 (ops ++ [op])).st.map fun x => V.str (S (intL x))) (by rw [List.length_map, len_iV]) (fun i2 x2 y2 HA2 HB2 Ny hi2 g2 hy2 hys2 hN2 => ?_) mono_name fun HZ gZ hDZ => ?_⟩⟩
              · obtain ⟨rfl, hx2⟩ := hy2
                obtain ⟨n2, hn2, rfl⟩ := get_iV hx2
                rw [List.getElem?_map, hn2] at hys2
                obtain rfl : y2 = V.str (S (intL n2)) := (Option.some.inj hys2).symm
                refine ⟨rfl, _, rfl, .inl ⟨n2, rfl, sml_lg (sok3.2.1 n2 (List.mem_of_getElem? hn2)), ?_⟩⟩
                rw [int_text]
                exact hN2 _ Gx.refl
              have e1 : (run s0 (ops ++ [op])).st.map (fun x => V.str (S (intL x))) = (((run s0 (ops ++ [op])).st.map intL).map S).map V.str := by rw [List.map_map, List.map_map]; rfl
              rw [e1] at hDZ
              refine ⟨_, DS, ((run s0 (ops ++ [op])).st.map intL).map S, rfl, rfl, .inl (SqL.of hDZ), ?_, ?_⟩
              · have h2 := sum_le (k := 41) (xs := (((run s0 (ops ++ [op])).st.map intL).map S).map (·.length)) (fun x hx => by
                  rw [List.map_map, List.map_map] at hx
                  obtain ⟨y, hy, rfl⟩ := List.mem_map.mp hx
                  show (S (intL y)).length ≤ 41
                  rw [S_len]
                  exact intL_len (sok3.2.1 y hy))
                rw [List.length_map, List.length_map, List.length_map] at h2
                rw [List.length_map, List.length_map]
                have h4 := sok3.1.len
                have h5 := sok3.1.plok.1
                have : (run s0 (ops ++ [op])).st.length * 41 ≤ 40 * 41 := Nat.mul_le_mul_right _ (by omega)
                have e9 : (" " : Str).length = 1 := by decide
                rw [e9]
                omega
              rw [show (" " : Str) = S [32] from rfl, join_S]
              refine ⟨rfl, _, rfl, ite_f (nd_false rfl) ?_⟩
              have xZ := xY.keep gZ
              exact ⟨⟨_, _, _, _, rfl⟩, os ++ [oo], ops ++ [op], xZ.le (by omega), good2, by rw [List.length_append, List.length_singleton]; omega⟩
        · obtain ⟨⟨s10, s11, s12, s13, rfl⟩, os, ops, xx, hgood, hopl⟩ := pv
          have hop191 : ops.length ≤ 191 := by omega
          have sokr := sm ops hgood hop191
          have hosl := xx.len
          obtain ⟨dxa, cca, esa, ia1, ia2, ia3⟩ := xx.liveh.ex
          refine ⟨_, rfl, ah, dxa, _, rfl, ia1, rfl, ah, lh, _, rfl, xx.liveh, by omega, fun HL DL osl gL hDL hll hil => ?_⟩
          have xL := xx.keep gL
          rw [run_hlen hh0] at hll
          have dp1 : Dp K HL (.ref DL) (.list (ops.map opD)) := Dp.lst (SqL.of hDL) (ops_dp hll fun i2 o2 op2 q1 q2 => by
            obtain ⟨x2, q3, q4⟩ := hist_at hh0 q2
            rw [← q4]
            exact hil i2 o2 x2 q1 q3)
          have dp2 : Dp K HL (.ref O) (.list (ops.map opD)) := Dp.lst (SqL.of xL.ol) (ops_dp xL.len xL.it)
          have eq1 : PyData.eqv (.list (ops.map opD)) (.list (ops.map opD)) = true := SeqAt.eqv_refl _ (SeqAt.canLay_of_shaped (ops_shaped ops))
          refine ⟨_, rfl, _, _, dp1, dp2, ops_shaped ops, ops_shaped ops, _, rfl, ite_f (by rw [eq1]; rfl) ?_⟩
          refine ⟨_, rfl, O, rfl, ⟨_, SqL.of xL.ol⟩, for_gen gv_list (fun j σ H => (∃ s10 s11 s12 s13, σ = [some (.ref a), some (.int (0 + ((i : Nat) : Int))), some (.ref f), some (.ref p), some (.ref b), some (.ref c1), some (.ref c2), some (.ref ah), some (.ref O), some (.ref T), s10, s11, s12, s13]) ∧ Fx K H2 f c1 c2 ac lc ah lh ao lo O (run s0 (ops.take j)) (run s0 ops) (run s0 ops) H (602 + 25 * ((rn : Nat) : Int).toNat) os ops) ⟨⟨_, _, _, _, rfl⟩, xL⟩ (fun _ _ _ _ pv => SqL.of pv.2.ol) (fun j x σ H7' H7 hj pv y => ?_) fun σ H7 pv => ?_⟩
          · obtain ⟨⟨s10, s11, s12, s13, rfl⟩, x1⟩ := pv
            obtain ⟨rfl, hx⟩ := y
            rw [List.length_map] at hj
            rw [List.getElem?_map, List.getElem?_eq_getElem hj] at hx
            obtain rfl : x = V.ref os[j] := (Option.some.inj hx).symm
            have ho1 : os[j]? = some os[j] := List.getElem?_eq_getElem hj
            have ho2 : ops[j]? = some (ops[j]'(by omega)) := List.getElem?_eq_getElem (by omega)
            generalize hopj : ops[j]'(by omega) = op at *
            have hok := hgood j op ho2
            have sokj := sm (ops.take j) (hgood.take j) (by rw [List.length_take]; omega)
            obtain ⟨dxb, hcb⟩ := x1.con2.ex
            refine ⟨_, rfl, c2, dxb, _, rfl, hcb, rfl, _, rfl, os[j], op, rfl, x1.it j _ op ho1 ho2, op_row hok sokj.1.plok.1, fun HP gP => ?_⟩
            have xP := x1.keep gP
            refine .inr (.inl ⟨c2, ao, lo, run s0 (ops.take j), .op op, rfl, xP.con2, xP.liveo, ⟨hok, sokj.2.2⟩, sokj.1, sokj.2.1, xP.gx.tab ht1, fun HQ gQ kQ => ?_⟩)
            have xQ := xP.oth D gQ kQ k11 k12
            have et : run s0 (ops.take (j + 1)) = copS (.op op) (run s0 (ops.take j)) := by
              rw [List.take_succ, ho2]
              exact run_snoc _ _ _
            refine ⟨⟨_, _, _, _, rfl⟩, ?_⟩
            rw [et]
            exact xQ
          · obtain ⟨⟨s10, s11, s12, s13, rfl⟩, x1⟩ := pv
            rw [List.length_map, hosl, List.take_of_length_le (Nat.le_refl _)] at x1
            refine ⟨_, rfl, c2, ao, lo, _, rfl, x1.con2, x1.liveo, sokr.1, sokr.2.1, x1.gx.tab ht1, fun HG2 E1 gG2 hE1 => ?_⟩
            have x2 := x1.keep gG2
            refine ⟨_, rfl, c1, ac, lc, _, rfl, x2.con1, x2.live1, sokr.1, sokr.2.1, x2.gx.tab ht1, fun HI2 E2 gI2 hE2 => ⟨_, _, ans_dp (gI2.lst hE1), ans_dp hE2, ans_shaped _ _, ans_shaped _ _, _, rfl, ite_f (by rw [ans_eqv]; rfl) ?_⟩⟩
            exact ⟨⟨_, _, _, _, _, _, _, _, _, _, _, _, _, rfl⟩, g1.then (x2.gx.then gI2)⟩
    · exact q _
end
end K6

set_option Elab.async false
set_option linter.all false
set_option maxRecDepth 100000
set_option maxHeartbeats 0
/-! K6Xe: the end -/
namespace K6
open PySem PySem.Spec PyProof.Rows L2
theorem lawAt {w : World} {mg : Str → Option Value} {f : Addr} {h : Heap} {K : PySem.W.Frag} (KX : K.In h) (G : h.Ns mainGlobals mg) (hfa : mg ("law" : Str) = some (.ref f)) (c : He.SaysX fa fn ts tf ex w h K) :
    LamX.LawAtS PySem.Challenge.rw_pulltree_k60_whole_consoles_and_live_pla w K C8.CX0 10 63 "script" mg f h := by
  have hfm : (("word_table", none) : He.Defn) ∈ tf := List.mem_singleton.mpr rfl
  have hd : He.SaysD fa fn K := c.t.d
  obtain ⟨fd, F⟩ : ∃ fd, FnP K "law" sLaw (He.ga K "law") fd := hd.def_ 46 (d := dLaw) rfl
  have e := hfa.symm.trans (He.glo_ok KX G (hd.fact 46 (f := .glo "law") rfl))
  cases e
  have b := FunD.bindsA (ps := ["script"]) F fun _ _ _ _ _ _ us hl => match us, hl with | [_], _ => rfl
  refine ⟨fd, [He.cT K ("word_table", none)], spLaw K, fun p hp => ?_, fun p hp => ?_, fun p hp => ?_, fun s v => b s [v] rfl, fun H a ns hl _ hT hS => ?_, fun base kb nb tb => ?_⟩
  · rw [List.mem_singleton.mp hp]
    exact c.empty _ hfm
  · rw [List.mem_singleton.mp hp]
    exact c.out _ hfm
  · rw [List.mem_singleton.mp hp]
    exact PySem.W.codeHd_of_K KX (c.hd _ hfm)
  · refine ⟨a, ns, rfl, hS, hl, fun p hp => ?_, fun _ => rfl⟩
    rw [List.mem_singleton.mp hp]
    exact LamX.TabS.nil (hT _ (List.mem_singleton.mpr rfl))
  · exact okLaw ⟨hd, kb, nb, c.t.tab 0 rfl, c.more, tb _ (List.mem_singleton.mpr rfl)⟩ F
end K6

set_option Elab.async false
set_option linter.all false
set_option maxRecDepth 100000
set_option maxHeartbeats 0
/-! K6Xf: the law holds -/
open PySem PySem.W PySem.Calls PyProof.Rows
theorem PySem.Challenge.cw_pulltree_k60_whole_consoles_and_live_pla_holds : PySem.Challenge.rw_pulltree_k60_whole_consoles_and_live_pla.Holds := by
  w_on; o_law
  refine HandSHeadRun.head_any (r := K6.R) (q := view K6.R.prog [84]) (H := K6.hk) (ob := K6.ob) (M := 40000) (loose := K6.loose) (d := HandSHeadRun.topDef K6.R.prog 84) (kwd := []) K6.ob_eq
    (by kernel_rfl) (fun s => by kernel_rfl) K6.runHd (by kernel_rfl) (by kernel_rfl) (by kernel_rfl) (by rfl) (by first | assumption | decide +kernel) (by decide +kernel) ⟨rfl, rfl, rfl, rfl, rfl, by decide +kernel⟩ ?hw ?hc
  case hw => w_witness2
  case hc =>
    refine LamX.walk_ofTsE (l := PySem.Challenge.rw_pulltree_k60_whole_consoles_and_live_pla) (n := 63) (k := 10) (x := "script") (CX := fun _ => C8.CX0) rfl (by decide) (by kernel_rfl) ⟨rfl, by decide, by decide⟩ ?F (fun _ _ _ _ _ z => z)
    intro w mg fa h Y G hmg0
    obtain ⟨K, KX, c⟩ := Y
    have hmg : mg ("law" : PySem.Str) = some (.ref fa) := by
      have e : (HandSHeadRun.topDef K6.R.prog 84).name = ("law" : PySem.Str) := by kernel_rfl
      rw [← e]
      exact hmg0
    exact ⟨K, KX, K6.lawAt KX G hmg c⟩

