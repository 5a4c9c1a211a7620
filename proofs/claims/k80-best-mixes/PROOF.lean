import PyProof.Rows.All
import Wide.All
import OpenK.AllK
import Wide.FinOn
import KE.KSuper
import KE.KIsAll
import KE.KStateDown
import HandS.Words
import HandS.HeadHook1
import HandS.HeadHook2
import HandS.Head0
import HandS.Head1
import HandS.Head2
import PySem.Challenge.RW_hindprice_k80_whole_best_mixes_four_ways
import HandS.ForMost
import HandS.Evl
import HandS.Walk
import HandS.Wide
import HandS.WideBits
import HandS.TupAny
import HandS.TupMul
import HandS.Zip
import HandS.IsInst
import HandS.Deep
import HandS.Style
import HandS.Star
import HandS.Flow
import HandS.Defaults
import KE.GoesNew
import PyProof.WalksMore
import HandS.ClsMeth
import KE.KDictKeyed
import HandS.Iter
import HandS.DictComp
import HandS.RaiseMore
import PyProof.ReprRoads
import PyProof.ReprBulk
import PyProof.Rows.StrJoinMade
import HandS.Ends
import HandS.HeadEnd
section
set_option Elab.async false
set_option linter.all false
set_option maxRecDepth 100000
set_option maxHeartbeats 0
set_option autoImplicit false
namespace K8
open PySem L2
open PySem.Spec PyProof.Rows He
/-! What the head is asked. -/
def topA (i : Nat) : Stmt := PySem.Challenge.pw_hindprice_k80_whole_best_mixes_four_ways.main.body.getD i (.Pass ⟨0, 0, 0, 0⟩)
def nosB (K : PySem.W.Frag) (x : Str) (L : List Str) : Bool := L.all fun f => (Fa.noat x f).ok K
def pclB (K : PySem.W.Frag) (x : Str) : Bool := [(Fa.cls x).ok K, nosB K x ["kind", "told", "goods", "inner", "many", "levels", "shares", "counts", "number", "part"], eqO (PySem.W.findIn K (.ref (ga K x)) "__class__") (some (some (.builtin "object.__class__"))), eqO (PySem.W.specialIn K (.builtin "object.__class__") "__get__") (some (some (.builtin "getset_descriptor.__get__"))),
  decide (PySem.W.takesIn K (.builtin "object.__class__") = some true), decide (PySem.W.mroIn K (ga K x) (.type "object") = some true), decide (PySem.W.kitOne K (.ref (ga K x)) (.ref (ga K "Promise")) = some true)].all id
def bclB (K : PySem.W.Frag) (x : Str) (L : List Str) : Bool := (Fa.cls x).ok K && nosB K x L
abbrev SuV : Type := Option (Str × Str × Arguments × FuncBody × Scope × Addr × List Str × Addr)
def suV (K : PySem.W.Frag) (x : Str) : SuV := match K.lookup (ma K (ga K x) "__init__") with
  | some ⟨_, _, .func g, _⟩ => some (g.name, g.qualname, g.params, g.body, g.scope, g.globals, g.closure.map fun z => z.1, g.builtins)
  | _ => none
def suW (q : Str) (st : Stmt) : SuV := some (("__init__" : Str), q, defArgs st, .stmts (defBody st), defScope st, mainGlobals, [("__class__" : Str)], builtinsNs)
def cellB (K : PySem.W.Frag) (x : Str) : List (Str × Addr) → Bool
  | [(_, cc)] => (match K.lookup cc with
    | some ⟨_, _, .cell (some (.ref c)), _⟩ => decide (c = ga K x)
    | _ => false)
  | _ => false
def fileB (K : PySem.W.Frag) (file q : Str) : Value → Bool
  | .ref cda => PySem.W.codeIn K (.ref cda) q && (match K.lookup cda with
    | some ⟨_, _, .fields arr, _⟩ => (match (arr[2]? : Option Value) with
      | some (Value.str z _) => file == z
      | _ => false)
    | _ => false)
  | _ => false
def fnoB (K : PySem.W.Frag) (f : Addr) : Bool := match K.lookup f with
  | some ⟨.type c, _, _, _⟩ => decide (c = "function")
  | _ => false
def noB : Value → Bool
  | .none => true
  | _ => false
def inB (K : PySem.W.Frag) (file x q : Str) : Bool := match K.lookup (ma K (ga K x) "__init__") with
  | some ⟨_, _, .func g, _⟩ => noB g.defaults && (cellB K x g.closure && fileB K file q g.code)
  | _ => false
def supL (K : PySem.W.Frag) (file x q : Str) : List Bool := [inB K file x q, (PySem.W.clsIn K (ga K x)).isSome, fnoB K (ma K (ga K "Promise") "__init__"), (Fa.mkr x).ok K, decide (PySem.W.mroIn K (ga K x) (.ref (ga K x)) = some true), eqO (PySem.W.nsIn K cStatics "thirdparty.any") (some none),
  eqO (PySem.W.ks_superIn K (ga K x) (ga K x) "__init__") (some (some (.ref (ma K (ga K "Promise") "__init__")))), PySem.W.fnIn K (ma K (ga K "Promise") "__init__")]
abbrev AlK : Type := (List Bool × List FnW) × List SuV
/-- what is looked at -/
structure Ask where
  fa : List Fa
  fn : List DefD
  ex : List (PySem.W.Frag → Bool)
  su : List (Str × Str × Stmt)
def Ask.bits (a : Ask) (K : PySem.W.Frag) : List Bool := (a.fa.map fun f => f.ok K) ++ ((a.fn.map fun d => d.ok K) ++ a.ex.map fun b => b K)
def Ask.see (a : Ask) (K : PySem.W.Frag) : AlK := (([(a.bits K).all id], a.fn.map fun d => fnW K d.at_), a.su.map fun z => suV K z.1)
def Ask.want (a : Ask) : AlK := (([true], a.fn.map DefD.val), a.su.map fun z => suW z.2.1 z.2.2)
def valsD : Option Obj → List Addr
  | some ⟨_, _, .dict es _, _⟩ => es.toList.flatMap fun e => refV e.val
  | _ => []
def codesF : Option Obj → List Addr
  | some ⟨_, _, .func fd, _⟩ => refV fd.code ++ (refV fd.defaults ++ fd.closure.map fun z => z.2)
  | _ => []
def ownC : Option Obj → List Addr
  | some ⟨_, _, .cls cd, _⟩ => [cd.ns]
  | _ => []
def asC (g : Addr → Option Obj) (ms : List Addr) : List Addr := ms ++ ms.flatMap fun a => codesF (g a)
def asB (g : Addr → Option Obj) (ns vs : List Addr) : List Addr := cStatics :: mainGlobals :: (asC g vs ++ (ns ++ asC g (ns.flatMap fun a => valsD (g a))))
def asA (g : Addr → Option Obj) (vs : List Addr) : List Addr := asB g (vs.flatMap fun a => ownC (g a)) vs
def frL (g : Addr → Option Obj) : PySem.W.Frag := frG g (asA g (valsD (g mainGlobals)))
abbrev d_is_integer : DefD := ⟨("is_integer", none), "is_integer", "is_integer", defArgs (topA 14), defBody (topA 14), defScope (topA 14), [], []⟩
abbrev d_is_within : DefD := ⟨("is_within", none), "is_within", "is_within", defArgs (topA 15), defBody (topA 15), defScope (topA 15), [], []⟩
abbrev d_is_list : DefD := ⟨("is_list", none), "is_list", "is_list", defArgs (topA 16), defBody (topA 16), defScope (topA 16), [], []⟩
abbrev d_common : DefD := ⟨("common", none), "common", "common", defArgs (topA 17), defBody (topA 17), defScope (topA 17), [], []⟩
abbrev d_is_number : DefD := ⟨("is_number", none), "is_number", "is_number", defArgs (topA 18), defBody (topA 18), defScope (topA 18), [], []⟩
abbrev d_above_in : DefD := ⟨("above_in", none), "above_in", "above_in", defArgs (topA 19), defBody (topA 19), defScope (topA 19), [], []⟩
abbrev d_is_from_0 : DefD := ⟨("is_from_0", none), "is_from_0", "is_from_0", defArgs (topA 20), defBody (topA 20), defScope (topA 20), [], []⟩
abbrev d_is_row : DefD := ⟨("is_row", none), "is_row", "is_row", defArgs (topA 21), defBody (topA 21), defScope (topA 21), [], []⟩
abbrev d_is_sum_1 : DefD := ⟨("is_sum_1", none), "is_sum_1", "is_sum_1", defArgs (topA 22), defBody (topA 22), defScope (topA 22), [], []⟩
abbrev d_is_mix_of : DefD := ⟨("is_mix_of", none), "is_mix_of", "is_mix_of", defArgs (topA 23), defBody (topA 23), defScope (topA 23), [], []⟩
abbrev d_is_market_of : DefD := ⟨("is_market_of", none), "is_market_of", "is_market_of", defArgs (topA 24), defBody (topA 24), defScope (topA 24), [], []⟩
abbrev d_is_word_of : DefD := ⟨("is_word_of", none), "is_word_of", "is_word_of", defArgs (topA 25), defBody (topA 25), defScope (topA 25), [], []⟩
abbrev d_kept : DefD := ⟨("kept", none), "kept", "kept", defArgs (topA 26), defBody (topA 26), defScope (topA 26), [], []⟩
abbrev d_kept_row : DefD := ⟨("kept_row", none), "kept_row", "kept_row", defArgs (topA 27), defBody (topA 27), defScope (topA 27), [], []⟩
abbrev d_need_integer : DefD := ⟨("need_integer", none), "need_integer", "need_integer", defArgs (topA 28), defBody (topA 28), defScope (topA 28), [], []⟩
abbrev d_need_goods : DefD := ⟨("need_goods", none), "need_goods", "need_goods", defArgs (topA 29), defBody (topA 29), defScope (topA 29), [], []⟩
abbrev d_need_days : DefD := ⟨("need_days", none), "need_days", "need_days", defArgs (topA 30), defBody (topA 30), defScope (topA 30), [], []⟩
abbrev d_need_day : DefD := ⟨("need_day", none), "need_day", "need_day", defArgs (topA 31), defBody (topA 31), defScope (topA 31), [.str "day"], []⟩
abbrev d_need_market : DefD := ⟨("need_market", none), "need_market", "need_market", defArgs (topA 32), defBody (topA 32), defScope (topA 32), [.str "market"], []⟩
abbrev d_need_word : DefD := ⟨("need_word", none), "need_word", "need_word", defArgs (topA 33), defBody (topA 33), defScope (topA 33), [.str "word"], []⟩
abbrev d_halves : DefD := ⟨("halves", none), "halves", "halves", defArgs (topA 35), defBody (topA 35), defScope (topA 35), [], []⟩
abbrev d_lowest : DefD := ⟨("lowest", none), "lowest", "lowest", defArgs (topA 36), defBody (topA 36), defScope (topA 36), [], []⟩
abbrev d_added : DefD := ⟨("added", none), "added", "added", defArgs (topA 37), defBody (topA 37), defScope (topA 37), [], []⟩
abbrev d_turned : DefD := ⟨("turned", none), "turned", "turned", defArgs (topA 38), defBody (topA 38), defScope (topA 38), [], []⟩
abbrev d_less_by : DefD := ⟨("less_by", none), "less_by", "less_by", defArgs (topA 39), defBody (topA 39), defScope (topA 39), [], []⟩
abbrev d_product : DefD := ⟨("product", none), "product", "product", defArgs (topA 40), defBody (topA 40), defScope (topA 40), [], []⟩
abbrev d_part_by : DefD := ⟨("part_by", none), "part_by", "part_by", defArgs (topA 41), defBody (topA 41), defScope (topA 41), [], []⟩
abbrev d_sign_in : DefD := ⟨("sign_in", none), "sign_in", "sign_in", defArgs (topA 43), defBody (topA 43), defScope (topA 43), [], []⟩
abbrev d_total : DefD := ⟨("total", none), "total", "total", defArgs (topA 44), defBody (topA 44), defScope (topA 44), [], []⟩
abbrev d_summed : DefD := ⟨("summed", none), "summed", "summed", defArgs (topA 45), defBody (topA 45), defScope (topA 45), [], []⟩
abbrev d_multiplied : DefD := ⟨("multiplied", none), "multiplied", "multiplied", defArgs (topA 46), defBody (topA 46), defScope (topA 46), [], []⟩
abbrev d_raised : DefD := ⟨("raised", none), "raised", "raised", defArgs (topA 47), defBody (topA 47), defScope (topA 47), [], []⟩
abbrev d_power_in : DefD := ⟨("power_in", none), "power_in", "power_in", defArgs (topA 48), defBody (topA 48), defScope (topA 48), [], []⟩
abbrev d_lightning_in : DefD := ⟨("lightning_in", none), "lightning_in", "lightning_in", defArgs (topA 51), defBody (topA 51), defScope (topA 51), [], []⟩
abbrev d_lightnings_in : DefD := ⟨("lightnings_in", none), "lightnings_in", "lightnings_in", defArgs (topA 52), defBody (topA 52), defScope (topA 52), [], []⟩
abbrev d_run_in : DefD := ⟨("run_in", none), "run_in", "run_in", defArgs (topA 53), defBody (topA 53), defScope (topA 53), [], []⟩
abbrev d_need_promise : DefD := ⟨("need_promise", none), "need_promise", "need_promise", defArgs (topA 59), defBody (topA 59), defScope (topA 59), [.str "promise", .non], []⟩
abbrev d_need_shares : DefD := ⟨("need_shares", none), "need_shares", "need_shares", defArgs (topA 60), defBody (topA 60), defScope (topA 60), [], []⟩
abbrev d_times_in : DefD := ⟨("times_in", none), "times_in", "times_in", defArgs (topA 61), defBody (topA 61), defScope (topA 61), [], []⟩
abbrev d_spread : DefD := ⟨("spread", none), "spread", "spread", defArgs (topA 68), defBody (topA 68), defScope (topA 68), [], []⟩
abbrev d_best_at : DefD := ⟨("best_at", none), "best_at", "best_at", defArgs (topA 72), defBody (topA 72), defScope (topA 72), [], []⟩
abbrev d_worth_in : DefD := ⟨("worth_in", none), "worth_in", "worth_in", defArgs (topA 75), defBody (topA 75), defScope (topA 75), [], []⟩
abbrev d_worth_at_in : DefD := ⟨("worth_at_in", none), "worth_at_in", "worth_at_in", defArgs (topA 76), defBody (topA 76), defScope (topA 76), [], []⟩
abbrev d_best_many : DefD := ⟨("best_many", none), "best_many", "best_many", defArgs (topA 77), defBody (topA 77), defScope (topA 77), [], []⟩
abbrev d_has_best_in : DefD := ⟨("has_best_in", none), "has_best_in", "has_best_in", defArgs (topA 78), defBody (topA 78), defScope (topA 78), [], []⟩
abbrev d_named_by : DefD := ⟨("named_by", none), "named_by", "named_by", defArgs (topA 79), defBody (topA 79), defScope (topA 79), [], []⟩
abbrev d_named_in : DefD := ⟨("named_in", none), "named_in", "named_in", defArgs (topA 81), defBody (topA 81), defScope (topA 81), [], []⟩
abbrev d_need_no_best : DefD := ⟨("need_no_best", none), "need_no_best", "need_no_best", defArgs (topA 82), defBody (topA 82), defScope (topA 82), [], []⟩
abbrev d_worth : DefD := ⟨("worth", none), "worth", "worth", defArgs (topA 83), defBody (topA 83), defScope (topA 83), [], []⟩
abbrev d_worth_at : DefD := ⟨("worth_at", none), "worth_at", "worth_at", defArgs (topA 84), defBody (topA 84), defScope (topA 84), [], []⟩
abbrev d_named : DefD := ⟨("named", none), "named", "named", defArgs (topA 85), defBody (topA 85), defScope (topA 85), [], []⟩
abbrev d_choose_in : DefD := ⟨("choose_in", none), "choose_in", "choose_in", defArgs (topA 92), defBody (topA 92), defScope (topA 92), [], []⟩
abbrev d_counts_in : DefD := ⟨("counts_in", none), "counts_in", "counts_in", defArgs (topA 98), defBody (topA 98), defScope (topA 98), [], []⟩
abbrev d_many_counts : DefD := ⟨("many_counts", none), "many_counts", "many_counts", defArgs (topA 99), defBody (topA 99), defScope (topA 99), [], []⟩
abbrev d_counts_of_all : DefD := ⟨("counts_of_all", none), "counts_of_all", "counts_of_all", defArgs (topA 100), defBody (topA 100), defScope (topA 100), [], []⟩
abbrev d_ways_in : DefD := ⟨("ways_in", none), "ways_in", "ways_in", defArgs (topA 101), defBody (topA 101), defScope (topA 101), [], []⟩
abbrev d_need_few_counts : DefD := ⟨("need_few_counts", none), "need_few_counts", "need_few_counts", defArgs (topA 103), defBody (topA 103), defScope (topA 103), [], []⟩
abbrev d_orderless_in : DefD := ⟨("orderless_in", none), "orderless_in", "orderless_in", defArgs (topA 106), defBody (topA 106), defScope (topA 106), [], []⟩
abbrev d_best_by : DefD := ⟨("best_by", none), "best_by", "best_by", defArgs (topA 107), defBody (topA 107), defScope (topA 107), [], []⟩
abbrev d_worth_by_prices : DefD := ⟨("worth_by_prices", none), "worth_by", "worth_by", defArgs (topA 108), defBody (topA 108), defScope (topA 108), [], []⟩
abbrev d_by_counts : DefD := ⟨("by_counts", none), "by_counts", "by_counts", defArgs (topA 113), defBody (topA 113), defScope (topA 113), [], []⟩
abbrev d_by_one_line : DefD := ⟨("by_one_line", none), "by_one_line", "by_one_line", defArgs (topA 114), defBody (topA 114), defScope (topA 114), [], []⟩
abbrev d_rest_through : DefD := ⟨("rest_through", none), "rest_through", "rest_through", defArgs (topA 115), defBody (topA 115), defScope (topA 115), [], []⟩
abbrev d_rest_in : DefD := ⟨("rest_in", none), "rest_in", "rest_in", defArgs (topA 116), defBody (topA 116), defScope (topA 116), [], []⟩
abbrev d_price_in : DefD := ⟨("price_in", none), "price_in", "price_in", defArgs (topA 117), defBody (topA 117), defScope (topA 117), [], []⟩
abbrev d_price : DefD := ⟨("price", none), "price", "price", defArgs (topA 118), defBody (topA 118), defScope (topA 118), [], []⟩
abbrev d_rest : DefD := ⟨("rest", none), "rest", "rest", defArgs (topA 119), defBody (topA 119), defScope (topA 119), [], []⟩
abbrev d_behind : DefD := ⟨("behind", none), "behind", "behind", defArgs (topA 126), defBody (topA 126), defScope (topA 126), [], []⟩
abbrev d_keys_of : DefD := ⟨("keys_of", none), "keys_of", "keys_of", defArgs (topA 127), defBody (topA 127), defScope (topA 127), [], []⟩
abbrev d_worth_of_key : DefD := ⟨("worth_of_key", none), "worth_of_key", "worth_of_key", defArgs (topA 128), defBody (topA 128), defScope (topA 128), [], []⟩
abbrev d_rests_of : DefD := ⟨("rests_of", none), "rests_of", "rests_of", defArgs (topA 129), defBody (topA 129), defScope (topA 129), [], []⟩
abbrev d_list_book : DefD := ⟨("list_book", none), "list_book", "list_book", defArgs (topA 130), defBody (topA 130), defScope (topA 130), [], []⟩
abbrev d_inner_book : DefD := ⟨("inner_book", none), "inner_book", "inner_book", defArgs (topA 131), defBody (topA 131), defScope (topA 131), [], []⟩
abbrev d_tower : DefD := ⟨("tower", none), "tower", "tower", defArgs (topA 138), defBody (topA 138), defScope (topA 138), [], []⟩
abbrev d_worth_by_bests : DefD := ⟨("worth_by_bests", none), "worth_by", "worth_by", defArgs (topA 139), defBody (topA 139), defScope (topA 139), [], []⟩
abbrev d_joined : DefD := ⟨("joined", none), "joined", "joined", defArgs (topA 141), defBody (topA 141), defScope (topA 141), [], []⟩
abbrev d_rest_by : DefD := ⟨("rest_by", none), "rest_by", "rest_by", defArgs (topA 142), defBody (topA 142), defScope (topA 142), [], []⟩
abbrev d_prices_to : DefD := ⟨("prices_to", none), "prices_to", "prices_to", defArgs (topA 143), defBody (topA 143), defScope (topA 143), [], []⟩
abbrev d_need_counted : DefD := ⟨("need_counted", none), "need_counted", "need_counted", defArgs (topA 144), defBody (topA 144), defScope (topA 144), [], []⟩
abbrev d_best_worth : DefD := ⟨("best_worth", none), "best_worth", "best_worth", defArgs (topA 145), defBody (topA 145), defScope (topA 145), [], []⟩
abbrev d_best_price : DefD := ⟨("best_price", none), "best_price", "best_price", defArgs (topA 146), defBody (topA 146), defScope (topA 146), [], []⟩
abbrev d_all_best : DefD := ⟨("all_best", none), "all_best", "all_best", defArgs (topA 147), defBody (topA 147), defScope (topA 147), [], []⟩
abbrev d_best_rest : DefD := ⟨("best_rest", none), "best_rest", "best_rest", defArgs (topA 148), defBody (topA 148), defScope (topA 148), [], []⟩
abbrev d_rising : DefD := ⟨("rising", none), "rising", "rising", defArgs (topA 151), defBody (topA 151), defScope (topA 151), [], []⟩
abbrev d_best_stretch : DefD := ⟨("best_stretch", none), "best_stretch", "best_stretch", defArgs (topA 152), defBody (topA 152), defScope (topA 152), [], []⟩
abbrev d_law_fair : DefD := ⟨("_law_fair", none), "_law_fair", "_law_fair", defArgs (topA 154), defBody (topA 154), defScope (topA 154), [], []⟩
abbrev d_law_deal : DefD := ⟨("_law_deal", none), "_law_deal", "_law_deal", defArgs (topA 155), defBody (topA 155), defScope (topA 155), [], []⟩
abbrev d_law_one_of : DefD := ⟨("_law_one_of", none), "_law_one_of", "_law_one_of", defArgs (topA 156), defBody (topA 156), defScope (topA 156), [], []⟩
abbrev d_law_number : DefD := ⟨("_law_number", none), "_law_number", "_law_number", defArgs (topA 157), defBody (topA 157), defScope (topA 157), [], []⟩
abbrev d_law_halves : DefD := ⟨("_law_halves", none), "_law_halves", "_law_halves", defArgs (topA 158), defBody (topA 158), defScope (topA 158), [], []⟩
abbrev d_law_sum : DefD := ⟨("_law_sum", none), "_law_sum", "_law_sum", defArgs (topA 159), defBody (topA 159), defScope (topA 159), [], []⟩
abbrev d_law_times : DefD := ⟨("_law_times", none), "_law_times", "_law_times", defArgs (topA 160), defBody (topA 160), defScope (topA 160), [], []⟩
abbrev d_law_is_below : DefD := ⟨("_law_is_below", none), "_law_is_below", "_law_is_below", defArgs (topA 162), defBody (topA 162), defScope (topA 162), [], []⟩
abbrev d_law_mix : DefD := ⟨("_law_mix", none), "_law_mix", "_law_mix", defArgs (topA 163), defBody (topA 163), defScope (topA 163), [], []⟩
abbrev d_law_day : DefD := ⟨("_law_day", none), "_law_day", "_law_day", defArgs (topA 164), defBody (topA 164), defScope (topA 164), [], []⟩
abbrev d_law_pays : DefD := ⟨("_law_pays", none), "_law_pays", "_law_pays", defArgs (topA 166), defBody (topA 166), defScope (topA 166), [], []⟩
abbrev d_law_tower : DefD := ⟨("_law_tower", none), "_law_tower", "_law_tower", defArgs (topA 168), defBody (topA 168), defScope (topA 168), [], []⟩
abbrev d_law_worth : DefD := ⟨("_law_worth", none), "_law_worth", "_law_worth", defArgs (topA 169), defBody (topA 169), defScope (topA 169), [], []⟩
abbrev d_law_words : DefD := ⟨("_law_words", none), "_law_words", "_law_words", defArgs (topA 170), defBody (topA 170), defScope (topA 170), [], []⟩
abbrev d_law_with : DefD := ⟨("_law_with", none), "_law_with", "_law_with", defArgs (topA 171), defBody (topA 171), defScope (topA 171), [], []⟩
abbrev d_law_rest : DefD := ⟨("_law_rest", none), "_law_rest", "_law_rest", defArgs (topA 172), defBody (topA 172), defScope (topA 172), [], []⟩
abbrev d_law_purse : DefD := ⟨("_law_purse", none), "_law_purse", "_law_purse", defArgs (topA 173), defBody (topA 173), defScope (topA 173), [], []⟩
abbrev d_law_makes : DefD := ⟨("_law_makes", none), "_law_makes", "_law_makes", defArgs (topA 174), defBody (topA 174), defScope (topA 174), [], []⟩
abbrev d_law_told_right : DefD := ⟨("_law_told_right", none), "_law_told_right", "_law_told_right", defArgs (topA 175), defBody (topA 175), defScope (topA 175), [], []⟩
abbrev d_law : DefD := ⟨("law", none), "law", "law", defArgs (topA 176), defBody (topA 176), defScope (topA 176), [], []⟩
abbrev d_Promise_init : DefD := ⟨("Promise", some "__init__"), "__init__", "Promise.__init__", defArgs (inClass (topA 56) 0), defBody (inClass (topA 56) 0), defScope (inClass (topA 56) 0), [], []⟩
abbrev d_ListBook_init : DefD := ⟨("ListBook", some "__init__"), "__init__", "ListBook.__init__", defArgs (inClass (topA 125) 0), defBody (inClass (topA 125) 0), defScope (inClass (topA 125) 0), [], []⟩
abbrev d_ListBook_purse : DefD := ⟨("ListBook", some "purse"), "purse", "ListBook.purse", defArgs (inClass (topA 125) 1), defBody (inClass (topA 125) 1), defScope (inClass (topA 125) 1), [], []⟩
abbrev d_ListBook_amounts : DefD := ⟨("ListBook", some "amounts"), "amounts", "ListBook.amounts", defArgs (inClass (topA 125) 2), defBody (inClass (topA 125) 2), defScope (inClass (topA 125) 2), [], []⟩
abbrev d_ListBook_amount : DefD := ⟨("ListBook", some "amount"), "amount", "ListBook.amount", defArgs (inClass (topA 125) 3), defBody (inClass (topA 125) 3), defScope (inClass (topA 125) 3), [], []⟩
abbrev d_ListBook_come : DefD := ⟨("ListBook", some "come"), "come", "ListBook.come", defArgs (inClass (topA 125) 4), defBody (inClass (topA 125) 4), defScope (inClass (topA 125) 4), [], []⟩
abbrev d_Book_init : DefD := ⟨("Book", some "__init__"), "__init__", "Book.__init__", defArgs (inClass (topA 132) 0), defBody (inClass (topA 132) 0), defScope (inClass (topA 132) 0), [], []⟩
abbrev d_Book_tell : DefD := ⟨("Book", some "tell"), "tell", "Book.tell", defArgs (inClass (topA 132) 2), defBody (inClass (topA 132) 2), defScope (inClass (topA 132) 2), [], []⟩
abbrev d_Book_day : DefD := ⟨("Book", some "day"), "day", "Book.day", defArgs (inClass (topA 132) 3), defBody (inClass (topA 132) 3), defScope (inClass (topA 132) 3), [], []⟩
abbrev Pg : Program := (PySem.Challenge.rw_hindprice_k80_whole_best_mixes_four_ways).prog
def asFa0 : List Fa := [.free "len", .free "sum", .free "all", .free "any", .free "abs", .free "int", .free "bool", .free "list", .free "tuple", .free "isinstance", .free "zip", .free "enumerate", .free "range", .free "max", .free "min", .free "repr", .free "super", .glo "is_integer", .glo "is_within", .glo "is_list", .glo "common", .glo "is_number", .glo "above_in", .glo "is_from_0", .glo "is_row", .glo "is_sum_1", .glo "is_mix_of", .glo "is_market_of", .glo "is_word_of", .glo "kept"]
def asFa1 : List Fa := [.glo "kept_row", .glo "need_integer", .glo "need_goods", .glo "need_days", .glo "need_day", .glo "need_market", .glo "need_word", .glo "halves", .glo "lowest", .glo "added", .glo "turned", .glo "less_by", .glo "product", .glo "part_by", .glo "sign_in", .glo "total", .glo "summed", .glo "multiplied", .glo "raised", .glo "power_in", .glo "lightning_in", .glo "lightnings_in", .glo "run_in", .glo "need_promise", .glo "need_shares", .glo "times_in", .glo "spread", .glo "best_at", .glo "worth_in", .glo "worth_at_in"]
def asFa2 : List Fa := [.glo "best_many", .glo "has_best_in", .glo "named_by", .glo "named_in", .glo "need_no_best", .glo "worth", .glo "worth_at", .glo "named", .glo "choose_in", .glo "counts_in", .glo "many_counts", .glo "counts_of_all", .glo "ways_in", .glo "need_few_counts", .glo "orderless_in", .glo "best_by", .glo "worth_by_prices", .glo "by_counts", .glo "by_one_line", .glo "rest_through", .glo "rest_in", .glo "price_in", .glo "price", .glo "rest", .glo "behind", .glo "keys_of", .glo "worth_of_key", .glo "rests_of", .glo "list_book", .glo "inner_book"]
def asFa3 : List Fa := [.glo "tower", .glo "worth_by_bests", .glo "joined", .glo "rest_by", .glo "prices_to", .glo "need_counted", .glo "best_worth", .glo "best_price", .glo "all_best", .glo "best_rest", .glo "rising", .glo "best_stretch", .glo "_law_fair", .glo "_law_deal", .glo "_law_one_of", .glo "_law_number", .glo "_law_halves", .glo "_law_sum", .glo "_law_times", .glo "_law_is_below", .glo "_law_mix", .glo "_law_day", .glo "_law_pays", .glo "_law_tower", .glo "_law_worth", .glo "_law_words", .glo "_law_with", .glo "_law_rest", .glo "_law_purse", .glo "_law_makes"]
def asFa4 : List Fa := [.glo "_law_told_right", .glo "law", .int "MOST_GOODS" 5, .int "MOST_DAYS" 1000, .int "MOST_COUNT_promises" 1000, .int "MOST_COUNTS_words" 5000, .int "MOST_COUNT_bests" 1000, .int "MOST_LOTS" 60, .int "MOST_BEST_DAYS" 250, .int "MOST_COUNTS_bests" 5000, .int "MOST_HALVED" 60, .glo "Promise", .glo "Mix", .glo "BestMix", .glo "ListBook", .glo "Book", .glo "ORDERED", .mkr "Promise", .mkr "ListBook", .mkr "Book", .meth "Promise" "__init__", .meth "ListBook" "__init__", .meth "ListBook" "purse", .meth "ListBook" "amounts", .meth "ListBook" "amount", .meth "ListBook" "come", .meth "Book" "__init__", .meth "Book" "tell", .meth "Book" "day"]
def asFa : List Fa := asFa0 ++ (asFa1 ++ (asFa2 ++ (asFa3 ++ (asFa4))))
def asFn0 : List DefD := [d_is_integer, d_is_within, d_is_list, d_common, d_is_number, d_above_in, d_is_from_0, d_is_row, d_is_sum_1, d_is_mix_of, d_is_market_of, d_is_word_of, d_kept, d_kept_row, d_need_integer, d_need_goods, d_need_days, d_need_day, d_need_market, d_need_word, d_halves, d_lowest, d_added, d_turned, d_less_by, d_product, d_part_by, d_sign_in, d_total, d_summed]
def asFn1 : List DefD := [d_multiplied, d_raised, d_power_in, d_lightning_in, d_lightnings_in, d_run_in, d_need_promise, d_need_shares, d_times_in, d_spread, d_best_at, d_worth_in, d_worth_at_in, d_best_many, d_has_best_in, d_named_by, d_named_in, d_need_no_best, d_worth, d_worth_at, d_named, d_choose_in, d_counts_in, d_many_counts, d_counts_of_all, d_ways_in, d_need_few_counts, d_orderless_in, d_best_by, d_worth_by_prices]
def asFn2 : List DefD := [d_by_counts, d_by_one_line, d_rest_through, d_rest_in, d_price_in, d_price, d_rest, d_behind, d_keys_of, d_worth_of_key, d_rests_of, d_list_book, d_inner_book, d_tower, d_worth_by_bests, d_joined, d_rest_by, d_prices_to, d_need_counted, d_best_worth, d_best_price, d_all_best, d_best_rest, d_rising, d_best_stretch, d_law_fair, d_law_deal, d_law_one_of, d_law_number, d_law_halves]
def asFn3 : List DefD := [d_law_sum, d_law_times, d_law_is_below, d_law_mix, d_law_day, d_law_pays, d_law_tower, d_law_worth, d_law_words, d_law_with, d_law_rest, d_law_purse, d_law_makes, d_law_told_right, d_law, d_Promise_init, d_ListBook_init, d_ListBook_purse, d_ListBook_amounts, d_ListBook_amount, d_ListBook_come, d_Book_init, d_Book_tell, d_Book_day]
def asFn : List DefD := asFn0 ++ (asFn1 ++ (asFn2 ++ (asFn3)))
def asEx : List (PySem.W.Frag → Bool) := [fun K => pclB K "Promise", fun K => pclB K "Mix", fun K => pclB K "BestMix", fun K => bclB K "ListBook" ["goods", "rests", "held"], fun K => bclB K "Book" ["promise", "market", "left", "_inner", "purse", "amounts"], fun K => tupB K "ORDERED" [.str "then", .str "walk"], fun K => (supL K Pg.main.file "Mix" "Mix.__init__").all id, fun K => (supL K Pg.main.file "BestMix" "BestMix.__init__").all id]
def asks : Ask := ⟨asFa, asFn, asEx, [("Mix", "Mix.__init__", (inClass (topA 57) 0)), ("BestMix", "BestMix.__init__", (inClass (topA 58) 0))]⟩
abbrev rowK : PySem.W.OpenRow := PySem.W.OpenLaw.row PySem.Challenge.rw_hindprice_k80_whole_best_mixes_four_ways
def bn0 : List PySem.Str := ["_wall", "PriceError", "BadNumber", "BadDay", "BadMarket", "BadMix", "BadWord", "BadPromise", "Misfit", "TooMany", "MOST_GOODS", "MOST_DAYS", "is_integer", "is_within", "is_list", "common", "is_number", "above_in", "is_from_0", "is_row", "is_sum_1", "is_mix_of", "is_market_of", "is_word_of", "kept", "kept_row", "need_integer", "need_goods", "need_days", "need_day"]
def bn1 : List PySem.Str := ["need_market", "need_word", "halves", "lowest", "added", "turned", "less_by", "product", "part_by", "below", "sign_in", "total", "summed", "multiplied", "raised", "power_in", "greater", "lightning_in", "lightnings_in", "run_in", "MOST_COUNT_promises", "Promise", "Mix", "BestMix", "need_promise", "need_shares", "times_in", "parts_in", "sum_in", "greatest_in"]
def bn2 : List PySem.Str := ["then_in", "walk_in", "best_in", "spread", "greatest_of", "greatest_of_worths", "best_at", "led_on", "walk_worth_in", "worth_in", "worth_at_in", "best_many", "has_best_in", "named_by", "remade", "named_in", "need_no_best", "worth", "worth_at", "named", "times_of", "after_day_in", "after_good_in", "after_word_in", "choose_in", "MOST_WORDS", "MOST_COUNTS_words", "many_words", "words_in", "counts_in"]
def bn3 : List PySem.Str := ["many_counts", "counts_of_all", "ways_in", "need_few_words", "need_few_counts", "ORDERED", "orderless_in", "best_by", "worth_by", "worth_by_prices", "greatest_of_prices", "by_words", "by_counts", "by_one_line", "rest_through", "rest_in", "price_in", "price", "rest", "LaidBook", "TimesBook", "SumBook", "ThenBook", "ListBook", "behind", "keys_of", "worth_of_key", "rests_of", "list_book", "inner_book"]
def bn4 : List PySem.Str := ["Book", "MOST_COUNT_bests", "MOST_LOTS", "MOST_BEST_DAYS", "MOST_COUNTS_bests", "tower", "worth_by_bests", "joined", "rest_by", "prices_to", "need_counted", "best_worth", "best_price", "all_best", "best_rest", "MOST_HALVED", "rising", "best_stretch", "_law_fair", "_law_deal", "_law_one_of", "_law_number", "_law_halves", "_law_sum", "_law_times", "_law_over", "_law_is_below", "_law_mix", "_law_day", "_law_market"]
def bn5 : List PySem.Str := ["_law_pays", "_law_means", "_law_tower", "_law_worth", "_law_words", "_law_with", "_law_rest", "_law_purse", "_law_makes", "_law_told_right"]
def bnames : List PySem.Str := bn0 ++ (bn1 ++ (bn2 ++ (bn3 ++ (bn4 ++ (bn5)))))
/-- over any choice of the part looked at -/
def hookL (a : Ask) : PySem.W.Hook where
  α := AlK
  obs := fun s => a.see (frL s.heap.get?)
  val := fun _ => a.want
  says := fun _ h => ∃ K : PySem.W.Frag, K.In h ∧ a.see K = a.want
  of := fun _ _ e => ⟨_, frG_in, e⟩
  keeps := fun _ _ _ ⟨K, hK, c⟩ k => ⟨K, hK.keeps k, c⟩
abbrev hkK : PySem.W.Hook := hookL asks
def obK (s : PySem.W.SharedT) : AlK := asks.see (frL (HandSHeadRun.getT s))
theorem obK_eq (s : PySem.W.SharedT) : obK s = hkK.obs s.abs := by
  have e : HandSHeadRun.getT s = s.abs.heap.get? := funext fun a => HandSHeadRun.getT_eq s a
  show asks.see (frL (HandSHeadRun.getT s)) = asks.see (frL s.abs.heap.get?)
  rw [e]
abbrev qK : Program := PySem.W.view rowK.prog [176]
abbrev RunK : Prop := ∀ w : World, HandSHeadRun.RunEq rowK qK hkK obK 20000 bnames w
end K8
end
section
set_option Elab.async false
set_option linter.all false
set_option maxRecDepth 100000
set_option maxHeartbeats 0
set_option autoImplicit false
namespace K8
open PySem L2
open PySem.Spec PyProof.Rows He
/-! The runs of the top. -/
noncomputable abbrev endK (w : World) (os : OsState) : Option PySem.W.SharedT := HandSHeadRun.endF (HandSHeadRun.stepQ (HandSHeadRun.denQ HandSHeadRun.tabQ) rowK.prog w) 20000 rowK.prog w os
section
variable {S A B C : Type} {o : Option S}
theorem mapK {f : S → A} {f2 : S → B} {g : S → C} {a : A} {b : B} {c : C} (h0 : o.map f = some a) (h1 : o.map f2 = some b) (h2 : o.map g = some c) : o.map (fun s => (f s, f2 s, g s)) = some (a, b, c) := by
  cases o with
  | none => cases h0
  | some s =>
    have y1 : f s = a := Option.some.inj h0
    have y2 : f2 s = b := Option.some.inj h1
    have y3 : g s = c := Option.some.inj h2
    show some (f s, f2 s, g s) = _
    rw [y1, y2, y3]
theorem seeK {a : Ask} {F : S → PySem.W.Frag} (h1 : o.map (fun s => (a.fa.map fun f => f.ok (F s)).all id) = some true) (h2 : o.map (fun s => ((a.fn.map fun d => d.ok (F s)) ++ a.ex.map fun b => b (F s)).all id) = some true)
    (h3 : o.map (fun s => (a.fn.map (fun d => fnW (F s) d.at_), a.su.map fun z => suV (F s) z.1)) = some (a.fn.map DefD.val, a.su.map fun z => suW z.2.1 z.2.2)) : o.map (fun s => a.see (F s)) = some a.want := by
  cases o with
  | none => cases h1
  | some s =>
    have y1 : (a.fa.map fun f => f.ok (F s)).all id = true := Option.some.inj h1
    have y2 : ((a.fn.map fun d => d.ok (F s)) ++ a.ex.map fun b => b (F s)).all id = true := Option.some.inj h2
    have y3 : (a.fn.map (fun d => fnW (F s) d.at_), a.su.map fun z => suV (F s) z.1) = (a.fn.map DefD.val, a.su.map fun z => suW z.2.1 z.2.2) := Option.some.inj h3
    have y4 : (a.bits (F s)).all id = true := by
      unfold Ask.bits
      rw [List.all_append, y1, y2]
      rfl
    have y5 : a.fn.map (fun d => fnW (F s) d.at_) = a.fn.map DefD.val := congrArg Prod.fst y3
    have y6 : (a.su.map fun z => suV (F s) z.1) = a.su.map fun z => suW z.2.1 z.2.2 := congrArg Prod.snd y3
    show some (a.see (F s)) = some a.want
    unfold Ask.see Ask.want
    rw [y4, y5, y6]
end
section
open PySem.W PySem.Calls
noncomputable abbrev lookK (w : World) (s : PySem.W.SharedT) := HandSHeadRun.looksF rowK.prog (boot_heap w.params) s.abs
noncomputable abbrev seenK (s : PySem.W.SharedT) := HandSHeadRun.seenQ qK bnames (importedModules rowK.prog.main.body) (fun s => xlAt qK [] s && recOk rowK.toRowW.records s) s.abs
end
theorem runl (w : World) (os : OsState) : (endK w os).map (fun s => lookK w s) = some true := by
  kernel_rfl
theorem runs (w : World) (os : OsState) : (endK w os).map (fun s => seenK s) = some (PySem.W.openGood qK bnames) := by
  kernel_rfl
theorem run1 (w : World) (os : OsState) : (endK w os).map (fun s => (asks.fa.map fun f => f.ok (frL (HandSHeadRun.getT s))).all id) = some true := by
  kernel_rfl
theorem run2a (w : World) (os : OsState) : (endK w os).map (fun s => ((asks.fn.take 75).map fun d => d.ok (frL (HandSHeadRun.getT s))).all id) = some true := by
  kernel_rfl
theorem run2b (w : World) (os : OsState) : (endK w os).map (fun s => (((asks.fn.drop 75).map fun d => d.ok (frL (HandSHeadRun.getT s))) ++ asks.ex.map fun b => b (frL (HandSHeadRun.getT s))).all id) = some true := by
  kernel_rfl
theorem run2 (w : World) (os : OsState) : (endK w os).map (fun s => ((asks.fn.map fun d => d.ok (frL (HandSHeadRun.getT s))) ++ asks.ex.map fun b => b (frL (HandSHeadRun.getT s))).all id) = some true := by
  have h1 := run2a w os
  have h2 := run2b w os
  revert h1 h2
  generalize endK w os = o
  intro h1 h2
  cases o with
  | none => cases h1
  | some s =>
    have y1 : ((asks.fn.take 75).map fun d => d.ok (frL (HandSHeadRun.getT s))).all id = true := Option.some.inj h1
    have y2 : (((asks.fn.drop 75).map fun d => d.ok (frL (HandSHeadRun.getT s))) ++ asks.ex.map fun b => b (frL (HandSHeadRun.getT s))).all id = true := Option.some.inj h2
    show some (((asks.fn.map fun d => d.ok (frL (HandSHeadRun.getT s))) ++ asks.ex.map fun b => b (frL (HandSHeadRun.getT s))).all id) = some true
    refine congrArg some ?_
    rw [List.all_append] at y2 ⊢
    obtain ⟨y3, y4⟩ := ba y2
    rw [y4, Bool.and_true]
    have e : asks.fn.map (fun d => d.ok (frL (HandSHeadRun.getT s))) = (asks.fn.take 75).map (fun d => d.ok (frL (HandSHeadRun.getT s))) ++ (asks.fn.drop 75).map (fun d => d.ok (frL (HandSHeadRun.getT s))) := by
      rw [← List.map_append, List.take_append_drop]
    rw [e, List.all_append, y1, y3]
    rfl
theorem run3 (w : World) (os : OsState) : (endK w os).map (fun s => (asks.fn.map (fun d => fnW (frL (HandSHeadRun.getT s)) d.at_), asks.su.map fun z => suV (frL (HandSHeadRun.getT s)) z.1)) = some (asks.fn.map DefD.val, asks.su.map fun z => suW z.2.1 z.2.2) := by
  kernel_rfl
theorem runK : RunK := fun w os => mapK (o := endK w os) (f := lookK w) (f2 := seenK) (g := obK) (runl w os) (runs w os) (seeK (a := asks) (F := fun s => frL (HandSHeadRun.getT s)) (run1 w os) (run2 w os) (run3 w os))
end K8
end
section
set_option Elab.async false
set_option linter.all false
set_option maxRecDepth 100000
set_option maxHeartbeats 1000000
set_option autoImplicit false
/-! A typed layer over the hand layer: what an expression's value is, in a heap that only grows. -/
namespace K8
open PySem
open L2
open Evl (Ex)
/-! ### canonical readings -/
def wE (X : Cx) (e : Expr) : TE := fun σ H Q => ∀ pins s, Inv X pins σ H s → wpAny (model X.prog X.w) X.A (eval e X.env) (EP X pins σ Q) X.xe s
def wT (X : Cx) (e : Expr) : TT := fun σ H Q => ∀ pins s, Inv X pins σ H s → wpAny (model X.prog X.w) X.A (isTrue e X.env (eval e X.env)) (TP X pins σ Q) X.xe s
def wA (X : Cx) (es : List Expr) : TA := fun σ H Q => ∀ pos pins s, Inv X pins σ H s → wpAny (model X.prog X.w) X.A (spliced (backTo pos (starEach es X.env))) (AP X pins σ Q) X.xe s
def wSs (X : Cx) (st : List Stmt) : TS := fun D σ H => ∀ pins s, Inv X pins σ H s → wpAny (model X.prog X.w) X.A (execs st X.env) (SP X pins D) X.xe s
def wS (X : Cx) (st : Stmt) : TS := fun D σ H => ∀ pins s, Inv X pins σ H s → wpAny (model X.prog X.w) X.A (exec st X.env) (SP X pins D) X.xe s
def wG (X : Cx) (tg : Expr) : TG := fun v σ H Q => ∀ pins s u, Inv X pins σ H s → RelV v u → wpAny (model X.prog X.w) X.A (assign tg X.env u) (fun _ s' => ∃ σ' H', Inv X pins σ' H' s' ∧ Q σ' H') X.xe s
def wGs (X : Cx) (ts : List Expr) : TGs := fun vs σ H Q => ∀ pins s us, Inv X pins σ H s → Vals vs us → wpAny (model X.prog X.w) X.A (assignInOrder ((assignEach ts X.env).map (·.2)) us) (fun _ s' => ∃ σ' H', Inv X pins σ' H' s' ∧ Q σ' H') X.xe s
def wI (X : Cx) (tg iter : Expr) : TI := fun σ H R => ∀ pins s, Inv X pins σ H s → wpAny (model X.prog X.w) X.A (eval iter X.env) (fun v s1 => wpAny (model X.prog X.w) X.A (pyIter v) (PIE X pins σ tg R) X.xe s1) X.xe s
section
variable {X : Cx} {e tg : Expr} {es : List Expr} {st : Stmt} {sts : List Stmt}
theorem pe_w : PE X e (wE X e) := ⟨fun pins s _ _ _ I h => h pins s I⟩
theorem pt_w : PT X e (wT X e) := ⟨fun pins s _ _ _ I h => h pins s I⟩
theorem pa_w : PA X es (wA X es) := ⟨fun pos pins s _ _ _ I h => h pos pins s I⟩
theorem pss_w : PSs X sts (wSs X sts) := ⟨fun pins s _ _ _ I h => h pins s I⟩
theorem ps_w : PS X st (wS X st) := ⟨fun pins s _ _ _ I h => h pins s I⟩
theorem pg_w : PG X tg (wG X tg) := ⟨fun pins s _ _ _ u _ I r h => h pins s u I r⟩
theorem pgs_w : PGs X es (wGs X es) := ⟨fun pins s _ _ _ us _ I r h => h pins s us I r⟩
theorem pi_w : PI X tg e (wI X tg e) := ⟨fun pins s _ _ _ I h => h pins s I⟩
variable {σ : St} {H : Hp}
theorem wE_of {t : TE} (h : PE X e t) {Q : VK} (q : t σ H Q) : wE X e σ H Q := fun pins s I => h.run pins s σ H Q I q
theorem wT_of {t : TT} (h : PT X e t) {Q : Bool → Hp → Prop} (q : t σ H Q) : wT X e σ H Q := fun pins s I => h.run pins s σ H Q I q
theorem wA_of {t : TA} (h : PA X es t) {Q : List V → Hp → Prop} (q : t σ H Q) : wA X es σ H Q := fun pos pins s I => h.run pos pins s σ H Q I q
theorem wSs_of {t : TS} (h : PSs X sts t) {D : Ends} (q : t D σ H) : wSs X sts D σ H := fun pins s I => h.run pins s σ H D I q
theorem wS_of {t : TS} (h : PS X st t) {D : Ends} (q : t D σ H) : wS X st D σ H := fun pins s I => h.run pins s σ H D I q
theorem wG_of {t : TG} (h : PG X tg t) {v : V} {Q : St → Hp → Prop} (q : t v σ H Q) : wG X tg v σ H Q := fun pins s u I r => h.run pins s σ H v u Q I r q
theorem wGs_of {t : TGs} (h : PGs X es t) {vs : List V} {Q : St → Hp → Prop} (q : t vs σ H Q) : wGs X es vs σ H Q := fun pins s us I r => h.run pins s σ H vs us Q I r q
theorem wI_of {t : TI} (h : PI X tg e t) {R : It → Hp → Prop} (q : t σ H R) : wI X tg e σ H R := fun pins s I => h.run pins s σ H R I q
/-- a reading grows with its wish -/
theorem wE_mono {Q Q' : VK} (h : wE X e σ H Q) (q : ∀ v H', Q v H' → Q' v H') : wE X e σ H Q' := fun pins s I => thn (h pins s I) fun _ _ ⟨v, H', I', r, z⟩ => ⟨v, H', I', r, q v H' z⟩
end
/-! ### what a value is -/
/-- a promise's fields, all laid -/
def full (fs : List (Str × V)) : Bool := (fs.lookup ("levels" : Str)).isSome && match fs.lookup ("kind" : Str) with
  | some (.str k) => k != ("times" : Str) || (fs.lookup ("part" : Str)).isSome
  | _ => false
/-- what never changes once it is made -/
def Stab : HO → Prop
  | .tup _ => True
  | .frz _ _ => True
  | .ins _ _ fs => full fs = true
  | _ => False
/-- tuples and instances stay -/
def ExI (H H' : Hp) : Prop := ∀ a o, H a = some o → Stab o → H' a = some o
theorem ExI.of {H H' : Hp} (e : Ex H H') : ExI H H' := fun a o h _ => e a o h
theorem ExI.refl (H : Hp) : ExI H H := fun _ _ h _ => h
theorem ExI.trans {H H1 H2 : Hp} (a : ExI H H1) (b : ExI H1 H2) : ExI H H2 := fun c o h s => b c o (a c o h s) s
theorem ExI.upd {H : Hp} {p : Addr} {o u : HO} (h : H p = some o) (ns : ¬ Stab o) : ExI H (upd H p u) := fun a o' ha st => by
  have ne : a ≠ p := fun e => by
    subst e
    rw [h] at ha
    cases ha
    exact ns st
  rw [upd_ne ne]
  exact ha
structure VI where
  ok : Hp → V → Prop
  mono : ∀ {H H' : Hp} {v : V}, ExI H H' → ok H v → ok H' v
structure VP where
  ok : Hp → V → Prop
  mono : ∀ {H H' : Hp} {v : V}, Ex H H' → ok H v → ok H' v
def VI.p (P : VI) : VP := ⟨P.ok, fun e h => P.mono (.of e) h⟩
abbrev Oks (Ps : List VI) (H : Hp) (vs : List V) : Prop := Paired (fun (P : VI) (v : V) => P.ok H v) Ps vs
theorem Oks.mono {Ps : List VI} {H H' : Hp} {vs : List V} (e : ExI H H') (h : Oks Ps H vs) : Oks Ps H' vs := Paired.mapP h fun P _ q => P.mono e q
def VI.is (v : V) : VI := ⟨fun _ x => x = v, fun _ h => h⟩
abbrev VI.int (n : Int) : VI := .is (.int n)
abbrev VI.bl (b : Bool) : VI := .is (.bl b)
abbrev VI.str (z : Str) : VI := .is (.str z)
abbrev VI.non : VI := .is .non
def VI.any : VI := ⟨fun _ _ => True, fun _ _ => trivial⟩
def VI.tup (Ps : List VI) : VI := ⟨fun H v => ∃ a xs, v = .ref a ∧ H a = some (.tup xs) ∧ Oks Ps H xs, fun e ⟨a, xs, h1, h2, h3⟩ => ⟨a, xs, h1, e a _ h2 trivial, h3.mono e⟩⟩
/-- some thing with a property -/
def VI.ex {α : Type} (P : α → VI) : VI := ⟨fun H v => ∃ a, (P a).ok H v, fun e ⟨a, h⟩ => ⟨a, (P a).mono e h⟩⟩
def VP.lst (Ps : List VI) : VP := ⟨fun H v => ∃ a xs, v = .ref a ∧ H a = some (.lst xs) ∧ Oks Ps H xs, fun e ⟨a, xs, h1, h2, h3⟩ => ⟨a, xs, h1, e a _ h2, h3.mono (.of e)⟩⟩
/-- a slot's word: unknown; a thing that stays; of the entry; of the last base; a list of its own -/
inductive Ty where
  | u
  | i (P : VI)
  | e (P : VP)
  | f (P : VP)
  | o (Ps : List VI)
def Ty.vp : Ty → VP
  | .u => VI.any.p
  | .i P => P.p
  | .e P => P
  | .f P => P
  | .o Ps => .lst Ps
/-- of a value: entry, last base, heap -/
def Ty.ok : Ty → Hp → Hp → Hp → V → Prop
  | .u, _, _, _, _ => True
  | .i P, _, _, H, v => P.ok H v
  | .e P, H0, _, _, v => P.ok H0 v
  | .f P, _, H1, _, v => P.ok H1 v
  | .o Ps, _, H1, H, v => ∃ p xs, v = .ref p ∧ H1 p = none ∧ H p = some (.lst xs) ∧ Oks Ps H xs
theorem Ty.ok_mono {T : Ty} {H0 H1 H H' : Hp} {v : V} (e : Ex H H') (h : T.ok H0 H1 H v) : T.ok H0 H1 H' v := by
  cases T with
  | u => trivial
  | i P => exact P.mono (.of e) h
  | e P => exact h
  | f P => exact h
  | o Ps =>
    obtain ⟨p, xs, h1, h2, h3, h4⟩ := h
    exact ⟨p, xs, h1, h2, e p _ h3, h4.mono (.of e)⟩
theorem Ty.ok_vp {T : Ty} {H0 H1 H : Hp} {v : V} (b : Ex H0 H1) (e : Ex H1 H) (h : T.ok H0 H1 H v) : T.vp.ok H v := by
  cases T with
  | u => trivial
  | i P => exact h
  | e P => exact P.mono (b.trans e) h
  | f P => exact P.mono e h
  | o Ps =>
    obtain ⟨p, xs, h1, _, h3, h4⟩ := h
    exact ⟨p, xs, h1, h3, h4⟩
abbrev Ctx := List Ty
structure Fit (H0 H1 : Hp) (Γ : Ctx) (σ : St) (H : Hp) : Prop where
  b : Ex H0 H1
  ex : Ex H1 H
  len : σ.length = Γ.length
  ok : ∀ (i : Nat) (T : Ty), Γ[i]? = some T → T = .u ∨ ∃ v, σ[i]? = some (some v) ∧ T.ok H0 H1 H v
  ap : ∀ (i j : Nat) (Ps Qs : List VI) (v : V), i ≠ j → Γ[i]? = some (.o Ps) → Γ[j]? = some (.o Qs) → σ[i]? = some (some v) → σ[j]? = some (some v) → False
/-- a list that a slot owns -/
def Own (Γ : Ctx) (σ : St) (a : Addr) : Prop := ∃ (i : Nat) (Ps : List VI), Γ[i]? = some (.o Ps) ∧ σ[i]? = some (some (.ref a))
section
variable {H0 H1 H H' : Hp} {Γ : Ctx} {σ : St}
theorem Fit.mono (e : Ex H H') (f : Fit H0 H1 Γ σ H) : Fit H0 H1 Γ σ H' := ⟨f.b, f.ex.trans e, f.len, fun i T h => (f.ok i T h).imp id fun ⟨v, h1, h2⟩ => ⟨v, h1, T.ok_mono e h2⟩, f.ap⟩
theorem Fit.get (f : Fit H0 H1 Γ σ H) {i : Nat} {T : Ty} (h : Γ[i]? = some T) (hu : T ≠ .u) : ∃ v, σ[i]? = some (some v) ∧ T.ok H0 H1 H v := (f.ok i T h).resolve_left hu
theorem Fit.own (f : Fit H0 H1 Γ σ H) {a : Addr} (h : Own Γ σ a) : H1 a = none ∧ ∃ xs, H a = some (.lst xs) := by
  obtain ⟨i, Ps, h1, h2⟩ := h
  obtain ⟨v, s1, p, xs, e, n, q, _⟩ := f.get h1 (by simp)
  rw [h2] at s1
  cases s1
  cases e
  exact ⟨n, xs, q⟩
/-- a slot is stored -/
theorem Fit.set {T : Ty} {v : V} (f : Fit H0 H1 Γ σ H) (i : Nat) (h : T.ok H0 H1 H v) (ho : ∀ Ps, T = .o Ps → ∀ (j : Nat) (Qs : List VI), Γ[j]? = some (.o Qs) → j ≠ i → σ[j]? ≠ some (some v)) : Fit H0 H1 (Γ.set i T) (σ.set i (some v)) H := by
  refine ⟨f.b, f.ex, by simp [f.len], fun j U hj => ?_, fun j k Ps Qs w hjk hj hk sj sk => ?_⟩
  · by_cases e : j = i
    · subst e
      have hl : j < Γ.length := by
        have := (List.getElem?_eq_some_iff.mp hj).1
        simpa using this
      rw [List.getElem?_set_self hl] at hj
      cases hj
      exact .inr ⟨v, List.getElem?_set_self (by rw [f.len]; exact hl), h⟩
    · rw [List.getElem?_set_ne (Ne.symm e)] at hj
      rw [List.getElem?_set_ne (Ne.symm e)]
      exact f.ok j U hj
  · have hl : ∀ {m : Nat} {U : Ty}, (Γ.set i T)[m]? = some U → m < Γ.length := fun {m U} q => by
      have := (List.getElem?_eq_some_iff.mp q).1
      simpa using this
    have lj := hl hj
    have lk := hl hk
    by_cases e : j = i
    · subst e
      rw [List.getElem?_set_self lj] at hj
      cases hj
      rw [List.getElem?_set_self (by rw [f.len]; exact lj)] at sj
      cases sj
      rw [List.getElem?_set_ne hjk] at hk sk
      exact ho Ps rfl k Qs hk (Ne.symm hjk) sk
    · rw [List.getElem?_set_ne (Ne.symm e)] at hj sj
      by_cases e2 : k = i
      · subst e2
        rw [List.getElem?_set_self lk] at hk
        cases hk
        rw [List.getElem?_set_self (by rw [f.len]; exact lk)] at sk
        cases sk
        exact ho Qs rfl j Ps hj hjk sj
      · rw [List.getElem?_set_ne (Ne.symm e2)] at hk sk
        exact f.ap j k Ps Qs w hjk hj hk sj sk
theorem Fit.setI {P : VI} {v : V} (f : Fit H0 H1 Γ σ H) (i : Nat) (h : P.ok H v) : Fit H0 H1 (Γ.set i (.i P)) (σ.set i (some v)) H := f.set i h fun _ e => nomatch e
/-- a new list is stored -/
theorem Fit.setO {Ps : List VI} {p : Addr} {xs : List V} (f : Fit H0 H1 Γ σ H) (e : Ex H H') (i : Nat) (n : H p = none) (h : H' p = some (.lst xs)) (k : Oks Ps H' xs) : Fit H0 H1 (Γ.set i (.o Ps)) (σ.set i (some (.ref p))) H' := by
  refine (f.mono e).set i ⟨p, xs, rfl, Evl.fresh_back f.ex n, h, k⟩ fun Qs hP j Rs hj hji sj => ?_
  obtain ⟨_, ys, q⟩ := f.own ⟨j, Rs, hj, sj⟩
  rw [n] at q
  cases q
/-- a list of its own is changed -/
theorem Fit.wr {i : Nat} {Ps Qs : List VI} {p : Addr} {xs ys : List V} (f : Fit H0 H1 Γ σ H) (hi : Γ[i]? = some (.o Ps)) (hs : σ[i]? = some (some (.ref p))) (hp : H p = some (.lst xs)) (k : Oks Qs H ys) : Fit H0 H1 (Γ.set i (.o Qs)) σ (upd H p (.lst ys)) := by
  have n : H1 p = none := (f.own ⟨i, Ps, hi, hs⟩).1
  have x : ExI H (upd H p (.lst ys)) := .upd hp fun z => z
  have il : i < Γ.length := (List.getElem?_eq_some_iff.mp hi).1
  have up : ∀ {j : Nat} {Rs : List VI}, (Γ.set i (.o Qs))[j]? = some (.o Rs) → ∃ Ss, Γ[j]? = some (.o Ss) := fun {j Rs} hj => by
    by_cases e : j = i
    · subst e
      exact ⟨Ps, hi⟩
    · rw [List.getElem?_set_ne (Ne.symm e)] at hj
      exact ⟨Rs, hj⟩
  refine ⟨f.b, f.ex.mut n, by simp [f.len], fun j U hj => ?_, fun j k Rs Ss w hjk hj hk sj sk => ?_⟩
  · by_cases e : j = i
    · subst e
      rw [List.getElem?_set_self il] at hj
      cases hj
      exact .inr ⟨_, hs, p, ys, rfl, n, upd_same, k.mono x⟩
    · rw [List.getElem?_set_ne (Ne.symm e)] at hj
      rcases f.ok j U hj with h | ⟨v, h1, h2⟩
      · exact .inl h
      · refine .inr ⟨v, h1, ?_⟩
        cases U with
        | u => trivial
        | i P => exact P.mono x h2
        | e P => exact h2
        | f P => exact h2
        | o Rs =>
          obtain ⟨q, zs, rfl, h3, h4, h5⟩ := h2
          have nq : q ≠ p := fun z => by
            subst z
            exact f.ap j i Rs Ps _ e hj hi h1 hs
          exact ⟨q, zs, rfl, h3, by rw [upd_ne nq]; exact h4, h5.mono x⟩
  · obtain ⟨_, a⟩ := up hj
    obtain ⟨_, b⟩ := up hk
    exact f.ap j k _ _ w hjk a b sj sk
/-- an object that no slot knows is changed -/
theorem Fit.other {p : Addr} {o u : HO} (f : Fit H0 H1 Γ σ H) (n : H1 p = none) (hp : H p = some o) (ns : ¬ Stab o) (hn : ¬ Own Γ σ p) : Fit H0 H1 Γ σ (upd H p u) := by
  have x : ExI H (upd H p u) := .upd hp ns
  refine ⟨f.b, f.ex.mut n, f.len, fun j U hj => ?_, f.ap⟩
  rcases f.ok j U hj with h | ⟨v, h1, h2⟩
  · exact .inl h
  · refine .inr ⟨v, h1, ?_⟩
    cases U with
    | u => trivial
    | i P => exact P.mono x h2
    | e P => exact h2
    | f P => exact h2
    | o Rs =>
      obtain ⟨q, zs, rfl, h3, h4, h5⟩ := h2
      have nq : q ≠ p := fun z => by
        subst z
        exact hn ⟨j, Rs, hj, h1⟩
      exact ⟨q, zs, rfl, h3, by rw [upd_ne nq]; exact h4, h5.mono x⟩
/-- forgetting -/
def Le (Γ' Γ : Ctx) : Prop := Γ'.length = Γ.length ∧ ∀ (i : Nat) (T : Ty), Γ'[i]? = some T → T = .u ∨ Γ[i]? = some T
theorem Fit.le {Γ' : Ctx} (f : Fit H0 H1 Γ σ H) (l : Le Γ' Γ) : Fit H0 H1 Γ' σ H := by
  refine ⟨f.b, f.ex, f.len.trans l.1.symm, fun i T h => (l.2 i T h).elim .inl fun q => f.ok i T q, fun i j Ps Qs v hij hi hj si sj => ?_⟩
  have h1 := (l.2 i _ hi).resolve_left (by simp)
  have h2 := (l.2 j _ hj).resolve_left (by simp)
  exact f.ap i j Ps Qs v hij h1 h2 si sj
/-- another base: all but what the slots own -/
noncomputable def base (Γ : Ctx) (σ : St) (H : Hp) : Hp := open Classical in fun a => if Own Γ σ a then none else H a
theorem base_in {a : Addr} (h : ¬ Own Γ σ a) : base Γ σ H a = H a := by
  unfold base
  rw [if_neg h]
theorem base_own {a : Addr} (h : Own Γ σ a) : base Γ σ H a = none := by
  unfold base
  rw [if_pos h]
theorem base_ex : Ex (base Γ σ H) H := fun a o h => by
  by_cases w : Own Γ σ a
  · rw [base_own w] at h
    cases h
  · rw [base_in w] at h
    exact h
theorem Fit.toBase (f : Fit H0 H1 Γ σ H) : Ex H1 (base Γ σ H) := fun a o h => by
  by_cases w : Own Γ σ a
  · rw [(f.own w).1] at h
    cases h
  · rw [base_in w]
    exact f.ex a o h
theorem Fit.rebase (f : Fit H0 H1 Γ σ H) : Fit H0 (base Γ σ H) Γ σ H := by
  refine ⟨f.b.trans f.toBase, base_ex, f.len, fun j U hj => ?_, f.ap⟩
  rcases f.ok j U hj with h | ⟨v, h1, h2⟩
  · exact .inl h
  · refine .inr ⟨v, h1, ?_⟩
    cases U with
    | u => trivial
    | i P => exact h2
    | e P => exact h2
    | f P => exact P.mono f.toBase h2
    | o Rs =>
      obtain ⟨q, zs, rfl, h3, h4, h5⟩ := h2
      exact ⟨q, zs, rfl, base_own ⟨j, Rs, hj, h1⟩, h4, h5⟩
def Ty.dem : Ty → Ty
  | .f _ => .u
  | T => T
/-- back to a smaller base: frozen slots are forgotten -/
theorem Fit.unbase {H2 : Hp} (f : Fit H0 H2 Γ σ H) (b : Ex H0 H1) (e : Ex H1 H2) : Fit H0 H1 (Γ.map Ty.dem) σ H := by
  have up : ∀ {j : Nat} {T : Ty}, (Γ.map Ty.dem)[j]? = some T → ∃ U, Γ[j]? = some U ∧ T = U.dem := fun {j T} h => by
    rw [List.getElem?_map] at h
    cases q : Γ[j]? with
    | none =>
      rw [q] at h
      cases h
    | some U =>
      rw [q] at h
      cases h
      exact ⟨U, rfl, rfl⟩
  refine ⟨b, e.trans f.ex, by simp [f.len], fun j T hj => ?_, fun j k Ps Qs v hjk hj hk sj sk => ?_⟩
  · obtain ⟨U, hU, rfl⟩ := up hj
    rcases f.ok j U hU with h | ⟨v, h1, h2⟩
    · subst h
      exact .inl rfl
    · cases U with
      | u => exact .inl rfl
      | i P => exact .inr ⟨v, h1, h2⟩
      | e P => exact .inr ⟨v, h1, h2⟩
      | f P => exact .inl rfl
      | o Rs =>
        obtain ⟨q, zs, rfl, h3, h4, h5⟩ := h2
        exact .inr ⟨_, h1, q, zs, rfl, Evl.fresh_back e h3, h4, h5⟩
  · obtain ⟨U, hU, eU⟩ := up hj
    obtain ⟨W, hW, eW⟩ := up hk
    cases U with
    | o Rs =>
      cases W with
      | o Ss => exact f.ap j k Rs Ss v hjk hU hW sj sk
      | _ => cases eW
    | _ => cases eU
/-- slot i's own list is frozen -/
theorem Fit.freeze {i : Nat} {Ps : List VI} (f : Fit H0 H1 Γ σ H) (hi : Γ[i]? = some (.o Ps)) : Fit H0 (base (Γ.set i .u) σ H) (Γ.set i (.f (.lst Ps))) σ H := by
  have il : i < Γ.length := (List.getElem?_eq_some_iff.mp hi).1
  obtain ⟨v, s1, p, xs, rfl, n, hp, ok⟩ := f.get hi (by simp)
  have own : ∀ {a : Addr}, Own (Γ.set i .u) σ a → Own Γ σ a := fun {a} ⟨j, Qs, h1, h2⟩ => by
    by_cases e : j = i
    · subst e
      rw [List.getElem?_set_self il] at h1
      cases h1
    · rw [List.getElem?_set_ne (Ne.symm e)] at h1
      exact ⟨j, Qs, h1, h2⟩
  have np : ¬ Own (Γ.set i .u) σ p := fun ⟨j, Qs, h1, h2⟩ => by
    by_cases e : j = i
    · subst e
      rw [List.getElem?_set_self il] at h1
      cases h1
    · rw [List.getElem?_set_ne (Ne.symm e)] at h1
      exact f.ap j i Qs Ps _ e h1 hi h2 s1
  have e1 : Ex H1 (base (Γ.set i .u) σ H) := fun a o h => by
    by_cases w : Own (Γ.set i .u) σ a
    · rw [(f.own (own w)).1] at h
      cases h
    · rw [base_in w]
      exact f.ex a o h
  refine ⟨f.b.trans e1, base_ex, by simp [f.len], fun j U hj => ?_, fun j k Qs Rs w hjk hj hk sj sk => ?_⟩
  · by_cases e : j = i
    · subst e
      rw [List.getElem?_set_self il] at hj
      cases hj
      refine .inr ⟨_, s1, p, xs, rfl, by rw [base_in np]; exact hp, ?_⟩
      exact ok.mono fun a o ha st => by
        by_cases w : Own (Γ.set j .u) σ a
        · obtain ⟨_, ys, q⟩ := f.own (own w)
          rw [q] at ha
          cases ha
          cases st
        · rw [base_in w]
          exact ha
    · rw [List.getElem?_set_ne (Ne.symm e)] at hj
      rcases f.ok j U hj with h | ⟨v, h1, h2⟩
      · exact .inl h
      · refine .inr ⟨v, h1, ?_⟩
        cases U with
        | u => trivial
        | i P => exact h2
        | e P => exact h2
        | f P => exact P.mono e1 h2
        | o Rs =>
          obtain ⟨q, zs, rfl, h3, h4, h5⟩ := h2
          exact ⟨q, zs, rfl, base_own ⟨j, Rs, by rw [List.getElem?_set_ne (Ne.symm e)]; exact hj, h1⟩, h4, h5⟩
  · have nk : ∀ {m : Nat} {Ss : List VI}, (Γ.set i (.f (.lst Ps)))[m]? = some (.o Ss) → Γ[m]? = some (.o Ss) := fun {m Ss} q => by
      by_cases e : m = i
      · subst e
        rw [List.getElem?_set_self il] at q
        cases q
      · rw [List.getElem?_set_ne (Ne.symm e)] at q
        exact q
    exact f.ap j k Qs Rs w hjk (nk hj) (nk hk) sj sk
end
end K8
end
section
set_option Elab.async false
set_option linter.all false
set_option maxRecDepth 100000
set_option maxHeartbeats 1000000
set_option autoImplicit false
/-! The judgements of the typed layer, their rules. -/
namespace K8
open PySem L2
open Evl (Ex)
def EV (X : Cx) (e : Expr) (Γ : Ctx) (P : VP) : Prop := ∀ (H0 H1 : Hp) (σ : St) (H : Hp), Fit H0 H1 Γ σ H → ∀ Q : VK, (∀ v H2, Ex H H2 → P.ok H2 v → Q v H2) → wE X e σ H Q
/-- a new list -/
def EF (X : Cx) (e : Expr) (Γ : Ctx) (Ps : List VI) : Prop := ∀ (H0 H1 : Hp) (σ : St) (H : Hp), Fit H0 H1 Γ σ H → ∀ Q : VK, (∀ p xs H2, Ex H H2 → H p = none → H2 p = some (.lst xs) → Oks Ps H2 xs → Q (.ref p) H2) → wE X e σ H Q
/-- a list that no slot owns -/
def EL (X : Cx) (e : Expr) (Γ : Ctx) (Ps : List VI) : Prop := ∀ (H0 H1 : Hp) (σ : St) (H : Hp), Fit H0 H1 Γ σ H → ∀ Q : VK, (∀ a xs H2, Ex H H2 → H2 a = some (.lst xs) → Oks Ps H2 xs → (H a = none ∨ H1 a = some (.lst xs)) → Q (.ref a) H2) → wE X e σ H Q
def ET (X : Cx) (e : Expr) (Γ : Ctx) (b : Bool) : Prop := ∀ (H0 H1 : Hp) (σ : St) (H : Hp), Fit H0 H1 Γ σ H → ∀ Q : Bool → Hp → Prop, (∀ H2, Ex H H2 → Q b H2) → wT X e σ H Q
abbrev Pks (Ps : List VP) (H : Hp) (vs : List V) : Prop := Paired (fun (P : VP) (v : V) => P.ok H v) Ps vs
def EA (X : Cx) (es : List Expr) (Γ : Ctx) (Ps : List VP) : Prop := ∀ (H0 H1 : Hp) (σ : St) (H : Hp), Fit H0 H1 Γ σ H → ∀ Q : List V → Hp → Prop, (∀ vs H2, Ex H H2 → Pks Ps H2 vs → Q vs H2) → wA X es σ H Q
def EI (X : Cx) (es : List Expr) (Γ : Ctx) (Ps : List VI) : Prop := ∀ (H0 H1 : Hp) (σ : St) (H : Hp), Fit H0 H1 Γ σ H → ∀ Q : List V → Hp → Prop, (∀ vs H2, Ex H H2 → Oks Ps H2 vs → Q vs H2) → wA X es σ H Q
abbrev NK := Hp → Hp → St → Hp → Prop
def fitN (Γ : Ctx) : NK := fun H0 H1 σ H => Fit H0 H1 Γ σ H
def noN : NK := fun _ _ _ _ => False
/-- a block: from Γ it goes on at N, or hands back an R -/
def GS (X : Cx) (sts : List Stmt) (Γ : Ctx) (N : NK) (R : Ty) : Prop := ∀ (H0 H1 : Hp) (σ : St) (H : Hp), Fit H0 H1 Γ σ H → ∀ D : Ends, (∀ σ' H', N H0 H1 σ' H' → D.nx σ' H') → (∀ v H', Ex H0 H' → R.ok H0 H0 H' v → D.rt v H') → wSs X sts D σ H
def TGT (X : Cx) (tg : Expr) (Γ : Ctx) (P : VI) (Γ' : Ctx) (vs : List Nat) : Prop := ∀ (H0 H1 : Hp) (σ : St) (H : Hp) (v : V), Fit H0 H1 Γ σ H → P.ok H v → ∀ Q : St → Hp → Prop,
  (∀ σ' H', Ex H H' → Fit H0 H1 Γ' σ' H' → σ'.length = σ.length → (∀ k, k ∉ vs → σ'[k]? = σ[k]?) → Q σ' H') → wG X tg v σ H Q
def TGTs (X : Cx) (ts : List Expr) (Γ : Ctx) (Ps : List VI) (Γ' : Ctx) (vs : List Nat) : Prop := ∀ (H0 H1 : Hp) (σ : St) (H : Hp) (ws : List V), Fit H0 H1 Γ σ H → Oks Ps H ws → ∀ Q : St → Hp → Prop,
  (∀ σ' H', Ex H H' → Fit H0 H1 Γ' σ' H' → σ'.length = σ.length → (∀ k, k ∉ vs → σ'[k]? = σ[k]?) → Q σ' H') → wGs X ts ws σ H Q
structure Wk {α : Type} (B : Hp) (J : It) (xs : List α) (F : α → VI) : Prop where
  go : ∀ i H3, i < xs.length → Ex B H3 → J.go i H3
  stop : ∀ H3, Ex B H3 → J.stop xs.length H3
  yld : ∀ i H3 x H', i < xs.length → Ex B H3 → J.yld i H3 x H' → Ex H3 H' ∧ ∃ a, xs[i]? = some a ∧ (F a).ok H' x
def IT {α : Type} (X : Cx) (tg iter : Expr) (Γ : Ctx) (xs : List α) (F : α → VI) : Prop := ∀ (H0 H1 : Hp) (σ : St) (H : Hp), Fit H0 H1 Γ σ H → ∀ R : It → Hp → Prop, (∀ J H2, Ex H H2 → Wk (base Γ σ H2) J xs F → R J H2) → wI X tg iter σ H R
section
variable {X : Cx} {Γ Γ' : Ctx} {P : VP} {pos : Pos}
theorem Ex.r {H : Hp} : Ex H H := Evl.Ex.refl H
theorem pAppend {α β : Type} {F : α → β → Prop} : ∀ {a1 a2 : List α} {b1 b2 : List β}, Paired F a1 b1 → Paired F a2 b2 → Paired F (a1 ++ a2) (b1 ++ b2)
  | _, _, _, _, .nil, h => h
  | _, _, _, _, .cons r t, h => .cons r (pAppend t h)
theorem Pks.mono {Ps : List VP} {H H' : Hp} {vs : List V} (e : Ex H H') (h : Pks Ps H vs) : Pks Ps H' vs := Paired.mapP h fun P _ q => P.mono e q
/-! ### names and constants -/
theorem vI (i : Nat) {x : Str} {P : VI} (hΓ : Γ[i]? = some (.i P) := by rfl) (hN : X.N[i]? = some x := by rfl) (hv : Vis X.env.scope x := by first | exact Or.inl rfl | exact Or.inr (Or.inl rfl) | exact Or.inr (Or.inr rfl)) (hd : (x == ("__debug__" : Str)) = false := by decide) (hcd : (x == ("__classdict__" : Str)) = false := by decide) :
    EV X (.Name x pos) Γ P.p := fun H0 H1 σ H f Q q => by
  obtain ⟨v, s1, h⟩ := f.get hΓ (by simp)
  exact wE_of (pe_var hN hv hd hcd) ⟨v, s1, q v H Ex.r h⟩
theorem vE (i : Nat) {x : Str} {P : VP} (hΓ : Γ[i]? = some (.e P) := by rfl) (hN : X.N[i]? = some x := by rfl) (hv : Vis X.env.scope x := by first | exact Or.inl rfl | exact Or.inr (Or.inl rfl) | exact Or.inr (Or.inr rfl)) (hd : (x == ("__debug__" : Str)) = false := by decide) (hcd : (x == ("__classdict__" : Str)) = false := by decide) :
    EV X (.Name x pos) Γ P := fun H0 H1 σ H f Q q => by
  obtain ⟨v, s1, h⟩ := f.get hΓ (by simp)
  exact wE_of (pe_var hN hv hd hcd) ⟨v, s1, q v H Ex.r (P.mono (f.b.trans f.ex) h)⟩
theorem vO (i : Nat) {x : Str} {Ps : List VI} (hΓ : Γ[i]? = some (.o Ps) := by rfl) (hN : X.N[i]? = some x := by rfl) (hv : Vis X.env.scope x := by first | exact Or.inl rfl | exact Or.inr (Or.inl rfl) | exact Or.inr (Or.inr rfl)) (hd : (x == ("__debug__" : Str)) = false := by decide) (hcd : (x == ("__classdict__" : Str)) = false := by decide) :
    EV X (.Name x pos) Γ (.lst Ps) := fun H0 H1 σ H f Q q => by
  obtain ⟨v, s1, p, xs, e, _, h1, h2⟩ := f.get hΓ (by simp)
  exact wE_of (pe_var hN hv hd hcd) ⟨v, s1, q v H Ex.r ⟨p, xs, e, h1, h2⟩⟩
theorem lE (i : Nat) {x : Str} {Ps : List VI} (hΓ : Γ[i]? = some (.e (.lst Ps)) := by rfl) (hN : X.N[i]? = some x := by rfl) (hv : Vis X.env.scope x := by first | exact Or.inl rfl | exact Or.inr (Or.inl rfl) | exact Or.inr (Or.inr rfl)) (hd : (x == ("__debug__" : Str)) = false := by decide) (hcd : (x == ("__classdict__" : Str)) = false := by decide) :
    EL X (.Name x pos) Γ Ps := fun H0 H1 σ H f Q q => by
  obtain ⟨v, s1, a, xs, rfl, h1, h2⟩ := f.get hΓ (by simp)
  exact wE_of (pe_var hN hv hd hcd) ⟨_, s1, q a xs H Ex.r (f.ex _ _ (f.b _ _ h1)) (h2.mono (.of (f.b.trans f.ex))) (.inr (f.b _ _ h1))⟩
theorem lF (i : Nat) {x : Str} {Ps : List VI} (hΓ : Γ[i]? = some (.f (.lst Ps)) := by rfl) (hN : X.N[i]? = some x := by rfl) (hv : Vis X.env.scope x := by first | exact Or.inl rfl | exact Or.inr (Or.inl rfl) | exact Or.inr (Or.inr rfl)) (hd : (x == ("__debug__" : Str)) = false := by decide) (hcd : (x == ("__classdict__" : Str)) = false := by decide) :
    EL X (.Name x pos) Γ Ps := fun H0 H1 σ H f Q q => by
  obtain ⟨v, s1, a, xs, rfl, h1, h2⟩ := f.get hΓ (by simp)
  exact wE_of (pe_var hN hv hd hcd) ⟨_, s1, q a xs H Ex.r (f.ex _ _ h1) (h2.mono (.of f.ex)) (.inr h1)⟩
theorem vF (i : Nat) {x : Str} {P : VP} (hΓ : Γ[i]? = some (.f P) := by rfl) (hN : X.N[i]? = some x := by rfl) (hv : Vis X.env.scope x := by first | exact Or.inl rfl | exact Or.inr (Or.inl rfl) | exact Or.inr (Or.inr rfl)) (hd : (x == ("__debug__" : Str)) = false := by decide) (hcd : (x == ("__classdict__" : Str)) = false := by decide) :
    EV X (.Name x pos) Γ P := fun H0 H1 σ H f Q q => by
  obtain ⟨v, s1, h⟩ := f.get hΓ (by simp)
  exact wE_of (pe_var hN hv hd hcd) ⟨v, s1, q v H Ex.r (P.mono f.ex h)⟩
theorem e_int {i : Int} {j} : EV X (.Constant (.int i) j pos) Γ (VI.int i).p := fun _ _ _ H _ Q q => wE_of pe_int (q _ H Ex.r rfl)
theorem e_bl {b : Bool} {j} : EV X (.Constant (.bool b) j pos) Γ (VI.bl b).p := fun _ _ _ H _ Q q => wE_of pe_bl (q _ H Ex.r rfl)
theorem e_non {j} : EV X (.Constant .none j pos) Γ VI.non.p := fun _ _ _ H _ Q q => wE_of pe_non (q _ H Ex.r rfl)
theorem e_str {x : Str} {j} : EV X (.Constant (.str x) j pos) Γ (VI.str x).p := fun _ _ _ H _ Q q => wE_of pe_str (q _ H Ex.r rfl)
theorem e_glob {x : Str} {v : V} {u : Value} (hm : X.mg x = some u) (r : RelV v u) (hg : Gl X x := by rfl) (hd : (x == ("__debug__" : Str)) = false := by decide) : EV X (.Name x pos) Γ (VI.is v).p := fun _ _ _ H _ Q q => wE_of (pe_glob hg hm r hd) (q _ H Ex.r rfl)
variable {e a b c d : Expr} {es : List Expr}
theorem EF.v {Ps : List VI} (h : EF X e Γ Ps) : EV X e Γ (.lst Ps) := fun H0 H1 σ H f Q q => h H0 H1 σ H f Q fun p xs H2 e2 _ h2 k => q _ H2 e2 ⟨p, xs, rfl, h2, k⟩
theorem EF.l {Ps : List VI} (h : EF X e Γ Ps) : EL X e Γ Ps := fun H0 H1 σ H f Q q => h H0 H1 σ H f Q fun p xs H2 e2 n h2 k => q p xs H2 e2 h2 k (.inl n)
theorem EL.v {Ps : List VI} (h : EL X e Γ Ps) : EV X e Γ (.lst Ps) := fun H0 H1 σ H f Q q => h H0 H1 σ H f Q fun p xs H2 e2 h2 k _ => q _ H2 e2 ⟨p, xs, rfl, h2, k⟩
theorem EV.imp {P P' : VP} (h : EV X e Γ P) (k : ∀ H v, P.ok H v → P'.ok H v) : EV X e Γ P' := fun H0 H1 σ H f Q q => h H0 H1 σ H f Q fun v H2 e2 h2 => q v H2 e2 (k H2 v h2)
theorem EV.to {P P' : VP} (h : EV X e Γ P) (k : P = P') : EV X e Γ P' := k ▸ h
theorem ET.to {b b' : Bool} (h : ET X e Γ b) (k : b = b') : ET X e Γ b' := k ▸ h
theorem EF.to {Ps Ps' : List VI} (h : EF X e Γ Ps) (k : Ps = Ps') : EF X e Γ Ps' := k ▸ h
theorem EL.to {Ps Ps' : List VI} (h : EL X e Γ Ps) (k : Ps = Ps') : EL X e Γ Ps' := k ▸ h
/-! ### operators -/
/-- two operands, the operation by values -/
theorem e_op2 {op : Operator} {r : R2} {P1 P2 P3 : VP} (ho : OpR X (binaryOp op) r) (ha : EV X a Γ P1) (hb : EV X b Γ P2)
    (hr : ∀ x y H, P1.ok H x → P2.ok H y → ∀ Q : VK, (∀ v H2, Ex H H2 → P3.ok H2 v → Q v H2) → r x y H Q) : EV X (.BinOp a op b pos) Γ P3 := fun H0 H1 σ H f Q q =>
  wE_of (pe_op ho pe_w pe_w) (ha H0 H1 σ H f _ fun x H2 e2 r2 => hb H0 H1 σ H2 (f.mono e2) _ fun y H3 e3 r3 => hr x y H3 (P1.mono e3 r2) r3 Q fun v H4 e4 r4 => q v H4 ((e2.trans e3).trans e4) r4)
theorem e_opF {op : Operator} {r : R2} {P1 P2 : VP} {Ps : List VI} (ho : OpR X (binaryOp op) r) (ha : EV X a Γ P1) (hb : EV X b Γ P2)
    (hr : ∀ x y H, P1.ok H x → P2.ok H y → ∀ Q : VK, (∀ p xs H2, Ex H H2 → H p = none → H2 p = some (.lst xs) → Oks Ps H2 xs → Q (.ref p) H2) → r x y H Q) : EF X (.BinOp a op b pos) Γ Ps := fun H0 H1 σ H f Q q =>
  wE_of (pe_op ho pe_w pe_w) (ha H0 H1 σ H f _ fun x H2 e2 r2 => hb H0 H1 σ H2 (f.mono e2) _ fun y H3 e3 r3 => hr x y H3 (P1.mono e3 r2) r3 Q fun p xs H4 e4 n r4 k => q p xs H4 ((e2.trans e3).trans e4) (Evl.fresh_back (e2.trans e3) n) r4 k)
theorem e_un {op : UnaryOp} {r : V → Hp → VK → Prop} {P1 P3 : VP} (ho : UnR X (unaryOp op) r) (ha : EV X a Γ P1) (hr : ∀ x H, P1.ok H x → ∀ Q : VK, (∀ v H2, Ex H H2 → P3.ok H2 v → Q v H2) → r x H Q) : EV X (.UnaryOp op a pos) Γ P3 := fun H0 H1 σ H f Q q =>
  wE_of (pe_un ho pe_w) (ha H0 H1 σ H f _ fun x H2 e2 r2 => hr x H2 r2 Q fun v H4 e4 r4 => q v H4 (e2.trans e4) r4)
theorem e_cmp {op : CmpOp} {r : R2} {P1 P2 P3 : VP} (ho : OpR X (compareOp op) r) (hm : behindInMarks op b = false) (ha : EV X a Γ P1) (hb : EV X b Γ P2)
    (hr : ∀ x y H, P1.ok H x → P2.ok H y → ∀ Q : VK, (∀ v H2, Ex H H2 → P3.ok H2 v → Q v H2) → r x y H Q) : EV X (.Compare a [op] [b] pos) Γ P3 := fun H0 H1 σ H f Q q =>
  wE_of (pe_cmpR ho pe_w pe_w hm) (ha H0 H1 σ H f _ fun x H2 e2 r2 => hb H0 H1 σ H2 (f.mono e2) _ fun y H3 e3 r3 => hr x y H3 (P1.mono e3 r2) r3 Q fun v H4 e4 r4 => q v H4 ((e2.trans e3).trans e4) r4)
theorem t_cmp {op : CmpOp} {r : R2} {P1 P2 : VP} {k : Bool} (ho : OpR X (compareOp op) r) (hm : behindInMarks op b = false) (ha : EV X a Γ P1) (hb : EV X b Γ P2)
    (hr : ∀ x y H, P1.ok H x → P2.ok H y → ∀ Q : VK, (∀ H2, Ex H H2 → Q (.bl k) H2) → r x y H Q) : ET X (.Compare a [op] [b] pos) Γ k := fun H0 H1 σ H f Q q =>
  wT_of (pt_cmpR ho pe_w pe_w hm) (ha H0 H1 σ H f _ fun x H2 e2 r2 => hb H0 H1 σ H2 (f.mono e2) _ fun y H3 e3 r3 => hr x y H3 (P1.mono e3 r2) r3 _ fun H4 e4 => ⟨k, rfl, q H4 ((e2.trans e3).trans e4)⟩)
variable {m n : Int}
abbrev ei (n : Int) : VP := (VI.int n).p
abbrev eb (b : Bool) : VP := (VI.bl b).p
theorem r_I0 {g : Int → Int → V} {x y : V} {H : Hp} (hx : (ei m).ok H x) (hy : (ei n).ok H y) {Q : VK} (q : Q (g m n) H) : rI0 g x y H Q := ⟨m, n, hx, hy, q⟩
theorem r_I {C : Int → Int → Prop} {g : Int → Int → V} {x y : V} {H : Hp} (hc : C m n) (hx : (ei m).ok H x) (hy : (ei n).ok H y) {Q : VK} (q : Q (g m n) H) : rI C g x y H Q := ⟨m, n, hx, hy, hc, q⟩
theorem e_add (ha : EV X a Γ (ei m)) (hb : EV X b Γ (ei n)) : EV X (.BinOp a .Add b pos) Γ (ei (m + n)) := e_op2 op_add ha hb fun _ _ H hx hy _ q => r_I0 hx hy (q _ H Ex.r rfl)
theorem e_sub (ha : EV X a Γ (ei m)) (hb : EV X b Γ (ei n)) : EV X (.BinOp a .Sub b pos) Γ (ei (m - n)) := e_op2 op_sub ha hb fun _ _ H hx hy _ q => r_I0 hx hy (q _ H Ex.r rfl)
theorem e_mul (ha : EV X a Γ (ei m)) (hb : EV X b Γ (ei n)) (hc : CMulW m n) : EV X (.BinOp a .Mult b pos) Γ (ei (m * n)) := e_op2 op_mulW ha hb fun _ _ H hx hy _ q => r_I hc hx hy (q _ H Ex.r rfl)
theorem e_fdiv (ha : EV X a Γ (ei m)) (hb : EV X b Γ (ei n)) (hc : CDivW m n) : EV X (.BinOp a .FloorDiv b pos) Γ (ei (m / n)) := e_op2 op_fdivW ha hb fun _ _ H hx hy _ q => r_I hc hx hy (q _ H Ex.r rfl)
theorem e_mod (ha : EV X a Γ (ei m)) (hb : EV X b Γ (ei n)) (hc : 0 < n) : EV X (.BinOp a .Mod b pos) Γ (ei (m % n)) := e_op2 op_mod ha hb fun _ _ H hx hy _ q => r_I (C := fun _ j => 0 < j) hc hx hy (q _ H Ex.r rfl)
theorem e_pow (ha : EV X a Γ (ei m)) (hb : EV X b Γ (ei n)) (hc : CPow m n) : EV X (.BinOp a .Pow b pos) Γ (ei (m ^ n.toNat)) := e_op2 op_pow ha hb fun _ _ H hx hy _ q => r_I hc hx hy (q _ H Ex.r rfl)
theorem e_neg (ha : EV X a Γ (ei m)) : EV X (.UnaryOp .USub a pos) Γ (ei (-m)) := e_un un_neg ha fun _ H hx _ q => ⟨m, hx, q _ H Ex.r rfl⟩
theorem t_lt (ha : EV X a Γ (ei m)) (hb : EV X b Γ (ei n)) : ET X (.Compare a [.Lt] [b] pos) Γ (decide (m < n)) := t_cmp op_lt (nomark _) ha hb fun _ _ H hx hy _ q => r_I0 hx hy (q H Ex.r)
theorem t_le (ha : EV X a Γ (ei m)) (hb : EV X b Γ (ei n)) : ET X (.Compare a [.LtE] [b] pos) Γ (decide (m ≤ n)) := t_cmp op_le (nomark _) ha hb fun _ _ H hx hy _ q => r_I0 hx hy (q H Ex.r)
theorem t_gt (ha : EV X a Γ (ei m)) (hb : EV X b Γ (ei n)) : ET X (.Compare a [.Gt] [b] pos) Γ (decide (n < m)) := t_cmp op_gt (nomark _) ha hb fun _ _ H hx hy _ q => r_I0 hx hy (q H Ex.r)
theorem t_ge (ha : EV X a Γ (ei m)) (hb : EV X b Γ (ei n)) : ET X (.Compare a [.GtE] [b] pos) Γ (decide (n ≤ m)) := t_cmp op_ge (nomark _) ha hb fun _ _ H hx hy _ q => r_I0 hx hy (q H Ex.r)
theorem e_lt (ha : EV X a Γ (ei m)) (hb : EV X b Γ (ei n)) : EV X (.Compare a [.Lt] [b] pos) Γ (eb (decide (m < n))) := e_cmp op_lt (nomark _) ha hb fun _ _ H hx hy _ q => r_I0 hx hy (q _ H Ex.r rfl)
theorem e_le (ha : EV X a Γ (ei m)) (hb : EV X b Γ (ei n)) : EV X (.Compare a [.LtE] [b] pos) Γ (eb (decide (m ≤ n))) := e_cmp op_le (nomark _) ha hb fun _ _ H hx hy _ q => r_I0 hx hy (q _ H Ex.r rfl)
theorem e_gt (ha : EV X a Γ (ei m)) (hb : EV X b Γ (ei n)) : EV X (.Compare a [.Gt] [b] pos) Γ (eb (decide (n < m))) := e_cmp op_gt (nomark _) ha hb fun _ _ H hx hy _ q => r_I0 hx hy (q _ H Ex.r rfl)
theorem e_ge (ha : EV X a Γ (ei m)) (hb : EV X b Γ (ei n)) : EV X (.Compare a [.GtE] [b] pos) Γ (eb (decide (n ≤ m))) := e_cmp op_ge (nomark _) ha hb fun _ _ H hx hy _ q => r_I0 hx hy (q _ H Ex.r rfl)
/-- == of two flat values -/
theorem r_eq {x y x' y' : V} {k : Bool} (hs : scal x y = true) (hk : decide (x = y) = k) {H : Hp} (hx : (VI.is x).p.ok H x') (hy : (VI.is y).p.ok H y') {Q : VK} (q : Q (.bl k) H) : rEq x' y' H Q := by
  obtain rfl : x' = x := hx
  obtain rfl : y' = y := hy
  exact ⟨hs, by rw [hk]; exact q⟩
theorem r_ne {x y x' y' : V} {k : Bool} (hs : scal x y = true) (hk : (!decide (x = y)) = k) {H : Hp} (hx : (VI.is x).p.ok H x') (hy : (VI.is y).p.ok H y') {Q : VK} (q : Q (.bl k) H) : rNe x' y' H Q := by
  obtain rfl : x' = x := hx
  obtain rfl : y' = y := hy
  exact ⟨hs, by rw [hk]; exact q⟩
theorem t_eq {x y : V} {k : Bool} (ha : EV X a Γ (VI.is x).p) (hb : EV X b Γ (VI.is y).p) (hk : decide (x = y) = k) (hs : scal x y = true := by rfl) : ET X (.Compare a [.Eq] [b] pos) Γ k := t_cmp op_eq (nomark _) ha hb fun _ _ H hx hy _ q => r_eq hs hk hx hy (q H Ex.r)
theorem t_ne {x y : V} {k : Bool} (ha : EV X a Γ (VI.is x).p) (hb : EV X b Γ (VI.is y).p) (hk : (!decide (x = y)) = k) (hs : scal x y = true := by rfl) : ET X (.Compare a [.NotEq] [b] pos) Γ k := t_cmp op_ne (nomark _) ha hb fun _ _ H hx hy _ q => r_ne hs hk hx hy (q H Ex.r)
theorem e_eq {x y : V} {k : Bool} (ha : EV X a Γ (VI.is x).p) (hb : EV X b Γ (VI.is y).p) (hk : decide (x = y) = k) (hs : scal x y = true := by rfl) : EV X (.Compare a [.Eq] [b] pos) Γ (eb k) := e_cmp op_eq (nomark _) ha hb fun _ _ H hx hy _ q => r_eq hs hk hx hy (q _ H Ex.r rfl)
theorem dint : decide (V.int m = V.int n) = decide (m = n) := by
  by_cases h : m = n
  · subst h
    simp
  · rw [decide_eq_false h, decide_eq_false fun e => h (V.int.inj e)]
theorem t_eqI (ha : EV X a Γ (ei m)) (hb : EV X b Γ (ei n)) : ET X (.Compare a [.Eq] [b] pos) Γ (decide (m = n)) := t_eq ha hb dint
theorem t_neI (ha : EV X a Γ (ei m)) (hb : EV X b Γ (ei n)) : ET X (.Compare a [.NotEq] [b] pos) Γ (!decide (m = n)) := t_ne ha hb (by rw [dint])
theorem e_eqI (ha : EV X a Γ (ei m)) (hb : EV X b Γ (ei n)) : EV X (.Compare a [.Eq] [b] pos) Γ (eb (decide (m = n))) := e_eq ha hb dint
theorem t_isN {x : V} {k : Bool} (ha : EV X a Γ (VI.is x).p) (hb : EV X b Γ VI.non.p) (hk : decide (x = .non) = k) : ET X (.Compare a [.Is] [b] pos) Γ k := t_cmp op_isN (nomark _) ha hb fun x' y' H hx hy Q q => by
  obtain rfl : x' = x := hx
  exact ⟨hy, by rw [hk]; exact q H Ex.r⟩
theorem e_isN {x : V} {k : Bool} (ha : EV X a Γ (VI.is x).p) (hb : EV X b Γ VI.non.p) (hk : decide (x = .non) = k) : EV X (.Compare a [.Is] [b] pos) Γ (eb k) := e_cmp op_isN (nomark _) ha hb fun x' y' H hx hy Q q => by
  obtain rfl : x' = x := hx
  exact ⟨hy, by rw [hk]; exact q _ H Ex.r rfl⟩
theorem t_notN {x : V} {k : Bool} (ha : EV X a Γ (VI.is x).p) (hb : EV X b Γ VI.non.p) (hk : (!decide (x = .non)) = k) : ET X (.Compare a [.IsNot] [b] pos) Γ k := t_cmp op_notN (nomark _) ha hb fun x' y' H hx hy Q q => by
  obtain rfl : x' = x := hx
  exact ⟨hy, by rw [hk]; exact q H Ex.r⟩
/-- a < b < c of whole numbers, both true -/
theorem t_chain {l : Int} (ha : EV X a Γ (ei m)) (hb : EV X b Γ (ei n)) (hc : EV X c Γ (ei l)) (hm : lastMarks [.LtE, .LtE] [b, c] = false := by with_unfolding_all rfl) : ET X (.Compare a [.LtE, .LtE] [b, c] pos) Γ (decide (m ≤ n) && decide (n ≤ l)) := fun H0 H1 σ H f Q q =>
  wT_of (pt_chain op_le op_le pe_w pe_w pe_w hm) (ha H0 H1 σ H f _ fun x H2 e2 r2 => hb H0 H1 σ H2 (f.mono e2) _ fun y H3 e3 r3 => ⟨m, n, r2, r3, decide (m ≤ n), rfl, by
    by_cases h : m ≤ n
    · rw [decide_eq_true h] at q ⊢
      rw [if_pos rfl]
      exact hc H0 H1 σ H3 (f.mono (e2.trans e3)) _ fun z H4 e4 r4 => ⟨n, l, r3, r4, decide (n ≤ l), rfl, q H4 ((e2.trans e3).trans e4)⟩
    · rw [decide_eq_false h] at q ⊢
      rw [if_neg Bool.false_ne_true]
      exact ⟨false, rfl, q H3 (e2.trans e3)⟩⟩)
/-! ### tests -/
theorem t_val {k : Bool} (h : EV X e Γ (eb k)) (he : ∀ whole, isTrue e X.env whole = (do let v ← whole; standAt e.pos; holding [v] (truthy v)) := by intro _; rfl) : ET X e Γ k := fun H0 H1 σ H f Q q =>
  wT_of (pt_val pe_w he) (h H0 H1 σ H f _ fun v H2 e2 r => ⟨k, r, q H2 e2⟩)
theorem t_not {k : Bool} (h : ET X a Γ k) : ET X (.UnaryOp .Not a pos) Γ (!k) := fun H0 H1 σ H f Q q => wT_of (pt_not pt_w) (h H0 H1 σ H f _ fun H2 e2 => q H2 e2)
theorem tAnd_of {k l : Bool} (h1 : ET X a Γ k) {t : TT} {H0 H1 H : Hp} {σ : St} (f : Fit H0 H1 Γ σ H) {Q : Bool → Hp → Prop} (h2 : k = true → ∀ H2, Ex H H2 → t σ H2 Q) (q : k = false → ∀ H2, Ex H H2 → Q false H2) : tAnd (wT X a) t σ H Q := h1 H0 H1 σ H f _ fun H2 e2 => by
  cases k with
  | true =>
    rw [if_pos rfl]
    exact h2 rfl H2 e2
  | false =>
    rw [if_neg Bool.false_ne_true]
    exact q rfl H2 e2
theorem tOr_of {k : Bool} (h1 : ET X a Γ k) {t : TT} {H0 H1 H : Hp} {σ : St} (f : Fit H0 H1 Γ σ H) {Q : Bool → Hp → Prop} (h2 : k = false → ∀ H2, Ex H H2 → t σ H2 Q) (q : k = true → ∀ H2, Ex H H2 → Q true H2) : tOr (wT X a) t σ H Q := h1 H0 H1 σ H f _ fun H2 e2 => by
  cases k with
  | true =>
    rw [if_pos rfl]
    exact q rfl H2 e2
  | false =>
    rw [if_neg Bool.false_ne_true]
    exact h2 rfl H2 e2
theorem t_and {k l : Bool} (h1 : ET X a Γ k) (h2 : k = true → ET X b Γ l) : ET X (.BoolOp .And [a, b] pos) Γ (k && l) := fun H0 H1 σ H f Q q =>
  wT_of (pw_and pt_w (pw_and1 pt_w)).pt (tAnd_of (l := l) h1 f (fun hk H2 e2 => h2 hk H0 H1 σ H2 (f.mono e2) Q fun H3 e3 => by rw [hk] at q; exact q H3 (e2.trans e3)) fun hk H2 e2 => by rw [hk] at q; exact q H2 e2)
theorem t_or {k l : Bool} (h1 : ET X a Γ k) (h2 : k = false → ET X b Γ l) : ET X (.BoolOp .Or [a, b] pos) Γ (k || l) := fun H0 H1 σ H f Q q =>
  wT_of (pw_or pt_w (pw_or1 pt_w)).pt (tOr_of h1 f (fun hk H2 e2 => h2 hk H0 H1 σ H2 (f.mono e2) Q fun H3 e3 => by rw [hk] at q; exact q H3 (e2.trans e3)) fun hk H2 e2 => by rw [hk] at q; exact q H2 e2)
theorem t_or3 {k l r : Bool} (h1 : ET X a Γ k) (h2 : k = false → ET X b Γ l) (h3 : k = false → l = false → ET X c Γ r) : ET X (.BoolOp .Or [a, b, c] pos) Γ (k || l || r) := fun H0 H1 σ H f Q q =>
  wT_of (pw_or pt_w (pw_or (pos := pos) pt_w (pw_or1 pt_w))).pt (tOr_of h1 f (fun hk H2 e2 => tOr_of (h2 hk) (f.mono e2) (fun hl H3 e3 => h3 hk hl H0 H1 σ H3 (f.mono (e2.trans e3)) Q fun H4 e4 => by rw [hk, hl] at q; exact q H4 ((e2.trans e3).trans e4)) fun hl H3 e3 => by rw [hk, hl] at q; exact q H3 (e2.trans e3)) fun hk H2 e2 => by rw [hk] at q; exact q H2 e2)
/-- .. as values -/
theorem e_and {k l : Bool} (h1 : EV X a Γ (eb k)) (h2 : k = true → EV X b Γ (eb l)) : EV X (.BoolOp .And [a, b] pos) Γ (eb (k && l)) := fun H0 H1 σ H f Q q =>
  wE_of (pe_and pe_w (pe_one pe_w)) (h1 H0 H1 σ H f _ fun v H2 e2 r => ⟨k, r, by
    cases k with
    | true =>
      rw [if_pos rfl]
      exact h2 rfl H0 H1 σ H2 (f.mono e2) Q fun w H3 e3 r3 => q w H3 (e2.trans e3) r3
    | false =>
      rw [if_neg Bool.false_ne_true]
      exact q _ H2 e2 rfl⟩)
theorem e_and3 {k l r : Bool} (h1 : EV X a Γ (eb k)) (h2 : k = true → EV X b Γ (eb l)) (h3 : k = true → l = true → EV X c Γ (eb r)) : EV X (.BoolOp .And [a, b, c] pos) Γ (eb (k && l && r)) := fun H0 H1 σ H f Q q =>
  wE_of (pe_and pe_w (pe_and (pos := pos) pe_w (pe_one pe_w))) (h1 H0 H1 σ H f _ fun v H2 e2 r => ⟨k, r, by
    cases k with
    | true =>
      rw [if_pos rfl]
      refine h2 rfl H0 H1 σ H2 (f.mono e2) _ fun w H3 e3 r3 => ⟨l, r3, ?_⟩
      cases l with
      | true =>
        rw [if_pos rfl]
        exact h3 rfl rfl H0 H1 σ H3 (f.mono (e2.trans e3)) Q fun w H4 e4 r4 => q w H4 ((e2.trans e3).trans e4) r4
      | false =>
        rw [if_neg Bool.false_ne_true]
        exact q _ H3 (e2.trans e3) rfl
    | false =>
      rw [if_neg Bool.false_ne_true]
      exact q _ H2 e2 rfl⟩)
theorem e_or {k l : Bool} (h1 : EV X a Γ (eb k)) (h2 : k = false → EV X b Γ (eb l)) : EV X (.BoolOp .Or [a, b] pos) Γ (eb (k || l)) := fun H0 H1 σ H f Q q =>
  wE_of (pe_or pe_w (pe_one pe_w)) (h1 H0 H1 σ H f _ fun v H2 e2 r => ⟨k, r, by
    cases k with
    | true =>
      rw [if_pos rfl]
      exact q _ H2 e2 rfl
    | false =>
      rw [if_neg Bool.false_ne_true]
      exact h2 rfl H0 H1 σ H2 (f.mono e2) Q fun w H3 e3 r3 => q w H3 (e2.trans e3) r3⟩)
theorem e_not {k : Bool} (h : EV X a Γ (eb k)) : EV X (.UnaryOp .Not a pos) Γ (eb (!k)) := fun H0 H1 σ H f Q q => wE_of (pe_not pe_w) (h H0 H1 σ H f _ fun v H2 e2 r => ⟨k, r, q _ H2 e2 rfl⟩)
theorem e_if {k : Bool} {P : VP} (hc : ET X c Γ k) (h1 : k = true → EV X a Γ P) (h2 : k = false → EV X b Γ P) : EV X (.IfExp c a b pos) Γ P := fun H0 H1 σ H f Q q =>
  wE_of (pe_ifExp pt_w pe_w pe_w) (hc H0 H1 σ H f _ fun H2 e2 => by
    cases k with
    | true =>
      rw [if_pos rfl]
      exact h1 rfl H0 H1 σ H2 (f.mono e2) Q fun w H3 e3 r3 => q w H3 (e2.trans e3) r3
    | false =>
      rw [if_neg Bool.false_ne_true]
      exact h2 rfl H0 H1 σ H2 (f.mono e2) Q fun w H3 e3 r3 => q w H3 (e2.trans e3) r3)
theorem e_ifT {P : VP} (hc : ET X c Γ true) (h1 : EV X a Γ P) : EV X (.IfExp c a b pos) Γ P := e_if hc (fun _ => h1) fun h => nomatch h
theorem e_ifF {P : VP} (hc : ET X c Γ false) (h1 : EV X b Γ P) : EV X (.IfExp c a b pos) Γ P := e_if hc (fun h => nomatch h) fun _ => h1
/-! ### arguments, displays -/
theorem ea_nil : EA X [] Γ [] := fun _ _ σ H _ Q q => wA_of pa_nil (q [] H Ex.r .nil)
theorem ea_cons {P : VP} {Ps : List VP} (h : EV X e Γ P) (hr : EA X es Γ Ps) (hs : starEach (e :: es) X.env = (false, eval e X.env) :: starEach es X.env := by rfl) : EA X (e :: es) Γ (P :: Ps) := fun H0 H1 σ H f Q q =>
  wA_of (pa_cons pe_w pa_w hs) (h H0 H1 σ H f _ fun v H2 e2 r2 => hr H0 H1 σ H2 (f.mono e2) _ fun vs H3 e3 r3 => q _ H3 (e2.trans e3) (.cons (P.mono e3 r2) r3))
theorem ei_nil : EI X [] Γ [] := fun _ _ σ H _ Q q => wA_of pa_nil (q [] H Ex.r .nil)
theorem ei_cons {P : VI} {Ps : List VI} (h : EV X e Γ P.p) (hr : EI X es Γ Ps) (hs : starEach (e :: es) X.env = (false, eval e X.env) :: starEach es X.env := by rfl) : EI X (e :: es) Γ (P :: Ps) := fun H0 H1 σ H f Q q =>
  wA_of (pa_cons pe_w pa_w hs) (h H0 H1 σ H f _ fun v H2 e2 r2 => hr H0 H1 σ H2 (f.mono e2) _ fun vs H3 e3 r3 => q _ H3 (e2.trans e3) (.cons (P.mono (.of e3) r2) r3))
/-- a list or tuple whose items are spread -/
theorem ei_starL {Qs Ps : List VI} (h : EV X e Γ (.lst Qs)) (hr : EI X es Γ Ps) {p : Pos} (hs : starEach (.Starred e p :: es) X.env = (true, eval e X.env) :: starEach es X.env := by rfl) : EI X (.Starred e p :: es) Γ (Qs ++ Ps) := fun H0 H1 σ H f Q q =>
  wA_of (StX.pa_star pe_w pa_w hs) (h H0 H1 σ H f _ fun v H2 e2 ⟨a, xs, e1, h1, k1⟩ => ⟨a, xs, e1, .inr (.inl (.inl h1)), hr H0 H1 σ H2 (f.mono e2) _ fun vs H3 e3 r3 => q _ H3 (e2.trans e3) (pAppend (k1.mono (.of e3)) r3)⟩)
theorem ei_starT {Qs Ps : List VI} (h : EV X e Γ (VI.tup Qs).p) (hr : EI X es Γ Ps) {p : Pos} (hs : starEach (.Starred e p :: es) X.env = (true, eval e X.env) :: starEach es X.env := by rfl) : EI X (.Starred e p :: es) Γ (Qs ++ Ps) := fun H0 H1 σ H f Q q =>
  wA_of (StX.pa_star pe_w pa_w hs) (h H0 H1 σ H f _ fun v H2 e2 ⟨a, xs, e1, h1, k1⟩ => ⟨a, xs, e1, .inl (.inl (.inl h1)), hr H0 H1 σ H2 (f.mono e2) _ fun vs H3 e3 r3 => q _ H3 (e2.trans e3) (pAppend (k1.mono (.of e3)) r3)⟩)
theorem Oks.len {Ps : List VI} {H : Hp} {vs : List V} (h : Oks Ps H vs) : Ps.length = vs.length := Paired.length h
theorem e_tup {Ps : List VI} {k} (h : EI X es Γ Ps) (hl : Ps.length ≤ 1000 := by exact Nat.le_of_ble_eq_true rfl) : EV X (.Tuple es k pos) Γ (VI.tup Ps).p := fun H0 H1 σ H f Q q =>
  wE_of (pe_tup pa_w) (h H0 H1 σ H f _ fun vs H2 e2 r2 => ⟨by rw [← r2.len]; exact Nat.le_trans hl (by decide), fun p hp => q _ _ (e2.trans (Evl.Ex.new hp)) ⟨p, vs, rfl, upd_same, r2.mono (.of (Evl.Ex.new hp))⟩⟩)
theorem ef_lst {Ps : List VI} (h : EI X es Γ Ps) (hl : Ps.length ≤ 1000 := by exact Nat.le_of_ble_eq_true rfl) : EF X (.List es pos) Γ Ps := fun H0 H1 σ H f Q q =>
  wE_of (pe_lst pa_w) (h H0 H1 σ H f _ fun vs H2 e2 r2 => ⟨by rw [← r2.len]; exact Nat.le_trans hl (by decide), fun p hp => q p vs _ (e2.trans (Evl.Ex.new hp)) (Evl.fresh_back e2 hp) upd_same (r2.mono (.of (Evl.Ex.new hp)))⟩)
end
end K8
end
section
set_option Elab.async false
set_option linter.all false
set_option maxRecDepth 100000
set_option maxHeartbeats 1000000
set_option autoImplicit false
/-! Items, slices, calls, loops, comprehensions, statements, defs. -/
namespace K8
open PySem L2
open Evl (Ex)
section
variable {X : Cx} {Γ Γ' : Ctx} {pos : Pos} {e a b c : Expr} {es : List Expr} {m n : Int}
theorem atI_oks {Ps : List VI} {P : VI} {H : Hp} {xs : List V} (k : Oks Ps H xs) (h : atI Ps n = some P) : ∃ v, atI xs n = some v ∧ P.ok H v := by
  unfold atI at h ⊢
  rw [← k.len]
  cases q : ixN Ps.length n with
  | none =>
    rw [q] at h
    cases h
  | some j =>
    rw [q] at h
    have h' : Ps[j]? = some P := h
    clear q h
    show ∃ v, xs[j]? = some v ∧ P.ok H v
    induction k generalizing j with
    | nil => simp at h'
    | cons r t ih =>
      cases j with
      | zero =>
        have e : _ = P := Option.some.inj h'
        subst e
        exact ⟨_, rfl, r⟩
      | succ j => exact ih j h'
theorem oks_get {Ps : List VI} {P : VI} {H : Hp} {xs : List V} {j : Nat} (k : Oks Ps H xs) (h : Ps[j]? = some P) : ∃ v, xs[j]? = some v ∧ P.ok H v := by
  induction k generalizing j with
  | nil => simp at h
  | cons r t ih =>
    cases j with
    | zero =>
      have e : _ = P := Option.some.inj h
      subst e
      exact ⟨_, rfl, r⟩
    | succ j => exact ih h
theorem oks_get' {Ps : List VI} {v : V} {H : Hp} {xs : List V} {j : Nat} (k : Oks Ps H xs) (h : xs[j]? = some v) : ∃ P, Ps[j]? = some P ∧ P.ok H v := by
  induction k generalizing j with
  | nil => simp at h
  | cons r t ih =>
    cases j with
    | zero =>
      have e : _ = v := Option.some.inj h
      subst e
      exact ⟨_, rfl, r⟩
    | succ j => exact ih h
theorem oks_take {Ps : List VI} {H : Hp} {xs : List V} (k : Oks Ps H xs) (j : Nat) : Oks (Ps.take j) H (xs.take j) := by
  induction k generalizing j with
  | nil => simpa using .nil
  | cons r t ih =>
    cases j with
    | zero => exact .nil
    | succ j => exact .cons r (ih j)
theorem oks_drop {Ps : List VI} {H : Hp} {xs : List V} (k : Oks Ps H xs) (j : Nat) : Oks (Ps.drop j) H (xs.drop j) := by
  induction k generalizing j with
  | nil => simpa using .nil
  | cons r t ih =>
    cases j with
    | zero => exact .cons r t
    | succ j => exact ih j
theorem oks_set {Ps : List VI} {P : VI} {v : V} {H : Hp} {xs : List V} (k : Oks Ps H xs) (j : Nat) (h : P.ok H v) : Oks (Ps.set j P) H (xs.set j v) := by
  induction k generalizing j with
  | nil => simpa using .nil
  | cons r t ih =>
    cases j with
    | zero => exact .cons h t
    | succ j => exact .cons r (ih j)
/-- t[i] -/
theorem e_ixT {Ps : List VI} {P : VI} (ha : EV X a Γ (VI.tup Ps).p) (hb : EV X b Γ (ei n)) (h : atI Ps n = some P) (hs : PlainIx b := by exact fun _ _ => rfl) : EV X (.Subscript a b pos) Γ P.p := fun H0 H1 σ H f Q q =>
  wE_of (pe_ix ix_tup pe_w pe_w hs) (ha H0 H1 σ H f _ fun x H2 e2 ⟨p, xs, e1, h1, k⟩ => hb H0 H1 σ H2 (f.mono e2) _ fun y H3 e3 r3 => by
    obtain ⟨v, h2, h3⟩ := atI_oks (k.mono (.of e3)) h
    exact ⟨p, xs, n, v, e1, r3, .of (e3 _ _ h1), h2, q v H3 (e2.trans e3) h3⟩)
theorem e_ixL {Ps : List VI} {P : VI} (ha : EV X a Γ (.lst Ps)) (hb : EV X b Γ (ei n)) (h : atI Ps n = some P) (hs : PlainIx b := by exact fun _ _ => rfl) : EV X (.Subscript a b pos) Γ P.p := fun H0 H1 σ H f Q q =>
  wE_of (pe_ix ix_list pe_w pe_w hs) (ha H0 H1 σ H f _ fun x H2 e2 ⟨p, xs, e1, h1, k⟩ => hb H0 H1 σ H2 (f.mono e2) _ fun y H3 e3 r3 => by
    obtain ⟨v, h2, h3⟩ := atI_oks (k.mono (.of e3)) h
    exact ⟨p, xs, n, v, e1, r3, .of (e3 _ _ h1), h2, q v H3 (e2.trans e3) h3⟩)
/-! ### slices, sums, multiples of lists and tuples -/
def cut {α : Type} (xs : List α) (lo hi : Option Int) : List α := (xs.drop (HT.sIx xs.length 0 lo)).take (HT.sIx xs.length xs.length hi - HT.sIx xs.length 0 lo)
theorem oks_cut {Ps : List VI} {H : Hp} {xs : List V} (k : Oks Ps H xs) (lo hi : Option Int) : Oks (cut Ps lo hi) H (cutV xs lo hi) := by
  unfold cut cutV
  rw [k.len]
  exact oks_take (oks_drop k _) _
/-- a slice's part -/
def EP' (X : Cx) (e : Option Expr) (Γ : Ctx) (o : Option Int) : Prop := ∃ t, PO X e t ∧ ∀ (H0 H1 : Hp) (σ : St) (H : Hp), Fit H0 H1 Γ σ H → ∀ Q : Option Int → Hp → Prop, (∀ H2, Ex H H2 → Q o H2) → t σ H Q
theorem ep_none : EP' X none Γ none := ⟨_, po_none, fun _ _ σ H _ Q q => q H Ex.r⟩
theorem ep_some (h : EV X e Γ (ei n)) : EP' X (some e) Γ (some n) := ⟨_, po_some pe_w, fun H0 H1 σ H f Q q => h H0 H1 σ H f _ fun v H2 e2 r => ⟨n, r, q H2 e2⟩⟩
theorem ef_sl {Ps : List VI} {lo hi : Option Expr} {l u : Option Int} {p2 : Pos} (ha : EV X a Γ (.lst Ps)) (hl : EP' X lo Γ l) (hu : EP' X hi Γ u) : EF X (.Subscript a (.Slice lo hi none p2) pos) Γ (cut Ps l u) := fun H0 H1 σ H f Q q => by
  obtain ⟨tl, pl, kl⟩ := hl
  obtain ⟨tu, pu, ku⟩ := hu
  exact wE_of (pe_slice sl_list pe_w pl pu) (ha H0 H1 σ H f _ fun x H2 e2 ⟨p, xs, e1, h1, k⟩ => kl H0 H1 σ H2 (f.mono e2) _ fun H3 e3 => ku H0 H1 σ H3 (f.mono (e2.trans e3)) _ fun H4 e4 =>
    ⟨p, xs, e1, .of ((e3.trans e4) _ _ h1), fun l hl => q l _ _ (((e2.trans e3).trans e4).trans (Evl.Ex.new hl)) (Evl.fresh_back ((e2.trans e3).trans e4) hl) upd_same ((oks_cut k _ _).mono (.of ((e3.trans e4).trans (Evl.Ex.new hl))))⟩)
theorem e_slT {Ps : List VI} {lo hi : Option Expr} {l u : Option Int} {p2 : Pos} (ha : EV X a Γ (VI.tup Ps).p) (hl : EP' X lo Γ l) (hu : EP' X hi Γ u) : EV X (.Subscript a (.Slice lo hi none p2) pos) Γ (VI.tup (cut Ps l u)).p := fun H0 H1 σ H f Q q => by
  obtain ⟨tl, pl, kl⟩ := hl
  obtain ⟨tu, pu, ku⟩ := hu
  refine wE_of (pe_slice sl_tupA pe_w pl pu) (ha H0 H1 σ H f _ fun x H2 e2 ⟨p, xs, e1, h1, k⟩ => kl H0 H1 σ H2 (f.mono e2) _ fun H3 e3 => ku H0 H1 σ H3 (f.mono (e2.trans e3)) _ fun H4 e4 =>
    ⟨p, xs, e1, .of ((e3.trans e4) _ _ h1), fun w => ?_, fun w l hl => ?_⟩)
  · refine q _ _ ((e2.trans e3).trans e4) ⟨p, xs, rfl, (e3.trans e4) _ _ h1, ?_⟩
    have z := (oks_cut k l u).mono (.of (e3.trans e4))
    have ec : cutV xs l u = xs := by
      unfold cutV
      rw [w.1, w.2, List.drop_zero, Nat.sub_zero, List.take_length]
    rw [ec] at z
    exact z
  · exact q _ _ (((e2.trans e3).trans e4).trans (Evl.Ex.new hl)) ⟨l, _, rfl, upd_same, (oks_cut k _ _).mono (.of ((e3.trans e4).trans (Evl.Ex.new hl)))⟩
theorem e_catT {Ps Qs : List VI} (ha : EV X a Γ (VI.tup Ps).p) (hb : EV X b Γ (VI.tup Qs).p) (hl : Ps.length + Qs.length ≤ 100000 := by first | exact Nat.le_of_ble_eq_true rfl | (simp <;> omega)) : EV X (.BinOp a .Add b pos) Γ (VI.tup (Ps ++ Qs)).p :=
  e_op2 op_catA ha hb fun x y H ⟨p, xs, e1, h1, k1⟩ ⟨p', ys, e2, h2, k2⟩ Q q => by
    refine ⟨p, p', xs, ys, e1, e2, .of h1, .of h2, ?_, fun w => ?_, fun _ w => ?_, fun _ _ l hl => ?_⟩
    · rw [← k1.len, ← k2.len]
      exact Nat.le_trans hl (by decide)
    · refine q _ H Ex.r ⟨p', ys, rfl, h2, ?_⟩
      have z := pAppend k1 k2
      rw [w] at z
      exact z
    · refine q _ H Ex.r ⟨p, xs, rfl, h1, ?_⟩
      have z := pAppend k1 k2
      rw [w, List.append_nil] at z
      exact z
    · exact q _ _ (Evl.Ex.new hl) ⟨l, _, rfl, upd_same, Oks.mono (.of (Evl.Ex.new hl)) (pAppend k1 k2)⟩
theorem ef_cat {Ps Qs : List VI} (ha : EV X a Γ (.lst Ps)) (hb : EV X b Γ (.lst Qs)) (hl : Ps.length + Qs.length ≤ 100000 := by first | exact Nat.le_of_ble_eq_true rfl | (simp <;> omega)) : EF X (.BinOp a .Add b pos) Γ (Ps ++ Qs) :=
  e_opF op_cat ha hb fun x y H ⟨p, xs, e1, h1, k1⟩ ⟨p', ys, e2, h2, k2⟩ Q q => by
    refine ⟨p, p', xs, ys, e1, e2, h1, h2, ?_, fun l hl => ?_⟩
    · rw [← k1.len, ← k2.len]
      exact Nat.le_trans hl (by decide)
    · exact q l _ _ (Evl.Ex.new hl) hl upd_same (Oks.mono (.of (Evl.Ex.new hl)) (pAppend k1 k2))
theorem oks_rep {Ps : List VI} {H : Hp} {xs : List V} (k : Oks Ps H xs) : ∀ j : Nat, Oks (List.replicate j Ps).flatten H (List.replicate j xs).flatten
  | 0 => .nil
  | j + 1 => by
    rw [List.replicate_succ, List.replicate_succ, List.flatten_cons, List.flatten_cons]
    exact pAppend k (oks_rep k j)
theorem ef_rep {Ps : List VI} (ha : EV X a Γ (.lst Ps)) (hb : EV X b Γ (ei n)) (h0 : 0 ≤ n) (h1 : n ≤ 10000) (hl : Ps.length ≤ 100 := by exact Nat.le_of_ble_eq_true rfl) : EF X (.BinOp a .Mult b pos) Γ (List.replicate n.toNat Ps).flatten :=
  e_opF op_rep ha hb fun x y H ⟨p, xs, e1, h2, k1⟩ hy Q q => by
    refine ⟨p, n, xs, e1, hy, h2, by omega, by omega, ?_, fun l hl => ?_⟩
    · rw [← k1.len]
      exact Nat.le_trans (Nat.mul_le_mul hl (show n.toNat ≤ 10000 by omega)) (by decide)
    · exact q l _ _ (Evl.Ex.new hl) hl upd_same ((oks_rep k1 _).mono (.of (Evl.Ex.new hl)))
/-! ### built-ins -/
/-- the built-in names that the module does not bind -/
structure Bl (mg : Str → Option Value) : Prop where
  len : mg "len" = none
  sum : mg "sum" = none
  all : mg "all" = none
  any : mg "any" = none
  abs : mg "abs" = none
  int : mg "int" = none
  bool : mg "bool" = none
  list : mg "list" = none
  tuple : mg "tuple" = none
  isi : mg "isinstance" = none
  zip : mg "zip" = none
  enum : mg "enumerate" = none
  range : mg "range" = none
  max : mg "max" = none
  min : mg "min" = none
  repr : mg "repr" = none
  super : mg "super" = none
/-- a built-in by its name, of values -/
theorem e_cb {x id : _} {r : List V → Hp → VK → Prop} {Ps : List VP} {P : VP} {p : Pos} (hc : CallR X (.builtin id) r) (hg : Gl X x) (hm : X.mg x = none) (hv : bootBuiltins x = some (.builtin id)) (ha : EA X (e :: es) Γ Ps)
    (hr : ∀ vs H, Pks Ps H vs → ∀ Q : VK, (∀ v H2, Ex H H2 → P.ok H2 v → Q v H2) → r vs H Q) (hn : x ≠ "__name__" := by decide) (hdb : (x == ("__debug__" : Str)) = false := by decide)
    (he : starEach (e :: es) X.env = (false, eval e X.env) :: starEach es X.env := by rfl) (hpl : (backTo pos (starEach es X.env)).any (·.1) = false := by rfl) : EV X (.Call (.Name x p) (e :: es) [] pos) Γ P := fun H0 H1 σ H f Q q =>
  wE_of (pe_callB hc hg hm hv pa_w hn hdb he hpl) (ha H0 H1 σ H f _ fun vs H2 e2 k => hr vs H2 k Q fun v H3 e3 r => q v H3 (e2.trans e3) r)
theorem e_cty {x T : _} {r : List V → Hp → VK → Prop} {Ps : List VP} {P : VP} {p : Pos} (hc : CallR X (.type T) r) (hg : Gl X x) (hm : X.mg x = none) (hv : bootBuiltins x = some (.type T)) (ha : EA X (e :: es) Γ Ps)
    (hr : ∀ vs H, Pks Ps H vs → ∀ Q : VK, (∀ v H2, Ex H H2 → P.ok H2 v → Q v H2) → r vs H Q) (hn : x ≠ "__name__" := by decide) (hdb : (x == ("__debug__" : Str)) = false := by decide)
    (he : starEach (e :: es) X.env = (false, eval e X.env) :: starEach es X.env := by rfl) (hpl : (backTo pos (starEach es X.env)).any (·.1) = false := by rfl) : EV X (.Call (.Name x p) (e :: es) [] pos) Γ P := fun H0 H1 σ H f Q q =>
  wE_of (pe_callTy hc hg hm hv pa_w hn hdb he hpl) (ha H0 H1 σ H f _ fun vs H2 e2 k => hr vs H2 k Q fun v H3 e3 r => q v H3 (e2.trans e3) r)
theorem pk1 {P : VP} {H : Hp} {vs : List V} (h : Pks [P] H vs) : ∃ v, vs = [v] ∧ P.ok H v := by
  cases h with
  | cons r t =>
    cases t
    exact ⟨_, rfl, r⟩
theorem pk2 {P R : VP} {H : Hp} {vs : List V} (h : Pks [P, R] H vs) : ∃ v w, vs = [v, w] ∧ P.ok H v ∧ R.ok H w := by
  cases h with
  | cons r t =>
    obtain ⟨w, rfl, h2⟩ := pk1 t
    exact ⟨_, _, rfl, r, h2⟩
variable {p : Pos} (M : Bl X.mg)
include M
theorem e_lenL {Ps : List VI} (h : EV X e Γ (.lst Ps)) (hg : Gl X "len" := by rfl) (he : starEach [e] X.env = (false, eval e X.env) :: starEach [] X.env := by rfl) : EV X (.Call (.Name "len" p) [e] [] pos) Γ (ei (Ps.length : Int)) :=
  e_cb call_len_seq hg M.len PySem.boot_len (ea_cons h ea_nil he) (fun vs H k Q q => by
    obtain ⟨v, rfl, a, xs, rfl, h1, k1⟩ := pk1 k
    refine ⟨a, xs, rfl, .inl (.of h1), ?_⟩
    rw [← k1.len]
    exact q _ H Ex.r rfl) (he := he)
theorem e_lenT {Ps : List VI} (h : EV X e Γ (VI.tup Ps).p) (hg : Gl X "len" := by rfl) (he : starEach [e] X.env = (false, eval e X.env) :: starEach [] X.env := by rfl) : EV X (.Call (.Name "len" p) [e] [] pos) Γ (ei (Ps.length : Int)) :=
  e_cb call_len_seq hg M.len PySem.boot_len (ea_cons h ea_nil he) (fun vs H k Q q => by
    obtain ⟨v, rfl, a, xs, rfl, h1, k1⟩ := pk1 k
    refine ⟨a, xs, rfl, .inr (.of h1), ?_⟩
    rw [← k1.len]
    exact q _ H Ex.r rfl) (he := he)
theorem e_abs (h : EV X e Γ (ei n)) (hg : Gl X "abs" := by rfl) (he : starEach [e] X.env = (false, eval e X.env) :: starEach [] X.env := by rfl) : EV X (.Call (.Name "abs" p) [e] [] pos) Γ (ei (n.natAbs : Int)) :=
  e_cb call_abs hg M.abs (by decide +kernel) (ea_cons h ea_nil he) (fun vs H k Q q => by
    obtain ⟨v, rfl, h1⟩ := pk1 k
    refine ⟨n, by rw [show v = .int n from h1], q _ H Ex.r ?_⟩
    show V.int _ = V.int _
    congr 1
    split <;> omega) (he := he)
theorem e_int1 (h : EV X e Γ (ei n)) (hg : Gl X "int" := by rfl) (he : starEach [e] X.env = (false, eval e X.env) :: starEach [] X.env := by rfl) : EV X (.Call (.Name "int" p) [e] [] pos) Γ (ei n) :=
  e_cty call_int1 hg M.int (by decide +kernel) (ea_cons h ea_nil he) (fun vs H k Q q => by
    obtain ⟨v, rfl, h1⟩ := pk1 k
    exact .inl ⟨n, by rw [show v = .int n from h1], q _ H Ex.r rfl⟩) (he := he)
theorem e_intB {k : Bool} (h : EV X e Γ (eb k)) (hg : Gl X "int" := by rfl) (he : starEach [e] X.env = (false, eval e X.env) :: starEach [] X.env := by rfl) : EV X (.Call (.Name "int" p) [e] [] pos) Γ (ei (if k then 1 else 0)) :=
  e_cty call_int1 hg M.int (by decide +kernel) (ea_cons h ea_nil he) (fun vs H k' Q q => by
    obtain ⟨v, rfl, h1⟩ := pk1 k'
    exact .inr ⟨k, by rw [show v = .bl k from h1], q _ H Ex.r rfl⟩) (he := he)
/-- tuple(list) -/
theorem e_tupL {Ps : List VI} (h : EV X e Γ (.lst Ps)) (hg : Gl X "tuple" := by rfl) (he : starEach [e] X.env = (false, eval e X.env) :: starEach [] X.env := by rfl) : EV X (.Call (.Name "tuple" p) [e] [] pos) Γ (VI.tup Ps).p :=
  e_cty call_tuple_of hg M.tuple (by decide +kernel) (ea_cons h ea_nil he) (fun vs H k Q q => by
    obtain ⟨v, rfl, a, xs, rfl, h1, k1⟩ := pk1 k
    exact ⟨a, xs, rfl, .inl ⟨.of h1, fun l hl => q _ _ (Evl.Ex.new hl) ⟨l, xs, rfl, upd_same, k1.mono (.of (Evl.Ex.new hl))⟩⟩⟩) (he := he)
/-- tuple(tuple) -/
theorem e_tupT {Ps : List VI} (h : EV X e Γ (VI.tup Ps).p) (hg : Gl X "tuple" := by rfl) (he : starEach [e] X.env = (false, eval e X.env) :: starEach [] X.env := by rfl) : EV X (.Call (.Name "tuple" p) [e] [] pos) Γ (VI.tup Ps).p :=
  e_cty call_tuple_of hg M.tuple (by decide +kernel) (ea_cons h ea_nil he) (fun vs H k Q q => by
    obtain ⟨v, rfl, a, xs, rfl, h1, k1⟩ := pk1 k
    exact ⟨a, xs, rfl, .inr ⟨.of h1, q _ H Ex.r ⟨a, xs, rfl, h1, k1⟩⟩⟩) (he := he)
theorem oks_ints : ∀ {ns : List Int} {H : Hp} {xs : List V}, Oks (ns.map VI.int) H xs → xs = ns.map V.int
  | [], _, _, .nil => rfl
  | n :: ns, _, _, .cons r t => by
    rw [List.map_cons, ← oks_ints t]
    exact congrArg (· :: _) r
theorem oks_bls : ∀ {ns : List Bool} {H : Hp} {xs : List V}, Oks (ns.map VI.bl) H xs → xs = ns.map V.bl
  | [], _, _, .nil => rfl
  | n :: ns, _, _, .cons r t => by
    rw [List.map_cons, ← oks_bls t]
    exact congrArg (· :: _) r
theorem e_sum {ns : List Int} (hc : X.calm = true) (h : EV X e Γ (.lst (ns.map VI.int))) (hg : Gl X "sum" := by rfl) (he : starEach [e] X.env = (false, eval e X.env) :: starEach [] X.env := by rfl) : EV X (.Call (.Name "sum" p) [e] [] pos) Γ (ei ns.sum) :=
  e_cb (cr_sum hc) hg M.sum (by decide +kernel) (ea_cons h ea_nil he) (fun vs H k Q q => by
    obtain ⟨v, rfl, a, xs, rfl, h1, k1⟩ := pk1 k
    exact ⟨a, ns, rfl, .of (by rw [← oks_ints M k1]; exact h1), q _ H Ex.r rfl⟩) (he := he)
theorem e_all {ns : List Bool} (hc : X.calm = true) (h : EV X e Γ (.lst (ns.map VI.bl))) (hg : Gl X "all" := by rfl) (he : starEach [e] X.env = (false, eval e X.env) :: starEach [] X.env := by rfl) : EV X (.Call (.Name "all" p) [e] [] pos) Γ (eb (ns.all id)) :=
  e_cb (cr_all hc) hg M.all (by decide +kernel) (ea_cons h ea_nil he) (fun vs H k Q q => by
    obtain ⟨v, rfl, a, xs, rfl, h1, k1⟩ := pk1 k
    exact ⟨a, ns, rfl, .of (by rw [← oks_bls M k1]; exact h1), q _ H Ex.r rfl⟩) (he := he)
theorem e_any {ns : List Bool} (hc : X.calm = true) (h : EV X e Γ (.lst (ns.map VI.bl))) (hg : Gl X "any" := by rfl) (he : starEach [e] X.env = (false, eval e X.env) :: starEach [] X.env := by rfl) : EV X (.Call (.Name "any" p) [e] [] pos) Γ (eb (ns.any id)) :=
  e_cb (cr_any hc) hg M.any (by decide +kernel) (ea_cons h ea_nil he) (fun vs H k Q q => by
    obtain ⟨v, rfl, a, xs, rfl, h1, k1⟩ := pk1 k
    exact ⟨a, ns, rfl, .of (by rw [← oks_bls M k1]; exact h1), q _ H Ex.r rfl⟩) (he := he)
end
end K8
end
section
set_option Elab.async false
set_option linter.all false
set_option maxRecDepth 100000
set_option maxHeartbeats 1000000
set_option autoImplicit false
/-! Calls of defs, what is walked, comprehensions, statements, defs. -/
namespace K8
open PySem L2
open Evl (Ex)
/-! ### promises -/
def spV {ι : Type} (pre : ι → Prop) (args : ι → List VP) (res : ι → VI) : Sp := fun vs H Q _ => ∃ i, pre i ∧ Pks (args i) H vs ∧ ∀ v H2, Ex H H2 → (res i).ok H2 v → Q v H2
def spL {ι : Type} (pre : ι → Prop) (args : ι → List VP) (res : ι → List VI) : Sp := fun vs H Q _ => ∃ i, pre i ∧ Pks (args i) H vs ∧ ∀ p xs H2, Ex H H2 → H p = none → H2 p = some (.lst xs) → Oks (res i) H2 xs → Q (.ref p) H2
/-- a def by its global name, the defaults that fill up -/
structure Fq (P : Program) (w : World) (K : PySem.W.Frag) (mg : Str → Option Value) (base : Heap) (x : Str) (k : Nat) (ps : List Str) (dvs : List V) (sp : Sp) : Prop where
  ex : ∃ (f : Addr) (fd : FuncData) (ds : List Value), FnOk P w K mg base CX0 k f fd ps sp ∧ mg x = some (.ref f) ∧ PySem.W.keepIn K (.ref f) = true ∧ Binds K fd ps ds ∧ Vals dvs ds
section
variable {X : Cx} {Γ Γ' : Ctx} {pos p : Pos} {e a b c : Expr} {es : List Expr} {m n : Int} {ι : Type} {pre : ι → Prop} {args : ι → List VP} {res : ι → VI} {resL : ι → List VI} {x : Str} {k : Nat} {ps : List Str} {dvs : List V}
theorem pks_dvs {H : Hp} : ∀ {ws : List V}, Pks (ws.map fun v => (VI.is v).p) H ws
  | [] => .nil
  | _ :: _ => .cons rfl pks_dvs
theorem ev_call {Ps : List VP} (F : Fq X.prog X.w X.K X.mg X.base x k ps dvs (spV pre args res)) (hr : Room k X.A) (i : ι) (hp : pre i) (ha : EA X (e :: es) Γ Ps) (hA : Ps ++ (dvs.map fun v => (VI.is v).p) = args i := by rfl) (hg : Gl X x := by rfl)
    (hdb : (x == ("__debug__" : Str)) = false := by decide) (he : starEach (e :: es) X.env = (false, eval e X.env) :: starEach es X.env := by rfl) (hpl : (backTo pos (starEach es X.env)).any (·.1) = false := by rfl) :
    EV X (.Call (.Name x p) (e :: es) [] pos) Γ (res i).p := fun H0 H1 σ H f Q q => by
  obtain ⟨fa, fd, ds, G, mf, kp, bd, vd⟩ := F.ex
  refine wE_of (pe_call G hr hg mf kp bd vd pass0 pa_w hdb he hpl) (ha H0 H1 σ H f _ fun vs H2 e2 r2 => ⟨i, hp, ?_, fun v H3 e3 r3 => q v H3 (e2.trans e3) r3⟩)
  rw [← hA]
  exact pAppend r2 pks_dvs
theorem ef_call {Ps : List VP} (F : Fq X.prog X.w X.K X.mg X.base x k ps dvs (spL pre args resL)) (hr : Room k X.A) (i : ι) (hp : pre i) (ha : EA X (e :: es) Γ Ps) (hA : Ps ++ (dvs.map fun v => (VI.is v).p) = args i := by rfl) (hg : Gl X x := by rfl)
    (hdb : (x == ("__debug__" : Str)) = false := by decide) (he : starEach (e :: es) X.env = (false, eval e X.env) :: starEach es X.env := by rfl) (hpl : (backTo pos (starEach es X.env)).any (·.1) = false := by rfl) :
    EF X (.Call (.Name x p) (e :: es) [] pos) Γ (resL i) := fun H0 H1 σ H f Q q => by
  obtain ⟨fa, fd, ds, G, mf, kp, bd, vd⟩ := F.ex
  refine wE_of (pe_call G hr hg mf kp bd vd pass0 pa_w hdb he hpl) (ha H0 H1 σ H f _ fun vs H2 e2 r2 => ⟨i, hp, ?_, fun p xs H3 e3 n r3 k3 => q p xs H3 (e2.trans e3) (Evl.fresh_back e2 n) r3 k3⟩)
  rw [← hA]
  exact pAppend r2 pks_dvs
/-! ### targets -/
theorem tg_name (i : Nat) {x : Str} {P : VI} {vs : List Nat} (hN : X.N.Nodup) (hi : X.N[i]? = some x := by rfl) (hx : Loc X.env.scope x := by first | exact Or.inl rfl | exact Or.inr rfl) (hv : i ∈ vs := by decide)
    (hf : X.fn x = true ∨ X.env.scope.names.lookup x = some .local := by first | exact .inl rfl | exact .inr rfl) : TGT X (.Name x pos) Γ P (Γ.set i (.i P)) vs := fun H0 H1 σ H v f h Q q =>
  wG_of (pg_name hN hi hx hf) (q _ H Ex.r (f.setI i h) (by simp) fun k hk => by rw [List.getElem?_set_ne (fun z => hk (by rw [← z]; exact hv))])
theorem tgs_nil {vs : List Nat} : TGTs X [] Γ [] Γ vs := fun H0 H1 σ H ws f h Q q => by
  cases h
  exact wGs_of pgs_nil ⟨rfl, q σ H Ex.r f rfl fun _ _ => rfl⟩
theorem tgs_cons {t : Expr} {ts : List Expr} {P : VI} {Ps : List VI} {Γ1 : Ctx} {vs : List Nat} (h1 : TGT X t Γ P Γ1 vs) (h2 : TGTs X ts Γ1 Ps Γ' vs)
    (hs : (assignEach (t :: ts) X.env).map (·.2) = assign t X.env :: (assignEach ts X.env).map (·.2) := by rfl) : TGTs X (t :: ts) Γ (P :: Ps) Γ' vs := fun H0 H1 σ H ws f h Q q => by
  cases h with
  | @cons _ v _ ws r rs =>
    refine wGs_of (pgs_cons pg_w pgs_w hs) ⟨v, ws, rfl, h1 H0 H1 σ H v f r _ fun σ1 H2 e2 f2 l2 k2 => h2 H0 H1 σ1 H2 ws f2 (Oks.mono (.of e2) rs) _ fun σ3 H3 e3 f3 l3 k3 => q σ3 H3 (e2.trans e3) f3 (l3.trans l2) fun k hk => (k3 k hk).trans (k2 k hk)⟩
theorem tg_tup {ts : List Expr} {kk : Nat} {Ps : List VI} {vs : List Nat} (hc : X.calm = true) (h : TGTs X ts Γ Ps Γ' vs) (hn : (assignEach ts X.env).length = Ps.length := by rfl) (hst : (assignEach ts X.env).findIdx? (·.1) = none := by rfl) :
    TGT X (.Tuple ts kk pos) Γ (VI.tup Ps) Γ' vs := fun H0 H1 σ H v f ⟨a, xs, e1, h1, k1⟩ Q q =>
  wG_of (pg_tup hc pgs_w hn hst) ⟨a, xs, e1, .of h1, k1.len.symm, h H0 H1 σ H xs f k1 Q q⟩
/-! ### what is walked -/
theorem not_own {H0 H1 H H2 : Hp} {σ : St} (f : Fit H0 H1 Γ σ H) {a : Addr} {xs : List V} (h2 : H2 a = some (.lst xs)) (w : H a = none ∨ H1 a = some (.lst xs)) : base Γ σ H2 a = some (.lst xs) := by
  rw [base_in fun o => ?_]
  · exact h2
  · obtain ⟨n, ys, q⟩ := f.own o
    rcases w with w | w
    · rw [w] at q
      cases q
    · rw [n] at w
      cases w
theorem tup_base {H0 H1 H H2 : Hp} {σ : St} (f : Fit H0 H1 Γ σ H) (e : Ex H H2) {a : Addr} {xs : List V} (h2 : H2 a = some (.tup xs)) : base Γ σ H2 a = some (.tup xs) := by
  rw [base_in fun o => ?_]
  · exact h2
  · obtain ⟨n, ys, q⟩ := f.own o
    rw [e _ _ q] at h2
    cases h2
theorem exI_base {H0 H1 H : Hp} {σ : St} (f : Fit H0 H1 Γ σ H) : ExI H (base Γ σ H) := fun a o h st => by
  rw [base_in fun w => ?_]
  · exact h
  · obtain ⟨_, ys, q⟩ := f.own w
    rw [q] at h
    cases h
    exact st
theorem list_map_get {α β : Type} {xs : List α} {F : α → β} {i : Nat} {b : β} (h : (xs.map F)[i]? = some b) : ∃ a, xs[i]? = some a ∧ b = F a := by
  rw [List.getElem?_map] at h
  cases q : xs[i]? with
  | none =>
    rw [q] at h
    cases h
  | some a =>
    rw [q] at h
    cases h
    exact ⟨a, rfl, rfl⟩
variable {α β : Type} {xs : List α} {F : α → VI} {tg : Expr}
theorem it_list {Ps : List VI} (h : EL X e Γ Ps) (hP : Ps = xs.map F) : IT X tg e Γ xs F := fun H0 H1 σ H f R q =>
  wI_of (pi_list pe_w) (h H0 H1 σ H f _ fun a ys H2 e2 h2 k2 w => by
    subst hP
    have hB := not_own f h2 w
    have hl : xs.length = ys.length := by rw [← k2.len, List.length_map]
    refine ⟨a, rfl, ⟨ys, .of h2⟩, q _ H2 e2 ⟨fun i H3 hi e3 => ?_, fun H3 e3 => ?_, fun i H3 x H' hi e3 y => ?_⟩⟩
    · exact ⟨ys, ys[i]'(by omega), .of (e3 _ _ hB), by simp⟩
    · exact ⟨ys, .of (e3 _ _ hB), by omega⟩
    · obtain ⟨rfl, y⟩ := y
      obtain ⟨P, hP, hk⟩ := oks_get' k2 (y ys (.of (e3 _ _ hB)))
      obtain ⟨a, ha, rfl⟩ := list_map_get hP
      exact ⟨Ex.r, a, ha, (F a).mono ((exI_base (f.mono e2)).trans (.of e3)) hk⟩)
theorem it_tup {Ps : List VI} (h : EV X e Γ (VI.tup Ps).p) (hP : Ps = xs.map F) : IT X tg e Γ xs F := fun H0 H1 σ H f R q =>
  wI_of (pi_tup pe_w) (h H0 H1 σ H f _ fun v H2 e2 ⟨a, ys, ev, h2, k2⟩ => by
    subst hP ev
    have hB := tup_base f e2 h2
    have hl : xs.length = ys.length := by rw [← k2.len, List.length_map]
    refine ⟨a, rfl, ⟨ys, .of h2⟩, q _ H2 e2 ⟨fun i H3 hi e3 => ?_, fun H3 e3 => ?_, fun i H3 x H' hi e3 y => ?_⟩⟩
    · exact ⟨ys, ys[i]'(by omega), .of (e3 _ _ hB), by simp⟩
    · exact ⟨ys, .of (e3 _ _ hB), by omega⟩
    · obtain ⟨rfl, y⟩ := y
      obtain ⟨P, hP, hk⟩ := oks_get' k2 (y ys (.of (e3 _ _ hB)))
      obtain ⟨a, ha, rfl⟩ := list_map_get hP
      exact ⟨Ex.r, a, ha, (F a).mono ((exI_base (f.mono e2)).trans (.of e3)) hk⟩)
theorem it_range (M : Bl X.mg) {k : Nat} (h : EV X e Γ (ei (k : Int))) (hk : k ≤ 100000) (hg : Gl X "range" := by rfl) (he : starEach [e] X.env = (false, eval e X.env) :: starEach [] X.env := by rfl) (hs : starEach [e] X.env = [(false, eval e X.env)] := by rfl) :
    IT X tg (.Call (.Name "range" p) [e] [] pos) Γ (List.range k) (fun i => VI.int (i : Int)) := fun H0 H1 σ H f R q =>
  wI_of (pi_range1 hg M.range pa_w hs) (ea_cons h ea_nil he H0 H1 σ H f _ fun vs H2 e2 r2 => by
    obtain ⟨v, rfl, r⟩ := pk1 r2
    have r : v = .int (k : Int) := r
    subst r
    refine ⟨(k : Int), rfl, by omega, by omega, q _ H2 e2 ⟨fun i H3 hi e3 => ?_, fun H3 e3 => ?_, fun i H3 x H' hi e3 y => ?_⟩⟩
    · rw [List.length_range] at hi
      show i < (k : Int).toNat
      omega
    · rw [List.length_range]
      show (k : Int).toNat ≤ k
      omega
    · obtain ⟨rfl, rfl⟩ := y
      rw [List.length_range] at hi
      refine ⟨Ex.r, i, by simp [hi], ?_⟩
      show V.int (0 + (i : Int)) = V.int i
      rw [Int.zero_add])
theorem it_range2 (M : Bl X.mg) {l k : Nat} (ha : EV X a Γ (ei (l : Int))) (hb : EV X b Γ (ei (k : Int))) (hk : k ≤ 100000) (hl : l ≤ k) (hg : Gl X "range" := by rfl) (he : starEach [a, b] X.env = (false, eval a X.env) :: starEach [b] X.env := by rfl) (he2 : starEach [b] X.env = (false, eval b X.env) :: starEach [] X.env := by rfl)
    (hs : starEach [a, b] X.env = [(false, eval a X.env), (false, eval b X.env)] := by rfl) (hs2 : starEach [b] X.env = [(false, eval b X.env)] := by rfl) :
    IT X tg (.Call (.Name "range" p) [a, b] [] pos) Γ (List.range (k - l)) (fun i => VI.int ((l : Int) + (i : Int))) := fun H0 H1 σ H f R q =>
  wI_of (pi_range2 hg M.range pa_w hs hs2) (ea_cons ha (ea_cons hb ea_nil he2) he H0 H1 σ H f _ fun vs H2 e2 r2 => by
    obtain ⟨v, w, rfl, r, r'⟩ := pk2 r2
    have r : v = .int (l : Int) := r
    have r' : w = .int (k : Int) := r'
    subst r r'
    refine ⟨(l : Int), (k : Int), rfl, by omega, q _ H2 e2 ⟨fun i H3 hi e3 => ?_, fun H3 e3 => ?_, fun i H3 x H' hi e3 y => ?_⟩⟩
    · rw [List.length_range] at hi
      show i < ((k : Int) - (l : Int)).toNat
      omega
    · rw [List.length_range]
      show ((k : Int) - (l : Int)).toNat ≤ k - l
      omega
    · obtain ⟨rfl, rfl⟩ := y
      rw [List.length_range] at hi
      exact ⟨Ex.r, i, by simp [hi], rfl⟩)
/-- zip of two lists, of two tuples -/
theorem it_zipT (M : Bl X.mg) {G : β → VI} {ys : List β} {Ps Qs : List VI} {elts : List Expr} {kk : Nat} {tpos : Pos} (ha : EV X a Γ (VI.tup Ps).p) (hb : EV X b Γ (VI.tup Qs).p) (hP : Ps = xs.map F) (hQ : Qs = ys.map G) (hl : xs.length = ys.length) (hg : Gl X "zip" := by rfl)
    (he : starEach [a, b] X.env = (false, eval a X.env) :: starEach [b] X.env := by rfl) (he2 : starEach [b] X.env = (false, eval b X.env) :: starEach [] X.env := by rfl) (hpl : (backTo pos (starEach [b] X.env)).any (·.1) = false := by rfl) :
    IT X (.Tuple elts kk tpos) (.Call (.Name "zip" p) [a, b] [] pos) Γ (xs.zip ys) (fun z => VI.tup [F z.1, G z.2]) := fun H0 H1 σ H f R q =>
  wI_of (RZ.pi_zipA hg M.zip pa_w he hpl) (ea_cons ha (ea_cons hb ea_nil he2) he H0 H1 σ H f _ fun vs H2 e2 r2 => by
    obtain ⟨v, w, rfl, ⟨p1, us, ev, h2, k2⟩, ⟨p2, ws, ew, h3, k3⟩⟩ := pk2 r2
    subst hP hQ ev ew
    have hB := tup_base f e2 h2
    have hC := tup_base f e2 h3
    have l1 : xs.length = us.length := by rw [← k2.len, List.length_map]
    have l2 : ys.length = ws.length := by rw [← k3.len, List.length_map]
    have lz : (xs.zip ys).length = us.length := by rw [List.length_zip]; omega
    refine ⟨p1, p2, us, ws, rfl, .inr ⟨.of h2, .of h3, q _ H2 e2 ⟨fun i H3 hi e3 => ?_, fun H3 e3 => ?_, fun i H3 x H' hi e3 y => ?_⟩⟩⟩
    · exact ⟨us, ws, us[i]'(by omega), ws[i]'(by omega), .of (e3 _ _ hB), .of (e3 _ _ hC), by simp, by simp⟩
    · exact ⟨us, ws, .of (e3 _ _ hB), .of (e3 _ _ hC), .inl (by omega)⟩
    · obtain ⟨T, x1, y1, rfl, hn, rfl, g1, g2⟩ := y
      obtain ⟨P, hP, hk⟩ := oks_get' k2 (g1 us (.of (e3 _ _ hB)))
      obtain ⟨Q', hQ, hk'⟩ := oks_get' k3 (g2 ws (.of (e3 _ _ hC)))
      obtain ⟨z1, hz1, rfl⟩ := list_map_get hP
      obtain ⟨z2, hz2, rfl⟩ := list_map_get hQ
      have ee : ExI H2 (upd H3 T (.tup [x1, y1])) := ((exI_base (f.mono e2)).trans (.of e3)).trans (.of (Evl.Ex.new hn))
      refine ⟨Evl.Ex.new hn, (z1, z2), ?_, T, [x1, y1], rfl, upd_same, .cons ((F z1).mono ee hk) (.cons ((G z2).mono ee hk') .nil)⟩
      rw [List.getElem?_zip_eq_some]
      exact ⟨hz1, hz2⟩)
theorem it_zipL (M : Bl X.mg) {G : β → VI} {ys : List β} {Ps Qs : List VI} {elts : List Expr} {kk : Nat} {tpos : Pos} (ha : EL X a Γ Ps) (hb : EL X b Γ Qs) (hP : Ps = xs.map F) (hQ : Qs = ys.map G) (hl : xs.length = ys.length) (hg : Gl X "zip" := by rfl)
    (he : starEach [a, b] X.env = (false, eval a X.env) :: starEach [b] X.env := by rfl) (he2 : starEach [b] X.env = (false, eval b X.env) :: starEach [] X.env := by rfl) (hpl : (backTo pos (starEach [b] X.env)).any (·.1) = false := by rfl) :
    IT X (.Tuple elts kk tpos) (.Call (.Name "zip" p) [a, b] [] pos) Γ (xs.zip ys) (fun z => VI.tup [F z.1, G z.2]) := fun H0 H1 σ H f R q =>
  wI_of (RZ.pi_zipA hg M.zip (pa_cons pe_w (pa_cons pe_w pa_nil he2) he) he hpl) (ha H0 H1 σ H f _ fun p1 us H2' e2' h2' k2' w2 => hb H0 H1 σ H2' (f.mono e2') _ fun p2 ws H2 e2'' h3 k3 w3 => by
    have h2 := e2'' _ _ h2'
    have k2 := Oks.mono (.of e2'') k2'
    have e2 := e2'.trans e2''
    subst hP hQ
    have hB := not_own f h2 w2
    have hC : base Γ σ H2 p2 = some (.lst ws) := not_own (f.mono e2') h3 w3
    have l1 : xs.length = us.length := by rw [← k2.len, List.length_map]
    have l2 : ys.length = ws.length := by rw [← k3.len, List.length_map]
    have lz : (xs.zip ys).length = us.length := by rw [List.length_zip]; omega
    refine ⟨p1, p2, us, ws, rfl, .inl ⟨.of h2, .of h3, q _ H2 e2 ⟨fun i H3 hi e3 => ?_, fun H3 e3 => ?_, fun i H3 x H' hi e3 y => ?_⟩⟩⟩
    · exact ⟨us, ws, us[i]'(by omega), ws[i]'(by omega), .of (e3 _ _ hB), .of (e3 _ _ hC), by simp, by simp⟩
    · exact ⟨us, ws, .of (e3 _ _ hB), .of (e3 _ _ hC), .inl (by omega)⟩
    · obtain ⟨T, x1, y1, rfl, hn, rfl, g1, g2⟩ := y
      obtain ⟨P, hP, hk⟩ := oks_get' k2 (g1 us (.of (e3 _ _ hB)))
      obtain ⟨Q', hQ, hk'⟩ := oks_get' k3 (g2 ws (.of (e3 _ _ hC)))
      obtain ⟨z1, hz1, rfl⟩ := list_map_get hP
      obtain ⟨z2, hz2, rfl⟩ := list_map_get hQ
      have ee : ExI H2 (upd H3 T (.tup [x1, y1])) := ((exI_base (f.mono e2)).trans (.of e3)).trans (.of (Evl.Ex.new hn))
      refine ⟨Evl.Ex.new hn, (z1, z2), ?_, T, [x1, y1], rfl, upd_same, .cons ((F z1).mono ee hk) (.cons ((G z2).mono ee hk') .nil)⟩
      rw [List.getElem?_zip_eq_some]
      exact ⟨hz1, hz2⟩)
/-! ### comprehensions -/
def wipeC (Γ : Ctx) : List Nat → Ctx
  | [] => Γ
  | v :: vs => (wipeC Γ vs).set v .u
theorem wipeC_len (Γ : Ctx) : ∀ vs : List Nat, (wipeC Γ vs).length = Γ.length
  | [] => rfl
  | v :: vs => by
    unfold wipeC
    rw [List.length_set, wipeC_len Γ vs]
theorem wipe_get (σ : St) (k : Nat) : ∀ vs : List Nat, (wipe σ vs)[k]? = if k ∈ vs ∧ k < σ.length then some none else σ[k]?
  | [] => by simp [wipe]
  | v :: vs => by
    unfold wipe
    by_cases h : v = k
    · subst h
      by_cases hl : v < σ.length
      · rw [List.getElem?_set_self (by rw [wipe_length]; exact hl), if_pos ⟨by simp, hl⟩]
      · rw [if_neg (fun z => hl z.2), List.getElem?_eq_none (by rw [List.length_set, wipe_length]; omega), List.getElem?_eq_none (by omega)]
    · rw [List.getElem?_set_ne h, wipe_get σ k vs]
      have : (k ∈ v :: vs ∧ k < σ.length) = (k ∈ vs ∧ k < σ.length) := by
        simp [Ne.symm h]
      simp only [this]
theorem wipeC_get (k : Nat) : ∀ (vs : List Nat) {T : Ty}, (wipeC Γ vs)[k]? = some T → T = .u ∨ (Γ[k]? = some T ∧ k ∉ vs)
  | [], T, h => .inr ⟨h, by simp⟩
  | v :: vs, T, h => by
    unfold wipeC at h
    by_cases e : v = k
    · subst e
      by_cases hl : v < (wipeC Γ vs).length
      · rw [List.getElem?_set_self hl] at h
        cases h
        exact .inl rfl
      · rw [List.getElem?_eq_none (by rw [List.length_set]; omega)] at h
        cases h
    · rw [List.getElem?_set_ne e] at h
      rcases wipeC_get k vs h with r | ⟨r, s⟩
      · exact .inl r
      · exact .inr ⟨r, by simp [Ne.symm e, s]⟩
theorem Fit.wipe {H0 H1 H : Hp} {σ : St} (f : Fit H0 H1 Γ σ H) (vs : List Nat) : Fit H0 H1 (wipeC Γ vs) (L2.wipe σ vs) H := by
  refine ⟨f.b, f.ex, by rw [wipe_length, wipeC_len, f.len], fun i T h => ?_, fun i j Ps Qs v hij hi hj si sj => ?_⟩
  · rcases wipeC_get i vs h with r | ⟨r, s⟩
    · exact .inl r
    · rcases f.ok i T r with q | ⟨v, q1, q2⟩
      · exact .inl q
      · exact .inr ⟨v, by rw [wipe_get, if_neg (fun z => s z.1)]; exact q1, q2⟩
  · obtain ⟨r1, s1⟩ := (wipeC_get i vs hi).resolve_left (by simp)
    obtain ⟨r2, s2⟩ := (wipeC_get j vs hj).resolve_left (by simp)
    rw [wipe_get, if_neg (fun z => s1 z.1)] at si
    rw [wipe_get, if_neg (fun z => s2 z.1)] at sj
    exact f.ap i j Ps Qs v hij r1 r2 si sj
theorem wipe_same {σ σ' : St} {vs : List Nat} (hl : σ'.length = σ.length) (h : ∀ k, k ∉ vs → σ'[k]? = (wipe σ vs)[k]?) : wipe σ' vs = wipe σ vs := by
  apply List.ext_getElem?
  intro k
  rw [wipe_get, wipe_get, hl]
  by_cases e : k ∈ vs ∧ k < σ.length
  · rw [if_pos e, if_pos e]
  · rw [if_neg e, if_neg e]
    by_cases q : k ∈ vs
    · have : ¬ k < σ.length := fun z => e ⟨q, z⟩
      rw [List.getElem?_eq_none (by omega), List.getElem?_eq_none (by omega)]
    · rw [h k q, wipe_get, if_neg (fun z => q z.1)]
end
end K8
end
section
set_option Elab.async false
set_option linter.all false
set_option maxRecDepth 100000
set_option maxHeartbeats 1000000
set_option autoImplicit false
/-! Comprehensions, statements, defs. -/
namespace K8
open PySem L2
open Evl (Ex)
theorem oks_append1 {Ps : List VI} {P : VI} {H : Hp} {vs : List V} {v : V} (k : Oks Ps H vs) (h : P.ok H v) : Oks (Ps ++ [P]) H (vs ++ [v]) := pAppend k (.cons h .nil)
theorem take_snoc {α : Type} {xs : List α} {i : Nat} {a : α} (h : xs[i]? = some a) : xs.take (i + 1) = xs.take i ++ [a] := by
  rw [List.take_add_one, h] <;> rfl
section
variable {α : Type} {X : Cx} {Γ : Ctx} {xs : List α} {F G : α → VI} {H0 H1 H2 : Hp} {σ : St} {J : It} {g : TG} {tt : TT} {te : TE} {vs : List Nat} {Γe : α → Ctx} {keep : α → Bool}
theorem lc_run (f : Fit H0 H1 Γ σ H2) (wk : Wk (base Γ σ H2) J xs F) (hl : xs.length ≤ 100000)
    (hg : ∀ a ∈ xs, ∀ v H3, Fit H0 H1 (wipeC Γ vs) (wipe σ vs) H3 → (F a).ok H3 v → ∀ Q : St → Hp → Prop, (∀ σ' H', Ex H3 H' → Fit H0 H1 (Γe a) σ' H' → σ'.length = (wipe σ vs).length → (∀ k, k ∉ vs → σ'[k]? = (wipe σ vs)[k]?) → Q σ' H') → g v (wipe σ vs) H3 Q)
    (ht : ∀ a ∈ xs, ∀ σ' H', Fit H0 H1 (Γe a) σ' H' → ∀ Q : Bool → Hp → Prop, (∀ H'', Ex H' H'' → Q (keep a) H'') → tt σ' H' Q)
    (he : ∀ a ∈ xs, keep a = true → ∀ σ' H', Fit H0 H1 (Γe a) σ' H' → ∀ Q : VK, (∀ v H'', Ex H' H'' → (G a).ok H'' v → Q v H'') → te σ' H' Q)
    (D : Addr) (hD : H2 D = none) {Qd : Hp → Prop} (hd : ∀ H' acc, Ex H2 H' → H' D = some (.lst acc) → Oks ((xs.filter keep).map G) H' acc → Qd H') :
    ∃ W : Nat → Nat → Hp → Prop, (∃ m, W 0 m (upd H2 D (.lst []))) ∧ ∀ i m H, W i m H →
      (J.stop i H ∧ Qd H) ∨ (J.go i H ∧ ∃ Nx : Hp → Prop, (∀ H', Nx H' → ∃ m', m' < m ∧ W (i + 1) m' H') ∧ ∀ x H', J.yld i H x H' → g x (wipe σ vs) H' fun σ2 H2 => wipe σ2 vs = wipe σ vs ∧ tt σ2 H2 fun b H3 =>
        if b = true then te σ2 H3 fun y H4 => ∃ acc, H4 D = some (.lst acc) ∧ acc.length < sizeLine ∧ Nx (upd H4 D (.lst (acc ++ [y]))) else Nx H3) := by
  let Pv : Nat → Hp → Prop := fun i H => Ex H2 H ∧ ∃ acc, H D = some (.lst acc) ∧ Oks (((xs.take i).filter keep).map G) H acc
  refine ⟨fun i m H => m = xs.length - i ∧ i ≤ xs.length ∧ Pv i H, ⟨_, rfl, Nat.zero_le _, Evl.Ex.new hD, [], upd_same, .nil⟩, ?_⟩
  rintro i m H ⟨rfl, hi, e, acc, h1, k1⟩
  have eb : Ex (base Γ σ H2) H := base_ex.trans e
  by_cases hlt : i < xs.length
  · refine .inr ⟨wk.go i H hlt eb, Pv (i + 1), fun H' p => ⟨xs.length - (i + 1), by omega, rfl, hlt, p⟩, fun x H' y => ?_⟩
    obtain ⟨e3, a, ha, hk⟩ := wk.yld i H x H' hlt eb y
    have hm : a ∈ xs := List.mem_of_getElem? ha
    have ts : xs.take (i + 1) = xs.take i ++ [a] := take_snoc ha
    refine hg a hm x H' ((f.mono (e.trans e3)).wipe vs) hk _ fun σ2 H3 e4 f4 l4 g4 => ⟨wipe_same (l4.trans (wipe_length _ _)) g4, ?_⟩
    refine ht a hm σ2 H3 f4 _ fun H4 e5 => ?_
    have ea : Ex H H4 := (e3.trans e4).trans e5
    cases hkp : keep a with
    | false =>
      rw [if_neg Bool.false_ne_true]
      refine ⟨e.trans ea, acc, ea _ _ h1, ?_⟩
      rw [ts, List.filter_append, List.filter_cons, hkp, if_neg Bool.false_ne_true, List.filter_nil, List.append_nil]
      exact k1.mono (.of ea)
    | true =>
      rw [if_pos rfl]
      refine he a hm hkp σ2 H4 (f4.mono e5) _ fun v H5 e6 r6 => ⟨acc, (ea.trans e6) _ _ h1, ?_, ?_⟩
      · have l1 := k1.len
        rw [List.length_map] at l1
        have l2 : ((xs.take i).filter keep).length ≤ (xs.take i).length := List.length_filter_le _ _
        rw [List.length_take] at l2
        exact Nat.lt_of_lt_of_le (show acc.length < 100001 by omega) (by decide)
      · have xx : ExI H5 (upd H5 D (.lst (acc ++ [v]))) := .upd ((ea.trans e6) _ _ h1) fun z => z
        refine ⟨Evl.Ex.mut ((e.trans ea).trans e6) hD, acc ++ [v], upd_same, ?_⟩
        rw [ts, List.filter_append, List.filter_cons, hkp, if_pos rfl, List.filter_nil, List.map_append]
        exact oks_append1 ((k1.mono (.of (ea.trans e6))).mono xx) ((G a).mono xx r6)
  · have ei : i = xs.length := by omega
    subst ei
    refine .inl ⟨wk.stop H eb, hd H acc e h1 ?_⟩
    rw [List.take_length] at k1
    exact k1
end
section
variable {α : Type} {X : Cx} {Γ : Ctx} {xs : List α} {F G : α → VI} {pos : Pos} {elt tg iter c : Expr} {scope : Scope} {own : List (Str × Nat)} {Γe : α → Ctx} {keep : α → Bool}
abbrev bk (X : Cx) (scope : Scope) (s : Shared) (H : Hp) (C : Addr) (cl : List (Str × Addr)) (fp : List Addr) : Cx := X.blk s H scope (compEnvC scope cl C X.env) fp
def wEb (X : Cx) (scope : Scope) (e : Expr) : TE := fun σ H Q => ∀ s h C cl fp, wE (bk X scope s h C cl fp) e σ H Q
def wTb (X : Cx) (scope : Scope) (e : Expr) : TT := fun σ H Q => ∀ s h C cl fp, wT (bk X scope s h C cl fp) e σ H Q
def wGb (X : Cx) (scope : Scope) (tg : Expr) : TG := fun v σ H Q => ∀ s h C cl fp, wG (bk X scope s h C cl fp) tg v σ H Q
theorem pe_wb {s h C cl fp} : PE (bk X scope s h C cl fp) elt (wEb X scope elt) := ⟨fun pins s' σ H Q I q => q s h C cl fp pins s' I⟩
theorem pt_wb {s h C cl fp} : PT (bk X scope s h C cl fp) elt (wTb X scope elt) := ⟨fun pins s' σ H Q I q => q s h C cl fp pins s' I⟩
theorem pg_wb {s h C cl fp} : PG (bk X scope s h C cl fp) tg (wGb X scope tg) := ⟨fun pins s' σ H v u Q I r q => q s h C cl fp pins s' u I r⟩
/-- [elt for tg in iter] -/
theorem ef_lc (hc : X.calm = true) (hN : X.N.Nodup) (ok : BlkOk X.N X.env.scope scope own) (hi : IT X tg iter Γ xs F) (hl : xs.length ≤ 100000)
    (hg : ∀ s h C cl fp, ∀ a ∈ xs, TGT (bk X scope s h C cl fp) tg (wipeC Γ (own.map (·.2))) (F a) (Γe a) (own.map (·.2)))
    (he : ∀ s h C cl fp, ∀ a ∈ xs, EV (bk X scope s h C cl fp) elt (Γe a) (G a).p) (hs : ∀ x, foldedSetIterable iter X.env x = pure x := by intro _; rfl) :
    EF X (.ListComp elt [⟨tg, iter, [], 0⟩] scope pos) Γ (xs.map G) := fun H0 H1 σ H f Q q =>
  wE_of (pe_lc hc hN pi_w ok (fun _ _ _ _ _ => pg_wb) (fun _ _ _ _ _ => pts_nil) (fun _ _ _ _ _ => pe_wb) hs) (hi H0 H1 σ H f _ fun J H2 e2 wk D hD => by
    refine lc_run (keep := fun _ => true) (Γe := Γe) (G := G) (f.mono e2) wk hl (fun a ha v H3 f3 r3 Q' q' s h C cl fp => hg s h C cl fp a ha H0 H1 _ H3 v f3 r3 Q' q') (fun a ha σ' H' f' Q' q' => q' H' Ex.r) (fun a ha _ σ' H' f' Q' q' s h C cl fp => he s h C cl fp a ha H0 H1 σ' H' f' Q' q') D hD fun H' acc e' h' k' => ?_
    refine q D acc H' (e2.trans e') (Evl.fresh_back e2 hD) h' ?_
    rw [List.filter_eq_self.mpr (fun _ _ => rfl)] at k'
    exact k')
/-- [elt for tg in iter if c] -/
theorem ef_lcIf (hc : X.calm = true) (hN : X.N.Nodup) (ok : BlkOk X.N X.env.scope scope own) (hi : IT X tg iter Γ xs F) (hl : xs.length ≤ 100000)
    (hg : ∀ s h C cl fp, ∀ a ∈ xs, TGT (bk X scope s h C cl fp) tg (wipeC Γ (own.map (·.2))) (F a) (Γe a) (own.map (·.2)))
    (ht : ∀ s h C cl fp, ∀ a ∈ xs, ET (bk X scope s h C cl fp) c (Γe a) (keep a))
    (he : ∀ s h C cl fp, ∀ a ∈ xs, keep a = true → EV (bk X scope s h C cl fp) elt (Γe a) (G a).p) (hs : ∀ x, foldedSetIterable iter X.env x = pure x := by intro _; rfl) :
    EF X (.ListComp elt [⟨tg, iter, [c], 0⟩] scope pos) Γ ((xs.filter keep).map G) := fun H0 H1 σ H f Q q =>
  wE_of (pe_lc hc hN pi_w ok (fun _ _ _ _ _ => pg_wb) (fun _ _ _ _ _ => pts_one pt_wb) (fun _ _ _ _ _ => pe_wb) hs) (hi H0 H1 σ H f _ fun J H2 e2 wk D hD =>
    lc_run (keep := keep) (Γe := Γe) (G := G) (f.mono e2) wk hl (fun a ha v H3 f3 r3 Q' q' s h C cl fp => hg s h C cl fp a ha H0 H1 _ H3 v f3 r3 Q' q') (fun a ha σ' H' f' Q' q' s h C cl fp => ht s h C cl fp a ha H0 H1 σ' H' f' Q' q') (fun a ha hk σ' H' f' Q' q' s h C cl fp => he s h C cl fp a ha hk H0 H1 σ' H' f' Q' q') D hD fun H' acc e' h' k' =>
      q D acc H' (e2.trans e') (Evl.fresh_back e2 hD) h' k')
/-! ### statements -/
variable {Γ' : Ctx} {N : NK} {R : Ty} {st : Stmt} {sts body : List Stmt} {e a b : Expr}
theorem g_nil : GS X [] Γ (fitN Γ) R := fun H0 H1 σ H f D hn _ => wSs_of pss_nil (hn σ H f)
theorem GS.weak {N' : NK} (h : GS X sts Γ N R) (k : ∀ H0 H1 σ H, N H0 H1 σ H → N' H0 H1 σ H) : GS X sts Γ N' R := fun H0 H1 σ H f D hn hr => h H0 H1 σ H f D (fun σ' H' n => hn σ' H' (k H0 H1 σ' H' n)) hr
theorem GS.le {Γ2 : Ctx} (h : GS X sts Γ2 N R) (l : Le Γ2 Γ) : GS X sts Γ N R := fun H0 H1 σ H f D hn hr => h H0 H1 σ H (f.le l) D hn hr
theorem GS.toLe {Γ2 : Ctx} (h : GS X sts Γ (fitN Γ') R) (l : Le Γ2 Γ') : GS X sts Γ (fitN Γ2) R := h.weak fun _ _ _ _ n => n.le l
theorem GS.any (h : GS X sts Γ noN R) : GS X sts Γ N R := h.weak fun _ _ _ _ n => n.elim
/-- one statement -/
def GT (X : Cx) (st : Stmt) (Γ : Ctx) (N : NK) (R : Ty) : Prop := ∀ (H0 H1 : Hp) (σ : St) (H : Hp), Fit H0 H1 Γ σ H → ∀ D : Ends, (∀ σ' H', N H0 H1 σ' H' → D.nx σ' H') → (∀ v H', Ex H0 H' → R.ok H0 H0 H' v → D.rt v H') → wS X st D σ H
theorem GT.weak {N' : NK} (h : GT X st Γ N R) (k : ∀ H0 H1 σ H, N H0 H1 σ H → N' H0 H1 σ H) : GT X st Γ N' R := fun H0 H1 σ H f D hn hr => h H0 H1 σ H f D (fun σ' H' n => hn σ' H' (k H0 H1 σ' H' n)) hr
theorem GT.toLe {Γ2 : Ctx} (h : GT X st Γ (fitN Γ') R) (l : Le Γ2 Γ') : GT X st Γ (fitN Γ2) R := h.weak fun _ _ _ _ n => n.le l
theorem GT.to {Γ2 : Ctx} (h : GT X st Γ (fitN Γ') R) (l : Γ' = Γ2) : GT X st Γ (fitN Γ2) R := l ▸ h
theorem GS.to {Γ2 : Ctx} (h : GS X sts Γ (fitN Γ') R) (l : Γ' = Γ2) : GS X sts Γ (fitN Γ2) R := l ▸ h
theorem g_cons (h1 : GT X st Γ (fitN Γ') R) (h2 : GS X sts Γ' N R) : GS X (st :: sts) Γ N R := fun H0 H1 σ H f D hn hr =>
  wSs_of (pss_cons ps_w pss_w) (h1 H0 H1 σ H f { D with nx := wSs X sts D } (fun σ' H' n => h2 H0 H1 σ' H' n D hn hr) hr)
theorem g_one (h1 : GT X st Γ N R) : GS X [st] Γ N R := fun H0 H1 σ H f D hn hr => wSs_of (pss_one ps_w) (h1 H0 H1 σ H f D hn hr)
/-! the ends of a def -/
theorem fresh0 {Ps : List VI} {H0 H1 H H' : Hp} {σ : St} (f : Fit H0 H1 Γ σ H) {p : Addr} (n : H p = none) : H0 p = none := Evl.fresh_back (f.b.trans f.ex) n
theorem g_ret {P : VI} (h : EV X e Γ P.p) : GT X (.Return (some e) pos) Γ N (.i P) := fun H0 H1 σ H f D hn hr => wS_of (ps_ret pe_w) (h H0 H1 σ H f _ fun v H2 e2 r => hr v H2 ((f.b.trans f.ex).trans e2) r)
theorem g_retF {Ps : List VI} (h : EF X e Γ Ps) : GT X (.Return (some e) pos) Γ N (.o Ps) := fun H0 H1 σ H f D hn hr => wS_of (ps_ret pe_w) (h H0 H1 σ H f _ fun p xs H2 e2 n r k => hr _ H2 ((f.b.trans f.ex).trans e2) ⟨p, xs, rfl, fresh0 (Ps := Ps) (H' := H) f n, r, k⟩)
/-- return x, x a list of its own -/
theorem g_retO (i : Nat) {x : Str} {p : Pos} {Ps : List VI} (hΓ : Γ[i]? = some (.o Ps) := by rfl) (hN : X.N[i]? = some x := by rfl) (hv : Vis X.env.scope x := by first | exact Or.inl rfl | exact Or.inr (Or.inl rfl) | exact Or.inr (Or.inr rfl)) (hd : (x == ("__debug__" : Str)) = false := by decide) (hcd : (x == ("__classdict__" : Str)) = false := by decide) :
    GT X (.Return (some (.Name x p)) pos) Γ N (.o Ps) := fun H0 H1 σ H f D hn hr => by
  obtain ⟨v, s1, a, xs, rfl, n, h1, k⟩ := f.get hΓ (by simp)
  exact wS_of (ps_ret (pe_var hN hv hd hcd)) ⟨_, s1, hr _ H (f.b.trans f.ex) ⟨a, xs, rfl, Evl.fresh_back f.b n, h1, k⟩⟩
theorem g_drop {P : VP} (h : EV X e Γ P) (hs : swapsWith e none pos.line X.env = pure false := by rfl) : GT X (.Expr e pos) Γ (fitN Γ) R := fun H0 H1 σ H f D hn hr => wS_of (ps_expr pe_w hs) (h H0 H1 σ H f _ fun v H2 e2 _ => hn σ H2 (f.mono e2))
theorem g_set (i : Nat) {x : Str} {p : Pos} {P : VI} (hN : X.N.Nodup) (h : EV X e Γ P.p) (hi : X.N[i]? = some x := by rfl) (hx : Loc X.env.scope x := by first | exact Or.inl rfl | exact Or.inr rfl) (hs : swapsWith e (some (.Name x p)) pos.line X.env = pure false := by rfl)
    (hf : X.fn x = true ∨ X.env.scope.names.lookup x = some .local := by first | exact .inl rfl | exact .inr rfl) : GT X (.Assign [.Name x p] e pos) Γ (fitN (Γ.set i (.i P))) R := fun H0 H1 σ H f D hn hr =>
  wS_of (ps_set hN hi hx pe_w hs hf) (h H0 H1 σ H f _ fun v H2 e2 r => hn _ H2 ((f.mono e2).setI i r))
theorem g_setF (i : Nat) {x : Str} {p : Pos} {Ps : List VI} (hN : X.N.Nodup) (h : EF X e Γ Ps) (hi : X.N[i]? = some x := by rfl) (hx : Loc X.env.scope x := by first | exact Or.inl rfl | exact Or.inr rfl) (hs : swapsWith e (some (.Name x p)) pos.line X.env = pure false := by rfl)
    (hf : X.fn x = true ∨ X.env.scope.names.lookup x = some .local := by first | exact .inl rfl | exact .inr rfl) : GT X (.Assign [.Name x p] e pos) Γ (fitN (Γ.set i (.o Ps))) R := fun H0 H1 σ H f D hn hr =>
  wS_of (ps_set hN hi hx pe_w hs hf) (h H0 H1 σ H f _ fun a xs H2 e2 n r k => hn _ H2 (f.setO e2 i n r k))
/-- x = y, y a list of its own: y is forgotten -/
theorem g_move (i j : Nat) {x y : Str} {p p' : Pos} {Ps : List VI} (hN : X.N.Nodup) (hj : Γ[j]? = some (.o Ps) := by rfl) (hij : i ≠ j := by decide) (hi : X.N[i]? = some x := by rfl) (hNj : X.N[j]? = some y := by rfl) (hx : Loc X.env.scope x := by first | exact Or.inl rfl | exact Or.inr rfl) (hv : Vis X.env.scope y := by first | exact Or.inl rfl | exact Or.inr (Or.inl rfl) | exact Or.inr (Or.inr rfl))
    (hs : swapsWith (.Name y p') (some (.Name x p)) pos.line X.env = pure false := by rfl) (hd : (y == ("__debug__" : Str)) = false := by decide) (hcd : (y == ("__classdict__" : Str)) = false := by decide)
    (hf : X.fn x = true ∨ X.env.scope.names.lookup x = some .local := by first | exact .inl rfl | exact .inr rfl) : GT X (.Assign [.Name x p] (.Name y p') pos) Γ (fitN ((Γ.set j .u).set i (.o Ps))) R := fun H0 H1 σ H f D hn hr => by
  obtain ⟨v, s1, q⟩ := f.get hj (by simp)
  have jl : j < Γ.length := (List.getElem?_eq_some_iff.mp hj).1
  have f1 : Fit H0 H1 (Γ.set j .u) σ H := f.le ⟨by simp, fun k T hk => by
    by_cases e : j = k
    · subst e
      rw [List.getElem?_set_self jl] at hk
      cases hk
      exact .inl rfl
    · rw [List.getElem?_set_ne e] at hk
      exact .inr hk⟩
  refine wS_of (ps_set hN hi hx (pe_var hNj hv hd hcd) hs hf) ⟨v, s1, hn _ H (f1.set i q fun Qs eq k Rs hk hki sk => ?_)⟩
  by_cases e : j = k
  · subst e
    rw [List.getElem?_set_self jl] at hk
    cases hk
  · rw [List.getElem?_set_ne e] at hk
    exact f.ap k j Rs Ps v (Ne.symm e) hk hj sk s1
/-- x = [..], a comprehension -/
theorem g_setLc (i : Nat) {x : Str} {p lp : Pos} {ifs : List Expr} {F G : α → VI} {keep : α → Bool} (hc : X.calm = true) (hN : X.N.Nodup) (hyl : X.env.scope.names.lookup x = some .local) (ok : BlkOk X.N X.env.scope scope own) (hi : IT X tg iter Γ xs F) (hl : xs.length ≤ 100000)
    (hsw : swapsWith (.ListComp elt [⟨tg, iter, ifs, 0⟩] scope lp) (some (.Name x p)) pos.line X.env = pure true)
    (hg : ∀ s h C cl fp, ∀ a ∈ xs, TGT (bk X scope s h C cl fp) tg (wipeC Γ (own.map (·.2))) (F a) (Γe a) (own.map (·.2)))
    (hk : (ifs = [] ∧ ∀ a ∈ xs, keep a = true) ∨ ∃ c, ifs = [c] ∧ ∀ s h C cl fp, ∀ a ∈ xs, ET (bk X scope s h C cl fp) c (Γe a) (keep a))
    (he : ∀ s h C cl fp, ∀ a ∈ xs, keep a = true → EV (bk X scope s h C cl fp) elt (Γe a) (G a).p) (hNi : X.N[i]? = some x := by rfl) (hs : ∀ x, foldedSetIterable iter X.env x = pure x := by intro _; rfl) :
    GT X (.Assign [.Name x p] (.ListComp elt [⟨tg, iter, ifs, 0⟩] scope lp) pos) Γ (fitN (Γ.set i (.o ((xs.filter keep).map G)))) R := fun H0 H1 σ H f D hn hr => by
  have hpt : ∃ tt : TT, (∀ s h C cl fp, PTs (bk X scope s h C cl fp) ifs tt) ∧ ∀ a ∈ xs, ∀ σ' H', Fit H0 H1 (Γe a) σ' H' → ∀ Q : Bool → Hp → Prop, (∀ H'', Ex H' H'' → Q (keep a) H'') → tt σ' H' Q := by
    rcases hk with ⟨rfl, hk⟩ | ⟨c, rfl, hk⟩
    · exact ⟨tYes, fun _ _ _ _ _ => pts_nil, fun a ha σ' H' f' Q' q' => by
        rw [hk a ha] at q'
        exact q' H' Ex.r⟩
    · exact ⟨wTb X scope c, fun _ _ _ _ _ => pts_one pt_wb, fun a ha σ' H' f' Q' q' s h C cl fp => hk s h C cl fp a ha H0 H1 σ' H' f' Q' q'⟩
  obtain ⟨tt, pt, ht⟩ := hpt
  refine wS_of (ps_setLc hc hN hNi hyl hsw pi_w ok (fun _ _ _ _ _ => pg_wb) (fun s h C cl fp => pt s h C cl fp) (fun _ _ _ _ _ => pe_wb) hs) ?_
  exact hi H0 H1 σ H f _ fun J H2 e2 wk A hA =>
    lc_run (keep := keep) (Γe := Γe) (G := G) (f.mono e2) wk hl (fun a ha v H3 f3 r3 Q' q' s h C cl fp => hg s h C cl fp a ha H0 H1 _ H3 v f3 r3 Q' q') ht (fun a ha hk σ' H' f' Q' q' s h C cl fp => he s h C cl fp a ha hk H0 H1 σ' H' f' Q' q') A hA fun H' acc e' h' k' =>
      hn _ H' (f.setO (e2.trans e') i (Evl.fresh_back e2 hA) h' k')
/-- a, b = x, y -/
theorem g_par (i j : Nat) {x y : Str} {px py pt : Pos} {kt k2 pt2} {P Q : VI} (hc : X.calm = true) (hN : X.N.Nodup) (ha : EV X a Γ P.p) (hb : EV X b Γ Q.p) (hi : X.N[i]? = some x := by rfl) (hj : X.N[j]? = some y := by rfl) (hij : i ≠ j := by decide)
    (hx : X.env.scope.names.lookup x = some .local := by rfl) (hy : X.env.scope.names.lookup y = some .local := by rfl)
    (hw : swappedStores [.Tuple [.Name x px, .Name y py] kt pt] (.Tuple [a, b] k2 pt2) X.env = pure (some [x, y]) := by rfl)
    (hs : swapsWithSole [.Tuple [.Name x px, .Name y py] kt pt] (.Tuple [a, b] k2 pt2) pos.line X.env = pure false := by rfl) (he : starEach [a, b] X.env = (false, eval a X.env) :: starEach [b] X.env := by rfl) (he2 : starEach [b] X.env = (false, eval b X.env) :: starEach [] X.env := by rfl) :
    GT X (.Assign [.Tuple [.Name x px, .Name y py] kt pt] (.Tuple [a, b] k2 pt2) pos) Γ (fitN ((Γ.set i (.i P)).set j (.i Q))) R := fun H0 H1 σ H f D hn hr =>
  wS_of (ps_par hc hN hi hj hij hx hy pa_w hw hs) (ei_cons ha (ei_cons hb ei_nil he2) he H0 H1 σ H f _ fun vs H2 e2 k => by
    cases k with
    | cons r t =>
      cases t with
      | cons r' t =>
        cases t
        exact ⟨_, _, rfl, hn _ H2 (((f.mono e2).setI i r).setI j r')⟩)
theorem g_par3 (i j l : Nat) {x y z : Str} {px py pz pt : Pos} {kt k2 pt2} {P Q S : VI} {c : Expr} (hc : X.calm = true) (hN : X.N.Nodup) (ha : EV X a Γ P.p) (hb : EV X b Γ Q.p) (hcc : EV X c Γ S.p) (hi : X.N[i]? = some x := by rfl) (hj : X.N[j]? = some y := by rfl) (hl : X.N[l]? = some z := by rfl) (hij : i ≠ j := by decide) (hil : i ≠ l := by decide) (hjl : j ≠ l := by decide)
    (hx : X.env.scope.names.lookup x = some .local := by rfl) (hy : X.env.scope.names.lookup y = some .local := by rfl) (hz : X.env.scope.names.lookup z = some .local := by rfl)
    (hw : swappedStores [.Tuple [.Name x px, .Name y py, .Name z pz] kt pt] (.Tuple [a, b, c] k2 pt2) X.env = pure (some [x, y, z]) := by rfl)
    (hs : swapsWithSole [.Tuple [.Name x px, .Name y py, .Name z pz] kt pt] (.Tuple [a, b, c] k2 pt2) pos.line X.env = pure false := by rfl) (he : starEach [a, b, c] X.env = (false, eval a X.env) :: starEach [b, c] X.env := by rfl) (he2 : starEach [b, c] X.env = (false, eval b X.env) :: starEach [c] X.env := by rfl) (he3 : starEach [c] X.env = (false, eval c X.env) :: starEach [] X.env := by rfl) :
    GT X (.Assign [.Tuple [.Name x px, .Name y py, .Name z pz] kt pt] (.Tuple [a, b, c] k2 pt2) pos) Γ (fitN (((Γ.set i (.i P)).set j (.i Q)).set l (.i S))) R := fun H0 H1 σ H f D hn hr =>
  wS_of (ps_par3 hc hN hi hj hl hij hil hjl hx hy hz pa_w hw hs) (ei_cons ha (ei_cons hb (ei_cons hcc ei_nil he3) he2) he H0 H1 σ H f _ fun vs H2 e2 k => by
    cases k with
    | cons r t =>
      cases t with
      | cons r' t =>
        cases t with
        | cons r'' t =>
          cases t
          exact ⟨_, _, _, rfl, hn _ H2 ((((f.mono e2).setI i r).setI j r').setI l r'')⟩)
/-- a target of any kind -/
theorem g_asg {P : VI} {vs : List Nat} (h : EV X e Γ P.p) (ht : TGT X tg Γ P Γ' vs) (hs : swapsWithSole [tg] e pos.line X.env = pure false := by rfl) (hw : swappedStores [tg] e X.env = pure none := by rfl) (h1 : (assignEach [tg] X.env).map (·.2) = [assign tg X.env] := by rfl) :
    GT X (.Assign [tg] e pos) Γ (fitN Γ') R := fun H0 H1 σ H f D hn hr => wS_of (ps_asg pe_w pg_w hs hw h1) (h H0 H1 σ H f _ fun v H2 e2 r => ht H0 H1 σ H2 v (f.mono e2) r _ fun σ' H' e' f' _ _ => hn σ' H' f')
/-! if -/
theorem g_if {k : Bool} {A B : List Stmt} (hc : ET X c Γ k) (h1 : k = true → GS X A Γ N R) (h2 : k = false → GS X B Γ N R) : GT X (.If c A B pos) Γ N R := fun H0 H1 σ H f D hn hr =>
  wS_of (ps_if pt_w pss_w pss_w) (hc H0 H1 σ H f _ fun H2 e2 => by
    cases k with
    | true =>
      rw [if_pos rfl]
      exact h1 rfl H0 H1 σ H2 (f.mono e2) D hn hr
    | false =>
      rw [if_neg Bool.false_ne_true]
      exact h2 rfl H0 H1 σ H2 (f.mono e2) D hn hr)
/-- if c: (never) -/
theorem g_not {A : List Stmt} (hc : ET X c Γ false) : GT X (.If c A [] pos) Γ (fitN Γ) R := g_if hc (fun h => nomatch h) fun _ => g_nil
/-- if c: return .., then the rest -/
theorem g_ifR {k : Bool} {A : List Stmt} (hc : ET X c Γ k) (h1 : k = true → GS X A Γ noN R) (h2 : k = false → GS X sts Γ N R) : GS X (.If c A [] pos :: sts) Γ N R := fun H0 H1 σ H f D hn hr =>
  wSs_of (pss_cons (ps_if pt_w pss_w pss_nil) pss_w) (hc H0 H1 σ H f _ fun H2 e2 => by
    cases k with
    | true =>
      rw [if_pos rfl]
      exact h1 rfl H0 H1 σ H2 (f.mono e2) _ (fun _ _ z => z.elim) hr
    | false =>
      rw [if_neg Bool.false_ne_true]
      exact h2 rfl H0 H1 σ H2 (f.mono e2) D hn hr)
/-! loops -/
theorem g_for {F : α → VI} {vs : List Nat} (hp : PassesOwn (model X.prog X.w) X.A X.env X.xe) (hc : X.calm = true) (Γs : List α → Ctx) (Γm : List α → α → Ctx) (hi : IT X tg iter (Γs []) xs F)
    (hg : ∀ pre a post, xs = pre ++ a :: post → TGT X tg (Γs pre) (F a) (Γm pre a) vs) (hb : ∀ pre a post, xs = pre ++ a :: post → GS X body (Γm pre a) (fitN (Γs (pre ++ [a]))) R)
    (hs : ∀ x, foldedSetIterable iter X.env x = pure x := by intro _; rfl) : GT X (.For tg iter body [] pos) (Γs []) (fitN ((Γs xs).map Ty.dem)) R := fun H0 H1 σ H f D hn hr =>
  wS_of (ps_for hp hc pi_w pg_w pss_w hs) (hi H0 H1 σ H f _ fun J H2 e2 wk => by
    have f2 := (f.mono e2).rebase
    have eb : Ex H1 (base (Γs []) σ H2) := (f.mono e2).toBase
    generalize hB : base (Γs []) σ H2 = B at f2 wk eb
    refine ⟨fun i m σ' H' => m = xs.length - i ∧ i ≤ xs.length ∧ Fit H0 B (Γs (xs.take i)) σ' H', ⟨_, rfl, Nat.zero_le _, f2⟩, ?_⟩
    rintro i m σ' H' ⟨rfl, hil, f'⟩
    by_cases hlt : i < xs.length
    · refine .inr ⟨wk.go i H' hlt f'.ex, fun σ'' H'' => Fit H0 B (Γs (xs.take (i + 1))) σ'' H'', fun σ'' H'' q => ⟨_, by omega, rfl, hlt, q⟩, fun x H3 y => ?_⟩
      obtain ⟨e3, a, ha, hk⟩ := wk.yld i H' x H3 hlt f'.ex y
      have ts : xs.take (i + 1) = xs.take i ++ [a] := take_snoc ha
      have sp : xs = xs.take i ++ a :: xs.drop (i + 1) := by
        have h1 := (List.take_append_drop (i + 1) xs).symm
        rw [ts, List.append_assoc] at h1
        exact h1
      refine hg _ a _ sp H0 B σ' H3 x (f'.mono e3) hk _ fun σ4 H4 e4 f4 _ _ => ?_
      exact hb _ a _ sp H0 B σ4 H4 f4 _ (fun σ5 H5 n => by rw [ts]; exact n) hr
    · have ei : i = xs.length := by omega
      subst ei
      rw [List.take_length] at f'
      exact .inl ⟨wk.stop H' f'.ex, hn σ' H' (f'.unbase f.b eb)⟩)
theorem g_while {β : Type} (hp : PassesOwn (model X.prog X.w) X.A X.env X.xe) (Γs : β → Ctx) (I : β → Prop) (μ : β → Nat) (cond : β → Bool) {Γ' : Ctx} (b0 : β) (h0 : I b0) (hcnd : ∀ b, I b → ET X c (Γs b) (cond b))
    (hb : ∀ b, I b → cond b = true → ∃ b', I b' ∧ μ b' < μ b ∧ GS X body (Γs b) (fitN (Γs b')) R) (he : ∀ b, I b → cond b = false → Le Γ' (Γs b)) : GT X (.While c body [] pos) (Γs b0) (fitN Γ') R := fun H0 H1 σ H f D hn hr =>
  wS_of (ps_while hp pt_w pss_w) ⟨fun m σ' H' => ∃ b, I b ∧ μ b = m ∧ Fit H0 H1 (Γs b) σ' H', ⟨_, b0, h0, rfl, f⟩, fun m σ' H' ⟨b, hI, hm, f'⟩ => hcnd b hI H0 H1 σ' H' f' _ fun H2 e2 => by
    cases hk : cond b with
    | true =>
      rw [if_pos rfl]
      obtain ⟨b', hI', lt, g⟩ := hb b hI hk
      exact ⟨fun σ'' H'' => Fit H0 H1 (Γs b') σ'' H'', fun σ'' H'' q => ⟨μ b', by omega, b', hI', rfl, q⟩, g H0 H1 σ' H2 (f'.mono e2) _ (fun _ _ n => n) hr⟩
    | false =>
      rw [if_neg Bool.false_ne_true]
      exact hn σ' H2 ((f'.mono e2).le (he b hI hk))⟩
/-! lists of one's own -/
theorem sizeL {n : Nat} (h : n ≤ 100000) : n < sizeLine := Nat.lt_of_le_of_lt h (by decide)
theorem g_append (i : Nat) {x : Str} {p q1 q2 : Pos} {Ps : List VI} {P : VI} (hΓ : Γ[i]? = some (.o Ps)) (h : EV X e Γ P.p) (hl : Ps.length ≤ 100000) (hN : X.N[i]? = some x := by rfl) (hv : Vis X.env.scope x := by first | exact Or.inl rfl | exact Or.inr (Or.inl rfl) | exact Or.inr (Or.inr rfl)) (hd : (x == ("__debug__" : Str)) = false := by decide) (hcd : (x == ("__classdict__" : Str)) = false := by decide)
    (hE : PE X (.Call (.Attribute (.Name x p) "append" q1) [e] [] q2) (tBM X.K "list" rAppend (tVar i) (tCons (wE X e) tNil)))
    (hs : swapsWith (.Call (.Attribute (.Name x p) "append" q1) [e] [] q2) none pos.line X.env = pure false := by rfl) :
    GT X (.Expr (.Call (.Attribute (.Name x p) "append" q1) [e] [] q2) pos) Γ (fitN (Γ.set i (.o (Ps ++ [P])))) R := fun H0 H1 σ H f D hn hr => by
  obtain ⟨v, s1, a, xs, rfl, n, h1, k⟩ := f.get hΓ (by simp)
  refine wS_of (ps_expr hE hs) ⟨_, s1, .inl ⟨rfl, xs, .of h1⟩, h H0 H1 σ H f _ fun w H2 e2 r => ⟨a, xs, w, rfl, rfl, e2 _ _ h1, ?_, ?_⟩⟩
  · rw [← k.len]
    exact sizeL hl
  · exact hn σ _ ((f.mono e2).wr hΓ s1 (e2 _ _ h1) (oks_append1 (k.mono (.of e2)) r))
theorem g_extend (i : Nat) {x : Str} {p q1 q2 : Pos} {Ps Qs : List VI} (hΓ : Γ[i]? = some (.o Ps)) (h : EF X e Γ Qs) (hl : Ps.length + Qs.length ≤ 100000) (hN : X.N[i]? = some x := by rfl)
    (hE : PE X (.Call (.Attribute (.Name x p) "extend" q1) [e] [] q2) (tBM X.K "list" rExtend (tVar i) (tCons (wE X e) tNil)))
    (hs : swapsWith (.Call (.Attribute (.Name x p) "extend" q1) [e] [] q2) none pos.line X.env = pure false := by rfl) :
    GT X (.Expr (.Call (.Attribute (.Name x p) "extend" q1) [e] [] q2) pos) Γ (fitN (Γ.set i (.o (Ps ++ Qs)))) R := fun H0 H1 σ H f D hn hr => by
  obtain ⟨v, s1, a, xs, rfl, n, h1, k⟩ := f.get hΓ (by simp)
  refine wS_of (ps_expr hE hs) ⟨_, s1, .inl ⟨rfl, xs, .of h1⟩, h H0 H1 σ H f _ fun b ys H2 e2 nb r k2 => ⟨a, b, xs, ys, rfl, rfl, e2 _ _ h1, r, ?_, ?_⟩⟩
  · rw [← k.len, ← k2.len]
    exact Nat.le_trans hl (by decide)
  · exact hn σ _ ((f.mono e2).wr hΓ s1 (e2 _ _ h1) (pAppend (k.mono (.of e2)) k2))
/-- x[n] = e -/
theorem g_setIx (i : Nat) {x : Str} {p q1 : Pos} {Ps : List VI} {P : VI} {n : Int} {j : Nat} (hΓ : Γ[i]? = some (.o Ps)) (h : EV X e Γ P.p) (hb : EV X b Γ (ei n)) (hj : ixN Ps.length n = some j) (hN : X.N[i]? = some x := by rfl) (hv : Vis X.env.scope x := by first | exact Or.inl rfl | exact Or.inr (Or.inl rfl) | exact Or.inr (Or.inr rfl)) (hd : (x == ("__debug__" : Str)) = false := by decide) (hcd : (x == ("__classdict__" : Str)) = false := by decide)
    (hE : PS X (.Assign [.Subscript (.Name x p) b q1] e pos) (tAsg (wE X e) (gSub (tVar i) (wE X b) rSetL))) :
    GT X (.Assign [.Subscript (.Name x p) b q1] e pos) Γ (fitN (Γ.set i (.o (Ps.set j P)))) R := fun H0 H1 σ H f D hn hr => by
  obtain ⟨v, s1, a, xs, rfl, n0, h1, k⟩ := f.get hΓ (by simp)
  refine wS_of hE (h H0 H1 σ H f _ fun w H2 e2 r => ⟨_, s1, hb H0 H1 σ H2 (f.mono e2) _ fun y H3 e3 r3 => ⟨a, xs, n, j, rfl, r3, (e2.trans e3) _ _ h1, ?_, ?_⟩⟩)
  · rw [← k.len]
    exact hj
  · exact hn σ _ ((f.mono (e2.trans e3)).wr hΓ s1 ((e2.trans e3) _ _ h1) (oks_set (k.mono (.of (e2.trans e3))) j (P.mono (.of e3) r)))
/-- slot i is frozen for a block -/
theorem g_freeze (i : Nat) {Ps : List VI} (hΓ : Γ[i]? = some (.o Ps)) (h : GT X st (Γ.set i (.f (.lst Ps))) (fitN Γ') R) : GT X st Γ (fitN (Γ'.map Ty.dem)) R := fun H0 H1 σ H f D hn hr => by
  have f2 := f.freeze hΓ
  refine h H0 _ σ H f2 D (fun σ' H' n => hn σ' H' (Fit.unbase (H1 := H1) n f.b ?_)) hr
  intro a o q
  by_cases w : Own (Γ.set i .u) σ a
  · have il : i < Γ.length := (List.getElem?_eq_some_iff.mp hΓ).1
    obtain ⟨j, Qs, h1, h2⟩ := w
    by_cases e : i = j
    · subst e
      rw [List.getElem?_set_self il] at h1
      cases h1
    · rw [List.getElem?_set_ne e] at h1
      rw [(f.own ⟨j, Qs, h1, h2⟩).1] at q
      cases q
  · rw [base_in w]
    exact f.ex a o q
end
/-! ### defs -/
def ctx0 (N : List Str) (Ps : List VP) : Ctx := Ps.map Ty.e ++ List.replicate (N.length - Ps.length) .u
theorem Pks.len {Ps : List VP} {H : Hp} {vs : List V} (h : Pks Ps H vs) : Ps.length = vs.length := Paired.length h
theorem pks_get {Ps : List VP} {P : VP} {H : Hp} {xs : List V} {j : Nat} (k : Pks Ps H xs) (h : Ps[j]? = some P) : ∃ v, xs[j]? = some v ∧ P.ok H v := by
  induction k generalizing j with
  | nil => simp at h
  | cons r t ih =>
    cases j with
    | zero =>
      have e : _ = P := Option.some.inj h
      subst e
      exact ⟨_, rfl, r⟩
    | succ j => exact ih h
theorem fit0 {N : List Str} {Ps : List VP} {H : Hp} {vs : List V} (k : Pks Ps H vs) : Fit H H (ctx0 N Ps) (L2.start N vs) H := by
  refine ⟨Ex.r, Ex.r, by unfold ctx0 L2.start; simp [k.len], fun i T h => ?_, fun i j Qs Rs v _ hi _ _ _ => ?_⟩
  · unfold ctx0 at h
    by_cases hi : i < Ps.length
    · rw [List.getElem?_append_left (by simpa using hi), List.getElem?_map] at h
      cases q : Ps[i]? with
      | none =>
        rw [q] at h
        cases h
      | some P =>
        rw [q] at h
        cases h
        obtain ⟨v, h1, h2⟩ := pks_get k q
        refine .inr ⟨v, ?_, h2⟩
        unfold L2.start
        rw [List.getElem?_append_left (by rw [List.length_map, ← k.len]; exact hi), List.getElem?_map, h1]
        rfl
    · rw [List.getElem?_append_right (by simp; omega), List.getElem?_replicate] at h
      split at h
      · cases h
        exact .inl rfl
      · cases h
  · unfold ctx0 at hi
    by_cases hl : i < Ps.length
    · rw [List.getElem?_append_left (by simpa using hl), List.getElem?_map] at hi
      cases q : Ps[i]? with
      | none =>
        rw [q] at hi
        cases hi
      | some P =>
        rw [q] at hi
        cases hi
    · rw [List.getElem?_append_right (by simp; omega), List.getElem?_replicate] at hi
      split at hi <;> cases hi
section
variable {P : Program} {w : World} {K : PySem.W.Frag} {mg : Str → Option Value} {base : Heap} {x qual : Str} {params : Arguments} {body : List Stmt} {scope : Scope} {dvs : List V} {kws : List (Str × V)} {f : Addr} {fd : FuncData} {N ps : List Str} {k : Nat}
variable {ι : Type} {pre : ι → Prop} {args : ι → List VP} {res : ι → VI} {resL : ι → List VI}
/-- the end of a def without return -/
def endN (P : VI) : NK := fun H0 _ _ H => Ex H0 H ∧ P.ok H .non
theorem endN_fit {Γ : Ctx} {H0 H1 H : Hp} {σ : St} (h : fitN Γ H0 H1 σ H) : endN VI.non H0 H1 σ H := ⟨Fit.b h |>.trans (Fit.ex h), rfl⟩
theorem gs_end {X : Cx} {sts : List Stmt} {Γ Γ' : Ctx} {R : Ty} (h : GS X sts Γ (fitN Γ') R) : GS X sts Γ (endN VI.non) R := h.weak fun _ _ _ _ n => endN_fit n
/-- a def that hands back a thing -/
theorem fn_V (F : FunD K x qual params body scope dvs kws f fd) (S : FnScope N ps scope) (hl : ∀ i, (args i).length = ps.length)
    (hb : ∀ (cdv : Value) (A : Around) (outer : List Env) (s : Shared) (H : Hp) (E : XK), Room k (A.deeper (PyProof.Rows.envOfC qual scope s.heap.objs.size f cdv)) → ∀ i, pre i →
      GS (cxOf CX0 P w K mg base N qual scope f cdv A outer s H E).nox body (ctx0 N (args i)) (endN (res i)) (.i (res i))) : FnOk P w K mg base CX0 (k + 1) f fd ps (spV pre args res) := by
  refine F.ok S (fun vs H Q E h => ?_) (fun cdv A outer s H vs Q E hr h => ?_)
  · obtain ⟨i, _, k, _⟩ := h
    rw [← k.len, hl]
  · obtain ⟨i, hp, kk, q⟩ := h
    exact ⟨_, PSs.nox pss_w, hb cdv A outer s H E hr i hp H H _ H (fit0 kk) { nx := fun _ H' => Q .non H', rt := Q } (fun _ H' n => q _ H' n.1 n.2) fun v H' e r => q v H' e r⟩
/-- .. a new list -/
theorem fn_L (F : FunD K x qual params body scope dvs kws f fd) (S : FnScope N ps scope) (hl : ∀ i, (args i).length = ps.length)
    (hb : ∀ (cdv : Value) (A : Around) (outer : List Env) (s : Shared) (H : Hp) (E : XK), Room k (A.deeper (PyProof.Rows.envOfC qual scope s.heap.objs.size f cdv)) → ∀ i, pre i →
      GS (cxOf CX0 P w K mg base N qual scope f cdv A outer s H E).nox body (ctx0 N (args i)) noN (.o (resL i))) : FnOk P w K mg base CX0 (k + 1) f fd ps (spL pre args resL) := by
  refine F.ok S (fun vs H Q E h => ?_) (fun cdv A outer s H vs Q E hr h => ?_)
  · obtain ⟨i, _, k, _⟩ := h
    rw [← k.len, hl]
  · obtain ⟨i, hp, kk, q⟩ := h
    refine ⟨_, PSs.nox pss_w, hb cdv A outer s H E hr i hp H H _ H (fit0 kk) { nx := fun _ H' => Q .non H', rt := Q } (fun _ H' n => n.elim) fun v H' e r => ?_⟩
    obtain ⟨a, xs, rfl, n, h1, k1⟩ := r
    exact q a xs H' e n h1 k1
end
end K8
end
section
set_option Elab.async false
set_option linter.all false
set_option maxRecDepth 100000
set_option maxHeartbeats 1000000
set_option autoImplicit false
/-! The text by places; a def's facts; isinstance; numbers. -/
namespace K8
open PySem L2
open Evl (Ex)
def top (i : Nat) : Stmt := PySem.Challenge.pw_hindprice_k80_whole_best_mixes_four_ways.main.body.getD i (.Pass ⟨0, 0, 0, 0⟩)
/-- a def of the top, by its global name and its place -/
structure Df (K : PySem.W.Frag) (mg : Str → Option Value) (x name qual : Str) (st : Stmt) (dvs : List V) : Prop where
  fn : ∃ fd, FunD K name qual (defArgs st) (defBody st) (defScope st) dvs [] (He.ga K x) fd
  mg : mg x = some (.ref (He.ga K x))
section
variable {P : Program} {w : World} {K : PySem.W.Frag} {mg : Str → Option Value} {base : Heap} {x name qual : Str} {st : Stmt} {N ps : List Str} {k : Nat} {ι : Type} {pre : ι → Prop} {args : ι → List VP} {res : ι → VI} {resL : ι → List VI}
abbrev BindN (name qual : Str) (st : Stmt) (ps : List Str) : Prop := ∀ (kV doc pm : Value) (an : Option Addr) (cdv ct : Value) (us : List Value), us.length = ps.length → bindArgs (PySem.W.fnOf name qual (defArgs st) (defBody st) (defScope st) .none kV doc pm an cdv ct) ⟨us, []⟩ = pure (ps.zip us)
theorem fq_V (D : Df K mg x name qual st []) (S : FnScope N ps (defScope st)) (hbd : BindN name qual st ps) (hl : ∀ i, (args i).length = ps.length)
    (hb : ∀ (cdv : Value) (A : Around) (outer : List Env) (s : Shared) (H : Hp) (E : XK), Room k (A.deeper (PyProof.Rows.envOfC qual (defScope st) s.heap.objs.size (He.ga K x) cdv)) → ∀ i, pre i →
      GS (cxOf CX0 P w K mg base N qual (defScope st) (He.ga K x) cdv A outer s H E).nox (defBody st) (ctx0 N (args i)) (endN (res i)) (.i (res i))) : Fq P w K mg base x (k + 1) ps [] (spV pre args res) := by
  obtain ⟨fd, F⟩ := D.fn
  exact ⟨_, fd, [], fn_V F S hl hb, D.mg, F.kp, F.bindsN hbd, .nil⟩
theorem fq_L (D : Df K mg x name qual st []) (S : FnScope N ps (defScope st)) (hbd : BindN name qual st ps) (hl : ∀ i, (args i).length = ps.length)
    (hb : ∀ (cdv : Value) (A : Around) (outer : List Env) (s : Shared) (H : Hp) (E : XK), Room k (A.deeper (PyProof.Rows.envOfC qual (defScope st) s.heap.objs.size (He.ga K x) cdv)) → ∀ i, pre i →
      GS (cxOf CX0 P w K mg base N qual (defScope st) (He.ga K x) cdv A outer s H E).nox (defBody st) (ctx0 N (args i)) noN (.o (resL i))) : Fq P w K mg base x (k + 1) ps [] (spL pre args resL) := by
  obtain ⟨fd, F⟩ := D.fn
  exact ⟨_, fd, [], fn_L F S hl hb, D.mg, F.kp, F.bindsN hbd, .nil⟩
end
section
variable {X : Cx} {Γ : Ctx} {pos p p2 : Pos} {e a b : Expr}
/-! ### isinstance -/
theorem e_bltn {x : Str} {T : String} (hm : X.mg x = none) (hv : bootBuiltins x = some (.type T)) (hg : Gl X x := by rfl) (hn : x ≠ "__name__" := by decide) (hd : (x == ("__debug__" : Str)) = false := by decide) : EV X (.Name x pos) Γ (VI.is (.ty T)).p := fun _ _ _ H _ Q q =>
  wE_of (pe_bltn hg hm hv (show RelV (.ty T) (.type T) from rfl) hn hd) (q _ H Ex.r rfl)
def OfTy (K : PySem.W.Frag) (P : VP) (t : Value) : Prop := ∀ H v, P.ok H v → TyX K H v t
theorem of_int {K : PySem.W.Frag} {n : Int} : OfTy K (ei n) (.type "int") := fun H v h => by
  rw [show v = .int n from h]
  exact .base (.int n)
theorem of_bl {K : PySem.W.Frag} {n : Bool} : OfTy K (eb n) (.type "bool") := fun H v h => by
  rw [show v = .bl n from h]
  exact .base (.bl n)
theorem of_tup {K : PySem.W.Frag} {Ps : List VI} : OfTy K (VI.tup Ps).p (.type "tuple") := fun H v ⟨a, xs, e, h, _⟩ => by
  subst e
  exact .base (.tup h)
theorem of_lst {K : PySem.W.Frag} {Ps : List VI} : OfTy K (.lst Ps) (.type "list") := fun H v ⟨a, xs, e, h, _⟩ => by
  subst e
  exact .base (.lst h)
theorem e_isi (M : Bl X.mg) {P : VP} {t u : Value} {c : V} {k : Bool} (h : EV X e Γ P) (ht : OfTy X.K P t) (hb : EV X b Γ (VI.is c).p) (hc : ClsV c u) (hk : PySem.W.kitOne X.K t u = some k) (hg : Gl X "isinstance" := by rfl)
    (he : starEach [e, b] X.env = (false, eval e X.env) :: starEach [b] X.env := by rfl) (he2 : starEach [b] X.env = (false, eval b X.env) :: starEach [] X.env := by rfl) (hpl : (backTo pos (starEach [b] X.env)).any (·.1) = false := by rfl) : EV X (.Call (.Name "isinstance" p) [e, b] [] pos) Γ (eb k) :=
  e_cb call_isi hg M.isi (by decide +kernel) (ea_cons h (ea_cons hb ea_nil he2) he) (fun vs H kk Q q => by
    obtain ⟨v, w, rfl, h1, h2⟩ := pk2 kk
    obtain rfl : w = c := h2
    exact ⟨v, w, t, u, k, rfl, hc, ht H v h1, hk, q _ H Ex.r rfl⟩) (he := he) (hpl := hpl)
theorem e_isiLT (M : Bl X.mg) {P : VP} {t : Value} {k : Bool} {kk : Nat} {p3 p4 tp : Pos} (h : EV X e Γ P) (ht : OfTy X.K P t) (hk : PySem.W.kitAny X.K t [.type "list", .type "tuple"] = some k) (hg : Gl X "isinstance" := by rfl) (hg1 : Gl X "list" := by rfl) (hg2 : Gl X "tuple" := by rfl)
    (he : starEach [e, .Tuple [.Name "list" p3, .Name "tuple" p4] kk tp] X.env = (false, eval e X.env) :: starEach [.Tuple [.Name "list" p3, .Name "tuple" p4] kk tp] X.env := by rfl) (hpl : (backTo pos (starEach [.Tuple [.Name "list" p3, .Name "tuple" p4] kk tp] X.env)).any (·.1) = false := by rfl) :
    EV X (.Call (.Name "isinstance" p) [e, .Tuple [.Name "list" p3, .Name "tuple" p4] kk tp] [] pos) Γ (eb k) :=
  e_cb call_isiT hg M.isi (by decide +kernel) (ea_cons h (ea_cons (e_tup (ei_cons (e_bltn (T := "list") M.list (by decide +kernel) hg1) (ei_cons (e_bltn (T := "tuple") M.tuple (by decide +kernel) hg2) ei_nil))) ea_nil) he) (fun vs H kk Q q => by
    obtain ⟨v, w, rfl, h1, ⟨a, xs, rfl, h2, k2⟩⟩ := pk2 kk
    have ex : xs = [.ty "list", .ty "tuple"] := by
      cases k2 with
      | cons r1 t1 =>
        cases t1 with
        | cons r2 t2 =>
          cases t2
          have e1 : _ = V.ty "list" := r1
          have e2 : _ = V.ty "tuple" := r2
          rw [e1, e2]
    subst ex
    exact ⟨v, a, _, t, _, k, rfl, h2, .cons (.ty _) (.cons (.ty _) .nil), ht H v h1, hk, q _ H Ex.r rfl⟩) (he := he) (hpl := hpl)
end
section
variable {K : PySem.W.Frag}
theorem ki_ii : PySem.W.kitOne K (.type "int") (.type "int") = some true := kit_ty (by decide +kernel)
theorem ki_ib : PySem.W.kitOne K (.type "int") (.type "bool") = some false := kit_ty (by decide +kernel)
theorem ki_ti : PySem.W.kitOne K (.type "tuple") (.type "int") = some false := kit_ty (by decide +kernel)
theorem ki_ilt : PySem.W.kitAny K (.type "int") [.type "list", .type "tuple"] = some false := by
  unfold PySem.W.kitAny
  rw [show PySem.W.kitOne K (.type "int") (.type "list") = some false from kit_ty (by decide +kernel)]
  show PySem.W.kitAny K (.type "int") [.type "tuple"] = some false
  unfold PySem.W.kitAny
  rw [show PySem.W.kitOne K (.type "int") (.type "tuple") = some false from kit_ty (by decide +kernel)]
  rfl
theorem ki_tlt : PySem.W.kitAny K (.type "tuple") [.type "list", .type "tuple"] = some true := by
  unfold PySem.W.kitAny
  rw [show PySem.W.kitOne K (.type "tuple") (.type "list") = some false from kit_ty (by decide +kernel)]
  show PySem.W.kitAny K (.type "tuple") [.type "tuple"] = some true
  unfold PySem.W.kitAny
  rw [show PySem.W.kitOne K (.type "tuple") (.type "tuple") = some true from kit_ty (by decide +kernel)]
theorem ki_llt : PySem.W.kitAny K (.type "list") [.type "list", .type "tuple"] = some true := by
  unfold PySem.W.kitAny
  rw [show PySem.W.kitOne K (.type "list") (.type "list") = some true from kit_ty (by decide +kernel)]
end
/-! ### numbers -/
def VI.num (r : Rat) : VI := ⟨fun H v => (r.den = 1 ∧ v = .int r.num) ∨ (r.den ≠ 1 ∧ ∃ a, v = .ref a ∧ H a = some (.tup [.int r.num, .int (r.den : Int)])), fun e h => h.imp id fun ⟨h1, a, h2, h3⟩ => ⟨h1, a, h2, e a _ h3 trivial⟩⟩
theorem num_int {r : Rat} (h : r.den = 1) {H : Hp} {v : V} (q : (VI.num r).p.ok H v) : (VI.int r.num).p.ok H v := by
  rcases q with ⟨_, q⟩ | ⟨n, _⟩
  · exact q
  · exact absurd h n
theorem num_tup {r : Rat} (h : r.den ≠ 1) {H : Hp} {v : V} (q : (VI.num r).p.ok H v) : (VI.tup [VI.int r.num, VI.int (r.den : Int)]).p.ok H v := by
  rcases q with ⟨n, _⟩ | ⟨_, a, e, q⟩
  · exact absurd n h
  · exact ⟨a, _, e, q, .cons rfl (.cons rfl .nil)⟩
theorem num_of_int {r : Rat} {n : Int} (h : r = (n : Rat)) {H : Hp} {v : V} (q : (VI.int n).ok H v) : (VI.num r).ok H v := by
  subst h
  exact .inl ⟨by simp, q⟩
theorem num_of_tup {r : Rat} (h : r.den ≠ 1) {H : Hp} {v : V} (q : (VI.tup [VI.int r.num, VI.int (r.den : Int)]).ok H v) : (VI.num r).ok H v := by
  obtain ⟨a, xs, e, h2, k⟩ := q
  refine .inr ⟨h, a, e, ?_⟩
  rw [h2]
  cases k with
  | cons r1 t1 =>
    cases t1 with
    | cons r2 t2 =>
      cases t2
      have e1 : _ = V.int r.num := r1
      have e2 : _ = V.int (r.den : Int) := r2
      rw [e1, e2]
theorem of_num1 {K : PySem.W.Frag} {r : Rat} (h : r.den = 1) : OfTy K (VI.num r).p (.type "int") := fun H v q => of_int H v (num_int h q)
theorem of_num2 {K : PySem.W.Frag} {r : Rat} (h : r.den ≠ 1) : OfTy K (VI.num r).p (.type "tuple") := fun H v q => of_tup H v (num_tup h q)
end K8
end
section
set_option Elab.async false
set_option linter.all false
set_option maxRecDepth 100000
set_option maxHeartbeats 1000000
set_option autoImplicit false
/-! The defs' slots (printed by gen_t.py). -/
namespace K8
open PySem L2
abbrev nm_is_integer : List Str := ["value"]
abbrev st_is_integer : Stmt := top 14
theorem sc_is_integer : FnScope nm_is_integer ["value"] (defScope st_is_integer) := ⟨rfl, rfl, rfl, by decide +kernel, rfl, by decide +kernel, by decide +kernel⟩
abbrev nm_is_within : List Str := ["value", "least", "most"]
abbrev st_is_within : Stmt := top 15
theorem sc_is_within : FnScope nm_is_within ["value", "least", "most"] (defScope st_is_within) := ⟨rfl, rfl, rfl, by decide +kernel, rfl, by decide +kernel, by decide +kernel⟩
abbrev nm_is_list : List Str := ["value"]
abbrev st_is_list : Stmt := top 16
theorem sc_is_list : FnScope nm_is_list ["value"] (defScope st_is_list) := ⟨rfl, rfl, rfl, by decide +kernel, rfl, by decide +kernel, by decide +kernel⟩
abbrev nm_common : List Str := ["one", "other"]
abbrev st_common : Stmt := top 17
theorem sc_common : FnScope nm_common ["one", "other"] (defScope st_common) := ⟨rfl, rfl, rfl, by decide +kernel, rfl, by decide +kernel, by decide +kernel⟩
abbrev nm_is_number : List Str := ["value"]
abbrev st_is_number : Stmt := top 18
theorem sc_is_number : FnScope nm_is_number ["value"] (defScope st_is_number) := ⟨rfl, rfl, rfl, by decide +kernel, rfl, by decide +kernel, by decide +kernel⟩
abbrev nm_above_in : List Str := ["number"]
abbrev st_above_in : Stmt := top 19
theorem sc_above_in : FnScope nm_above_in ["number"] (defScope st_above_in) := ⟨rfl, rfl, rfl, by decide +kernel, rfl, by decide +kernel, by decide +kernel⟩
abbrev nm_is_from_0 : List Str := ["value"]
abbrev st_is_from_0 : Stmt := top 20
theorem sc_is_from_0 : FnScope nm_is_from_0 ["value"] (defScope st_is_from_0) := ⟨rfl, rfl, rfl, by decide +kernel, rfl, by decide +kernel, by decide +kernel⟩
abbrev nm_is_row : List Str := ["value", "many", "each"]
abbrev st_is_row : Stmt := top 21
theorem sc_is_row : FnScope nm_is_row ["value", "many"] (defScope st_is_row) := ⟨rfl, rfl, rfl, by decide +kernel, rfl, by decide +kernel, by decide +kernel⟩
abbrev nm_is_sum_1 : List Str := ["row", "above", "under", "each", "one", "other"]
abbrev st_is_sum_1 : Stmt := top 22
theorem sc_is_sum_1 : FnScope nm_is_sum_1 ["row"] (defScope st_is_sum_1) := ⟨rfl, rfl, rfl, by decide +kernel, rfl, by decide +kernel, by decide +kernel⟩
abbrev nm_is_mix_of : List Str := ["value", "goods"]
abbrev st_is_mix_of : Stmt := top 23
theorem sc_is_mix_of : FnScope nm_is_mix_of ["value", "goods"] (defScope st_is_mix_of) := ⟨rfl, rfl, rfl, by decide +kernel, rfl, by decide +kernel, by decide +kernel⟩
abbrev nm_is_market_of : List Str := ["value", "goods", "day"]
abbrev st_is_market_of : Stmt := top 24
theorem sc_is_market_of : FnScope nm_is_market_of ["value", "goods"] (defScope st_is_market_of) := ⟨rfl, rfl, rfl, by decide +kernel, rfl, by decide +kernel, by decide +kernel⟩
abbrev nm_is_word_of : List Str := ["value", "goods", "good"]
abbrev st_is_word_of : Stmt := top 25
theorem sc_is_word_of : FnScope nm_is_word_of ["value", "goods"] (defScope st_is_word_of) := ⟨rfl, rfl, rfl, by decide +kernel, rfl, by decide +kernel, by decide +kernel⟩
abbrev nm_kept : List Str := ["number"]
abbrev st_kept : Stmt := top 26
theorem sc_kept : FnScope nm_kept ["number"] (defScope st_kept) := ⟨rfl, rfl, rfl, by decide +kernel, rfl, by decide +kernel, by decide +kernel⟩
abbrev nm_kept_row : List Str := ["row", "each"]
abbrev st_kept_row : Stmt := top 27
theorem sc_kept_row : FnScope nm_kept_row ["row"] (defScope st_kept_row) := ⟨rfl, rfl, rfl, by decide +kernel, rfl, by decide +kernel, by decide +kernel⟩
abbrev nm_need_integer : List Str := ["value", "part", "least", "most"]
abbrev st_need_integer : Stmt := top 28
theorem sc_need_integer : FnScope nm_need_integer ["value", "part", "least", "most"] (defScope st_need_integer) := ⟨rfl, rfl, rfl, by decide +kernel, rfl, by decide +kernel, by decide +kernel⟩
abbrev nm_need_goods : List Str := ["value"]
abbrev st_need_goods : Stmt := top 29
theorem sc_need_goods : FnScope nm_need_goods ["value"] (defScope st_need_goods) := ⟨rfl, rfl, rfl, by decide +kernel, rfl, by decide +kernel, by decide +kernel⟩
abbrev nm_need_days : List Str := ["value"]
abbrev st_need_days : Stmt := top 30
theorem sc_need_days : FnScope nm_need_days ["value"] (defScope st_need_days) := ⟨rfl, rfl, rfl, by decide +kernel, rfl, by decide +kernel, by decide +kernel⟩
abbrev nm_need_day : List Str := ["value", "goods", "part"]
abbrev st_need_day : Stmt := top 31
theorem sc_need_day : FnScope nm_need_day ["value", "goods", "part"] (defScope st_need_day) := ⟨rfl, rfl, rfl, by decide +kernel, rfl, by decide +kernel, by decide +kernel⟩
abbrev nm_need_market : List Str := ["value", "goods", "part", "day"]
abbrev st_need_market : Stmt := top 32
theorem sc_need_market : FnScope nm_need_market ["value", "goods", "part"] (defScope st_need_market) := ⟨rfl, rfl, rfl, by decide +kernel, rfl, by decide +kernel, by decide +kernel⟩
abbrev nm_need_word : List Str := ["value", "goods", "part"]
abbrev st_need_word : Stmt := top 33
theorem sc_need_word : FnScope nm_need_word ["value", "goods", "part"] (defScope st_need_word) := ⟨rfl, rfl, rfl, by decide +kernel, rfl, by decide +kernel, by decide +kernel⟩
abbrev nm_halves : List Str := ["number"]
abbrev st_halves : Stmt := top 35
theorem sc_halves : FnScope nm_halves ["number"] (defScope st_halves) := ⟨rfl, rfl, rfl, by decide +kernel, rfl, by decide +kernel, by decide +kernel⟩
abbrev nm_lowest : List Str := ["above", "under", "part"]
abbrev st_lowest : Stmt := top 36
theorem sc_lowest : FnScope nm_lowest ["above", "under"] (defScope st_lowest) := ⟨rfl, rfl, rfl, by decide +kernel, rfl, by decide +kernel, by decide +kernel⟩
abbrev nm_added : List Str := ["one", "other", "above", "under", "its", "below_it"]
abbrev st_added : Stmt := top 37
theorem sc_added : FnScope nm_added ["one", "other"] (defScope st_added) := ⟨rfl, rfl, rfl, by decide +kernel, rfl, by decide +kernel, by decide +kernel⟩
abbrev nm_turned : List Str := ["number", "above", "under"]
abbrev st_turned : Stmt := top 38
theorem sc_turned : FnScope nm_turned ["number"] (defScope st_turned) := ⟨rfl, rfl, rfl, by decide +kernel, rfl, by decide +kernel, by decide +kernel⟩
abbrev nm_less_by : List Str := ["one", "other"]
abbrev st_less_by : Stmt := top 39
theorem sc_less_by : FnScope nm_less_by ["one", "other"] (defScope st_less_by) := ⟨rfl, rfl, rfl, by decide +kernel, rfl, by decide +kernel, by decide +kernel⟩
abbrev nm_product : List Str := ["one", "other", "above", "under", "its", "below_it"]
abbrev st_product : Stmt := top 40
theorem sc_product : FnScope nm_product ["one", "other"] (defScope st_product) := ⟨rfl, rfl, rfl, by decide +kernel, rfl, by decide +kernel, by decide +kernel⟩
abbrev nm_part_by : List Str := ["one", "other", "above", "under", "its", "below_it"]
abbrev st_part_by : Stmt := top 41
theorem sc_part_by : FnScope nm_part_by ["one", "other"] (defScope st_part_by) := ⟨rfl, rfl, rfl, by decide +kernel, rfl, by decide +kernel, by decide +kernel⟩
abbrev nm_sign_in : List Str := ["number", "above"]
abbrev st_sign_in : Stmt := top 43
theorem sc_sign_in : FnScope nm_sign_in ["number"] (defScope st_sign_in) := ⟨rfl, rfl, rfl, by decide +kernel, rfl, by decide +kernel, by decide +kernel⟩
abbrev nm_total : List Str := ["numbers", "found", "number"]
abbrev st_total : Stmt := top 44
theorem sc_total : FnScope nm_total ["numbers"] (defScope st_total) := ⟨rfl, rfl, rfl, by decide +kernel, rfl, by decide +kernel, by decide +kernel⟩
abbrev nm_summed : List Str := ["row", "other", "one", "its"]
abbrev st_summed : Stmt := top 45
theorem sc_summed : FnScope nm_summed ["row", "other"] (defScope st_summed) := ⟨rfl, rfl, rfl, by decide +kernel, rfl, by decide +kernel, by decide +kernel⟩
abbrev nm_multiplied : List Str := ["numbers", "found", "number"]
abbrev st_multiplied : Stmt := top 46
theorem sc_multiplied : FnScope nm_multiplied ["numbers"] (defScope st_multiplied) := ⟨rfl, rfl, rfl, by decide +kernel, rfl, by decide +kernel, by decide +kernel⟩
abbrev nm_raised : List Str := ["integer", "many", "found", "base", "left"]
abbrev st_raised : Stmt := top 47
theorem sc_raised : FnScope nm_raised ["integer", "many"] (defScope st_raised) := ⟨rfl, rfl, rfl, by decide +kernel, rfl, by decide +kernel, by decide +kernel⟩
abbrev nm_power_in : List Str := ["number", "many", "above", "under"]
abbrev st_power_in : Stmt := top 48
theorem sc_power_in : FnScope nm_power_in ["number", "many"] (defScope st_power_in) := ⟨rfl, rfl, rfl, by decide +kernel, rfl, by decide +kernel, by decide +kernel⟩
abbrev nm_lightning_in : List Str := ["goods", "good", "each"]
abbrev st_lightning_in : Stmt := top 51
theorem sc_lightning_in : FnScope nm_lightning_in ["goods", "good"] (defScope st_lightning_in) := ⟨rfl, rfl, rfl, by decide +kernel, rfl, by decide +kernel, by decide +kernel⟩
abbrev nm_lightnings_in : List Str := ["goods", "word", "good"]
abbrev st_lightnings_in : Stmt := top 52
theorem sc_lightnings_in : FnScope nm_lightnings_in ["goods", "word"] (defScope st_lightnings_in) := ⟨rfl, rfl, rfl, by decide +kernel, rfl, by decide +kernel, by decide +kernel⟩
abbrev nm_run_in : List Str := ["shares", "market", "day"]
abbrev st_run_in : Stmt := top 53
theorem sc_run_in : FnScope nm_run_in ["shares", "market"] (defScope st_run_in) := ⟨rfl, rfl, rfl, by decide +kernel, rfl, by decide +kernel, by decide +kernel⟩
abbrev nm_need_promise : List Str := ["value", "part", "goods"]
abbrev st_need_promise : Stmt := top 59
theorem sc_need_promise : FnScope nm_need_promise ["value", "part", "goods"] (defScope st_need_promise) := ⟨rfl, rfl, rfl, by decide +kernel, rfl, by decide +kernel, by decide +kernel⟩
abbrev nm_need_shares : List Str := ["value"]
abbrev st_need_shares : Stmt := top 60
theorem sc_need_shares : FnScope nm_need_shares ["value"] (defScope st_need_shares) := ⟨rfl, rfl, rfl, by decide +kernel, rfl, by decide +kernel, by decide +kernel⟩
abbrev nm_times_in : List Str := ["number", "part", "made"]
abbrev st_times_in : Stmt := top 61
theorem sc_times_in : FnScope nm_times_in ["number", "part"] (defScope st_times_in) := ⟨rfl, rfl, rfl, by decide +kernel, rfl, by decide +kernel, by decide +kernel⟩
abbrev nm_spread : List Str := ["promise", "found", "part"]
abbrev st_spread : Stmt := top 68
theorem sc_spread : FnScope nm_spread ["promise"] (defScope st_spread) := ⟨rfl, rfl, rfl, by decide +kernel, rfl, by decide +kernel, by decide +kernel⟩
abbrev nm_best_at : List Str := ["counts", "many", "count"]
abbrev st_best_at : Stmt := top 72
theorem sc_best_at : FnScope nm_best_at ["counts"] (defScope st_best_at) := ⟨rfl, rfl, rfl, by decide +kernel, rfl, by decide +kernel, by decide +kernel⟩
abbrev nm_worth_in : List Str := ["promise", "market", "kind", "ahead", "behind", "worths", "day", "good", "count", "part"]
abbrev st_worth_in : Stmt := top 75
theorem sc_worth_in : FnScope nm_worth_in ["promise", "market"] (defScope st_worth_in) := ⟨rfl, rfl, rfl, by decide +kernel, rfl, by decide +kernel, by decide +kernel⟩
abbrev nm_worth_at_in : List Str := ["promise", "word"]
abbrev st_worth_at_in : Stmt := top 76
theorem sc_worth_at_in : FnScope nm_worth_at_in ["promise", "word"] (defScope st_worth_at_in) := ⟨rfl, rfl, rfl, by decide +kernel, rfl, by decide +kernel, by decide +kernel⟩
abbrev nm_best_many : List Str := ["promise", "each"]
abbrev st_best_many : Stmt := top 77
theorem sc_best_many : FnScope nm_best_many ["promise"] (defScope st_best_many) := ⟨rfl, rfl, rfl, by decide +kernel, rfl, by decide +kernel, by decide +kernel⟩
abbrev nm_has_best_in : List Str := ["promise"]
abbrev st_has_best_in : Stmt := top 78
theorem sc_has_best_in : FnScope nm_has_best_in ["promise"] (defScope st_has_best_in) := ⟨rfl, rfl, rfl, by decide +kernel, rfl, by decide +kernel, by decide +kernel⟩
abbrev nm_named_by : List Str := ["counts", "mix", "share", "count"]
abbrev st_named_by : Stmt := top 79
theorem sc_named_by : FnScope nm_named_by ["counts", "mix"] (defScope st_named_by) := ⟨rfl, rfl, rfl, by decide +kernel, rfl, by decide +kernel, by decide +kernel⟩
abbrev nm_named_in : List Str := ["promise", "mixes", "found", "left", "part", "made"]
abbrev st_named_in : Stmt := top 81
theorem sc_named_in : FnScope nm_named_in ["promise", "mixes"] (defScope st_named_in) := ⟨rfl, rfl, rfl, by decide +kernel, rfl, by decide +kernel, by decide +kernel⟩
abbrev nm_need_no_best : List Str := ["promise"]
abbrev st_need_no_best : Stmt := top 82
theorem sc_need_no_best : FnScope nm_need_no_best ["promise"] (defScope st_need_no_best) := ⟨rfl, rfl, rfl, by decide +kernel, rfl, by decide +kernel, by decide +kernel⟩
abbrev nm_worth : List Str := ["promise", "market", "told"]
abbrev st_worth : Stmt := top 83
theorem sc_worth : FnScope nm_worth ["promise", "market"] (defScope st_worth) := ⟨rfl, rfl, rfl, by decide +kernel, rfl, by decide +kernel, by decide +kernel⟩
abbrev nm_worth_at : List Str := ["promise", "word"]
abbrev st_worth_at : Stmt := top 84
theorem sc_worth_at : FnScope nm_worth_at ["promise", "word"] (defScope st_worth_at) := ⟨rfl, rfl, rfl, by decide +kernel, rfl, by decide +kernel, by decide +kernel⟩
abbrev nm_named : List Str := ["promise", "mixes", "mix"]
abbrev st_named : Stmt := top 85
theorem sc_named : FnScope nm_named ["promise", "mixes"] (defScope st_named) := ⟨rfl, rfl, rfl, by decide +kernel, rfl, by decide +kernel, by decide +kernel⟩
abbrev nm_choose_in : List Str := ["many", "some", "found", "turn"]
abbrev st_choose_in : Stmt := top 92
theorem sc_choose_in : FnScope nm_choose_in ["many", "some"] (defScope st_choose_in) := ⟨rfl, rfl, rfl, by decide +kernel, rfl, by decide +kernel, by decide +kernel⟩
abbrev nm_counts_in : List Str := ["goods", "word", "good", "each"]
abbrev st_counts_in : Stmt := top 98
theorem sc_counts_in : FnScope nm_counts_in ["goods", "word"] (defScope st_counts_in) := ⟨rfl, rfl, rfl, by decide +kernel, rfl, by decide +kernel, by decide +kernel⟩
abbrev nm_many_counts : List Str := ["goods", "days"]
abbrev st_many_counts : Stmt := top 99
theorem sc_many_counts : FnScope nm_many_counts ["goods", "days"] (defScope st_many_counts) := ⟨rfl, rfl, rfl, by decide +kernel, rfl, by decide +kernel, by decide +kernel⟩
abbrev nm_counts_of_all : List Str := ["goods", "days", "found", "_", "counts", "left", "many"]
abbrev st_counts_of_all : Stmt := top 100
theorem sc_counts_of_all : FnScope nm_counts_of_all ["goods", "days"] (defScope st_counts_of_all) := ⟨rfl, rfl, rfl, by decide +kernel, rfl, by decide +kernel, by decide +kernel⟩
abbrev nm_ways_in : List Str := ["counts", "found", "many", "each"]
abbrev st_ways_in : Stmt := top 101
theorem sc_ways_in : FnScope nm_ways_in ["counts"] (defScope st_ways_in) := ⟨rfl, rfl, rfl, by decide +kernel, rfl, by decide +kernel, by decide +kernel⟩
abbrev nm_need_few_counts : List Str := ["goods", "days"]
abbrev st_need_few_counts : Stmt := top 103
theorem sc_need_few_counts : FnScope nm_need_few_counts ["goods", "days"] (defScope st_need_few_counts) := ⟨rfl, rfl, rfl, by decide +kernel, rfl, by decide +kernel, by decide +kernel⟩
abbrev nm_orderless_in : List Str := ["promise", "each"]
abbrev st_orderless_in : Stmt := top 106
theorem sc_orderless_in : FnScope nm_orderless_in ["promise"] (defScope st_orderless_in) := ⟨rfl, rfl, rfl, by decide +kernel, rfl, by decide +kernel, by decide +kernel⟩
abbrev nm_best_by : List Str := ["counts", "many", "each"]
abbrev st_best_by : Stmt := top 107
theorem sc_best_by : FnScope nm_best_by ["counts"] (defScope st_best_by) := ⟨rfl, rfl, rfl, by decide +kernel, rfl, by decide +kernel, by decide +kernel⟩
abbrev nm_worth_by_prices : List Str := ["promise", "counts", "worths", "share", "each", "its", "part"]
abbrev st_worth_by_prices : Stmt := top 108
theorem sc_worth_by_prices : FnScope nm_worth_by_prices ["promise", "counts"] (defScope st_worth_by_prices) := ⟨rfl, rfl, rfl, by decide +kernel, rfl, by decide +kernel, by decide +kernel⟩
abbrev nm_by_counts : List Str := ["promise", "days", "known", "found", "counts", "both", "each", "its"]
abbrev st_by_counts : Stmt := top 113
theorem sc_by_counts : FnScope nm_by_counts ["promise", "days", "known"] (defScope st_by_counts) := ⟨rfl, rfl, rfl, by decide +kernel, rfl, by decide +kernel, by decide +kernel⟩
abbrev nm_by_one_line : List Str := ["numbers", "under", "number", "below_it"]
abbrev st_by_one_line : Stmt := top 114
theorem sc_by_one_line : FnScope nm_by_one_line ["numbers"] (defScope st_by_one_line) := ⟨rfl, rfl, rfl, by decide +kernel, rfl, by decide +kernel, by decide +kernel⟩
abbrev nm_rest_through : List Str := ["promise", "days", "word"]
abbrev st_rest_through : Stmt := top 115
theorem sc_rest_through : FnScope nm_rest_through ["promise", "days", "word"] (defScope st_rest_through) := ⟨rfl, rfl, rfl, by decide +kernel, rfl, by decide +kernel, by decide +kernel⟩
abbrev nm_rest_in : List Str := ["promise", "days", "word", "ahead", "first", "good", "part"]
abbrev st_rest_in : Stmt := top 116
theorem sc_rest_in : FnScope nm_rest_in ["promise", "days", "word"] (defScope st_rest_in) := ⟨rfl, rfl, rfl, by decide +kernel, rfl, by decide +kernel, by decide +kernel⟩
abbrev nm_price_in : List Str := ["promise", "days"]
abbrev st_price_in : Stmt := top 117
theorem sc_price_in : FnScope nm_price_in ["promise", "days"] (defScope st_price_in) := ⟨rfl, rfl, rfl, by decide +kernel, rfl, by decide +kernel, by decide +kernel⟩
abbrev nm_price : List Str := ["promise", "days"]
abbrev st_price : Stmt := top 118
theorem sc_price : FnScope nm_price ["promise", "days"] (defScope st_price) := ⟨rfl, rfl, rfl, by decide +kernel, rfl, by decide +kernel, by decide +kernel⟩
abbrev nm_rest : List Str := ["promise", "days", "word", "known"]
abbrev st_rest : Stmt := top 119
theorem sc_rest : FnScope nm_rest ["promise", "days", "word"] (defScope st_rest) := ⟨rfl, rfl, rfl, by decide +kernel, rfl, by decide +kernel, by decide +kernel⟩
abbrev nm_behind : List Str := ["key", "good", "kind", "told"]
abbrev st_behind : Stmt := top 126
theorem sc_behind : FnScope nm_behind ["key", "good"] (defScope st_behind) := ⟨rfl, rfl, rfl, by decide +kernel, rfl, by decide +kernel, by decide +kernel⟩
abbrev nm_keys_of : List Str := ["kind", "goods", "days", "found", "told"]
abbrev st_keys_of : Stmt := top 127
theorem sc_keys_of : FnScope nm_keys_of ["kind", "goods", "days"] (defScope st_keys_of) := ⟨rfl, rfl, rfl, by decide +kernel, rfl, by decide +kernel, by decide +kernel⟩
abbrev nm_worth_of_key : List Str := ["promise", "key", "kind", "told"]
abbrev st_worth_of_key : Stmt := top 128
theorem sc_worth_of_key : FnScope nm_worth_of_key ["promise", "key"] (defScope st_worth_of_key) := ⟨rfl, rfl, rfl, by decide +kernel, rfl, by decide +kernel, by decide +kernel⟩
abbrev nm_rests_of : List Str := ["promise", "kind", "days", "goods", "found", "left", "later", "layer", "key", "good"]
abbrev st_rests_of : Stmt := top 129
theorem sc_rests_of : FnScope nm_rests_of ["promise", "kind", "days"] (defScope st_rests_of) := ⟨rfl, rfl, rfl, by decide +kernel, rfl, by decide +kernel, by decide +kernel⟩
abbrev nm_list_book : List Str := ["promise", "days", "goods"]
abbrev st_list_book : Stmt := top 130
theorem sc_list_book : FnScope nm_list_book ["promise", "days"] (defScope st_list_book) := ⟨rfl, rfl, rfl, by decide +kernel, rfl, by decide +kernel, by decide +kernel⟩
abbrev nm_inner_book : List Str := ["promise", "days", "ahead", "part"]
abbrev st_inner_book : Stmt := top 131
theorem sc_inner_book : FnScope nm_inner_book ["promise", "days"] (defScope st_inner_book) := ⟨rfl, rfl, rfl, by decide +kernel, rfl, by decide +kernel, by decide +kernel⟩
abbrev nm_tower : List Str := ["number"]
abbrev st_tower : Stmt := top 138
theorem sc_tower : FnScope nm_tower ["number"] (defScope st_tower) := ⟨rfl, rfl, rfl, by decide +kernel, rfl, by decide +kernel, by decide +kernel⟩
abbrev nm_worth_by_bests : List Str := ["counts", "above", "count"]
abbrev st_worth_by_bests : Stmt := top 139
theorem sc_worth_by_bests : FnScope nm_worth_by_bests ["counts"] (defScope st_worth_by_bests) := ⟨rfl, rfl, rfl, by decide +kernel, rfl, by decide +kernel, by decide +kernel⟩
abbrev nm_joined : List Str := ["row", "towers", "days", "found", "lots", "many"]
abbrev st_joined : Stmt := top 141
theorem sc_joined : FnScope nm_joined ["row", "towers", "days"] (defScope st_joined) := ⟨rfl, rfl, rfl, by decide +kernel, rfl, by decide +kernel, by decide +kernel⟩
abbrev nm_rest_by : List Str := ["counts", "days", "row", "count", "towers", "many", "each"]
abbrev st_rest_by : Stmt := top 142
theorem sc_rest_by : FnScope nm_rest_by ["counts", "days"] (defScope st_rest_by) := ⟨rfl, rfl, rfl, by decide +kernel, rfl, by decide +kernel, by decide +kernel⟩
abbrev nm_prices_to : List Str := ["goods", "days", "towers", "under", "found", "many", "above"]
abbrev st_prices_to : Stmt := top 143
theorem sc_prices_to : FnScope nm_prices_to ["goods", "days"] (defScope st_prices_to) := ⟨rfl, rfl, rfl, by decide +kernel, rfl, by decide +kernel, by decide +kernel⟩
abbrev nm_need_counted : List Str := ["value", "each"]
abbrev st_need_counted : Stmt := top 144
theorem sc_need_counted : FnScope nm_need_counted ["value"] (defScope st_need_counted) := ⟨rfl, rfl, rfl, by decide +kernel, rfl, by decide +kernel, by decide +kernel⟩
abbrev nm_best_worth : List Str := ["counts"]
abbrev st_best_worth : Stmt := top 145
theorem sc_best_worth : FnScope nm_best_worth ["counts"] (defScope st_best_worth) := ⟨rfl, rfl, rfl, by decide +kernel, rfl, by decide +kernel, by decide +kernel⟩
abbrev nm_best_price : List Str := ["goods", "days"]
abbrev st_best_price : Stmt := top 146
theorem sc_best_price : FnScope nm_best_price ["goods", "days"] (defScope st_best_price) := ⟨rfl, rfl, rfl, by decide +kernel, rfl, by decide +kernel, by decide +kernel⟩
abbrev nm_all_best : List Str := ["goods", "days"]
abbrev st_all_best : Stmt := top 147
theorem sc_all_best : FnScope nm_all_best ["goods", "days"] (defScope st_all_best) := ⟨rfl, rfl, rfl, by decide +kernel, rfl, by decide +kernel, by decide +kernel⟩
abbrev nm_best_rest : List Str := ["counts", "days", "told"]
abbrev st_best_rest : Stmt := top 148
theorem sc_best_rest : FnScope nm_best_rest ["counts", "days"] (defScope st_best_rest) := ⟨rfl, rfl, rfl, by decide +kernel, rfl, by decide +kernel, by decide +kernel⟩
abbrev nm_rising : List Str := ["market", "share", "found", "one", "other", "more"]
abbrev st_rising : Stmt := top 151
theorem sc_rising : FnScope nm_rising ["market", "share"] (defScope st_rising) := ⟨rfl, rfl, rfl, by decide +kernel, rfl, by decide +kernel, by decide +kernel⟩
abbrev nm_best_stretch : List Str := ["market", "times", "days", "low", "high", "_", "middle", "sign", "day"]
abbrev st_best_stretch : Stmt := top 152
theorem sc_best_stretch : FnScope nm_best_stretch ["market", "times"] (defScope st_best_stretch) := ⟨rfl, rfl, rfl, by decide +kernel, rfl, by decide +kernel, by decide +kernel⟩
abbrev nm_law_fair : List Str := ["_law_script", "_law_cell"]
abbrev st_law_fair : Stmt := top 154
theorem sc_law_fair : FnScope nm_law_fair ["_law_script"] (defScope st_law_fair) := ⟨rfl, rfl, rfl, by decide +kernel, rfl, by decide +kernel, by decide +kernel⟩
abbrev nm_law_deal : List Str := ["_law_fair_here", "_law_many", "_law_left", "_law_turn", "_law_cell", "_law_mixed"]
abbrev st_law_deal : Stmt := top 155
theorem sc_law_deal : FnScope nm_law_deal ["_law_fair_here", "_law_many"] (defScope st_law_deal) := ⟨rfl, rfl, rfl, by decide +kernel, rfl, by decide +kernel, by decide +kernel⟩
abbrev nm_law_one_of : List Str := ["_law_fair_here", "_law_some"]
abbrev st_law_one_of : Stmt := top 156
theorem sc_law_one_of : FnScope nm_law_one_of ["_law_fair_here", "_law_some"] (defScope st_law_one_of) := ⟨rfl, rfl, rfl, by decide +kernel, rfl, by decide +kernel, by decide +kernel⟩
abbrev nm_law_number : List Str := ["_law_above", "_law_under", "_law_one", "_law_other", "_law_sign"]
abbrev st_law_number : Stmt := top 157
theorem sc_law_number : FnScope nm_law_number ["_law_above", "_law_under"] (defScope st_law_number) := ⟨rfl, rfl, rfl, by decide +kernel, rfl, by decide +kernel, by decide +kernel⟩
abbrev nm_law_halves : List Str := ["_law_number_here"]
abbrev st_law_halves : Stmt := top 158
theorem sc_law_halves : FnScope nm_law_halves ["_law_number_here"] (defScope st_law_halves) := ⟨rfl, rfl, rfl, by decide +kernel, rfl, by decide +kernel, by decide +kernel⟩
abbrev nm_law_sum : List Str := ["_law_numbers", "_law_above", "_law_under", "_law_number_here", "_law_x", "_law_y"]
abbrev st_law_sum : Stmt := top 159
theorem sc_law_sum : FnScope nm_law_sum ["_law_numbers"] (defScope st_law_sum) := ⟨rfl, rfl, rfl, by decide +kernel, rfl, by decide +kernel, by decide +kernel⟩
abbrev nm_law_times : List Str := ["_law_numbers", "_law_above", "_law_under", "_law_number_here", "_law_x", "_law_y"]
abbrev st_law_times : Stmt := top 160
theorem sc_law_times : FnScope nm_law_times ["_law_numbers"] (defScope st_law_times) := ⟨rfl, rfl, rfl, by decide +kernel, rfl, by decide +kernel, by decide +kernel⟩
abbrev nm_law_is_below : List Str := ["_law_one", "_law_other", "_law_a", "_law_b", "_law_x", "_law_y"]
abbrev st_law_is_below : Stmt := top 162
theorem sc_law_is_below : FnScope nm_law_is_below ["_law_one", "_law_other"] (defScope st_law_is_below) := ⟨rfl, rfl, rfl, by decide +kernel, rfl, by decide +kernel, by decide +kernel⟩
abbrev nm_law_mix : List Str := ["_law_fair_here", "_law_goods", "_law_parts", "_law_good", "_law_part"]
abbrev st_law_mix : Stmt := top 163
theorem sc_law_mix : FnScope nm_law_mix ["_law_fair_here", "_law_goods"] (defScope st_law_mix) := ⟨rfl, rfl, rfl, by decide +kernel, rfl, by decide +kernel, by decide +kernel⟩
abbrev nm_law_day : List Str := ["_law_fair_here", "_law_goods", "_law_some", "_law_good"]
abbrev st_law_day : Stmt := top 164
theorem sc_law_day : FnScope nm_law_day ["_law_fair_here", "_law_goods"] (defScope st_law_day) := ⟨rfl, rfl, rfl, by decide +kernel, rfl, by decide +kernel, by decide +kernel⟩
abbrev nm_law_pays : List Str := ["_law_shares", "_law_market_here", "_law_day_here", "_law_share", "_law_number_here"]
abbrev st_law_pays : Stmt := top 166
theorem sc_law_pays : FnScope nm_law_pays ["_law_shares", "_law_market_here"] (defScope st_law_pays) := ⟨rfl, rfl, rfl, by decide +kernel, rfl, by decide +kernel, by decide +kernel⟩
abbrev nm_law_tower : List Str := ["_law_number_here", "_law_found", "_law_turn"]
abbrev st_law_tower : Stmt := top 168
theorem sc_law_tower : FnScope nm_law_tower ["_law_number_here"] (defScope st_law_tower) := ⟨rfl, rfl, rfl, by decide +kernel, rfl, by decide +kernel, by decide +kernel⟩
abbrev nm_law_worth : List Str := ["_law_counts", "_law_found", "_law_count"]
abbrev st_law_worth : Stmt := top 169
theorem sc_law_worth : FnScope nm_law_worth ["_law_counts"] (defScope st_law_worth) := ⟨rfl, rfl, rfl, by decide +kernel, rfl, by decide +kernel, by decide +kernel⟩
abbrev nm_law_words : List Str := ["_law_goods", "_law_days", "_law_found", "_law_day_here", "_law_longer", "_law_word", "_law_good"]
abbrev st_law_words : Stmt := top 170
theorem sc_law_words : FnScope nm_law_words ["_law_goods", "_law_days"] (defScope st_law_words) := ⟨rfl, rfl, rfl, by decide +kernel, rfl, by decide +kernel, by decide +kernel⟩
abbrev nm_law_with : List Str := ["_law_counts", "_law_word", "_law_found", "_law_good"]
abbrev st_law_with : Stmt := top 171
theorem sc_law_with : FnScope nm_law_with ["_law_counts", "_law_word"] (defScope st_law_with) := ⟨rfl, rfl, rfl, by decide +kernel, rfl, by decide +kernel, by decide +kernel⟩
abbrev nm_law_rest : List Str := ["_law_counts", "_law_days", "_law_goods", "_law_under", "_law_word"]
abbrev st_law_rest : Stmt := top 172
theorem sc_law_rest : FnScope nm_law_rest ["_law_counts", "_law_days"] (defScope st_law_rest) := ⟨rfl, rfl, rfl, by decide +kernel, rfl, by decide +kernel, by decide +kernel⟩
abbrev nm_law_purse : List Str := ["_law_counts", "_law_days", "_law_market_here", "_law_found", "_law_word", "_law_weight", "_law_day_here", "_law_good"]
abbrev st_law_purse : Stmt := top 173
theorem sc_law_purse : FnScope nm_law_purse ["_law_counts", "_law_days", "_law_market_here"] (defScope st_law_purse) := ⟨rfl, rfl, rfl, by decide +kernel, rfl, by decide +kernel, by decide +kernel⟩
abbrev nm_law_makes : List Str := ["_law_shares", "_law_counts", "_law_market_here", "_law_found", "_law_share", "_law_count"]
abbrev st_law_makes : Stmt := top 174
theorem sc_law_makes : FnScope nm_law_makes ["_law_shares", "_law_counts", "_law_market_here"] (defScope st_law_makes) := ⟨rfl, rfl, rfl, by decide +kernel, rfl, by decide +kernel, by decide +kernel⟩
abbrev nm_law_told_right : List Str := ["_law_fair_here", "_law_promise", "_law_counts", "_law_days", "_law_word", "_law_behind", "_law_due", "_law_left", "_law_above", "_law_under", "_law_day_here"]
abbrev st_law_told_right : Stmt := top 175
theorem sc_law_told_right : FnScope nm_law_told_right ["_law_fair_here", "_law_promise", "_law_counts", "_law_days"] (defScope st_law_told_right) := ⟨rfl, rfl, rfl, by decide +kernel, rfl, by decide +kernel, by decide +kernel⟩
abbrev nm_law : List Str := ["_law_script", "_law_fair_here", "_law_turn", "_law_goods", "_law_counts", "_law_days", "_law_promise", "_law_book", "_law_market_here", "_law_day_here", "_law_mixes", "_law_shares", "_law_made", "_law_good", "_law_lap", "_law_share"]
abbrev st_law : Stmt := top 176
theorem sc_law : FnScope nm_law ["_law_script"] (defScope st_law) := ⟨rfl, rfl, rfl, by decide +kernel, rfl, by decide +kernel, by decide +kernel⟩
abbrev nm_Promise_init : List Str := ["self", "kind", "told", "inner", "goods", "part"]
abbrev st_Promise_init : Stmt := inClass (top 56) 0
theorem sc_Promise_init : FnScope nm_Promise_init ["self", "kind", "told", "inner", "goods"] (defScope st_Promise_init) := ⟨rfl, rfl, rfl, by decide +kernel, rfl, by decide +kernel, by decide +kernel⟩
abbrev nm_ListBook_init : List Str := ["self", "goods", "rests", "held"]
abbrev st_ListBook_init : Stmt := inClass (top 125) 0
theorem sc_ListBook_init : FnScope nm_ListBook_init ["self", "goods", "rests", "held"] (defScope st_ListBook_init) := ⟨rfl, rfl, rfl, by decide +kernel, rfl, by decide +kernel, by decide +kernel⟩
abbrev nm_ListBook_purse : List Str := ["self", "key", "weight"]
abbrev st_ListBook_purse : Stmt := inClass (top 125) 1
theorem sc_ListBook_purse : FnScope nm_ListBook_purse ["self"] (defScope st_ListBook_purse) := ⟨rfl, rfl, rfl, by decide +kernel, rfl, by decide +kernel, by decide +kernel⟩
abbrev nm_ListBook_amounts : List Str := ["self", "good"]
abbrev st_ListBook_amounts : Stmt := inClass (top 125) 2
theorem sc_ListBook_amounts : FnScope nm_ListBook_amounts ["self"] (defScope st_ListBook_amounts) := ⟨rfl, rfl, rfl, by decide +kernel, rfl, by decide +kernel, by decide +kernel⟩
abbrev nm_ListBook_amount : List Str := ["self", "good", "key", "weight"]
abbrev st_ListBook_amount : Stmt := inClass (top 125) 3
theorem sc_ListBook_amount : FnScope nm_ListBook_amount ["self", "good"] (defScope st_ListBook_amount) := ⟨rfl, rfl, rfl, by decide +kernel, rfl, by decide +kernel, by decide +kernel⟩
abbrev nm_ListBook_come : List Str := ["self", "day", "found", "key", "weight", "good", "later"]
abbrev st_ListBook_come : Stmt := inClass (top 125) 4
theorem sc_ListBook_come : FnScope nm_ListBook_come ["self", "day"] (defScope st_ListBook_come) := ⟨rfl, rfl, rfl, by decide +kernel, rfl, by decide +kernel, by decide +kernel⟩
abbrev nm_Book_init : List Str := ["self", "promise", "days"]
abbrev st_Book_init : Stmt := inClass (top 132) 0
theorem sc_Book_init : FnScope nm_Book_init ["self", "promise", "days"] (defScope st_Book_init) := ⟨rfl, rfl, rfl, by decide +kernel, rfl, by decide +kernel, by decide +kernel⟩
abbrev nm_Book_tell : List Str := ["self"]
abbrev st_Book_tell : Stmt := inClass (top 132) 2
theorem sc_Book_tell : FnScope nm_Book_tell ["self"] (defScope st_Book_tell) := ⟨rfl, rfl, rfl, by decide +kernel, rfl, by decide +kernel, by decide +kernel⟩
abbrev nm_Book_day : List Str := ["self", "day", "told"]
abbrev st_Book_day : Stmt := inClass (top 132) 3
theorem sc_Book_day : FnScope nm_Book_day ["self", "day"] (defScope st_Book_day) := ⟨rfl, rfl, rfl, by decide +kernel, rfl, by decide +kernel, by decide +kernel⟩
/-- what the walk asks of the top -/
structure Tx (K : PySem.W.Frag) (mg : Str → Option Value) : Prop where
  bl : Bl mg
  x_is_integer : Df K mg "is_integer" "is_integer" "is_integer" (top 14) []
  x_is_within : Df K mg "is_within" "is_within" "is_within" (top 15) []
  x_is_list : Df K mg "is_list" "is_list" "is_list" (top 16) []
  x_common : Df K mg "common" "common" "common" (top 17) []
  x_is_number : Df K mg "is_number" "is_number" "is_number" (top 18) []
  x_above_in : Df K mg "above_in" "above_in" "above_in" (top 19) []
  x_is_from_0 : Df K mg "is_from_0" "is_from_0" "is_from_0" (top 20) []
  x_is_row : Df K mg "is_row" "is_row" "is_row" (top 21) []
  x_is_sum_1 : Df K mg "is_sum_1" "is_sum_1" "is_sum_1" (top 22) []
  x_is_mix_of : Df K mg "is_mix_of" "is_mix_of" "is_mix_of" (top 23) []
  x_is_market_of : Df K mg "is_market_of" "is_market_of" "is_market_of" (top 24) []
  x_is_word_of : Df K mg "is_word_of" "is_word_of" "is_word_of" (top 25) []
  x_kept : Df K mg "kept" "kept" "kept" (top 26) []
  x_kept_row : Df K mg "kept_row" "kept_row" "kept_row" (top 27) []
  x_need_integer : Df K mg "need_integer" "need_integer" "need_integer" (top 28) []
  x_need_goods : Df K mg "need_goods" "need_goods" "need_goods" (top 29) []
  x_need_days : Df K mg "need_days" "need_days" "need_days" (top 30) []
  x_need_day : Df K mg "need_day" "need_day" "need_day" (top 31) [.str "day"]
  x_need_market : Df K mg "need_market" "need_market" "need_market" (top 32) [.str "market"]
  x_need_word : Df K mg "need_word" "need_word" "need_word" (top 33) [.str "word"]
  x_halves : Df K mg "halves" "halves" "halves" (top 35) []
  x_lowest : Df K mg "lowest" "lowest" "lowest" (top 36) []
  x_added : Df K mg "added" "added" "added" (top 37) []
  x_turned : Df K mg "turned" "turned" "turned" (top 38) []
  x_less_by : Df K mg "less_by" "less_by" "less_by" (top 39) []
  x_product : Df K mg "product" "product" "product" (top 40) []
  x_part_by : Df K mg "part_by" "part_by" "part_by" (top 41) []
  x_sign_in : Df K mg "sign_in" "sign_in" "sign_in" (top 43) []
  x_total : Df K mg "total" "total" "total" (top 44) []
  x_summed : Df K mg "summed" "summed" "summed" (top 45) []
  x_multiplied : Df K mg "multiplied" "multiplied" "multiplied" (top 46) []
  x_raised : Df K mg "raised" "raised" "raised" (top 47) []
  x_power_in : Df K mg "power_in" "power_in" "power_in" (top 48) []
  x_lightning_in : Df K mg "lightning_in" "lightning_in" "lightning_in" (top 51) []
  x_lightnings_in : Df K mg "lightnings_in" "lightnings_in" "lightnings_in" (top 52) []
  x_run_in : Df K mg "run_in" "run_in" "run_in" (top 53) []
  x_need_promise : Df K mg "need_promise" "need_promise" "need_promise" (top 59) [.str "promise", .non]
  x_need_shares : Df K mg "need_shares" "need_shares" "need_shares" (top 60) []
  x_times_in : Df K mg "times_in" "times_in" "times_in" (top 61) []
  x_spread : Df K mg "spread" "spread" "spread" (top 68) []
  x_best_at : Df K mg "best_at" "best_at" "best_at" (top 72) []
  x_worth_in : Df K mg "worth_in" "worth_in" "worth_in" (top 75) []
  x_worth_at_in : Df K mg "worth_at_in" "worth_at_in" "worth_at_in" (top 76) []
  x_best_many : Df K mg "best_many" "best_many" "best_many" (top 77) []
  x_has_best_in : Df K mg "has_best_in" "has_best_in" "has_best_in" (top 78) []
  x_named_by : Df K mg "named_by" "named_by" "named_by" (top 79) []
  x_named_in : Df K mg "named_in" "named_in" "named_in" (top 81) []
  x_need_no_best : Df K mg "need_no_best" "need_no_best" "need_no_best" (top 82) []
  x_worth : Df K mg "worth" "worth" "worth" (top 83) []
  x_worth_at : Df K mg "worth_at" "worth_at" "worth_at" (top 84) []
  x_named : Df K mg "named" "named" "named" (top 85) []
  x_choose_in : Df K mg "choose_in" "choose_in" "choose_in" (top 92) []
  x_counts_in : Df K mg "counts_in" "counts_in" "counts_in" (top 98) []
  x_many_counts : Df K mg "many_counts" "many_counts" "many_counts" (top 99) []
  x_counts_of_all : Df K mg "counts_of_all" "counts_of_all" "counts_of_all" (top 100) []
  x_ways_in : Df K mg "ways_in" "ways_in" "ways_in" (top 101) []
  x_need_few_counts : Df K mg "need_few_counts" "need_few_counts" "need_few_counts" (top 103) []
  x_orderless_in : Df K mg "orderless_in" "orderless_in" "orderless_in" (top 106) []
  x_best_by : Df K mg "best_by" "best_by" "best_by" (top 107) []
  x_worth_by_prices : Df K mg "worth_by_prices" "worth_by" "worth_by" (top 108) []
  x_by_counts : Df K mg "by_counts" "by_counts" "by_counts" (top 113) []
  x_by_one_line : Df K mg "by_one_line" "by_one_line" "by_one_line" (top 114) []
  x_rest_through : Df K mg "rest_through" "rest_through" "rest_through" (top 115) []
  x_rest_in : Df K mg "rest_in" "rest_in" "rest_in" (top 116) []
  x_price_in : Df K mg "price_in" "price_in" "price_in" (top 117) []
  x_price : Df K mg "price" "price" "price" (top 118) []
  x_rest : Df K mg "rest" "rest" "rest" (top 119) []
  x_behind : Df K mg "behind" "behind" "behind" (top 126) []
  x_keys_of : Df K mg "keys_of" "keys_of" "keys_of" (top 127) []
  x_worth_of_key : Df K mg "worth_of_key" "worth_of_key" "worth_of_key" (top 128) []
  x_rests_of : Df K mg "rests_of" "rests_of" "rests_of" (top 129) []
  x_list_book : Df K mg "list_book" "list_book" "list_book" (top 130) []
  x_inner_book : Df K mg "inner_book" "inner_book" "inner_book" (top 131) []
  x_tower : Df K mg "tower" "tower" "tower" (top 138) []
  x_worth_by_bests : Df K mg "worth_by_bests" "worth_by" "worth_by" (top 139) []
  x_joined : Df K mg "joined" "joined" "joined" (top 141) []
  x_rest_by : Df K mg "rest_by" "rest_by" "rest_by" (top 142) []
  x_prices_to : Df K mg "prices_to" "prices_to" "prices_to" (top 143) []
  x_need_counted : Df K mg "need_counted" "need_counted" "need_counted" (top 144) []
  x_best_worth : Df K mg "best_worth" "best_worth" "best_worth" (top 145) []
  x_best_price : Df K mg "best_price" "best_price" "best_price" (top 146) []
  x_all_best : Df K mg "all_best" "all_best" "all_best" (top 147) []
  x_best_rest : Df K mg "best_rest" "best_rest" "best_rest" (top 148) []
  x_rising : Df K mg "rising" "rising" "rising" (top 151) []
  x_best_stretch : Df K mg "best_stretch" "best_stretch" "best_stretch" (top 152) []
  x_law_fair : Df K mg "_law_fair" "_law_fair" "_law_fair" (top 154) []
  x_law_deal : Df K mg "_law_deal" "_law_deal" "_law_deal" (top 155) []
  x_law_one_of : Df K mg "_law_one_of" "_law_one_of" "_law_one_of" (top 156) []
  x_law_number : Df K mg "_law_number" "_law_number" "_law_number" (top 157) []
  x_law_halves : Df K mg "_law_halves" "_law_halves" "_law_halves" (top 158) []
  x_law_sum : Df K mg "_law_sum" "_law_sum" "_law_sum" (top 159) []
  x_law_times : Df K mg "_law_times" "_law_times" "_law_times" (top 160) []
  x_law_is_below : Df K mg "_law_is_below" "_law_is_below" "_law_is_below" (top 162) []
  x_law_mix : Df K mg "_law_mix" "_law_mix" "_law_mix" (top 163) []
  x_law_day : Df K mg "_law_day" "_law_day" "_law_day" (top 164) []
  x_law_pays : Df K mg "_law_pays" "_law_pays" "_law_pays" (top 166) []
  x_law_tower : Df K mg "_law_tower" "_law_tower" "_law_tower" (top 168) []
  x_law_worth : Df K mg "_law_worth" "_law_worth" "_law_worth" (top 169) []
  x_law_words : Df K mg "_law_words" "_law_words" "_law_words" (top 170) []
  x_law_with : Df K mg "_law_with" "_law_with" "_law_with" (top 171) []
  x_law_rest : Df K mg "_law_rest" "_law_rest" "_law_rest" (top 172) []
  x_law_purse : Df K mg "_law_purse" "_law_purse" "_law_purse" (top 173) []
  x_law_makes : Df K mg "_law_makes" "_law_makes" "_law_makes" (top 174) []
  x_law_told_right : Df K mg "_law_told_right" "_law_told_right" "_law_told_right" (top 175) []
  x_law : Df K mg "law" "law" "law" (top 176) []
  c_MOST_GOODS : ∃ t, mg "MOST_GOODS" = some (.int 5 t)
  c_MOST_DAYS : ∃ t, mg "MOST_DAYS" = some (.int 1000 t)
  c_MOST_COUNT_promises : ∃ t, mg "MOST_COUNT_promises" = some (.int 1000 t)
  c_MOST_COUNTS_words : ∃ t, mg "MOST_COUNTS_words" = some (.int 5000 t)
  c_MOST_COUNT_bests : ∃ t, mg "MOST_COUNT_bests" = some (.int 1000 t)
  c_MOST_LOTS : ∃ t, mg "MOST_LOTS" = some (.int 60 t)
  c_MOST_BEST_DAYS : ∃ t, mg "MOST_BEST_DAYS" = some (.int 250 t)
  c_MOST_COUNTS_bests : ∃ t, mg "MOST_COUNTS_bests" = some (.int 5000 t)
  c_MOST_HALVED : ∃ t, mg "MOST_HALVED" = some (.int 60 t)
end K8
end
section
set_option autoImplicit false
/-! Rationals: sizes, lowest terms. -/
namespace K8
theorem dnum {a b : Int} (hb : 0 < b) : (Rat.divInt a b).num = a / ((Int.gcd a b : Nat) : Int) := by
  rw [Rat.num_divInt, Int.sign_eq_one_of_pos hb, Int.one_mul, Int.gcd_comm]
theorem dden {a b : Int} (hb : 0 < b) : ((Rat.divInt a b).den : Int) = b / ((Int.gcd a b : Nat) : Int) := by
  rw [Rat.den_divInt, if_neg (by omega), Int.gcd_comm, Int.natCast_ediv]
  rw [Int.natAbs_of_nonneg (by omega)]
theorem gcd_pos_r {a b : Int} (hb : 0 < b) : 0 < Int.gcd a b := Int.gcd_pos_of_ne_zero_right a (by omega)
theorem gcd_le_r {a b : Int} (hb : 0 < b) : ((Int.gcd a b : Nat) : Int) ≤ b := Int.le_of_dvd hb (Int.gcd_dvd_right _ _)
/-- a number's size -/
def Sz (k : Nat) (r : Rat) : Prop := r.num.natAbs < 2 ^ k ∧ r.den < 2 ^ k
theorem pow_le {a b : Nat} (h : a ≤ b) : 2 ^ a ≤ 2 ^ b := Nat.pow_le_pow_right (by decide) h
theorem Sz.mono {a b : Nat} {r : Rat} (h : Sz a r) (l : a ≤ b) : Sz b r := ⟨Nat.lt_of_lt_of_le h.1 (pow_le l), Nat.lt_of_lt_of_le h.2 (pow_le l)⟩
theorem ediv_natAbs_le (a : Int) {d : Int} (hd : 0 < d) : (a / d).natAbs ≤ a.natAbs := by
  have h := Int.natAbs_ediv_le_natAbs a d
  exact h
theorem Sz.div {a b : Int} {k : Nat} (ha : a.natAbs < 2 ^ k) (hb : 0 < b) (hb2 : b.natAbs < 2 ^ k) : Sz k (Rat.divInt a b) := by
  have g := gcd_pos_r (a := a) hb
  constructor
  · rw [dnum hb]
    exact Nat.lt_of_le_of_lt (ediv_natAbs_le a (by omega)) ha
  · have h : ((Rat.divInt a b).den : Int) ≤ b := by
      rw [dden hb]
      exact Int.ediv_le_self _ (by omega)
    omega
theorem mul_lt_pow {m n : Nat} {a b : Nat} (ha : m < 2 ^ a) (hb : n < 2 ^ b) : m * n < 2 ^ (a + b) := by
  rw [Nat.pow_add]
  exact Nat.mul_lt_mul'' ha hb
theorem add_lt_pow {m n : Nat} {a b : Nat} (ha : m < 2 ^ a) (hb : n < 2 ^ b) : m + n < 2 ^ (max a b + 1) := by
  have h1 : 2 ^ a ≤ 2 ^ max a b := pow_le (by omega)
  have h2 : 2 ^ b ≤ 2 ^ max a b := pow_le (by omega)
  rw [Nat.pow_succ]
  omega
theorem radd {r s : Rat} : r + s = Rat.divInt (r.num * s.den + s.num * r.den) ((r.den : Int) * s.den) := by
  have h := Rat.divInt_add_divInt r.num s.num (d₁ := (r.den : Int)) (d₂ := (s.den : Int)) (by have := r.den_nz; omega) (by have := s.den_nz; omega)
  rw [Rat.num_divInt_den, Rat.num_divInt_den] at h
  exact h
theorem rmul {r s : Rat} : r * s = Rat.divInt (r.num * s.num) ((r.den : Int) * s.den) := by
  have h := Rat.divInt_mul_divInt r.num s.num (d₁ := (r.den : Int)) (d₂ := (s.den : Int))
  rw [Rat.num_divInt_den, Rat.num_divInt_den] at h
  exact h
theorem rdiv {r s : Rat} : r / s = Rat.divInt (r.num * s.den) ((r.den : Int) * s.num) := by
  have h := Rat.divInt_mul_divInt r.num (s.den : Int) (d₁ := (r.den : Int)) (d₂ := s.num)
  rw [Rat.num_divInt_den, ← Rat.inv_divInt, Rat.num_divInt_den, ← Rat.div_def] at h
  exact h
theorem den_pos (r : Rat) : 0 < (r.den : Int) := by
  have := r.den_nz
  omega
theorem den2_pos (r s : Rat) : 0 < (r.den : Int) * s.den := Int.mul_pos (den_pos r) (den_pos s)
theorem Sz.mul {a b : Nat} {r s : Rat} (h : Sz a r) (k : Sz b s) : Sz (a + b) (r * s) := by
  rw [rmul]
  refine .div ?_ (den2_pos r s) ?_
  · rw [Int.natAbs_mul]
    exact mul_lt_pow h.1 k.1
  · rw [Int.natAbs_mul]
    exact mul_lt_pow h.2 k.2
theorem Sz.add {a b : Nat} {r s : Rat} (h : Sz a r) (k : Sz b s) : Sz (a + b + 1) (r + s) := by
  rw [radd]
  refine .div ?_ (den2_pos r s) ?_
  · have h1 := Int.natAbs_add_le (r.num * s.den) (s.num * r.den)
    rw [Int.natAbs_mul, Int.natAbs_mul] at h1
    have h2 := mul_lt_pow h.1 k.2
    have h3 := mul_lt_pow k.1 h.2
    rw [Nat.add_comm b a] at h3
    simp only [Int.natAbs_natCast] at h1
    rw [Nat.pow_succ]
    omega
  · rw [Int.natAbs_mul]
    exact Nat.lt_of_lt_of_le (mul_lt_pow h.2 k.2) (pow_le (by omega))
theorem Sz.neg {a : Nat} {r : Rat} (h : Sz a r) : Sz a (-r) := by
  constructor
  · rw [Rat.neg_num, Int.natAbs_neg]
    exact h.1
  · rw [Rat.neg_den]
    exact h.2
theorem Sz.quo {a b : Nat} {r s : Rat} (h : Sz a r) (k : Sz b s) (hs : 0 < s.num) : Sz (a + b) (r / s) := by
  rw [rdiv]
  refine .div ?_ (Int.mul_pos (den_pos r) hs) ?_
  · rw [Int.natAbs_mul]
    exact mul_lt_pow h.1 k.2
  · rw [Int.natAbs_mul]
    exact mul_lt_pow h.2 k.1
theorem Sz.int {k : Nat} {n : Int} (h : n.natAbs < 2 ^ k) (hk : 0 < k) : Sz k (n : Rat) := by
  constructor
  · rw [Rat.num_intCast]
    exact h
  · rw [Rat.den_intCast]
    exact Nat.one_lt_two_pow (by omega)
theorem Sz.one {k : Nat} (hk : 0 < k) : Sz k 1 := .int (n := 1) (by exact Nat.one_lt_two_pow (by omega)) hk
theorem Sz.zero {k : Nat} (hk : 0 < k) : Sz k 0 := .int (n := 0) (by exact Nat.pos_of_ne_zero (by simp)) hk
theorem Sz.pow {a : Nat} {r : Rat} (h : Sz a r) (ha : 0 < a) : ∀ n : Nat, Sz (a * n + 1) (r ^ n) := fun n => by
  have key : ∀ m : Nat, m < 2 ^ a → m ^ n < 2 ^ (a * n + 1) := fun m hm => by
    have h1 : m ^ n ≤ (2 ^ a) ^ n := Nat.pow_le_pow_left (by omega) n
    rw [← Nat.pow_mul] at h1
    rw [Nat.pow_succ]
    have h2 : 0 < 2 ^ (a * n) := Nat.pos_of_ne_zero (by simp)
    omega
  constructor
  · rw [Rat.num_pow, Int.natAbs_pow]
    exact key _ h.1
  · rw [Rat.den_pow]
    exact key _ h.2
/-- sums, products of lists -/
def rsum (rs : List Rat) : Rat := rs.foldl (fun a x => a + x) 0
def rprod (rs : List Rat) : Rat := rs.foldl (fun a x => a * x) 1
theorem rsum_snoc (rs : List Rat) (x : Rat) : rsum (rs ++ [x]) = rsum rs + x := by simp [rsum, List.foldl_append]
theorem rprod_snoc (rs : List Rat) (x : Rat) : rprod (rs ++ [x]) = rprod rs * x := by simp [rprod, List.foldl_append]
theorem rsum_aux (rs : List Rat) : ∀ a : Rat, rs.foldl (fun a x => a + x) a = a + rsum rs := by
  induction rs with
  | nil => intro a; show a = a + 0; grind
  | cons r rs ih =>
    intro a
    show rs.foldl _ (a + r) = a + rs.foldl _ (0 + r)
    rw [ih, ih (0 + r)]
    grind
theorem rprod_aux (rs : List Rat) : ∀ a : Rat, rs.foldl (fun a x => a * x) a = a * rprod rs := by
  induction rs with
  | nil => intro a; show a = a * 1; grind
  | cons r rs ih =>
    intro a
    show rs.foldl _ (a * r) = a * rs.foldl _ (1 * r)
    rw [ih, ih (1 * r)]
    grind
theorem rsum_cons (r : Rat) (rs : List Rat) : rsum (r :: rs) = r + rsum rs := by
  show rs.foldl _ (0 + r) = _
  rw [rsum_aux]
  grind
theorem rprod_cons (r : Rat) (rs : List Rat) : rprod (r :: rs) = r * rprod rs := by
  show rs.foldl _ (1 * r) = _
  rw [rprod_aux]
  grind
theorem rsum_append (a b : List Rat) : rsum (a ++ b) = rsum a + rsum b := by
  show (a ++ b).foldl _ 0 = _
  rw [List.foldl_append, rsum_aux b]
  rfl
theorem rprod_append (a b : List Rat) : rprod (a ++ b) = rprod a * rprod b := by
  show (a ++ b).foldl _ 1 = _
  rw [List.foldl_append, rprod_aux b]
  rfl
theorem Sz.sum {k : Nat} : ∀ {rs : List Rat}, (∀ r ∈ rs, Sz k r) → Sz (rs.length * (k + 1) + 1) (rsum rs)
  | [], _ => by
    show Sz _ 0
    exact .zero (by simp)
  | r :: rs, h => by
    rw [rsum_cons]
    have h1 := h r (by simp)
    have h2 := Sz.sum (rs := rs) fun x hx => h x (by simp [hx])
    refine (h1.add h2).mono ?_
    simp only [List.length_cons, Nat.add_mul]
    omega
theorem Sz.prod {k : Nat} : ∀ {rs : List Rat}, (∀ r ∈ rs, Sz k r) → Sz (rs.length * k + 1) (rprod rs)
  | [], _ => by
    show Sz _ 1
    exact .one (by simp)
  | r :: rs, h => by
    rw [rprod_cons]
    have h1 := h r (by simp)
    have h2 := Sz.prod (rs := rs) fun x hx => h x (by simp [hx])
    refine (h1.mul h2).mono ?_
    simp only [List.length_cons, Nat.add_mul]
    omega
end K8
end
section
set_option Elab.async false
set_option linter.all false
set_option maxRecDepth 100000
set_option maxHeartbeats 1000000
set_option autoImplicit false
namespace K8
open PySem L2
open Evl (Ex)
/-! ### bounds -/
theorem mulW {m n : Int} {a b : Nat} (ha : m.natAbs < 2 ^ a) (hb : n.natAbs < 2 ^ b) (h : a + b ≤ 900000) : CMulW m n :=
  wide_mul (a := a + 1) (b := b + 1) (Nat.lt_of_lt_of_le ha (pow_le (by omega))) (Nat.lt_of_lt_of_le hb (pow_le (by omega))) (by omega) (by omega) (by omega)
theorem divW {m n : Int} {b : Nat} (h0 : 0 < n) (hb : n.natAbs < 2 ^ b) (h : b ≤ 8999) : CDivW m n :=
  wide_div (b := b + 1) h0 (Nat.lt_of_lt_of_le hb (pow_le (by omega))) (by omega) (by omega)
section
variable {P : Program} {w : World} {K : PySem.W.Frag} {mg : Str → Option Value} {base : Heap} (T : Tx K mg)
include T
theorem ok_common : Fq P w K mg base "common" 1 ["one", "other"] [] (spV (fun _ : Int × Int => True) (fun z => [ei z.1, ei z.2]) (fun z => VI.int (Int.gcd z.1 z.2 : Nat))) :=
  fq_V T.x_common sc_common (fun _ _ _ _ _ _ us hl => match us, hl with | [_, _], _ => rfl) (fun _ => rfl) fun cdv A outer s H E hr ⟨a, b⟩ _ => by
    refine g_cons (g_par 0 1 rfl sc_common.nd (e_abs T.bl (vE 0)) (e_abs T.bl (vE 1))) ?_
    refine g_cons (g_while PassesOwn.never (fun z : Nat × Nat => [.i (VI.int z.1), .i (VI.int z.2)]) (fun z => Nat.gcd z.1 z.2 = Int.gcd a b) (fun z => z.2) (fun z => decide (0 < z.2)) (Γ' := [.i (VI.int (Int.gcd a b : Nat)), .u]) (a.natAbs, b.natAbs) rfl ?_ ?_ ?_) (g_one (g_ret (vI 0)))
    · intro z _
      exact (t_gt (vI 1) e_int).to (by simp)
    · intro z hz hc
      have hp : 0 < z.2 := of_decide_eq_true hc
      refine ⟨(z.2, z.1 % z.2), ?_, Nat.mod_lt _ hp, ?_⟩
      · show Nat.gcd z.2 (z.1 % z.2) = _
        rw [← hz, Nat.gcd_comm z.2, ← Nat.gcd_rec, Nat.gcd_comm]
      · exact g_one ((g_par 0 1 rfl sc_common.nd (vI 1) ((e_mod (vI 0) (vI 1) (by omega)).to (congrArg ei (Int.natCast_emod _ _).symm))).to rfl)
    · intro z hz hc
      have h0 : z.2 = 0 := by
        have := of_decide_eq_false hc
        omega
      rw [h0, Nat.gcd_zero_right] at hz
      refine ⟨rfl, fun i U hi => ?_⟩
      rw [← hz] at hi
      match i, hi with
      | 0, hi => exact .inr hi
      | 1, hi => exact .inl (Option.some.inj hi).symm
theorem ok_halves : Fq P w K mg base "halves" 1 ["number"] [] (spV (fun _ : Rat => True) (fun r => [(VI.num r).p]) (fun r => VI.tup [VI.int r.num, VI.int (r.den : Int)])) :=
  fq_V T.x_halves sc_halves (fun _ _ _ _ _ _ us hl => match us, hl with | [_], _ => rfl) (fun _ => rfl) fun cdv A outer s H E hr r _ => by
    by_cases h : r.den = 1
    · exact g_one (g_ret (e_ifT (t_val (e_isi T.bl (vE 0) (of_num1 h) (e_bltn (T := "int") T.bl.int (by decide +kernel)) (.ty _) ki_ii)) (e_tup (ei_cons ((vE 0).imp fun H v q => num_int h q) (ei_cons (e_int.to (by rw [h]; rfl)) ei_nil)))))
    · exact g_one (g_ret (e_ifF (t_val (e_isi T.bl (vE 0) (of_num2 h) (e_bltn (T := "int") T.bl.int (by decide +kernel)) (.ty _) ki_ti)) (e_tup (ei_cons (e_ixT ((vE 0).imp fun H v q => num_tup h q) e_int rfl) (ei_cons (e_ixT ((vE 0).imp fun H v q => num_tup h q) e_int rfl) ei_nil)))))
theorem ok_lowest : Fq P w K mg base "lowest" 2 ["above", "under"] [] (spV (fun z : Int × Int => 0 < z.2 ∧ z.2.natAbs < 2 ^ 8500) (fun z => [ei z.1, ei z.2]) (fun z => VI.num (Rat.divInt z.1 z.2))) :=
  fq_V T.x_lowest sc_lowest (fun _ _ _ _ _ _ us hl => match us, hl with | [_, _], _ => rfl) (fun _ => rfl) fun cdv A outer s H E hr ⟨a, b⟩ ⟨h0, h1⟩ => by
    have h0 : 0 < b := h0
    have hg : (0 : Int) < (Int.gcd a b : Nat) := by have := gcd_pos_r (a := a) h0; omega
    have hd : ∀ m, CDivW m ((Int.gcd a b : Nat) : Int) := fun _ => divW hg (Nat.lt_of_le_of_lt (by have := gcd_le_r (a := a) h0; omega) h1) (by decide)
    refine g_cons (g_set 2 sc_lowest.nd (ev_call (ok_common T) hr (a, b) trivial (ea_cons (vE 0) (ea_cons (vE 1) ea_nil)))) ?_
    refine g_cons (g_set 2 sc_lowest.nd (e_ifF ((t_lt (vE 1) e_int).to (decide_eq_false (by omega))) (vI 2))) ?_
    refine g_cons (g_par 0 1 rfl sc_lowest.nd (e_fdiv (vE 0) (vI 2) (hd _)) (e_fdiv (vE 1) (vI 2) (hd _))) ?_
    have e1 := dnum (a := a) h0
    have e2 := dden (a := a) h0
    rw [← e1, ← e2]
    refine g_one (g_ret (e_if (k := decide ((Rat.divInt a b).den = 1)) ((t_eqI (vI 1) e_int).to ?_) (fun h => ?_) (fun h => ?_)))
    · by_cases h : (Rat.divInt a b).den = 1
      · rw [decide_eq_true h, decide_eq_true (by omega)]
      · rw [decide_eq_false h, decide_eq_false (by omega)]
    · exact (vI (P := VI.int (Rat.divInt a b).num) 0).imp fun H v q => .inl ⟨of_decide_eq_true h, q⟩
    · exact (e_tup (ei_cons (vI 0) (ei_cons (vI 1) ei_nil))).imp fun H v q => num_of_tup (of_decide_eq_false h) q
/-- two numbers by their halves -/
theorem ok_added : Fq P w K mg base "added" 3 ["one", "other"] [] (spV (fun z : Rat × Rat => Sz 4000 z.1 ∧ Sz 4000 z.2) (fun z => [(VI.num z.1).p, (VI.num z.2).p]) (fun z => VI.num (z.1 + z.2))) :=
  fq_V T.x_added sc_added (fun _ _ _ _ _ _ us hl => match us, hl with | [_, _], _ => rfl) (fun _ => rfl) fun cdv A outer s H E hr ⟨r, t⟩ ⟨h0, h1⟩ => by
    have h0 : Sz 4000 r := h0
    have h1 : Sz 4000 t := h1
    have b0 : ((r.den : Nat) : Int).natAbs < 2 ^ 4000 := h0.2
    have b1 : ((t.den : Nat) : Int).natAbs < 2 ^ 4000 := h1.2
    refine g_cons (g_asg (vs := [2, 3, 4, 5]) (e_tup (ei_cons (ev_call (ok_halves T) (hr.mono (by decide)) r trivial (ea_cons (vE 0) ea_nil)) (ei_cons (ev_call (ok_halves T) (hr.mono (by decide)) t trivial (ea_cons (vE 1) ea_nil)) ei_nil)))
      (tg_tup rfl (tgs_cons (tg_tup rfl (tgs_cons (tg_name 2 sc_added.nd) (tgs_cons (tg_name 3 sc_added.nd) tgs_nil))) (tgs_cons (tg_tup rfl (tgs_cons (tg_name 4 sc_added.nd) (tgs_cons (tg_name 5 sc_added.nd) tgs_nil))) tgs_nil)))) ?_
    exact g_one (g_ret ((ev_call (ok_lowest T) hr (_, _) ⟨den2_pos r t, Nat.lt_of_lt_of_le (wide_lt b0 b1) (pow_le (by decide))⟩ (ea_cons (e_add (e_mul (vI 2) (vI 5) (mulW h0.1 b1 (by decide))) (e_mul (vI 4) (vI 3) (mulW h1.1 b0 (by decide)))) (ea_cons (e_mul (vI 3) (vI 5) (mulW b0 b1 (by decide))) ea_nil))).to (by rw [radd])))
end
end K8
end
section
set_option Elab.async false
set_option linter.all false
set_option maxRecDepth 100000
set_option maxHeartbeats 1000000
set_option autoImplicit false
namespace K8
open PySem L2
open Evl (Ex)
abbrev nums (rs : List Rat) : List VI := rs.map VI.num
/-- sizes of the numbers of a list, of its sums from the left -/
def SzS (rs : List Rat) : Prop := (∀ r ∈ rs, Sz 4000 r) ∧ ∀ i, Sz 4000 (rsum (rs.take i))
def SzP (rs : List Rat) : Prop := (∀ r ∈ rs, Sz 4000 r) ∧ ∀ i, Sz 4000 (rprod (rs.take i))
theorem szs_of {rs : List Rat} {k : Nat} (h : ∀ r ∈ rs, Sz k r) (hl : rs.length * (k + 1) + 1 ≤ 4000) (hk : k ≤ 4000) : SzS rs := by
  refine ⟨fun r hr => (h r hr).mono hk, fun i => (Sz.sum fun r hr => h r (List.mem_of_mem_take hr)).mono (Nat.le_trans ?_ hl)⟩
  rw [List.length_take]
  exact Nat.succ_le_succ (Nat.mul_le_mul_right _ (Nat.min_le_right _ _))
theorem szp_of {rs : List Rat} {k : Nat} (h : ∀ r ∈ rs, Sz k r) (hl : rs.length * k + 1 ≤ 4000) (hk : k ≤ 4000) : SzP rs := by
  refine ⟨fun r hr => (h r hr).mono hk, fun i => (Sz.prod fun r hr => h r (List.mem_of_mem_take hr)).mono (Nat.le_trans ?_ hl)⟩
  rw [List.length_take]
  exact Nat.succ_le_succ (Nat.mul_le_mul_right _ (Nat.min_le_right _ _))
theorem take_pre {α : Type} {xs pre post : List α} {a : α} (h : xs = pre ++ a :: post) : xs.take pre.length = pre := by rw [h, List.take_left]
theorem mem_mid {α : Type} {xs pre post : List α} {a : α} (h : xs = pre ++ a :: post) : a ∈ xs := by simp [h]
section
variable {P : Program} {w : World} {K : PySem.W.Frag} {mg : Str → Option Value} {base : Heap} (T : Tx K mg)
include T
theorem ok_turned : Fq P w K mg base "turned" 2 ["number"] [] (spV (fun _ : Rat => True) (fun r => [(VI.num r).p]) (fun r => VI.num (-r))) :=
  fq_V T.x_turned sc_turned (fun _ _ _ _ _ _ us hl => match us, hl with | [_], _ => rfl) (fun _ => rfl) fun cdv A outer s H E hr r _ => by
    refine g_cons (g_asg (vs := [1, 2]) (ev_call (ok_halves T) hr r trivial (ea_cons (vE 0) ea_nil)) (tg_tup rfl (tgs_cons (tg_name 1 sc_turned.nd) (tgs_cons (tg_name 2 sc_turned.nd) tgs_nil)))) ?_
    refine g_one (g_ret (e_if (k := decide (r.den = 1)) ((t_eqI (vI 2) e_int).to ?_) (fun h => ?_) (fun h => ?_)))
    · by_cases h : r.den = 1
      · rw [decide_eq_true h, decide_eq_true (by omega)]
      · rw [decide_eq_false h, decide_eq_false (by omega)]
    · exact (e_neg (vI 1)).imp fun H v q => .inl ⟨of_decide_eq_true h, q⟩
    · exact (e_tup (ei_cons (e_neg (vI 1)) (ei_cons (vI 2) ei_nil))).imp fun H v q => num_of_tup (r := -r) (of_decide_eq_false h) q
theorem ok_less_by : Fq P w K mg base "less_by" 4 ["one", "other"] [] (spV (fun z : Rat × Rat => Sz 4000 z.1 ∧ Sz 4000 z.2) (fun z => [(VI.num z.1).p, (VI.num z.2).p]) (fun z => VI.num (z.1 - z.2))) :=
  fq_V T.x_less_by sc_less_by (fun _ _ _ _ _ _ us hl => match us, hl with | [_, _], _ => rfl) (fun _ => rfl) fun cdv A outer s H E hr ⟨r, t⟩ ⟨h0, h1⟩ => by
    exact g_one (g_ret ((ev_call (ok_added T) hr (r, -t) ⟨h0, Sz.neg h1⟩ (ea_cons (vE 0) (ea_cons (ev_call (ok_turned T) (hr.mono (by decide)) t trivial (ea_cons (vE 1) ea_nil)) ea_nil))).to (by rw [Rat.sub_eq_add_neg])))
theorem ok_product : Fq P w K mg base "product" 3 ["one", "other"] [] (spV (fun z : Rat × Rat => Sz 4000 z.1 ∧ Sz 4000 z.2) (fun z => [(VI.num z.1).p, (VI.num z.2).p]) (fun z => VI.num (z.1 * z.2))) :=
  fq_V T.x_product sc_product (fun _ _ _ _ _ _ us hl => match us, hl with | [_, _], _ => rfl) (fun _ => rfl) fun cdv A outer s H E hr ⟨r, t⟩ ⟨h0, h1⟩ => by
    have h0 : Sz 4000 r := h0
    have h1 : Sz 4000 t := h1
    have b0 : ((r.den : Nat) : Int).natAbs < 2 ^ 4000 := h0.2
    have b1 : ((t.den : Nat) : Int).natAbs < 2 ^ 4000 := h1.2
    refine g_cons (g_asg (vs := [2, 3, 4, 5]) (e_tup (ei_cons (ev_call (ok_halves T) (hr.mono (by decide)) r trivial (ea_cons (vE 0) ea_nil)) (ei_cons (ev_call (ok_halves T) (hr.mono (by decide)) t trivial (ea_cons (vE 1) ea_nil)) ei_nil)))
      (tg_tup rfl (tgs_cons (tg_tup rfl (tgs_cons (tg_name 2 sc_product.nd) (tgs_cons (tg_name 3 sc_product.nd) tgs_nil))) (tgs_cons (tg_tup rfl (tgs_cons (tg_name 4 sc_product.nd) (tgs_cons (tg_name 5 sc_product.nd) tgs_nil))) tgs_nil)))) ?_
    exact g_one (g_ret ((ev_call (ok_lowest T) hr (_, _) ⟨den2_pos r t, Nat.lt_of_lt_of_le (wide_lt b0 b1) (pow_le (by decide))⟩ (ea_cons (e_mul (vI 2) (vI 4) (mulW h0.1 h1.1 (by decide))) (ea_cons (e_mul (vI 3) (vI 5) (mulW b0 b1 (by decide))) ea_nil))).to (by rw [rmul])))
theorem ok_part_by : Fq P w K mg base "part_by" 3 ["one", "other"] [] (spV (fun z : Rat × Rat => Sz 4000 z.1 ∧ Sz 4000 z.2 ∧ 0 < z.2.num) (fun z => [(VI.num z.1).p, (VI.num z.2).p]) (fun z => VI.num (z.1 / z.2))) :=
  fq_V T.x_part_by sc_part_by (fun _ _ _ _ _ _ us hl => match us, hl with | [_, _], _ => rfl) (fun _ => rfl) fun cdv A outer s H E hr ⟨r, t⟩ ⟨h0, h1, h2⟩ => by
    have h0 : Sz 4000 r := h0
    have h1 : Sz 4000 t := h1
    have h2 : 0 < t.num := h2
    have b0 : ((r.den : Nat) : Int).natAbs < 2 ^ 4000 := h0.2
    have b1 : ((t.den : Nat) : Int).natAbs < 2 ^ 4000 := h1.2
    refine g_cons (g_asg (vs := [2, 3, 4, 5]) (e_tup (ei_cons (ev_call (ok_halves T) (hr.mono (by decide)) r trivial (ea_cons (vE 0) ea_nil)) (ei_cons (ev_call (ok_halves T) (hr.mono (by decide)) t trivial (ea_cons (vE 1) ea_nil)) ei_nil)))
      (tg_tup rfl (tgs_cons (tg_tup rfl (tgs_cons (tg_name 2 sc_part_by.nd) (tgs_cons (tg_name 3 sc_part_by.nd) tgs_nil))) (tgs_cons (tg_tup rfl (tgs_cons (tg_name 4 sc_part_by.nd) (tgs_cons (tg_name 5 sc_part_by.nd) tgs_nil))) tgs_nil)))) ?_
    exact g_one (g_ret ((ev_call (ok_lowest T) hr (_, _) ⟨Int.mul_pos (den_pos r) h2, Nat.lt_of_lt_of_le (wide_lt b0 h1.1) (pow_le (by decide))⟩ (ea_cons (e_mul (vI 2) (vI 5) (mulW h0.1 b1 (by decide))) (ea_cons (e_mul (vI 3) (vI 4) (mulW b0 h1.1 (by decide))) ea_nil))).to (by rw [rdiv])))
theorem ok_sign_in : Fq P w K mg base "sign_in" 2 ["number"] [] (spV (fun _ : Rat => True) (fun r => [(VI.num r).p]) (fun r => VI.int ((if decide (0 < r.num) then 1 else 0) - (if decide (r.num < 0) then 1 else 0)))) :=
  fq_V T.x_sign_in sc_sign_in (fun _ _ _ _ _ _ us hl => match us, hl with | [_], _ => rfl) (fun _ => rfl) fun cdv A outer s H E hr r _ => by
    refine g_cons (g_set 1 sc_sign_in.nd (e_ixT (ev_call (ok_halves T) hr r trivial (ea_cons (vE 0) ea_nil)) e_int rfl)) ?_
    exact g_one (g_ret (e_sub (e_intB T.bl (e_gt (vI 1) e_int)) (e_intB T.bl (e_lt (vI 1) e_int))))
theorem ok_total : Fq P w K mg base "total" 4 ["numbers"] [] (spV (fun rs : List Rat => SzS rs) (fun rs => [.lst (nums rs)]) (fun rs => VI.num (rsum rs))) :=
  fq_V T.x_total sc_total (fun _ _ _ _ _ _ us hl => match us, hl with | [_], _ => rfl) (fun _ => rfl) fun cdv A outer s H E hr rs hs => by
    refine g_cons (g_set 1 sc_total.nd (P := VI.num 0) (e_int.imp fun H v q => num_of_int rfl q)) ?_
    refine g_cons ((g_for (vs := [2]) PassesOwn.never rfl (fun pre : List Rat => [.e (.lst (nums rs)), .i (VI.num (rsum pre)), .u]) (fun pre a => [.e (.lst (nums rs)), .i (VI.num (rsum pre)), .i (VI.num a)]) (it_list (F := VI.num) (lE 0) rfl) (fun pre a post _ => tg_name 2 sc_total.nd) (fun pre a post e => ?_))) (g_one (g_ret (vI 1)))
    refine g_one ((g_set 1 sc_total.nd (ev_call (ok_added T) hr (rsum pre, a) ⟨by have := hs.2 pre.length; rw [take_pre e] at this; exact this, hs.1 a (mem_mid e)⟩ (ea_cons (vI 1) (ea_cons (vI 2) ea_nil)))).toLe ⟨rfl, fun i U hi => ?_⟩)
    rw [rsum_snoc] at hi
    match i, hi with
    | 0, hi => exact .inr hi
    | 1, hi => exact .inr hi
    | 2, hi => exact .inl (Option.some.inj hi).symm
theorem ok_multiplied : Fq P w K mg base "multiplied" 4 ["numbers"] [] (spV (fun rs : List Rat => SzP rs) (fun rs => [.lst (nums rs)]) (fun rs => VI.num (rprod rs))) :=
  fq_V T.x_multiplied sc_multiplied (fun _ _ _ _ _ _ us hl => match us, hl with | [_], _ => rfl) (fun _ => rfl) fun cdv A outer s H E hr rs hs => by
    refine g_cons (g_set 1 sc_multiplied.nd (P := VI.num 1) (e_int.imp fun H v q => num_of_int rfl q)) ?_
    refine g_cons ((g_for (vs := [2]) PassesOwn.never rfl (fun pre : List Rat => [.e (.lst (nums rs)), .i (VI.num (rprod pre)), .u]) (fun pre a => [.e (.lst (nums rs)), .i (VI.num (rprod pre)), .i (VI.num a)]) (it_list (F := VI.num) (lE 0) rfl) (fun pre a post _ => tg_name 2 sc_multiplied.nd) (fun pre a post e => ?_))) (g_one (g_ret (vI 1)))
    refine g_one ((g_set 1 sc_multiplied.nd (ev_call (ok_product T) hr (rprod pre, a) ⟨by have := hs.2 pre.length; rw [take_pre e] at this; exact this, hs.1 a (mem_mid e)⟩ (ea_cons (vI 1) (ea_cons (vI 2) ea_nil)))).toLe ⟨rfl, fun i U hi => ?_⟩)
    rw [rprod_snoc] at hi
    match i, hi with
    | 0, hi => exact .inr hi
    | 1, hi => exact .inr hi
    | 2, hi => exact .inl (Option.some.inj hi).symm
end
end K8
end
section
set_option Elab.async false
set_option linter.all false
set_option maxRecDepth 100000
set_option maxHeartbeats 1000000
set_option autoImplicit false
namespace K8
open PySem L2
open Evl (Ex)
theorem zip_map_fst {α β γ : Type} (f : α → β → γ) : ∀ (xs : List α) (ys : List β), (xs.zip ys).map (fun z => f z.1 z.2) = List.zipWith f xs ys
  | [], _ => by simp
  | _ :: _, [] => by simp
  | x :: xs, y :: ys => by simp [zip_map_fst f xs ys]
/-- what a row pays at another -/
def dot (rs ss : List Rat) : Rat := rsum (List.zipWith (fun a b => a * b) rs ss)
theorem raise_inv {n : Int} {m j : Nat} : n ^ (m % 2 ^ (j + 1)) = if m / 2 ^ j % 2 = 1 then n ^ (m % 2 ^ j) * n ^ (2 ^ j) else n ^ (m % 2 ^ j) := by
  have h : m % 2 ^ (j + 1) = m % 2 ^ j + 2 ^ j * (m / 2 ^ j % 2) := by
    rw [Nat.pow_succ, Nat.mod_mul]
  by_cases e : m / 2 ^ j % 2 = 1
  · rw [if_pos e, h, e, Nat.mul_one, Int.pow_add]
  · have e0 : m / 2 ^ j % 2 = 0 := by omega
    rw [if_neg e, h, e0, Nat.mul_zero, Nat.add_zero]
theorem natAbs_pow_lt {n : Int} {k : Nat} (h : n.natAbs < 2 ^ k) (m : Nat) : (n ^ m).natAbs < 2 ^ (k * m + 1) := by
  rw [Int.natAbs_pow]
  have h1 : n.natAbs ^ m ≤ (2 ^ k) ^ m := Nat.pow_le_pow_left (by omega) m
  rw [← Nat.pow_mul] at h1
  rw [Nat.pow_succ]
  have h2 : 0 < 2 ^ (k * m) := Nat.pos_of_ne_zero (by simp)
  omega
section
variable {X : Cx} {Γ : Ctx} {pos : Pos} {a b : Expr} {m : Int}
theorem e_and1 (ha : EV X a Γ (ei m)) (hb : EV X b Γ (ei 1)) : EV X (.BinOp a .BitAnd b pos) Γ (ei (m % 2)) := e_op2 op_andM ha hb fun x y H hx hy Q q => ⟨m, 1, hx, hy, q _ H Ex.r rfl⟩
theorem e_shr1 (ha : EV X a Γ (ei m)) (hb : EV X b Γ (ei 1)) : EV X (.BinOp a .RShift b pos) Γ (ei (m / 2)) := e_op2 op_shrN ha hb fun x y H hx hy Q q => ⟨m, 1, hx, hy, q _ H Ex.r rfl⟩
end
/-- what choose_in reckons -/
def chs (m : Int) (ts : List Nat) : Int := ts.foldl (fun (f : Int) (t : Nat) => f * (m - t) / ((t : Int) + 1)) 1
theorem chs_snoc (m : Int) (ts : List Nat) (t : Nat) : chs m (ts ++ [t]) = chs m ts * (m - t) / ((t : Int) + 1) := by simp [chs, List.foldl_append]
theorem chs_lt {m : Int} (hm : m.natAbs ≤ 500) : ∀ (k : Nat), k ≤ 500 → (chs m (List.range k)).natAbs < 2 ^ (10 * k + 1)
  | 0, _ => by
    show (1 : Int).natAbs < 2
    decide
  | k + 1, h => by
    rw [List.range_succ, chs_snoc]
    have ih := chs_lt hm k (by omega)
    refine Nat.lt_of_le_of_lt (ediv_natAbs_le _ (by omega)) ?_
    rw [Int.natAbs_mul, show 10 * (k + 1) + 1 = (10 * k + 1) + 10 by omega]
    exact mul_lt_pow ih (by omega)
section
variable {P : Program} {w : World} {K : PySem.W.Frag} {mg : Str → Option Value} {base : Heap} (T : Tx K mg)
include T
theorem ok_summed : Fq P w K mg base "summed" 5 ["row", "other"] [] (spV (fun z : List Rat × List Rat => z.1.length = z.2.length ∧ z.1.length ≤ 1000 ∧ (∀ r ∈ z.1, Sz 4000 r) ∧ (∀ r ∈ z.2, Sz 4000 r) ∧ SzS (List.zipWith (fun a b => a * b) z.1 z.2)) (fun z => [(VI.tup (nums z.1)).p, (VI.tup (nums z.2)).p]) (fun z => VI.num (dot z.1 z.2))) :=
  fq_V T.x_summed sc_summed (fun _ _ _ _ _ _ us hl => match us, hl with | [_, _], _ => rfl) (fun _ => rfl) fun cdv A outer s H E hr ⟨rs, ss⟩ ⟨h0, hl0, h1, h2, h3⟩ => by
    have h0 : rs.length = ss.length := h0
    have h3 : SzS (List.zipWith (fun a b => a * b) rs ss) := h3
    have hl : (rs.zip ss).length ≤ 100000 := by
      rw [List.length_zip]
      have : rs.length ≤ 1000 := hl0
      omega
    refine g_one (g_ret (ev_call (ok_total T) hr _ h3 (ea_cons (EF.v ((ef_lc (own := [("one", 2), ("its", 3)]) (xs := rs.zip ss) (F := fun z => VI.tup [VI.num z.1, VI.num z.2]) (G := fun z => VI.num (z.1 * z.2)) (Γe := fun z => [.e (VI.tup (nums rs)).p, .e (VI.tup (nums ss)).p, .i (VI.num z.1), .i (VI.num z.2)]) rfl sc_summed.nd (blkOk_by (N := nm_summed) (sc := defScope st_summed) (by decide +kernel))
      (it_zipT T.bl (vE 0) (vE 1) rfl rfl h0) hl (fun s h C cl fp z hz => tg_tup rfl (tgs_cons (tg_name 2 sc_summed.nd) (tgs_cons (tg_name 3 sc_summed.nd) tgs_nil)))
      (fun s h C cl fp z hz => ev_call (ok_product T) (hr.mono (by decide)) (z.1, z.2) ⟨h1 _ (List.of_mem_zip hz).1, h2 _ (List.of_mem_zip hz).2⟩ (ea_cons (vI 2) (ea_cons (vI 3) ea_nil)))).to ?_)) ea_nil)))
    rw [nums, ← zip_map_fst, List.map_map]
    rfl
theorem ok_raised : Fq P w K mg base "raised" 1 ["integer", "many"] [] (spV (fun z : Int × Nat × Nat => z.1.natAbs < 2 ^ z.2.2 ∧ z.2.2 * z.2.1 ≤ 400000) (fun z => [ei z.1, ei z.2.1]) (fun z => VI.int (z.1 ^ z.2.1))) :=
  fq_V T.x_raised sc_raised (fun _ _ _ _ _ _ us hl => match us, hl with | [_, _], _ => rfl) (fun _ => rfl) fun cdv A outer s H E hr ⟨n, m, k⟩ ⟨h0, h1⟩ => by
    have h0 : n.natAbs < 2 ^ k := h0
    have h1 : k * m ≤ 400000 := h1
    refine g_cons (GT.to (Γ2 := [.e (ei n), .e (ei m), .i (VI.int (n ^ (m % 2 ^ 0))), .i (VI.int (n ^ (2 ^ 0))), .i (VI.int ((m / 2 ^ 0 : Nat) : Int))]) (g_par3 2 3 4 rfl sc_raised.nd (P := VI.int 1) (Q := VI.int n) (S := VI.int (m : Int)) e_int (vE 0) (vE 1)) ?_) ?_
    · rw [Nat.pow_zero, Nat.mod_one, Int.pow_zero, Int.pow_succ, Int.pow_zero, Int.one_mul, Nat.div_one]
      rfl
    refine g_cons (g_while PassesOwn.never (fun j : Nat => [.e (ei n), .e (ei m), .i (VI.int (n ^ (m % 2 ^ j))), .i (VI.int (n ^ (2 ^ j))), .i (VI.int ((m / 2 ^ j : Nat) : Int))]) (fun j => j = 0 ∨ 2 ^ (j - 1) ≤ m) (fun j => m / 2 ^ j) (fun j => decide (0 < m / 2 ^ j)) (Γ' := [.u, .u, .i (VI.int (n ^ m)), .u, .u]) 0 (.inl rfl) ?_ ?_ ?_) (g_one (g_ret (vI 2)))
    · intro j _
      refine (t_gt (vI 4) e_int).to ?_
      generalize m / 2 ^ j = q
      exact decide_eq_decide.mpr (by omega)
    · intro j hI hc
      have hc : 0 < m / 2 ^ j := of_decide_eq_true hc
      have hj : 2 ^ j ≤ m := by
        have := Nat.div_pos_iff.mp hc
        exact this.2
      have b1 : (n ^ (m % 2 ^ j)).natAbs < 2 ^ (k * m + 1) := Nat.lt_of_lt_of_le (natAbs_pow_lt h0 _) (pow_le (by have := Nat.mul_le_mul_left k (Nat.mod_le m (2 ^ j)); omega))
      have b2 : (n ^ (2 ^ j)).natAbs < 2 ^ (k * m + 1) := Nat.lt_of_lt_of_le (natAbs_pow_lt h0 _) (pow_le (by have := Nat.mul_le_mul_left k hj; omega))
      have eh : m / 2 ^ (j + 1) = m / 2 ^ j / 2 := by rw [Nat.pow_succ, Nat.div_div_eq_div_mul]
      refine ⟨j + 1, .inr hj, by rw [eh]; omega, ?_⟩
      refine g_cons (Γ' := [.e (ei n), .e (ei m), .i (VI.int (n ^ (m % 2 ^ (j + 1)))), .i (VI.int (n ^ (2 ^ j))), .i (VI.int ((m / 2 ^ j : Nat) : Int))]) (g_if (k := decide (m / 2 ^ j % 2 = 1)) ((t_eqI (e_and1 (vI 4) e_int) e_int).to ?_) (fun h => ?_) (fun h => ?_)) (g_one ((g_par 3 4 rfl sc_raised.nd (e_mul (vI 3) (vI 3) (mulW b2 b2 (by omega))) (e_shr1 (vI 4) e_int)).to ?_))
      · by_cases e : m / 2 ^ j % 2 = 1
        · rw [decide_eq_true e, decide_eq_true (by generalize m / 2 ^ j = q at e; omega)]
        · rw [decide_eq_false e, decide_eq_false (by generalize m / 2 ^ j = q at e; omega)]
      · rw [raise_inv, if_pos (of_decide_eq_true h)]
        exact g_one ((g_set 2 sc_raised.nd (e_mul (vI 2) (vI 3) (mulW b1 b2 (by omega)))).to rfl)
      · rw [raise_inv, if_neg (of_decide_eq_false h)]
        exact g_nil
      · rw [eh, Nat.pow_succ 2 j, Nat.mul_two, Int.pow_add]
        rfl
    · intro j hI hc
      have hc : m / 2 ^ j = 0 := by
        have := of_decide_eq_false hc
        generalize m / 2 ^ j = q at this
        omega
      have hm : m % 2 ^ j = m := Nat.mod_eq_of_lt (by
        rcases Nat.div_eq_zero_iff.mp hc with z | z
        · exact absurd z (by simp)
        · exact z)
      rw [hm]
      refine ⟨rfl, fun i U hi => ?_⟩
      match i, hi with
      | 0, hi => exact .inl (Option.some.inj hi).symm
      | 1, hi => exact .inl (Option.some.inj hi).symm
      | 2, hi => exact .inr hi
      | 3, hi => exact .inl (Option.some.inj hi).symm
      | 4, hi => exact .inl (Option.some.inj hi).symm
end
end K8
end
section
set_option Elab.async false
set_option linter.all false
set_option maxRecDepth 100000
set_option maxHeartbeats 1000000
set_option autoImplicit false
namespace K8
open PySem L2
open Evl (Ex)
section
variable {P : Program} {w : World} {K : PySem.W.Frag} {mg : Str → Option Value} {base : Heap} {x name qual : Str} {st : Stmt} {N ps : List Str} {k : Nat} {ι : Type} {pre : ι → Prop} {args : ι → List VP} {res : ι → VI} {dvs : List V}
/-- a def with defaults, n values written -/
theorem fq_VD (n : Nat) (D : Df K mg x name qual st dvs) (S : FnScope N ps (defScope st)) (hd : dvs ≠ []) (hn : n + (dvs.length - 0) = ps.length)
    (hbd : ∀ (T : Addr) (kV doc pm : Value) (an : Option Addr) (cdv ct : Value) (us its : List Value), us.length = n → its.length = dvs.length →
      ∃ k, bindArgs (PySem.W.fnOf name qual (defArgs st) (defBody st) (defScope st) (.ref T) kV doc pm an cdv ct) ⟨us, []⟩ = seqItems? (.ref T) >>= k ∧ k (some its.toArray) = pure (ps.zip (us ++ its.drop 0))) (hl : ∀ i, (args i).length = ps.length)
    (hb : ∀ (cdv : Value) (A : Around) (outer : List Env) (s : Shared) (H : Hp) (E : XK), Room k (A.deeper (PyProof.Rows.envOfC qual (defScope st) s.heap.objs.size (He.ga K x) cdv)) → ∀ i, pre i →
      GS (cxOf CX0 P w K mg base N qual (defScope st) (He.ga K x) cdv A outer s H E).nox (defBody st) (ctx0 N (args i)) (endN (res i)) (.i (res i))) : Fq P w K mg base x (k + 1) ps dvs (spV pre args res) := by
  obtain ⟨fd, F⟩ := D.fn
  obtain ⟨ds, v, b⟩ := F.binds1 n 0 hd hn hbd
  exact ⟨_, fd, ds, fn_V F S hl hb, D.mg, F.kp, b, v⟩
variable {X : Cx} {Γ : Ctx} {pos : Pos} {e : Expr}
theorem e_gInt {x : Str} {n : Int} (h : ∃ t, X.mg x = some (.int n t)) (hg : Gl X x := by rfl) (hd : (x == ("__debug__" : Str)) = false := by decide) : EV X (.Name x pos) Γ (ei n) := by
  obtain ⟨t, h⟩ := h
  exact e_glob (v := .int n) h ⟨t, rfl⟩ hg hd
theorem EV.any {P : VP} (h : EV X e Γ P) : EV X e Γ VI.any.p := h.imp fun _ _ _ => trivial
end
/-- the kinds of things that are asked what they are -/
inductive Kd where
  | i (n : Int)
  | t (Ps : List VI)
  | l (Ps : List VI)
  | q (r : Rat)
def Kd.vp : Kd → VP
  | .i n => ei n
  | .t Ps => (VI.tup Ps).p
  | .l Ps => .lst Ps
  | .q r => (VI.num r).p
def Kd.isI : Kd → Bool
  | .i _ => true
  | .q r => decide (r.den = 1)
  | _ => false
def Kd.isL : Kd → Bool
  | .i _ => false
  | .q r => !decide (r.den = 1)
  | _ => true
def opt : Option Int → VP
  | none => VI.non.p
  | some m => ei m
def within (n l : Int) : Option Int → Bool
  | none => decide (l ≤ n)
  | some m => decide (l ≤ n) && decide (n ≤ m)
theorem ki_li {K : PySem.W.Frag} : PySem.W.kitOne K (.type "list") (.type "int") = some false := kit_ty (by decide +kernel)
theorem num_pos_den {r : Rat} (h : r.den ≠ 1) : 2 ≤ (r.den : Int) := by
  have := r.den_nz
  omega
theorem num_gcd (r : Rat) : Int.gcd r.num (r.den : Int) = 1 := r.reduced
/-- a sum, above and under one line -/
def sfold (rs : List Rat) : Int × Int := rs.foldl (fun z r => (z.1 * r.den + r.num * z.2, z.2 * r.den)) (0, 1)
theorem sfold_snoc (rs : List Rat) (r : Rat) : sfold (rs ++ [r]) = ((sfold rs).1 * r.den + r.num * (sfold rs).2, (sfold rs).2 * r.den) := by simp [sfold, List.foldl_append]
theorem rev_ind {α : Type} {p : List α → Prop} (h0 : p []) (h1 : ∀ l a, p l → p (l ++ [a])) : ∀ l, p l := by
  intro l
  have : ∀ m : List α, p m.reverse := by
    intro m
    induction m with
    | nil => exact h0
    | cons a m ih =>
      rw [List.reverse_cons]
      exact h1 _ a ih
  have h := this l.reverse
  rw [List.reverse_reverse] at h
  exact h
theorem sfold_ok (rs : List Rat) : 0 < (sfold rs).2 ∧ rsum rs = Rat.divInt (sfold rs).1 (sfold rs).2 := by
  induction rs using rev_ind with
  | h0 => exact ⟨by decide, by decide⟩
  | h1 l a ih =>
    rw [sfold_snoc, rsum_snoc]
    refine ⟨Int.mul_pos ih.1 (den_pos a), ?_⟩
    have h := Rat.divInt_add_divInt (sfold l).1 a.num (d₁ := (sfold l).2) (d₂ := (a.den : Int)) (by have := ih.1; omega) (by have := den_pos a; omega)
    rw [Rat.num_divInt_den, ← ih.2] at h
    exact h
theorem sfold_lt {k : Nat} : ∀ {rs : List Rat}, (∀ r ∈ rs, Sz k r) → (sfold rs).1.natAbs < 2 ^ (rs.length * (k + 1) + 1) ∧ (sfold rs).2.natAbs < 2 ^ (rs.length * k + 1) := by
  intro rs
  induction rs using rev_ind with
  | h0 => intro _; exact ⟨by show (0 : Int).natAbs < _; exact Nat.pos_of_ne_zero (by simp), by show (1 : Int).natAbs < _; exact Nat.one_lt_two_pow (by simp)⟩
  | h1 l a ih =>
    intro h
    obtain ⟨i1, i2⟩ := ih fun r hr => h r (by simp [hr])
    obtain ⟨s1, s2⟩ := h a (by simp)
    rw [sfold_snoc, List.length_append]
    constructor
    · have h1 := Int.natAbs_add_le ((sfold l).1 * a.den) (a.num * (sfold l).2)
      rw [Int.natAbs_mul, Int.natAbs_mul] at h1
      have h2 := mul_lt_pow i1 s2
      have h3 := mul_lt_pow s1 i2
      simp only [Int.natAbs_natCast] at h1
      have h4 : 2 ^ (k + (l.length * k + 1)) ≤ 2 ^ (l.length * (k + 1) + 1 + k) := pow_le (by simp only [Nat.mul_add]; omega)
      refine Nat.lt_of_lt_of_le (Nat.lt_of_le_of_lt h1 (show _ < 2 ^ (l.length * (k + 1) + 1 + k + 1) by rw [Nat.pow_succ]; omega)) (pow_le ?_)
      simp only [List.length_singleton, Nat.add_mul]
      omega
    · rw [Int.natAbs_mul]
      refine Nat.lt_of_lt_of_le (mul_lt_pow i2 s2) (pow_le ?_)
      simp only [List.length_singleton, Nat.add_mul]
      omega
theorem sfold_one (rs : List Rat) : ((sfold rs).1 = (sfold rs).2) ↔ rsum rs = 1 := by
  obtain ⟨h1, h2⟩ := sfold_ok rs
  rw [h2, Rat.divInt_eq_div]
  have hne : ((sfold rs).2 : Rat) ≠ 0 := by
    intro e
    have := Rat.intCast_eq_zero_iff.mp e
    omega
  constructor
  · intro e
    rw [e]
    rw [Rat.div_def, Rat.mul_inv_cancel _ hne]
  · intro e
    have e2 : ((sfold rs).1 : Rat) = (sfold rs).2 := by
      have := congrArg (fun z => z * ((sfold rs).2 : Rat)) e
      simp only [Rat.one_mul] at this
      rw [Rat.div_mul_cancel hne] at this
      exact this
    exact Rat.intCast_inj.mp e2
section
variable {P : Program} {w : World} {K : PySem.W.Frag} {mg : Str → Option Value} {base : Heap} (T : Tx K mg)
include T
theorem ok_power_in : Fq P w K mg base "power_in" 3 ["number", "many"] [] (spV (fun z : Rat × Nat × Nat => Sz z.2.2 z.1 ∧ z.2.2 * z.2.1 ≤ 8000) (fun z => [(VI.num z.1).p, ei z.2.1]) (fun z => VI.num (z.1 ^ z.2.1))) :=
  fq_V T.x_power_in sc_power_in (fun _ _ _ _ _ _ us hl => match us, hl with | [_, _], _ => rfl) (fun _ => rfl) fun cdv A outer s H E hr ⟨r, m, k⟩ ⟨h0, h1⟩ => by
    have h0 : Sz k r := h0
    have h1 : k * m ≤ 8000 := h1
    have b0 : ((r.den : Nat) : Int).natAbs < 2 ^ k := h0.2
    refine g_cons (g_asg (vs := [2, 3]) (ev_call (ok_halves T) (hr.mono (by decide)) r trivial (ea_cons (vE 0) ea_nil)) (tg_tup rfl (tgs_cons (tg_name 2 sc_power_in.nd) (tgs_cons (tg_name 3 sc_power_in.nd) tgs_nil)))) ?_
    refine g_one (g_ret (e_if (k := decide (r.den = 1)) ((t_eqI (vI 3) e_int).to ?_) (fun h => ?_) (fun h => ?_)))
    · by_cases h : r.den = 1
      · rw [decide_eq_true h, decide_eq_true (by omega)]
      · rw [decide_eq_false h, decide_eq_false (by omega)]
    · refine EV.imp (ev_call (ok_raised T) (hr.mono (by decide)) (r.num, m, k) ⟨h0.1, Nat.le_trans h1 (by decide)⟩ (ea_cons (vI 2) (ea_cons (vE 1) ea_nil))) fun H v q => .inl ⟨?_, ?_⟩
      · show (r ^ m).den = 1
        rw [Rat.den_pow, of_decide_eq_true h, Nat.one_pow]
      · show v = .int (r ^ m).num
        rw [Rat.num_pow]
        exact q
    · refine EV.to (ev_call (ok_lowest T) (hr.mono (by decide)) (r.num ^ m, (r.den : Int) ^ m) ⟨Int.pow_pos (den_pos r), Nat.lt_of_lt_of_le (natAbs_pow_lt b0 m) (pow_le (by omega))⟩ (ea_cons (ev_call (ok_raised T) (hr.mono (by decide)) (r.num, m, k) ⟨h0.1, Nat.le_trans h1 (by decide)⟩ (ea_cons (vI 2) (ea_cons (vE 1) ea_nil))) (ea_cons (ev_call (ok_raised T) (hr.mono (by decide)) ((r.den : Int), m, k) ⟨b0, Nat.le_trans h1 (by decide)⟩ (ea_cons (vI 3) (ea_cons (vE 1) ea_nil))) ea_nil))) ?_
      show (VI.num (Rat.divInt (r.num ^ m) ((r.den : Int) ^ m))).p = (VI.num (r ^ m)).p
      rw [← Rat.num_divInt_den (r ^ m), Rat.num_pow, Rat.den_pow, Int.natCast_pow]
theorem ok_choose_in : Fq P w K mg base "choose_in" 1 ["many", "some"] [] (spV (fun z : Int × Nat => z.1.natAbs ≤ 400 ∧ z.2 ≤ 100) (fun z => [ei z.1, ei z.2]) (fun z => VI.int (chs z.1 (List.range z.2)))) :=
  fq_V T.x_choose_in sc_choose_in (fun _ _ _ _ _ _ us hl => match us, hl with | [_, _], _ => rfl) (fun _ => rfl) fun cdv A outer s H E hr ⟨m, k⟩ ⟨h0, h1⟩ => by
    have h0 : m.natAbs ≤ 400 := h0
    have h1 : k ≤ 100 := h1
    refine g_cons (g_set 2 sc_choose_in.nd e_int) ?_
    refine g_cons ((g_for (vs := [3]) PassesOwn.never rfl (fun ts : List Nat => [.e (ei m), .e (ei k), .i (VI.int (chs m ts)), .u]) (fun ts t => [.e (ei m), .e (ei k), .i (VI.int (chs m ts)), .i (VI.int (t : Int))]) (it_range T.bl (vE 1) (by omega)) (fun pre a post _ => tg_name 3 sc_choose_in.nd) (fun pre a post e => ?_))) (g_one (g_ret (vI 2)))
    have ha : a = pre.length := by
      have h := congrArg (fun l : List Nat => l[pre.length]?) e
      simp only [List.getElem?_append_right (Nat.le_refl _), Nat.sub_self, List.getElem?_cons_zero] at h
      obtain ⟨_, h⟩ := List.getElem?_eq_some_iff.mp h
      simpa using h.symm
    have hpre : pre = List.range a := by
      have h := take_pre e
      rw [List.take_range] at h
      have hk : pre.length ≤ k := by
        have := congrArg List.length e
        simp at this
        omega
      rw [Nat.min_eq_left hk] at h
      rw [← h, ha]
    have hak : a < k := by
      have := mem_mid e
      simpa using this
    have b1 : (chs m pre).natAbs < 2 ^ (10 * a + 1) := by
      rw [hpre]
      exact chs_lt (by omega) a (by omega)
    refine g_one ((g_set 2 sc_choose_in.nd (e_fdiv (e_mul (vI 2) (e_sub (vE 0) (vI 3)) (mulW (b := 10) b1 (by omega) (by omega))) (e_add (vI 3) e_int) (divW (b := 10) (by omega) (by omega) (by decide)))).toLe ⟨rfl, fun i U hi => ?_⟩)
    rw [chs_snoc] at hi
    match i, hi with
    | 0, hi => exact .inr hi
    | 1, hi => exact .inr hi
    | 2, hi => exact .inr hi
    | 3, hi => exact .inl (Option.some.inj hi).symm
end
end K8
end
section
set_option Elab.async false
set_option linter.all false
set_option maxRecDepth 100000
set_option maxHeartbeats 1000000
set_option autoImplicit false
namespace K8
open PySem L2
open Evl (Ex)
section
variable {X : Cx} {Γ : Ctx} {pos p : Pos} {e b : Expr}
/-- isinstance(x, int), isinstance(x, (list, tuple)) of such things -/
theorem e_isiI (M : Bl X.mg) {k : Kd} (h : EV X e Γ k.vp) (hb : EV X b Γ (VI.is (.ty "int")).p) (hg : Gl X "isinstance" := by rfl)
    (he : starEach [e, b] X.env = (false, eval e X.env) :: starEach [b] X.env := by rfl) (he2 : starEach [b] X.env = (false, eval b X.env) :: starEach [] X.env := by rfl) (hpl : (backTo pos (starEach [b] X.env)).any (·.1) = false := by rfl) : EV X (.Call (.Name "isinstance" p) [e, b] [] pos) Γ (eb k.isI) := by
  cases k with
  | i n => exact e_isi M h of_int hb (.ty _) ki_ii hg he he2 hpl
  | t Ps => exact e_isi M h of_tup hb (.ty _) ki_ti hg he he2 hpl
  | l Ps => exact e_isi M h of_lst hb (.ty _) ki_li hg he he2 hpl
  | q r =>
    show EV X _ Γ (eb (decide (r.den = 1)))
    by_cases hd : r.den = 1
    · rw [decide_eq_true hd]
      exact e_isi M h (of_num1 hd) hb (.ty _) ki_ii hg he he2 hpl
    · rw [decide_eq_false hd]
      exact e_isi M h (of_num2 hd) hb (.ty _) ki_ti hg he he2 hpl
theorem e_isiL (M : Bl X.mg) {k : Kd} {kk : Nat} {p3 p4 tp : Pos} (h : EV X e Γ k.vp) (hg : Gl X "isinstance" := by rfl) (hg1 : Gl X "list" := by rfl) (hg2 : Gl X "tuple" := by rfl)
    (he : starEach [e, .Tuple [.Name "list" p3, .Name "tuple" p4] kk tp] X.env = (false, eval e X.env) :: starEach [.Tuple [.Name "list" p3, .Name "tuple" p4] kk tp] X.env := by rfl) (hpl : (backTo pos (starEach [.Tuple [.Name "list" p3, .Name "tuple" p4] kk tp] X.env)).any (·.1) = false := by rfl) :
    EV X (.Call (.Name "isinstance" p) [e, .Tuple [.Name "list" p3, .Name "tuple" p4] kk tp] [] pos) Γ (eb k.isL) := by
  cases k with
  | i n => exact e_isiLT M h of_int ki_ilt hg hg1 hg2 he hpl
  | t Ps => exact e_isiLT M h of_tup ki_tlt hg hg1 hg2 he hpl
  | l Ps => exact e_isiLT M h of_lst ki_llt hg hg1 hg2 he hpl
  | q r =>
    show EV X _ Γ (eb (!decide (r.den = 1)))
    by_cases hd : r.den = 1
    · rw [decide_eq_true hd]
      exact e_isiLT M h (of_num1 hd) ki_ilt hg hg1 hg2 he hpl
    · rw [decide_eq_false hd]
      exact e_isiLT M h (of_num2 hd) ki_tlt hg hg1 hg2 he hpl
end
section
variable {P : Program} {w : World} {K : PySem.W.Frag} {mg : Str → Option Value} {base : Heap} (T : Tx K mg)
include T
theorem ok_is_integer : Fq P w K mg base "is_integer" 1 ["value"] [] (spV (fun _ : Kd => True) (fun k => [k.vp]) (fun k => VI.bl k.isI)) :=
  fq_V T.x_is_integer sc_is_integer (fun _ _ _ _ _ _ us hl => match us, hl with | [_], _ => rfl) (fun _ => rfl) fun cdv A outer s H E hr k _ => by
    refine g_one (g_ret ((e_and (e_isiI T.bl (vE 0) (e_bltn (T := "int") T.bl.int (by decide +kernel))) (l := true) fun hk => ?_).to (by rw [Bool.and_true])))
    have hi : ∀ H v, k.vp.ok H v → ∃ n, (ei n).ok H v := fun H v q => by
      cases k with
      | i n => exact ⟨n, q⟩
      | t Ps => cases hk
      | l Ps => cases hk
      | q r => exact ⟨r.num, num_int (of_decide_eq_true hk) q⟩
    refine e_not (k := false) ?_
    refine e_isi T.bl (P := k.vp) (t := .type "int") (vE 0) (fun H v q => ?_) (e_bltn (T := "bool") T.bl.bool (by decide +kernel)) (.ty _) ki_ib
    obtain ⟨n, h⟩ := hi H v q
    exact of_int H v h
theorem ok_is_within : Fq P w K mg base "is_within" 2 ["value", "least", "most"] [] (spV (fun _ : Int × Int × Option Int => True) (fun z => [ei z.1, ei z.2.1, opt z.2.2]) (fun z => VI.bl (within z.1 z.2.1 z.2.2))) :=
  fq_V T.x_is_within sc_is_within (fun _ _ _ _ _ _ us hl => match us, hl with | [_, _, _], _ => rfl) (fun _ => rfl) fun cdv A outer s H E hr ⟨n, l, o⟩ _ => by
    refine g_ifR (k := false) (t_not (k := true) (t_val (ev_call (ok_is_integer T) hr (.i n) trivial (ea_cons (vE 0) ea_nil)))) (fun h => nomatch h) fun _ => ?_
    cases o with
    | none =>
      exact g_one (g_ret ((e_and (k := decide (l ≤ n)) (l := true) ((e_or (k := false) (e_isN (x := .int l) (vE 1) e_non rfl) fun _ => e_le (vE 1) (vE 0)).to (by rw [Bool.false_or])) fun _ => (e_or (k := true) (l := true) (e_isN (x := .non) (vE 2) e_non rfl) fun h => nomatch h)).to (by rw [Bool.and_true]; rfl)))
    | some m =>
      exact g_one (g_ret (e_and (k := decide (l ≤ n)) (l := decide (n ≤ m)) ((e_or (k := false) (e_isN (x := .int l) (vE 1) e_non rfl) fun _ => e_le (vE 1) (vE 0)).to (by rw [Bool.false_or])) fun _ => (e_or (k := false) (e_isN (x := .int m) (vE 2) e_non rfl) fun _ => e_le (vE 0) (vE 2)).to (by rw [Bool.false_or])))
theorem ok_is_list : Fq P w K mg base "is_list" 1 ["value"] [] (spV (fun _ : Kd => True) (fun k => [k.vp]) (fun k => VI.bl k.isL)) :=
  fq_V T.x_is_list sc_is_list (fun _ _ _ _ _ _ us hl => match us, hl with | [_], _ => rfl) (fun _ => rfl) fun cdv A outer s H E hr k _ => g_one (g_ret (e_isiL T.bl (vE 0)))
theorem ok_is_number : Fq P w K mg base "is_number" 3 ["value"] [] (spV (fun _ : Rat => True) (fun r => [(VI.num r).p]) (fun r => VI.bl true)) :=
  fq_V T.x_is_number sc_is_number (fun _ _ _ _ _ _ us hl => match us, hl with | [_], _ => rfl) (fun _ => rfl) fun cdv A outer s H E hr r _ => by
    refine g_ifR (k := decide (r.den = 1)) (t_val (ev_call (ok_is_integer T) (hr.mono (by decide)) (.q r) trivial (ea_cons (vE 0) ea_nil))) (fun _ => g_one (g_ret e_bl)) fun hk => ?_
    have hd : r.den ≠ 1 := of_decide_eq_false hk
    have tv : ∀ {Γ : Ctx} {X : Cx} {e : Expr}, EV X e Γ (VI.num r).p → EV X e Γ (VI.tup [VI.int r.num, VI.int (r.den : Int)]).p := fun h => h.imp fun H v q => num_tup hd q
    refine g_ifR (k := false) ((t_or3 (k := false) (l := false) (r := false) ((t_not (t_val (ev_call (ok_is_list T) (hr.mono (by decide)) (.q r) trivial (ea_cons (vE 0) ea_nil)))).to ?_) (fun _ => t_neI (m := 2) (e_lenT T.bl (tv (vE 0))) e_int) fun _ _ => t_not (t_val (ev_call (ok_is_integer T) (hr.mono (by decide)) (.i r.num) trivial (ea_cons (e_ixT (tv (vE 0)) e_int rfl) ea_nil))))) (fun h => nomatch h) fun _ => ?_
    · show (!(!decide (r.den = 1))) = false
      rw [hk]
      rfl
    · refine g_one (g_ret ((e_and (k := true) (l := true) ((ev_call (ok_is_within T) hr ((r.den : Int), 2, none) trivial (ea_cons (e_ixT (tv (vE 0)) e_int rfl) (ea_cons e_int (ea_cons e_non ea_nil)))).to ?_) fun _ => (e_eqI (ev_call (ok_common T) (hr.mono (by decide)) (r.num, (r.den : Int)) trivial (ea_cons (e_ixT (tv (vE 0)) e_int rfl) (ea_cons (e_ixT (tv (vE 0)) e_int rfl) ea_nil))) e_int).to ?_)))
      · show eb (decide (2 ≤ (r.den : Int))) = eb true
        rw [decide_eq_true (num_pos_den hd)]
      · show eb (decide (((Int.gcd r.num (r.den : Int) : Nat) : Int) = 1)) = eb true
        rw [num_gcd]
        rfl
theorem ok_above_in : Fq P w K mg base "above_in" 2 ["number"] [] (spV (fun _ : Rat => True) (fun r => [(VI.num r).p]) (fun r => VI.int r.num)) :=
  fq_V T.x_above_in sc_above_in (fun _ _ _ _ _ _ us hl => match us, hl with | [_], _ => rfl) (fun _ => rfl) fun cdv A outer s H E hr r _ => by
    refine g_one (g_ret (e_if (k := !decide (r.den = 1)) (t_val (ev_call (ok_is_list T) hr (.q r) trivial (ea_cons (vE 0) ea_nil))) (fun h => ?_) fun h => ?_))
    · exact e_ixT ((vE 0).imp fun H v q => num_tup (r := r) (of_decide_eq_false (by simpa using h)) q) e_int rfl
    · exact (vE 0).imp fun H v q => num_int (r := r) (of_decide_eq_true (by simpa using h)) q
theorem ok_is_from_0 : Fq P w K mg base "is_from_0" 4 ["value"] [] (spV (fun _ : Rat => True) (fun r => [(VI.num r).p]) (fun r => VI.bl (decide (0 ≤ r.num)))) :=
  fq_V T.x_is_from_0 sc_is_from_0 (fun _ _ _ _ _ _ us hl => match us, hl with | [_], _ => rfl) (fun _ => rfl) fun cdv A outer s H E hr r _ => by
    exact g_one (g_ret ((e_and (k := true) (ev_call (ok_is_number T) hr r trivial (ea_cons (vE 0) ea_nil)) fun _ => e_ge (ev_call (ok_above_in T) (hr.mono (by decide)) r trivial (ea_cons (vE 0) ea_nil)) e_int).to (by rw [Bool.true_and])))
theorem ok_is_row : Fq P w K mg base "is_row" 5 ["value", "many"] [] (spV (fun z : List Rat × Int => z.1.length ≤ 1000) (fun z => [(VI.tup (nums z.1)).p, ei z.2]) (fun z => VI.bl (decide ((z.1.length : Int) = z.2) && z.1.all fun r => decide (0 ≤ r.num)))) :=
  fq_V T.x_is_row sc_is_row (fun _ _ _ _ _ _ us hl => match us, hl with | [_, _], _ => rfl) (fun _ => rfl) fun cdv A outer s H E hr ⟨rs, m⟩ h0 => by
    have h0 : rs.length ≤ 1000 := h0
    refine g_one (g_ret ((e_and3 (k := true) (l := decide ((rs.length : Int) = m)) (r := rs.all fun r => decide (0 ≤ r.num)) (ev_call (ok_is_list T) (hr.mono (by decide)) (.t (nums rs)) trivial (ea_cons (vE 0) ea_nil)) (fun _ => (e_eqI (e_lenT T.bl (vE 0)) (vE 1)).to (by rw [List.length_map])) fun _ _ => ?_).to (by rw [Bool.true_and])))
    refine (e_all T.bl (ns := rs.map fun r => decide (0 ≤ r.num)) rfl (EF.v ((ef_lc (own := [("each", 2)]) (xs := rs) (F := VI.num) (G := fun r => VI.bl (decide (0 ≤ r.num))) (Γe := fun r => [.e (VI.tup (nums rs)).p, .e (ei m), .i (VI.num r)]) rfl sc_is_row.nd (blkOk_by (N := nm_is_row) (sc := defScope st_is_row) (by decide +kernel))
      (it_tup (vE 0) rfl) (by omega) (fun s h C cl fp z hz => tg_name 2 sc_is_row.nd) (fun s h C cl fp z hz => ev_call (ok_is_from_0 T) hr z trivial (ea_cons (vI 2) ea_nil))).to (by rw [List.map_map]; rfl)))).to ?_
    rw [List.all_map]
    rfl
theorem ok_is_sum_1 : Fq P w K mg base "is_sum_1" 2 ["row"] [] (spV (fun rs : List Rat => rs.length ≤ 60 ∧ ∀ r ∈ rs, Sz 4000 r) (fun rs => [(VI.tup (nums rs)).p]) (fun rs => VI.bl (decide (rsum rs = 1)))) :=
  fq_V T.x_is_sum_1 sc_is_sum_1 (fun _ _ _ _ _ _ us hl => match us, hl with | [_], _ => rfl) (fun _ => rfl) fun cdv A outer s H E hr rs ⟨h0, h1⟩ => by
    have h0 : rs.length ≤ 60 := h0
    refine g_cons (g_asg (vs := [1, 2]) (e_tup (ei_cons e_int (ei_cons e_int ei_nil))) (tg_tup rfl (tgs_cons (tg_name 1 sc_is_sum_1.nd) (tgs_cons (tg_name 2 sc_is_sum_1.nd) tgs_nil)))) ?_
    refine g_cons ((g_for (vs := [3]) PassesOwn.never rfl (fun pre : List Rat => [.e (VI.tup (nums rs)).p, .i (VI.int (sfold pre).1), .i (VI.int (sfold pre).2), .u, .u, .u]) (fun pre a => [.e (VI.tup (nums rs)).p, .i (VI.int (sfold pre).1), .i (VI.int (sfold pre).2), .i (VI.num a), .u, .u]) (it_tup (F := VI.num) (vE 0) rfl) (fun pre a post _ => tg_name 3 sc_is_sum_1.nd) (fun pre a post e => ?_))) (g_one (g_ret ((e_eqI (vI 1) (vI 2)).to ?_)))
    · have hpl : pre.length ≤ 60 := by
        have := congrArg List.length e
        simp at this
        omega
      obtain ⟨b1, b2⟩ := sfold_lt (k := 4000) (rs := pre) fun r hr => h1 r (by rw [e]; simp [hr])
      have b1' := Nat.lt_of_lt_of_le b1 (pow_le (show _ ≤ 300000 by have := Nat.mul_le_mul_right 4001 hpl; omega))
      have b2' := Nat.lt_of_lt_of_le b2 (pow_le (show _ ≤ 300000 by have := Nat.mul_le_mul_right 4000 hpl; omega))
      obtain ⟨a1, a2⟩ := h1 a (mem_mid e)
      have a2 : ((a.den : Nat) : Int).natAbs < 2 ^ 4000 := a2
      refine g_cons (g_asg (vs := [4, 5]) (P := VI.tup [VI.int a.num, VI.int (a.den : Int)]) (e_if (k := !decide (a.den = 1)) (t_val (ev_call (ok_is_list T) (hr.mono (by decide)) (.q a) trivial (ea_cons (vI 3) ea_nil))) (fun h => ?_) fun h => ?_) (tg_tup rfl (tgs_cons (tg_name 4 sc_is_sum_1.nd) (tgs_cons (tg_name 5 sc_is_sum_1.nd) tgs_nil)))) ?_
      · have hd : a.den ≠ 1 := of_decide_eq_false (by simpa using h)
        exact e_tup (ei_cons (e_ixT ((vI (P := VI.num a) 3).imp fun H v q => num_tup hd q) e_int rfl) (ei_cons (e_ixT ((vI (P := VI.num a) 3).imp fun H v q => num_tup hd q) e_int rfl) ei_nil))
      · have hd : a.den = 1 := of_decide_eq_true (by simpa using h)
        exact e_tup (ei_cons ((vI (P := VI.num a) 3).imp fun H v q => num_int hd q) (ei_cons (e_int.to (by rw [hd]; rfl)) ei_nil))
      · refine g_one ((g_par 1 2 rfl sc_is_sum_1.nd (e_add (e_mul (vI 1) (vI 5) (mulW b1' a2 (by decide))) (e_mul (vI 4) (vI 2) (mulW a1 b2' (by decide)))) (e_mul (vI 2) (vI 5) (mulW b2' a2 (by decide)))).toLe ⟨rfl, fun i U hi => ?_⟩)
        rw [sfold_snoc] at hi
        match i, hi with
        | 0, hi => exact .inr hi
        | 1, hi => exact .inr hi
        | 2, hi => exact .inr hi
        | 3, hi => exact .inl (Option.some.inj hi).symm
        | 4, hi => exact .inl (Option.some.inj hi).symm
        | 5, hi => exact .inl (Option.some.inj hi).symm
    · exact congrArg eb (decide_eq_decide.mpr (sfold_one rs))
end
end K8
end
section
set_option Elab.async false
set_option linter.all false
set_option maxRecDepth 100000
set_option maxHeartbeats 1000000
set_option autoImplicit false
namespace K8
open PySem L2
open Evl (Ex)
abbrev rows (mk : List (List Rat)) : List VI := mk.map fun rs => VI.tup (nums rs)
abbrev natz (ns : List Nat) : List VI := ns.map fun n : Nat => VI.int (n : Int)
def rowB (rs : List Rat) (m : Int) : Bool := decide ((rs.length : Int) = m) && rs.all fun r => decide (0 ≤ r.num)
def light (m g : Nat) : List Nat := (List.range m).map fun i => if i = g then 1 else 0
/-- a row of few numbers of such a size -/
def Row (k : Nat) (rs : List Rat) : Prop := rs.length ≤ 5 ∧ ∀ r ∈ rs, Sz k r
theorem dot_szs {rs ss : List Rat} (h1 : Row 40 rs) (h2 : Row 40 ss) : (∀ r ∈ List.zipWith (fun a b => a * b) rs ss, Sz 80 r) ∧ (List.zipWith (fun a b => a * b) rs ss).length ≤ 5 := by
  constructor
  · intro r hr
    rw [← zip_map_fst] at hr
    obtain ⟨z, hz, rfl⟩ := List.mem_map.mp hr
    exact (h1.2 _ (List.of_mem_zip hz).1).mul (h2.2 _ (List.of_mem_zip hz).2)
  · rw [List.length_zipWith]
    have := h1.1
    omega
theorem dot_sz {rs ss : List Rat} (h1 : Row 40 rs) (h2 : Row 40 ss) : Sz 410 (dot rs ss) := by
  obtain ⟨h, l⟩ := dot_szs h1 h2
  exact (Sz.sum h).mono (by have := Nat.mul_le_mul_right 81 l; omega)
section
variable {P : Program} {w : World} {K : PySem.W.Frag} {mg : Str → Option Value} {base : Heap} (T : Tx K mg)
include T
theorem ok_is_mix_of : Fq P w K mg base "is_mix_of" 6 ["value", "goods"] [] (spV (fun z : List Rat × Int => z.1.length ≤ 60 ∧ ∀ r ∈ z.1, Sz 4000 r) (fun z => [(VI.tup (nums z.1)).p, ei z.2]) (fun z => VI.bl (rowB z.1 z.2 && decide (rsum z.1 = 1)))) :=
  fq_V T.x_is_mix_of sc_is_mix_of (fun _ _ _ _ _ _ us hl => match us, hl with | [_, _], _ => rfl) (fun _ => rfl) fun cdv A outer s H E hr ⟨rs, m⟩ ⟨h0, h1⟩ => by
    have h0 : rs.length ≤ 60 := h0
    exact g_one (g_ret (e_and (ev_call (ok_is_row T) hr (rs, m) (by show rs.length ≤ 1000; omega) (ea_cons (vE 0) (ea_cons (vE 1) ea_nil))) fun _ => ev_call (ok_is_sum_1 T) (hr.mono (by decide)) rs ⟨h0, h1⟩ (ea_cons (vE 0) ea_nil)))
theorem ok_is_market_of : Fq P w K mg base "is_market_of" 6 ["value", "goods"] [] (spV (fun z : List (List Rat) × Int => z.1.length ≤ 1000 ∧ ∀ rs ∈ z.1, rs.length ≤ 1000) (fun z => [.lst (rows z.1), ei z.2]) (fun z => VI.bl (z.1.all fun rs => rowB rs z.2))) :=
  fq_V T.x_is_market_of sc_is_market_of (fun _ _ _ _ _ _ us hl => match us, hl with | [_, _], _ => rfl) (fun _ => rfl) fun cdv A outer s H E hr ⟨mk, m⟩ ⟨h0, h1⟩ => by
    have h0 : mk.length ≤ 1000 := h0
    refine g_one (g_ret ((e_and (k := true) (l := mk.all fun rs => rowB rs m) (ev_call (ok_is_list T) (hr.mono (by decide)) (.l (rows mk)) trivial (ea_cons (vE 0) ea_nil)) fun _ => ?_).to (by rw [Bool.true_and])))
    refine (e_all T.bl (ns := mk.map fun rs => rowB rs m) rfl (EF.v ((ef_lc (own := [("day", 2)]) (xs := mk) (F := fun rs => VI.tup (nums rs)) (G := fun rs => VI.bl (rowB rs m)) (Γe := fun rs => [.e (.lst (rows mk)), .e (ei m), .i (VI.tup (nums rs))]) rfl sc_is_market_of.nd (blkOk_by (N := nm_is_market_of) (sc := defScope st_is_market_of) (by decide +kernel))
      (it_list (lE 0) rfl) (by omega) (fun s h C cl fp z hz => tg_name 2 sc_is_market_of.nd) (fun s h C cl fp z hz => ev_call (ok_is_row T) hr (z, m) (h1 z hz) (ea_cons (vI 2) (ea_cons (vE 1) ea_nil)))).to (by rw [List.map_map]; rfl)))).to ?_
    rw [List.all_map]
    rfl
theorem ok_is_word_of : Fq P w K mg base "is_word_of" 3 ["value", "goods"] [] (spV (fun z : List Nat × Nat => z.1.length ≤ 1000) (fun z => [(VI.tup (natz z.1)).p, ei (z.2 : Int)]) (fun z => VI.bl (z.1.all fun g => decide (g < z.2)))) :=
  fq_V T.x_is_word_of sc_is_word_of (fun _ _ _ _ _ _ us hl => match us, hl with | [_, _], _ => rfl) (fun _ => rfl) fun cdv A outer s H E hr ⟨wd, m⟩ h0 => by
    have h0 : wd.length ≤ 1000 := h0
    refine g_one (g_ret ((e_and (k := true) (l := wd.all fun g => decide (g < m)) (ev_call (ok_is_list T) (hr.mono (by decide)) (.t (natz wd)) trivial (ea_cons (vE 0) ea_nil)) fun _ => ?_).to (by rw [Bool.true_and])))
    refine (e_all T.bl (ns := wd.map fun g => decide (g < m)) rfl (EF.v ((ef_lc (own := [("good", 2)]) (xs := wd) (F := fun g => VI.int (g : Int)) (G := fun g => VI.bl (decide (g < m))) (Γe := fun g => [.e (VI.tup (natz wd)).p, .e (ei m), .i (VI.int (g : Int))]) rfl sc_is_word_of.nd (blkOk_by (N := nm_is_word_of) (sc := defScope st_is_word_of) (by decide +kernel))
      (it_tup (vE 0) rfl) (by omega) (fun s h C cl fp z hz => tg_name 2 sc_is_word_of.nd) (fun s h C cl fp z hz => (ev_call (ok_is_within T) hr ((z : Int), 0, some ((m : Int) - 1)) trivial (ea_cons (vI 2) (ea_cons e_int (ea_cons (e_sub (vE 1) e_int) ea_nil)))).to (by
        show eb (decide ((0 : Int) ≤ z) && decide ((z : Int) ≤ (m : Int) - 1)) = eb (decide (z < m))
        rw [decide_eq_true (show (0 : Int) ≤ z by omega), Bool.true_and]
        exact congrArg eb (decide_eq_decide.mpr (by omega))))).to (by rw [List.map_map]; rfl)))).to ?_
    rw [List.all_map]
    rfl
theorem ok_kept : Fq P w K mg base "kept" 1 ["number"] [] (spV (fun _ : Rat => True) (fun r => [(VI.num r).p]) (fun r => VI.num r)) :=
  fq_V T.x_kept sc_kept (fun _ _ _ _ _ _ us hl => match us, hl with | [_], _ => rfl) (fun _ => rfl) fun cdv A outer s H E hr r _ => by
    refine g_one (g_ret (e_if (k := !decide (r.den = 1)) (e_isiL T.bl (k := .q r) (vE 0) |> fun z => t_val z) (fun h => ?_) fun h => vE 0))
    have hd : r.den ≠ 1 := of_decide_eq_false (by simpa using h)
    exact (e_tupT T.bl ((vE 0).imp fun H v q => num_tup hd q)).imp fun H v q => num_of_tup hd q
theorem ok_kept_row : Fq P w K mg base "kept_row" 2 ["row"] [] (spV (fun rs : List Rat => rs.length ≤ 1000) (fun rs => [(VI.tup (nums rs)).p]) (fun rs => VI.tup (nums rs))) :=
  fq_V T.x_kept_row sc_kept_row (fun _ _ _ _ _ _ us hl => match us, hl with | [_], _ => rfl) (fun _ => rfl) fun cdv A outer s H E hr rs h0 => by
    have h0 : rs.length ≤ 1000 := h0
    exact g_one (g_ret (e_tupL T.bl (EF.v (ef_lc (own := [("each", 1)]) (xs := rs) (F := VI.num) (G := VI.num) (Γe := fun r => [.e (VI.tup (nums rs)).p, .i (VI.num r)]) rfl sc_kept_row.nd (blkOk_by (N := nm_kept_row) (sc := defScope st_kept_row) (by decide +kernel))
      (it_tup (vE 0) rfl) (by omega) (fun s h C cl fp z hz => tg_name 1 sc_kept_row.nd) (fun s h C cl fp z hz => ev_call (ok_kept T) hr z trivial (ea_cons (vI 1) ea_nil))))))
theorem ok_need_integer : Fq P w K mg base "need_integer" 3 ["value", "part", "least", "most"] [] (spV (fun z : Int × Int × Int => z.2.1 ≤ z.1 ∧ z.1 ≤ z.2.2) (fun z => [ei z.1, VI.any.p, ei z.2.1, ei z.2.2]) (fun _ => VI.non)) :=
  fq_V T.x_need_integer sc_need_integer (fun _ _ _ _ _ _ us hl => match us, hl with | [_, _, _, _], _ => rfl) (fun _ => rfl) fun cdv A outer s H E hr ⟨n, l, m⟩ ⟨h0, h1⟩ => by
    have h0 : l ≤ n := h0
    have h1 : n ≤ m := h1
    exact gs_end (g_one (g_not ((t_not (t_val (ev_call (ok_is_within T) hr (n, l, some m) trivial (ea_cons (vE 0) (ea_cons (vE 2) (ea_cons (vE 3) ea_nil)))))).to (by show (!(decide (l ≤ n) && decide (n ≤ m))) = false; rw [decide_eq_true h0, decide_eq_true h1]; rfl))))
theorem ok_need_goods : Fq P w K mg base "need_goods" 4 ["value"] [] (spV (fun n : Int => 1 ≤ n ∧ n ≤ 5) (fun n => [ei n]) (fun _ => VI.non)) :=
  fq_V T.x_need_goods sc_need_goods (fun _ _ _ _ _ _ us hl => match us, hl with | [_], _ => rfl) (fun _ => rfl) fun cdv A outer s H E hr n h0 =>
    gs_end (g_one (g_drop (ev_call (ok_need_integer T) hr (n, 1, 5) h0 (ea_cons (vE 0) (ea_cons (EV.any e_str) (ea_cons e_int (ea_cons (e_gInt T.c_MOST_GOODS) ea_nil)))))))
theorem ok_need_days : Fq P w K mg base "need_days" 4 ["value"] [] (spV (fun n : Int => 0 ≤ n ∧ n ≤ 1000) (fun n => [ei n]) (fun _ => VI.non)) :=
  fq_V T.x_need_days sc_need_days (fun _ _ _ _ _ _ us hl => match us, hl with | [_], _ => rfl) (fun _ => rfl) fun cdv A outer s H E hr n h0 =>
    gs_end (g_one (g_drop (ev_call (ok_need_integer T) hr (n, 0, 1000) h0 (ea_cons (vE 0) (ea_cons (EV.any e_str) (ea_cons e_int (ea_cons (e_gInt T.c_MOST_DAYS) ea_nil)))))))
theorem ok_need_day : Fq P w K mg base "need_day" 6 ["value", "goods", "part"] [.str "day"] (spV (fun z : List Rat × Int => z.1.length ≤ 1000 ∧ rowB z.1 z.2 = true) (fun z => [(VI.tup (nums z.1)).p, ei z.2, (VI.str "day").p]) (fun z => VI.tup (nums z.1))) :=
  fq_VD 2 T.x_need_day sc_need_day (by simp) rfl (fun _ _ _ _ _ _ _ us its h1 h2 => match us, its, h1, h2 with | [_, _], [_], _, _ => ⟨_, rfl, rfl⟩) (fun _ => rfl) fun cdv A outer s H E hr ⟨rs, m⟩ ⟨h0, h1⟩ => by
    have h1 : rowB rs m = true := h1
    exact g_cons (g_not ((t_not (t_val (ev_call (ok_is_row T) hr (rs, m) h0 (ea_cons (vE 0) (ea_cons (vE 1) ea_nil))))).to (by show (!rowB rs m) = false; rw [h1]; rfl))) (g_one (g_ret (ev_call (ok_kept_row T) (hr.mono (by decide)) rs h0 (ea_cons (vE 0) ea_nil))))
theorem ok_need_market : Fq P w K mg base "need_market" 7 ["value", "goods", "part"] [.str "market"] (spV (fun z : List (List Rat) × Int => z.1.length ≤ 1000 ∧ (∀ rs ∈ z.1, rs.length ≤ 1000) ∧ (z.1.all fun rs => rowB rs z.2) = true) (fun z => [.lst (rows z.1), ei z.2, (VI.str "market").p]) (fun z => VI.tup (rows z.1))) :=
  fq_VD 2 T.x_need_market sc_need_market (by simp) rfl (fun _ _ _ _ _ _ _ us its h1 h2 => match us, its, h1, h2 with | [_, _], [_], _, _ => ⟨_, rfl, rfl⟩) (fun _ => rfl) fun cdv A outer s H E hr ⟨mk, m⟩ ⟨h0, h1, h2⟩ => by
    have h0 : mk.length ≤ 1000 := h0
    have h2 : (mk.all fun rs => rowB rs m) = true := h2
    refine g_cons (g_not ((t_not (t_val (ev_call (ok_is_market_of T) hr (mk, m) ⟨h0, h1⟩ (ea_cons (vE 0) (ea_cons (vE 1) ea_nil))))).to (by show (!mk.all fun rs => rowB rs m) = false; rw [h2]; rfl))) ?_
    exact g_one (g_ret (e_tupL T.bl (EF.v (ef_lc (own := [("day", 3)]) (xs := mk) (F := fun rs => VI.tup (nums rs)) (G := fun rs => VI.tup (nums rs)) (Γe := fun rs => [.e (.lst (rows mk)), .e (ei m), .e (VI.str "market").p, .i (VI.tup (nums rs))]) rfl sc_need_market.nd (blkOk_by (N := nm_need_market) (sc := defScope st_need_market) (by decide +kernel))
      (it_list (lE 0) rfl) (by omega) (fun s h C cl fp z hz => tg_name 3 sc_need_market.nd) (fun s h C cl fp z hz => ev_call (ok_kept_row T) (hr.mono (by decide)) z (h1 z hz) (ea_cons (vI 3) ea_nil))))))
theorem ok_need_word : Fq P w K mg base "need_word" 4 ["value", "goods", "part"] [.str "word"] (spV (fun z : List Nat × Nat => z.1.length ≤ 1000 ∧ ∀ g ∈ z.1, g < z.2) (fun z => [(VI.tup (natz z.1)).p, ei (z.2 : Int), (VI.str "word").p]) (fun z => VI.tup (natz z.1))) :=
  fq_VD 2 T.x_need_word sc_need_word (by simp) rfl (fun _ _ _ _ _ _ _ us its h1 h2 => match us, its, h1, h2 with | [_, _], [_], _, _ => ⟨_, rfl, rfl⟩) (fun _ => rfl) fun cdv A outer s H E hr ⟨wd, m⟩ ⟨h0, h1⟩ => by
    have h1 : (wd.all fun g => decide (g < m)) = true := List.all_eq_true.mpr fun g hg => decide_eq_true (h1 g hg)
    exact g_cons (g_not ((t_not (t_val (ev_call (ok_is_word_of T) hr (wd, m) h0 (ea_cons (vE 0) (ea_cons (vE 1) ea_nil))))).to (by show (!wd.all fun g => decide (g < m)) = false; rw [h1]; rfl))) (g_one (g_ret (e_tupT T.bl (vE 0))))
theorem ok_lightning_in : Fq P w K mg base "lightning_in" 1 ["goods", "good"] [] (spV (fun z : Nat × Nat => z.1 ≤ 1000) (fun z => [ei (z.1 : Int), ei (z.2 : Int)]) (fun z => VI.tup (natz (light z.1 z.2)))) :=
  fq_V T.x_lightning_in sc_lightning_in (fun _ _ _ _ _ _ us hl => match us, hl with | [_, _], _ => rfl) (fun _ => rfl) fun cdv A outer s H E hr ⟨m, g⟩ h0 => by
    have h0 : m ≤ 1000 := h0
    refine g_one (g_ret ((e_tupL T.bl (EF.v (ef_lc (own := [("each", 2)]) (xs := List.range m) (F := fun i => VI.int (i : Int)) (G := fun i => VI.int ((if i = g then 1 else 0 : Nat) : Int)) (Γe := fun i => [.e (ei m), .e (ei g), .i (VI.int (i : Int))]) rfl sc_lightning_in.nd (blkOk_by (N := nm_lightning_in) (sc := defScope st_lightning_in) (by decide +kernel))
      (it_range T.bl (vE 0) (by omega)) (by simp; omega) (fun s h C cl fp z hz => tg_name 2 sc_lightning_in.nd) (fun s h C cl fp z hz => (e_intB T.bl (e_eqI (vI 2) (vE 1))).to (by
        by_cases e : z = g
        · rw [if_pos e, if_pos (decide_eq_true (by omega))]
          rfl
        · rw [if_neg e, if_neg (by simp; omega)]
          rfl))))).to ?_))
    show (VI.tup _).p = (VI.tup (natz (light m g))).p
    rw [natz, light, List.map_map]
    rfl
theorem ok_lightnings_in : Fq P w K mg base "lightnings_in" 2 ["goods", "word"] [] (spV (fun z : Nat × List Nat => z.1 ≤ 1000 ∧ z.2.length ≤ 1000) (fun z => [ei (z.1 : Int), (VI.tup (natz z.2)).p]) (fun z => VI.tup (z.2.map fun g => VI.tup (natz (light z.1 g))))) :=
  fq_V T.x_lightnings_in sc_lightnings_in (fun _ _ _ _ _ _ us hl => match us, hl with | [_, _], _ => rfl) (fun _ => rfl) fun cdv A outer s H E hr ⟨m, wd⟩ ⟨h0, h1⟩ => by
    have h1 : wd.length ≤ 1000 := h1
    exact g_one (g_ret (e_tupL T.bl (EF.v (ef_lc (own := [("good", 2)]) (xs := wd) (F := fun g => VI.int (g : Int)) (G := fun g => VI.tup (natz (light m g))) (Γe := fun g => [.e (ei m), .e (VI.tup (natz wd)).p, .i (VI.int (g : Int))]) rfl sc_lightnings_in.nd (blkOk_by (N := nm_lightnings_in) (sc := defScope st_lightnings_in) (by decide +kernel))
      (it_tup (vE 1) rfl) (by omega) (fun s h C cl fp z hz => tg_name 2 sc_lightnings_in.nd) (fun s h C cl fp z hz => ev_call (ok_lightning_in T) hr (m, z) h0 (ea_cons (vE 0) (ea_cons (vI 2) ea_nil)))))))
theorem ok_run_in : Fq P w K mg base "run_in" 6 ["shares", "market"] [] (spV (fun z : List Rat × List (List Rat) => Row 40 z.1 ∧ z.2.length ≤ 5 ∧ ∀ rs ∈ z.2, Row 40 rs ∧ rs.length = z.1.length) (fun z => [(VI.tup (nums z.1)).p, (VI.tup (rows z.2)).p]) (fun z => VI.num (rprod (z.2.map fun rs => dot z.1 rs)))) :=
  fq_V T.x_run_in sc_run_in (fun _ _ _ _ _ _ us hl => match us, hl with | [_, _], _ => rfl) (fun _ => rfl) fun cdv A outer s H E hr ⟨ss, mk⟩ ⟨h0, h1, h2⟩ => by
    have h0 : Row 40 ss := h0
    have h1 : mk.length ≤ 5 := h1
    have h2 : ∀ rs ∈ mk, Row 40 rs ∧ rs.length = ss.length := h2
    refine g_one (g_ret (ev_call (ok_multiplied T) (hr.mono (by decide)) (mk.map fun rs => dot ss rs) (szp_of (k := 410) (fun r hr => ?_) ?_ (by decide)) (ea_cons (EF.v ((ef_lc (own := [("day", 2)]) (xs := mk) (F := fun rs => VI.tup (nums rs)) (G := fun rs => VI.num (dot ss rs)) (Γe := fun rs => [.e (VI.tup (nums ss)).p, .e (VI.tup (rows mk)).p, .i (VI.tup (nums rs))]) rfl sc_run_in.nd (blkOk_by (N := nm_run_in) (sc := defScope st_run_in) (by decide +kernel))
      (it_tup (vE 1) rfl) (by omega) (fun s h C cl fp z hz => tg_name 2 sc_run_in.nd) (fun s h C cl fp z hz => ev_call (ok_summed T) hr (ss, z) ⟨(h2 z hz).2.symm, Nat.le_trans h0.1 (by decide), fun r hr => (h0.2 r hr).mono (by decide), fun r hr => ((h2 z hz).1.2 r hr).mono (by decide), ?_⟩ (ea_cons (vE 0) (ea_cons (vI 2) ea_nil)))).to (Ps' := nums (mk.map fun rs => dot ss rs)) (by rw [nums, List.map_map]; rfl))) ea_nil)))
    · obtain ⟨rs, hrs, rfl⟩ := List.mem_map.mp hr
      exact dot_sz h0 (h2 rs hrs).1
    · rw [List.length_map]
      have := Nat.mul_le_mul_right 410 h1
      omega
    · obtain ⟨k1, k2⟩ := dot_szs h0 (h2 z hz).1
      exact szs_of (rs := List.zipWith (fun a b => a * b) ss z) k1 (by have := Nat.mul_le_mul_right 81 k2; omega) (by decide)
end
end K8
end
section
set_option Elab.async false
set_option linter.all false
set_option maxRecDepth 100000
set_option maxHeartbeats 1000000
set_option autoImplicit false
namespace K8
open PySem L2
open Evl (Ex)
/-! More of what is walked: zips of a list and a tuple, enumerate of a tuple; sum of a tuple. -/
/-- a source of items: a list or a tuple -/
structure Srce (K : PySem.W.Frag) (a : Addr) where
  sq : Hp → List V → Prop
  at_ : Addr → Nat → Heap → Prop
  st : Array Value → Heap → Prop
  ob : Obj
  bg : ∀ its, Begins (.ref a) ob (st its)
  start : ∀ (i : Addr) (h : Heap), h.get? i = some ob → at_ i 0 h
  dr : ∀ (P : Program) (w : World) (A : Around), A.handled = none → ∀ i, a ≠ i → ∀ its : Array Value, Draws P w A i [i, a] its.size (fun j v => its[j]? = some v) (fun j h => at_ i j h ∧ st its h)
  isAt : ∀ (i : Addr) (j : Nat) (h : Heap), at_ i j h → ∃ o, h.get? i = some o ∧ ∀ v, o.data ≠ .cell v
  keep : ∀ (i : Addr) (j : Nat) (h h' : Heap), at_ i j h → (∀ o, h.get? i = some o → h'.get? i = some o) → at_ i j h'
  lay : ∀ {X : Cx} {pins σ H s} {xs : List V}, X.K = K → Inv X pins σ H s → sq H xs → ∃ us : List Value, Vals xs us ∧ st us.toArray s.heap ∧ a < s.heap.objs.size
  inj : ∀ {X : Cx} {pins σ H s} {xs ys : List V}, X.K = K → Inv X pins σ H s → sq H xs → sq H ys → xs = ys
def srcL (K : PySem.W.Frag) (a : Addr) : Srce K a where
  sq := fun H xs => SqL K H a xs
  at_ := fun i j h => h.IsListIter i a j
  st := fun its h => h.IsList a its
  ob := { cls := .type "list_iterator", data := .fields #[.ref a, .int 0 0] }
  bg := fun its => begins_list a its
  start := fun i h e => ⟨_, e, rfl, rfl⟩
  dr := fun P w A hh i hne its => Draws.list hh i a hne its
  isAt := fun i j h ⟨o, e, _, d⟩ => ⟨o, e, fun v q => by rw [d] at q; cases q⟩
  keep := fun i j h h' x k => x.at k
  lay := fun {X pins σ H s xs} eK I h => by
    subst eK
    obtain ⟨us, r, p, _⟩ := I.list h
    exact ⟨us, r, p.isList, p.lt⟩
  inj := fun {X pins σ H s xs ys} eK I h h' => by
    subst eK
    exact I.list_inj h h'
def srcT (K : PySem.W.Frag) (a : Addr) : Srce K a where
  sq := fun H xs => SqT K H a xs
  at_ := fun i j h => h.IsTupleIter i a j
  st := fun its h => h.IsTuple a its
  ob := { cls := .type "tuple_iterator", data := .fields #[.ref a, .int 0 0] }
  bg := fun its => begins_tuple a its
  start := fun i h e => ⟨_, e, rfl, rfl⟩
  dr := fun P w A hh i hne its => Draws.tuple hh i a hne its
  isAt := fun i j h ⟨o, e, _, d⟩ => ⟨o, e, fun v q => by rw [d] at q; cases q⟩
  keep := fun i j h h' x k => x.at k
  lay := fun {X pins σ H s xs} eK I h => by
    subst eK
    obtain ⟨us, r, p, _⟩ := I.tuple h
    obtain ⟨o, ho, _⟩ := id p
    exact ⟨us, r, p, Heap.lt_size ho⟩
  inj := fun {X pins σ H s xs ys} eK I h h' => by
    subst eK
    exact I.tuple_inj h h'
/-- a pair of what stands at turn i in both -/
def ItP {K : PySem.W.Frag} {a b : Addr} (S : Srce K a) (U : Srce K b) : It where
  go := fun i H => ∃ xs ys : List V, S.sq H xs ∧ U.sq H ys ∧ i < xs.length ∧ i < ys.length
  yld := fun i H v H' => ∃ c x y, v = .ref c ∧ H c = none ∧ H' = upd H c (.tup [x, y]) ∧ (∀ xs, S.sq H xs → xs[i]? = some x) ∧ ∀ ys, U.sq H ys → ys[i]? = some y
  stop := fun i H => ∃ xs ys : List V, S.sq H xs ∧ U.sq H ys ∧ i = min xs.length ys.length
/-- i and what stands at turn i -/
def ItN {K : PySem.W.Frag} {a : Addr} (S : Srce K a) : It where
  go := fun i H => ∃ xs : List V, S.sq H xs ∧ i < xs.length
  yld := fun i H v H' => ∃ c x, v = .ref c ∧ H c = none ∧ H' = upd H c (.tup [.int (i : Nat), x]) ∧ ∀ xs, S.sq H xs → xs[i]? = some x
  stop := fun i H => ∃ xs : List V, S.sq H xs ∧ i = xs.length
theorem vals_at {xs : List V} {us : List Value} {i : Nat} {u : Value} (r : Vals xs us) (h : us[i]? = some u) : ∃ x, xs[i]? = some x ∧ RelV x u := by
  induction r generalizing i with
  | nil => simp at h
  | cons q t ih =>
    cases i with
    | zero =>
      cases h
      exact ⟨_, rfl, q⟩
    | succ i => exact ih h
theorem get_lt {h : Heap} {c : Addr} (e : ∃ o, h.get? c = some o) : c < h.objs.size := by
  obtain ⟨o, e⟩ := e
  exact Heap.lt_size e
theorem mem4 {b z t o i j : Addr} (h : b ∈ [z, o, i, j]) : b ∈ [z, t, o, i, j] := by
  simp only [List.mem_cons, List.not_mem_nil, or_false] at h ⊢
  rcases h with h | h | h | h
  · exact .inl h
  · exact .inr (.inr (.inl h))
  · exact .inr (.inr (.inr (.inl h)))
  · exact .inr (.inr (.inr (.inr h)))
theorem turn_pair {P : Program} {w : World} {K : PySem.W.Frag} {elts : List Expr} {kk : Nat} {tpos : Pos} {a b z TI TO i1 i2 : Addr} (S : Srce K a) (U : Srce K b) (Z : ZipSep2 z TI TO i1 i2 [i1, a] [i2, b]) (na : a ≠ i1) (nb : b ≠ i2) :
    Turn P w K (.Tuple elts kk tpos) (ItP S U) [z, TI, TO, i1, i2] z (fun i h => IsZip h z TI TO .none ∧ IsTupOf2 h TI (.ref i1) (.ref i2) ∧ (∃ x y, IsTupOf2 h TO x y) ∧ S.at_ i1 i h ∧ U.at_ i2 i h) where
  mem := List.mem_cons_self ..
  obj := fun i h ⟨hz, hT, ⟨x, y, hO⟩, h1, h2⟩ c hc => by
    simp only [List.mem_cons, List.not_mem_nil, or_false] at hc
    rcases hc with rfl | rfl | rfl | rfl | rfl
    · exact ⟨_, hz, fun v q => nomatch q⟩
    · exact ⟨_, hT, fun v q => nomatch q⟩
    · exact ⟨_, hO, fun v q => nomatch q⟩
    · exact S.isAt _ _ _ h1
    · exact U.isAt _ _ _ h2
  keep := fun i h h' ⟨hz, hT, ⟨x, y, hO⟩, h1, h2⟩ k => ⟨k z (by simp) _ hz, k TI (by simp) _ hT, ⟨x, y, k TO (by simp) _ hO⟩, S.keep _ _ _ _ h1 fun o e => k i1 (by simp) o e, U.keep _ _ _ _ h2 fun o e => k i2 (by simp) o e⟩
  item := by
    intro X hP hw hK hc i pins s σ H E I hf ⟨hz, hT, hO, h1, h2⟩ ⟨xs, ys, sx, sy, lx, ly⟩
    subst hP hw
    obtain ⟨us, ru, su, _⟩ := S.lay hK I sx
    obtain ⟨ws, rw', sw, _⟩ := U.lay hK I sy
    have l1 := ru.length
    have l2 := rw'.length
    have hh : X.A.in1.handled = none := I.ok.hd hc
    have G := GoesN.zip2 (elts := elts) (x1 := kk) (pos := tpos) Z (S.dr X.prog X.w X.A.in1 hh i1 na us.toArray) (U.dr X.prog X.w X.A.in1 hh i2 nb ws.toArray)
    refine G.goes i s _ _ (by simp; omega) ⟨hz, hT, hO, ⟨h1, su⟩, h2, sw⟩ fun v h' tk hy hs hk _ => ?_
    obtain ⟨c, u, v2, rfl, hn, gu, gv, hc2⟩ := hy
    obtain ⟨hz', hT', hO', ⟨h1', _⟩, h2', _⟩ := hs
    obtain ⟨x, gx, rx⟩ := vals_at ru (i := i) (u := u) (by simpa using gu)
    obtain ⟨y, gy, ry⟩ := vals_at rw' (i := i) (u := v2) (by simpa using gv)
    have new : ObjOk X.prog X.w (upd H c (.tup [x, y])) h' c (.tup [x, y]) := ⟨Nat.le_of_ble_eq_true rfl, [u, v2], .cons rx (.cons ry .nil), hc2⟩
    have I1 : Inv X pins σ (upd H c (.tup [x, y])) { s with heap := h', toks := tk } := I.turnedNew (ch := [z, TO, i1, i2]) (fun b o hb q => hk b o hb q) (fun b hb => hf b (mem4 hb)) hn new
    refine ⟨.ref c, _, I1, rfl, ⟨c, x, y, rfl, I.hok.fresh hn, rfl, fun zs hs => by rw [S.inj hK I hs sx]; exact gx, fun zs hs => by rw [U.inj hK I hs sy]; exact gy⟩, ⟨hz', hT', hO', h1', h2'⟩, fun d hd => ?_⟩
    have ld : d < s.heap.objs.size := by
      simp only [List.mem_cons, List.not_mem_nil, or_false] at hd
      rcases hd with rfl | rfl | rfl | rfl | rfl
      · exact Heap.lt_size hz
      · exact Heap.lt_size hT
      · obtain ⟨_, _, hO⟩ := hO
        exact Heap.lt_size hO
      · obtain ⟨o, e, _⟩ := S.isAt _ _ _ h1
        exact Heap.lt_size e
      · obtain ⟨o, e, _⟩ := U.isAt _ _ _ h2
        exact Heap.lt_size e
    rw [upd_ne (Nat.ne_of_lt (Nat.lt_of_lt_of_le ld hn))]
    exact (hf d hd).1
  done := by
    intro X hP hw hK hc i pins s σ H E I hf ⟨hz, hT, hO, h1, h2⟩ ⟨xs, ys, sx, sy, e⟩
    subst hP hw
    obtain ⟨us, ru, su, _⟩ := S.lay hK I sx
    obtain ⟨ws, rw', sw, _⟩ := U.lay hK I sy
    have l1 := ru.length
    have l2 := rw'.length
    have hh : X.A.in1.handled = none := I.ok.hd hc
    have G := GoesN.zip2 (elts := elts) (x1 := kk) (pos := tpos) Z (S.dr X.prog X.w X.A.in1 hh i1 na us.toArray) (U.dr X.prog X.w X.A.in1 hh i2 nb ws.toArray)
    have en : i = min us.toArray.size ws.toArray.size := by simp; omega
    subst en
    exact wpAny_mono (G.stops s (fun s1 => Inv X pins σ H s1) E ⟨hz, hT, hO, ⟨h1, su⟩, h2, sw⟩ fun h' tk hk _ => I.turnedL (ch := [z, TO, i1, i2]) (fun b o hb q => hk b o hb q) fun b hb => hf b (mem4 hb)) (fun r s1 q => q) fun _ _ q => q
  self := fun A i s Q E st h => wpAny_pyIter_zip st.1 h
theorem turn_num {P : Program} {w : World} {K : PySem.W.Frag} {elts : List Expr} {kk : Nat} {tpos : Pos} {a e it : Addr} (S : Srce K a) (hei : e ≠ it) (hea : e ≠ a) (na : a ≠ it) :
    Turn P w K (.Tuple elts kk tpos) (ItN S) [e, it] e (fun i h => (∃ old, IsEnum h e it (0 + (i : Int)) old) ∧ S.at_ it i h) where
  mem := List.mem_cons_self ..
  obj := fun i h ⟨⟨old, he⟩, h1⟩ c hc => by
    simp only [List.mem_cons, List.not_mem_nil, or_false] at hc
    rcases hc with rfl | rfl
    · exact ⟨_, he, fun v q => nomatch q⟩
    · exact S.isAt _ _ _ h1
  keep := fun i h h' ⟨⟨old, he⟩, h1⟩ k => ⟨⟨old, k e (by simp) _ he⟩, S.keep _ _ _ _ h1 fun o q => k it (by simp) o q⟩
  item := by
    intro X hP hw hK hc i pins s σ H E I hf ⟨he, h1⟩ ⟨xs, sx, lx⟩
    subst hP hw
    obtain ⟨us, ru, su, _⟩ := S.lay hK I sx
    have l1 := ru.length
    have hh : X.A.in1.handled = none := I.ok.hd hc
    have G := GoesN.enumFrom (elts := elts) (x1 := kk) (pos := tpos) 0 (S.dr X.prog X.w X.A.in1 hh it na us.toArray) e hei (by simp [hei, hea]) (by simp)
    refine G.goes i s _ _ (by simp; omega) ⟨he, h1, su⟩ fun v h' tk hy hs hk _ => ?_
    obtain ⟨c, t, u, rfl, hn, gu, hc2⟩ := hy
    obtain ⟨he', h1', _⟩ := hs
    obtain ⟨x, gx, rx⟩ := vals_at ru (i := i) (u := u) (by simpa using gu)
    rw [Int.zero_add] at hc2
    have new : ObjOk X.prog X.w (upd H c (.tup [.int (i : Nat), x])) h' c (.tup [.int (i : Nat), x]) := ⟨Nat.le_of_ble_eq_true rfl, [.int i t, u], .cons ⟨_, rfl⟩ (.cons rx .nil), hc2⟩
    have I1 : Inv X pins σ (upd H c (.tup [.int (i : Nat), x])) { s with heap := h', toks := tk } := I.turnedNew (ch := [e, it]) (fun b o hb q => hk b o hb q) hf hn new
    refine ⟨.ref c, _, I1, rfl, ⟨c, x, rfl, I.hok.fresh hn, rfl, fun zs hs => by rw [S.inj hK I hs sx]; exact gx⟩, ⟨he', h1'⟩, fun d hd => ?_⟩
    have ld : d < s.heap.objs.size := by
      simp only [List.mem_cons, List.not_mem_nil, or_false] at hd
      rcases hd with rfl | rfl
      · obtain ⟨_, he⟩ := he
        exact Heap.lt_size he
      · obtain ⟨o, q, _⟩ := S.isAt _ _ _ h1
        exact Heap.lt_size q
    rw [upd_ne (Nat.ne_of_lt (Nat.lt_of_lt_of_le ld hn))]
    exact (hf d hd).1
  done := by
    intro X hP hw hK hc i pins s σ H E I hf ⟨he, h1⟩ ⟨xs, sx, en⟩
    subst hP hw
    obtain ⟨us, ru, su, _⟩ := S.lay hK I sx
    have l1 := ru.length
    have hh : X.A.in1.handled = none := I.ok.hd hc
    have G := GoesN.enumFrom (elts := elts) (x1 := kk) (pos := tpos) 0 (S.dr X.prog X.w X.A.in1 hh it na us.toArray) e hei (by simp [hei, hea]) (by simp)
    have en : i = us.toArray.size := by simp; omega
    subst en
    exact G.stops s (fun s1 => Inv X pins σ H s1) E ⟨he, h1, su⟩ fun h' tk hk _ => I.turnedL (ch := [e, it]) (fun b o hb q => hk b o hb q) hf
  self := fun A i s Q E ⟨⟨_, he⟩, _⟩ h => wpAny_pyIter_enum he h
/-- zip(x, y) begins -/
def iPair {K : PySem.W.Frag} (S : ∀ a, Srce K a) (U : ∀ b, Srce K b) (ta : TA) : TI := fun σ H R => ta σ H fun vs H1 => ∃ a b xs ys, vs = [.ref a, .ref b] ∧ (S a).sq H1 xs ∧ (U b).sq H1 ys ∧ R (ItP (S a) (U b)) H1
theorem pi_pair {X : Cx} {e e2 : Expr} {ta : TA} {p pos tpos : Pos} {elts : List Expr} {kk : Nat} (S : ∀ a, Srce X.K a) (U : ∀ b, Srce X.K b) (hg : Gl X "zip") (hm : X.mg "zip" = none) (ha : PA X [e, e2] ta)
    (he : starEach [e, e2] X.env = (false, eval e X.env) :: starEach [e2] X.env) (hpl : (backTo pos (starEach [e2] X.env)).any (·.1) = false) : PI X (.Tuple elts kk tpos) (.Call (.Name "zip" p) [e, e2] [] pos) (iPair S U ta) := by
  refine ⟨fun pins s σ H R I h => PyProof.Rows.Call_ (ld_blt I hg hm PyProof.Rows.boot_zip (PyProof.Rows.callWith_type1 (thn (ha.run pos pins s σ H _ I h) fun us s1 q => ?_) he hpl))⟩
  obtain ⟨vs, H1, I1, r1, a, b, xs, ys, rfl, sx, sy, q⟩ := q
  have eu : us = [.ref a, .ref b] := by
    cases r1 with
    | cons r t =>
      cases t with
      | cons r' t =>
        cases t
        cases r
        cases r'
        rfl
  subst eu
  obtain ⟨u1, ru, su, la⟩ := (S a).lay rfl I1 sx
  obtain ⟨u2, rw', sw, lb⟩ := (U b).lay rfl I1 sy
  refine zip_begins2 ((S a).bg u1.toArray) ((U b).bg u2.toArray) su sw fun h' hz hT hO h1 h2 _ hk => wpAny_pyIter_zip hz ?_
  have I2 : Inv X pins σ H1 { s1 with heap := h' } := I1.kept (t' := s1.toks) hk
  have sep := zip_sep2 (N := s1.heap.objs.size) (fp1 := [a]) (fp2 := [b]) (fun c hc => by simp at hc; rw [hc]; exact la) fun c hc => by simp at hc; rw [hc]; exact lb
  refine ⟨_, [s1.heap.objs.size + 4, s1.heap.objs.size + 2, s1.heap.objs.size + 3, s1.heap.objs.size, s1.heap.objs.size + 1], _, _, H1, rfl, I2, turn_pair (S a) (U b) sep (Nat.ne_of_lt la) (Nat.ne_of_lt (Nat.lt_succ_of_lt lb)), ⟨hz, hT, ⟨_, _, hO⟩, (S a).start _ _ h1, (U b).start _ _ h2⟩, fun c hc => ?_, q⟩
  have hle : s1.heap.objs.size ≤ c := by
    simp only [List.mem_cons, List.not_mem_nil, or_false] at hc
    rcases hc with rfl | rfl | rfl | rfl | rfl
    · exact Nat.le_add_right _ _
    · exact Nat.le_add_right _ _
    · exact Nat.le_add_right _ _
    · exact Nat.le_refl _
    · exact Nat.le_add_right _ _
  exact I1.fpOk hle (I1.hok.fresh hle)
set_option maxHeartbeats 2000000 in
/-- enumerate(v) of whatever can be walked -/
theorem meets_enum1 {v : Value} {ob : Obj} {Hs : Heap → Prop} (B : Begins v ob Hs) :
    Meets (Builtin.«enumerate.__new__» ⟨[.type "enumerate", v], []⟩) (fun _ R z => Hs z.heap ∧ R (.ok (.ret (.ref (z.heap.push ob).objs.size))) { z with heap := (z.heap.push ob).push { cls := .type "enumerate", data := .fields #[.none, .bool false, .ref z.heap.objs.size, rawInt 0, .none, .none] } }) :=
  .of_wp fun pr wo A R z h => by
    obtain ⟨z1, z2, z3, z4, z5⟩ := z
    obtain ⟨g1, g2⟩ := h
    have sube := sub_enumerate
    have k1 : ∀ {A' : Around} {E : Value → Shared → Prop} {Q : Value → Shared → Prop}, Q (.ref z1.objs.size) ⟨z1.push ob, z2, z3, z4, z5⟩ → wpAny (model pr wo) A' (pyIter v) Q E ⟨z1, z2, z3, z4, z5⟩ := fun q => B.iter pr wo _ _ ⟨z1, z2, z3, z4, z5⟩ _ g1 q
    wp_walk using k1
    refine wpAny_stack_any fun st => wpAny_pure ?_
    split
    · rename_i cl _ _ _ _ _
      cases (cl == Value.type "enumerate")
      · wp_walk using k1
        exact ⟨_, rfl, g2⟩
      · wp_walk using k1
        exact ⟨_, rfl, g2⟩
    · wp_walk using k1
      exact ⟨_, rfl, g2⟩
def iNum {K : PySem.W.Frag} (S : ∀ a, Srce K a) (ta : TA) : TI := fun σ H R => ta σ H fun vs H1 => ∃ a xs, vs = [.ref a] ∧ (S a).sq H1 xs ∧ R (ItN (S a)) H1
theorem pi_num {X : Cx} {e : Expr} {ta : TA} {p pos tpos : Pos} {elts : List Expr} {kk : Nat} (S : ∀ a, Srce X.K a) (hg : Gl X "enumerate") (hm : X.mg "enumerate" = none) (ha : PA X [e] ta) (he : starEach [e] X.env = [(false, eval e X.env)]) :
    PI X (.Tuple elts kk tpos) (.Call (.Name "enumerate" p) [e] [] pos) (iNum S ta) := by
  refine ⟨fun pins s σ H R I h => PyProof.Rows.Call_ (ld_blt I hg hm (show bootBuiltins "enumerate" = some (.type "enumerate") by decide +kernel) (PyProof.Rows.callWith_type1 (thn (ha.run pos pins s σ H _ I h) fun us s1 q => ?_) he rfl))⟩
  obtain ⟨vs, H1, I1, r1, a, xs, rfl, sx, q⟩ := q
  have eu : us = [.ref a] := r1.ref1
  subst eu
  obtain ⟨u1, ru, su, la⟩ := (S a).lay rfl I1 sx
  refine callType_new F.called_enumerate (by decide) (F.typeCall_enumerate_1 _) (F.newCall_enumerate_1 _) (fun ob => F.args_object_init_2 ob _) F.entry_enumerate_new (meets_enum1 ((S a).bg u1.toArray)) ⟨su, ?_⟩
  have ez : (s1.heap.push (S a).ob).objs.size = s1.heap.objs.size + 1 := Heap.size_push ..
  have en : IsEnum ((s1.heap.push (S a).ob).push { cls := .type "enumerate", data := .fields #[.none, .bool false, .ref s1.heap.objs.size, rawInt 0, .none, .none] }) (s1.heap.objs.size + 1) s1.heap.objs.size 0 .none := by
    have g := Heap.get?_push_size (s1.heap.push (S a).ob) (o := { cls := .type "enumerate", data := .fields #[.none, .bool false, .ref s1.heap.objs.size, rawInt 0, .none, .none] }) rfl
    rw [ez] at g
    exact g
  show _ ∧ _
  rw [ez]
  refine ⟨⟨_, en, rfl⟩, wpAny_pyIter_enum en ?_⟩
  have I2 := I1.kept (t' := s1.toks) (h' := (s1.heap.push (S a).ob).push { cls := .type "enumerate", data := .fields #[.none, .bool false, .ref s1.heap.objs.size, rawInt 0, .none, .none] }) fun b o x => Heap.get?_push_of_some _ (Heap.get?_push_of_some _ x)
  refine ⟨_, [s1.heap.objs.size + 1, s1.heap.objs.size], _, _, H1, rfl, I2, turn_num (S a) (Nat.succ_ne_self _) (Nat.ne_of_gt (Nat.lt_succ_of_lt la)) (Nat.ne_of_lt la), ⟨⟨.none, en⟩, (S a).start _ _ (Heap.get?_push_of_some _ (Heap.get?_push_size _ ((S a).bg u1.toArray).free))⟩, fun c hc => ?_, q⟩
  have hle : s1.heap.objs.size ≤ c := by
    simp only [List.mem_cons, List.not_mem_nil, or_false] at hc
    rcases hc with rfl | rfl
    · exact Nat.le_add_right _ _
    · exact Nat.le_refl _
  exact I1.fpOk hle (I1.hok.fresh hle)
/-- sum of a tuple -/
def rSumT (K : PySem.W.Frag) : List V → Hp → VK → Prop := fun vs H Q => ∃ (a : Addr) (ns : List Int), vs = [V.ref a] ∧ SqT K H a (ns.map V.int) ∧ Q (.int ns.sum) H
theorem cr_sumT {X : Cx} (hc : X.calm = true) : CallR X (.builtin "sum") (rSumT X.K) := by
  intro pins s σ H vs us Q I r h
  obtain ⟨a, ns, rfl, hs, q⟩ := h
  obtain ⟨its, rv, hl, _⟩ := I.tuple hs
  rw [r.ref1]
  have hi := rv.ints
  obtain ⟨xs, ex⟩ := hi.allInts.items
  have hn : numsOf (intItems xs).toList = ns := by
    rw [← ex]
    exact hi.numsOf
  rw [nums_intItems] at hn
  rw [ex] at hl
  have lt : a < s.heap.objs.size := by
    obtain ⟨o, ho, _⟩ := id hl
    exact Heap.lt_size ho
  refine call_sum_walkG (wpAny_pyIter_tuple hl ⟨_, _, _, _, _, _, numAt xs, rfl, Walks.tuple (A := X.A.in1) (I.ok.hd hc) _ a (Nat.ne_of_lt lt) (intItems xs), ⟨⟨_, Heap.get?_push_size _ rfl, rfl, rfl⟩, hl.push _⟩, fun c hc => ?_, fun _ _ => intItems_at, fun h' tk t' hk => ?_⟩)
  · show c < (s.heap.push _).objs.size
    rw [Heap.size_push]
    simp only [List.mem_cons, List.not_mem_nil, or_false] at hc
    rcases hc with rfl | rfl
    · exact Nat.lt_succ_self _
    · exact Nat.lt_succ_of_lt lt
  · refine ⟨.int ns.sum, H, ?_, ⟨t', ?_⟩, q⟩
    · exact I.kept fun b o e => hk b o (fun z => Nat.lt_irrefl _ ((List.mem_singleton.mp z) ▸ Heap.lt_size e)) (Heap.get?_push_of_some _ e)
    · show Value.int (preSum (numAt xs) (intItems xs).size) t' = Value.int ns.sum t'
      rw [← hn, show (intItems xs).size = xs.size by simp [intItems], preSum_eq, List.take_of_length_le (by simp)]
end K8
end
section
set_option Elab.async false
set_option linter.all false
set_option maxRecDepth 100000
set_option maxHeartbeats 1000000
set_option autoImplicit false
namespace K8
open PySem L2
open Evl (Ex)
section
variable {X : Cx} {Γ Γ' : Ctx} {pos p : Pos} {e a b : Expr} {α β : Type} {xs : List α} {ys : List β} {F : α → VI} {G : β → VI}
/-- what the typed layer asks of a source -/
theorem it_pair {elts : List Expr} {kk : Nat} {tpos : Pos} {PA PB : VP} (M : Bl X.mg) (S : ∀ a, Srce X.K a) (U : ∀ b, Srce X.K b) (ha : EV X a Γ PA) (hb : EV X b Γ PB)
    (hA : ∀ H0 H1 σ H2, Fit H0 H1 Γ σ H2 → ∀ v, PA.ok H2 v → ∃ c us, v = .ref c ∧ Oks (xs.map F) H2 us ∧ (S c).sq H2 us ∧ ∀ H3, Ex (base Γ σ H2) H3 → (S c).sq H3 us)
    (hB : ∀ H0 H1 σ H2, Fit H0 H1 Γ σ H2 → ∀ v, PB.ok H2 v → ∃ c us, v = .ref c ∧ Oks (ys.map G) H2 us ∧ (U c).sq H2 us ∧ ∀ H3, Ex (base Γ σ H2) H3 → (U c).sq H3 us)
    (hl : xs.length = ys.length) (hg : Gl X "zip" := by rfl)
    (he : starEach [a, b] X.env = (false, eval a X.env) :: starEach [b] X.env := by rfl) (he2 : starEach [b] X.env = (false, eval b X.env) :: starEach [] X.env := by rfl) (hpl : (backTo pos (starEach [b] X.env)).any (·.1) = false := by rfl) :
    IT X (.Tuple elts kk tpos) (.Call (.Name "zip" p) [a, b] [] pos) Γ (xs.zip ys) (fun z => VI.tup [F z.1, G z.2]) := fun H0 H1 σ H f R q =>
  wI_of (pi_pair S U hg M.zip pa_w he hpl) (ea_cons ha (ea_cons hb ea_nil he2) he H0 H1 σ H f _ fun vs H2 e2 r2 => by
    obtain ⟨v, w, rfl, h1, h2⟩ := pk2 r2
    obtain ⟨c, us, rfl, k1, q1, m1⟩ := hA H0 H1 σ H2 (f.mono e2) v h1
    obtain ⟨d, ws, rfl, k2, q2, m2⟩ := hB H0 H1 σ H2 (f.mono e2) w h2
    have l1 : xs.length = us.length := by rw [← k1.len, List.length_map]
    have l2 : ys.length = ws.length := by rw [← k2.len, List.length_map]
    have lz : (xs.zip ys).length = us.length := by rw [List.length_zip]; omega
    refine ⟨c, d, us, ws, rfl, q1, q2, q _ H2 e2 ⟨fun i H3 hi e3 => ⟨us, ws, m1 H3 e3, m2 H3 e3, by omega, by omega⟩, fun H3 e3 => ⟨us, ws, m1 H3 e3, m2 H3 e3, by omega⟩, fun i H3 x H' hi e3 y => ?_⟩⟩
    obtain ⟨t, x1, y1, rfl, hn, rfl, g1, g2⟩ := y
    obtain ⟨P1, hP, hk⟩ := oks_get' k1 (g1 us (m1 H3 e3))
    obtain ⟨P2, hQ, hk'⟩ := oks_get' k2 (g2 ws (m2 H3 e3))
    obtain ⟨z1, hz1, rfl⟩ := list_map_get hP
    obtain ⟨z2, hz2, rfl⟩ := list_map_get hQ
    have ee : ExI H2 (upd H3 t (.tup [x1, y1])) := ((exI_base (f.mono e2)).trans (.of e3)).trans (.of (Evl.Ex.new hn))
    refine ⟨Evl.Ex.new hn, (z1, z2), ?_, t, [x1, y1], rfl, upd_same, .cons ((F z1).mono ee hk) (.cons ((G z2).mono ee hk') .nil)⟩
    rw [List.getElem?_zip_eq_some]
    exact ⟨hz1, hz2⟩)
theorem srT {H0 H1 H2 : Hp} {σ : St} {Ps : List VI} (f : Fit H0 H1 Γ σ H2) {v : V} (h : (VI.tup Ps).p.ok H2 v) : ∃ c us, v = .ref c ∧ Oks Ps H2 us ∧ (srcT X.K c).sq H2 us ∧ ∀ H3, Ex (base Γ σ H2) H3 → (srcT X.K c).sq H3 us := by
  obtain ⟨c, us, rfl, h1, k⟩ := h
  exact ⟨c, us, rfl, k, .of h1, fun H3 e3 => .of (e3 _ _ (tup_base f Ex.r h1))⟩
/-- a list of the entry, of the base: its reading -/
def inE (Ps : List VI) (H1 : Hp) (v : V) : Prop := ∃ c us, v = .ref c ∧ H1 c = some (.lst us) ∧ Oks Ps H1 us
theorem it_zipTL {elts : List Expr} {kk : Nat} {tpos : Pos} {Ps Qs : List VI} (M : Bl X.mg) (ha : EV X a Γ (VI.tup Ps).p) (hb : EL X b Γ Qs) (hP : Ps = xs.map F) (hQ : Qs = ys.map G) (hl : xs.length = ys.length) (hg : Gl X "zip" := by rfl)
    (he : starEach [a, b] X.env = (false, eval a X.env) :: starEach [b] X.env := by rfl) (he2 : starEach [b] X.env = (false, eval b X.env) :: starEach [] X.env := by rfl) (hpl : (backTo pos (starEach [b] X.env)).any (·.1) = false := by rfl) :
    IT X (.Tuple elts kk tpos) (.Call (.Name "zip" p) [a, b] [] pos) Γ (xs.zip ys) (fun z => VI.tup [F z.1, G z.2]) := fun H0 H1 σ H f R q =>
  wI_of (pi_pair (srcT X.K) (srcL X.K) hg M.zip (pa_cons pe_w (pa_cons pe_w pa_nil he2) he) he hpl) (ha H0 H1 σ H f _ fun v H2' e2' h1' => hb H0 H1 σ H2' (f.mono e2') _ fun d ws H2 e2'' h2 k2 w2 => by
    subst hP hQ
    have e2 := e2'.trans e2''
    obtain ⟨c, us, rfl, g1', k1'⟩ := h1'
    have g1 := e2'' _ _ g1'
    have k1 := Oks.mono (.of e2'') k1'
    have hB : base Γ σ H2 c = some (.tup us) := tup_base f e2 g1
    have hC : base Γ σ H2 d = some (.lst ws) := not_own (f.mono e2') h2 w2
    have l1 : xs.length = us.length := by rw [← k1.len, List.length_map]
    have l2 : ys.length = ws.length := by rw [← k2.len, List.length_map]
    have lz : (xs.zip ys).length = us.length := by rw [List.length_zip]; omega
    refine ⟨c, d, us, ws, rfl, .of g1, .of h2, q _ H2 e2 ⟨fun i H3 hi e3 => ⟨us, ws, .of (e3 _ _ hB), .of (e3 _ _ hC), by omega, by omega⟩, fun H3 e3 => ⟨us, ws, .of (e3 _ _ hB), .of (e3 _ _ hC), by omega⟩, fun i H3 x H' hi e3 y => ?_⟩⟩
    obtain ⟨t, x1, y1, rfl, hn, rfl, q1, q2⟩ := y
    obtain ⟨P1, hP, hk⟩ := oks_get' k1 (q1 us (.of (e3 _ _ hB)))
    obtain ⟨P2, hQ, hk'⟩ := oks_get' k2 (q2 ws (.of (e3 _ _ hC)))
    obtain ⟨z1, hz1, rfl⟩ := list_map_get hP
    obtain ⟨z2, hz2, rfl⟩ := list_map_get hQ
    have ee : ExI H2 (upd H3 t (.tup [x1, y1])) := ((exI_base (f.mono e2)).trans (.of e3)).trans (.of (Evl.Ex.new hn))
    refine ⟨Evl.Ex.new hn, (z1, z2), ?_, t, [x1, y1], rfl, upd_same, .cons ((F z1).mono ee hk) (.cons ((G z2).mono ee hk') .nil)⟩
    rw [List.getElem?_zip_eq_some]
    exact ⟨hz1, hz2⟩)
theorem it_zipLT {elts : List Expr} {kk : Nat} {tpos : Pos} {Ps Qs : List VI} (M : Bl X.mg) (ha : EL X a Γ Ps) (hb : EV X b Γ (VI.tup Qs).p) (hP : Ps = xs.map F) (hQ : Qs = ys.map G) (hl : xs.length = ys.length) (hg : Gl X "zip" := by rfl)
    (he : starEach [a, b] X.env = (false, eval a X.env) :: starEach [b] X.env := by rfl) (he2 : starEach [b] X.env = (false, eval b X.env) :: starEach [] X.env := by rfl) (hpl : (backTo pos (starEach [b] X.env)).any (·.1) = false := by rfl) :
    IT X (.Tuple elts kk tpos) (.Call (.Name "zip" p) [a, b] [] pos) Γ (xs.zip ys) (fun z => VI.tup [F z.1, G z.2]) := fun H0 H1 σ H f R q =>
  wI_of (pi_pair (srcL X.K) (srcT X.K) hg M.zip (pa_cons pe_w (pa_cons pe_w pa_nil he2) he) he hpl) (ha H0 H1 σ H f _ fun d ws H2' e2' h2' k2' w2 => hb H0 H1 σ H2' (f.mono e2') _ fun v H2 e2'' h1 => by
    subst hP hQ
    have e2 := e2'.trans e2''
    obtain ⟨c, us, rfl, g1, k1⟩ := h1
    have h2 := e2'' _ _ h2'
    have k2 := Oks.mono (.of e2'') k2'
    have hB : base Γ σ H2 c = some (.tup us) := tup_base f e2 g1
    have hC : base Γ σ H2 d = some (.lst ws) := not_own f h2 w2
    have l1 : ys.length = us.length := by rw [← k1.len, List.length_map]
    have l2 : xs.length = ws.length := by rw [← k2.len, List.length_map]
    have lz : (xs.zip ys).length = us.length := by rw [List.length_zip]; omega
    refine ⟨d, c, ws, us, rfl, .of h2, .of g1, q _ H2 e2 ⟨fun i H3 hi e3 => ⟨ws, us, .of (e3 _ _ hC), .of (e3 _ _ hB), by omega, by omega⟩, fun H3 e3 => ⟨ws, us, .of (e3 _ _ hC), .of (e3 _ _ hB), by omega⟩, fun i H3 x H' hi e3 y => ?_⟩⟩
    obtain ⟨t, x1, y1, rfl, hn, rfl, q2, q1⟩ := y
    obtain ⟨P1, hP, hk⟩ := oks_get' k1 (q1 us (.of (e3 _ _ hB)))
    obtain ⟨P2, hQ, hk'⟩ := oks_get' k2 (q2 ws (.of (e3 _ _ hC)))
    obtain ⟨z1, hz1, rfl⟩ := list_map_get hP
    obtain ⟨z2, hz2, rfl⟩ := list_map_get hQ
    have ee : ExI H2 (upd H3 t (.tup [x1, y1])) := ((exI_base (f.mono e2)).trans (.of e3)).trans (.of (Evl.Ex.new hn))
    refine ⟨Evl.Ex.new hn, (z2, z1), ?_, t, [x1, y1], rfl, upd_same, .cons ((F z2).mono ee hk') (.cons ((G z1).mono ee hk) .nil)⟩
    rw [List.getElem?_zip_eq_some]
    exact ⟨hz2, hz1⟩)
theorem it_enumT {elts : List Expr} {kk : Nat} {tpos : Pos} {Ps : List VI} (M : Bl X.mg) (ha : EV X a Γ (VI.tup Ps).p) (hP : Ps = xs.map F) (hg : Gl X "enumerate" := by rfl)
    (he : starEach [a] X.env = (false, eval a X.env) :: starEach [] X.env := by rfl) (he' : starEach [a] X.env = [(false, eval a X.env)] := by rfl) :
    IT X (.Tuple elts kk tpos) (.Call (.Name "enumerate" p) [a] [] pos) Γ ((List.range xs.length).zip xs) (fun z => VI.tup [VI.int (z.1 : Nat), F z.2]) := fun H0 H1 σ H f R q =>
  wI_of (pi_num (srcT X.K) hg M.enum pa_w he') (ea_cons ha ea_nil he H0 H1 σ H f _ fun vs H2 e2 r2 => by
    obtain ⟨v, rfl, c, us, rfl, g1, k1⟩ := pk1 r2
    subst hP
    have hB : base Γ σ H2 c = some (.tup us) := tup_base f e2 g1
    have l1 : xs.length = us.length := by rw [← k1.len, List.length_map]
    have lz : ((List.range xs.length).zip xs).length = us.length := by rw [List.length_zip, List.length_range]; omega
    refine ⟨c, us, rfl, .of g1, q _ H2 e2 ⟨fun i H3 hi e3 => ⟨us, .of (e3 _ _ hB), by omega⟩, fun H3 e3 => ⟨us, .of (e3 _ _ hB), lz⟩, fun i H3 x H' hi e3 y => ?_⟩⟩
    obtain ⟨t, x1, rfl, hn, rfl, q1⟩ := y
    obtain ⟨P1, hP, hk⟩ := oks_get' k1 (q1 us (.of (e3 _ _ hB)))
    obtain ⟨z1, hz1, rfl⟩ := list_map_get hP
    have ee : ExI H2 (upd H3 t (.tup [.int (i : Nat), x1])) := ((exI_base (f.mono e2)).trans (.of e3)).trans (.of (Evl.Ex.new hn))
    refine ⟨Evl.Ex.new hn, (i, z1), ?_, t, [.int (i : Nat), x1], rfl, upd_same, .cons rfl (.cons ((F z1).mono ee hk) .nil)⟩
    rw [List.getElem?_zip_eq_some]
    exact ⟨by rw [List.getElem?_range]; rw [lz, ← l1] at hi; exact hi, hz1⟩)
theorem e_sumT (M : Bl X.mg) {ns : List Int} (hc : X.calm = true) (h : EV X e Γ (VI.tup (ns.map VI.int)).p) (hg : Gl X "sum" := by rfl) (he : starEach [e] X.env = (false, eval e X.env) :: starEach [] X.env := by rfl) : EV X (.Call (.Name "sum" p) [e] [] pos) Γ (ei ns.sum) :=
  e_cb (cr_sumT hc) hg M.sum (by decide +kernel) (ea_cons h ea_nil he) (fun vs H k Q q => by
    obtain ⟨v, rfl, a, us, rfl, h1, k1⟩ := pk1 k
    exact ⟨a, ns, rfl, .of (by rw [← oks_ints M k1]; exact h1), q _ H Ex.r rfl⟩) (he := he)
/-- x, y = a new list, a thing -/
theorem g_parF (i j : Nat) {x y : Str} {px py pt : Pos} {kt k2 pt2} {Ps : List VI} {Q : VI} {R : Ty} (hc : X.calm = true) (hN : X.N.Nodup) (ha : EF X a Γ Ps) (hb : EV X b Γ Q.p) (hi : X.N[i]? = some x := by rfl) (hj : X.N[j]? = some y := by rfl) (hij : i ≠ j := by decide)
    (hx : X.env.scope.names.lookup x = some .local := by rfl) (hy : X.env.scope.names.lookup y = some .local := by rfl)
    (hw : swappedStores [.Tuple [.Name x px, .Name y py] kt pt] (.Tuple [a, b] k2 pt2) X.env = pure (some [x, y]) := by rfl)
    (hs : swapsWithSole [.Tuple [.Name x px, .Name y py] kt pt] (.Tuple [a, b] k2 pt2) pos.line X.env = pure false := by rfl) (he : starEach [a, b] X.env = (false, eval a X.env) :: starEach [b] X.env := by rfl) (he2 : starEach [b] X.env = (false, eval b X.env) :: starEach [] X.env := by rfl) :
    GT X (.Assign [.Tuple [.Name x px, .Name y py] kt pt] (.Tuple [a, b] k2 pt2) pos) Γ (fitN ((Γ.set i (.o Ps)).set j (.i Q))) R := fun H0 H1 σ H f D hn hr =>
  wS_of (ps_par hc hN hi hj hij hx hy (pa_cons pe_w (pa_cons pe_w pa_nil he2) he) hw hs) (ha H0 H1 σ H f _ fun c us H2 e2 n h2 k2 => hb H0 H1 σ H2 (f.mono e2) _ fun v H3 e3 r3 =>
    ⟨_, _, rfl, hn _ H3 ((f.setO (e2.trans e3) i n (e3 _ _ h2) (k2.mono (.of e3))).setI j r3)⟩)
/-- .. a thing, a new list -/
theorem g_parF2 (i j : Nat) {x y : Str} {px py pt : Pos} {kt k2 pt2} {Ps : List VI} {Q : VI} {R : Ty} (hc : X.calm = true) (hN : X.N.Nodup) (ha : EV X a Γ Q.p) (hb : EF X b Γ Ps) (hi : X.N[i]? = some x := by rfl) (hj : X.N[j]? = some y := by rfl) (hij : i ≠ j := by decide)
    (hx : X.env.scope.names.lookup x = some .local := by rfl) (hy : X.env.scope.names.lookup y = some .local := by rfl)
    (hw : swappedStores [.Tuple [.Name x px, .Name y py] kt pt] (.Tuple [a, b] k2 pt2) X.env = pure (some [x, y]) := by rfl)
    (hs : swapsWithSole [.Tuple [.Name x px, .Name y py] kt pt] (.Tuple [a, b] k2 pt2) pos.line X.env = pure false := by rfl) (he : starEach [a, b] X.env = (false, eval a X.env) :: starEach [b] X.env := by rfl) (he2 : starEach [b] X.env = (false, eval b X.env) :: starEach [] X.env := by rfl) :
    GT X (.Assign [.Tuple [.Name x px, .Name y py] kt pt] (.Tuple [a, b] k2 pt2) pos) Γ (fitN ((Γ.set i (.i Q)).set j (.o Ps))) R := fun H0 H1 σ H f D hn hr =>
  wS_of (ps_par hc hN hi hj hij hx hy (pa_cons pe_w (pa_cons pe_w pa_nil he2) he) hw hs) (ha H0 H1 σ H f _ fun v H2 e2 r2 => hb H0 H1 σ H2 (f.mono e2) _ fun c us H3 e3 n h3 k3 =>
    ⟨_, _, rfl, hn _ H3 (((f.mono e2).setI i r2).setO e3 j n h3 k3)⟩)
end
/-! ### a comprehension of two clauses, the second over a range -/
section
variable {α β : Type} {X : Cx} {Γ : Ctx} {xs : List α} {ys : α → List β} {F : α → VI} {F1 : β → VI} {G : α → β → VI} {pos : Pos} {elt tg iter tg1 iter1 : Expr} {scope : Scope} {own : List (Str × Nat)} {Γe : α → Ctx} {Γe2 : α → β → Ctx} {R : Ty}
/-- what is walked knows no heap -/
def IT0 (X : Cx) (tg iter : Expr) (Γ : Ctx) (xs : List α) (F : α → VI) : Prop := ∀ (H0 H1 : Hp) (σ : St) (H : Hp), Fit H0 H1 Γ σ H → ∀ R : It → Hp → Prop, (∀ J H2, Ex H H2 → (∀ B, Wk B J xs F) → R J H2) → wI X tg iter σ H R
theorem it0_range {e : Expr} {p : Pos} (M : Bl X.mg) {k : Nat} (h : EV X e Γ (ei (k : Int))) (hk : k ≤ 100000) (hg : Gl X "range" := by rfl) (he : starEach [e] X.env = (false, eval e X.env) :: starEach [] X.env := by rfl) (hs : starEach [e] X.env = [(false, eval e X.env)] := by rfl) :
    IT0 X tg (.Call (.Name "range" p) [e] [] pos) Γ (List.range k) (fun i => VI.int (i : Int)) := fun H0 H1 σ H f R q =>
  wI_of (pi_range1 hg M.range pa_w hs) (ea_cons h ea_nil he H0 H1 σ H f _ fun vs H2 e2 r2 => by
    obtain ⟨v, rfl, r⟩ := pk1 r2
    obtain rfl : v = .int (k : Int) := r
    refine ⟨(k : Int), rfl, by omega, by omega, q _ H2 e2 fun B => ⟨fun i H3 hi e3 => ?_, fun H3 e3 => ?_, fun i H3 x H' hi e3 y => ?_⟩⟩
    · rw [List.length_range] at hi
      show i < (k : Int).toNat
      omega
    · rw [List.length_range]
      show (k : Int).toNat ≤ k
      omega
    · obtain ⟨rfl, rfl⟩ := y
      rw [List.length_range] at hi
      refine ⟨Ex.r, i, by simp [hi], ?_⟩
      show V.int (0 + (i : Int)) = V.int i
      rw [Int.zero_add])
def wIb (X : Cx) (scope : Scope) (tg iter : Expr) : TI := fun σ H R => ∀ s h C cl fp, wI (bk X scope s h C cl fp) tg iter σ H R
theorem pi_wb {s h C cl fp} : PI (bk X scope s h C cl fp) tg iter (wIb X scope tg iter) := ⟨fun pins s' σ H R I q => q s h C cl fp pins s' I⟩
def both (xs : List α) (ys : α → List β) (G : α → β → VI) : List VI := xs.flatMap fun a => (ys a).map (G a)
theorem both_snoc {a : α} {l : List α} : both (l ++ [a]) ys G = both l ys G ++ (ys a).map (G a) := by simp [both, List.flatMap_append]
theorem g_setLc2 (i : Nat) {x : Str} {p lp : Pos} {vs1 : List Nat} (hc : X.calm = true) (hN : X.N.Nodup) (hyl : X.env.scope.names.lookup x = some .local) (ok : BlkOk X.N X.env.scope scope own) (hi : IT X tg iter Γ xs F) (hv : ∀ i ∈ vs1, i ∈ own.map (·.2))
    (hl : ∀ k : Nat, (both (xs.take k) ys G).length ≤ 50000) (hl1 : ∀ a ∈ xs, (ys a).length ≤ 50000)
    (hsw : swapsWith (.ListComp elt [⟨tg, iter, [], 0⟩, ⟨tg1, iter1, [], 0⟩] scope lp) (some (.Name x p)) pos.line X.env = pure true)
    (hg : ∀ s h C cl fp, ∀ a ∈ xs, TGT (bk X scope s h C cl fp) tg (wipeC Γ (own.map (·.2))) (F a) (Γe a) (own.map (·.2))) (hno : ∀ a ∈ xs, ∀ (j : Nat) (Ps : List VI), (Γe a)[j]? ≠ some (.o Ps))
    (hi1 : ∀ s h C cl fp, ∀ a ∈ xs, IT0 (bk X scope s h C cl fp) tg1 iter1 (Γe a) (ys a) F1)
    (hg1 : ∀ s h C cl fp, ∀ a ∈ xs, ∀ b ∈ ys a, TGT (bk X scope s h C cl fp) tg1 (wipeC (Γe a) vs1) (F1 b) (Γe2 a b) vs1)
    (he : ∀ s h C cl fp, ∀ a ∈ xs, ∀ b ∈ ys a, EV (bk X scope s h C cl fp) elt (Γe2 a b) (G a b).p) (hNi : X.N[i]? = some x := by rfl) (hs : ∀ x, foldedSetIterable iter X.env x = pure x := by intro _; rfl) (hs1 : ∀ env x, foldedSetIterable iter1 env x = pure x := by intro _ _; rfl) :
    GT X (.Assign [.Name x p] (.ListComp elt [⟨tg, iter, [], 0⟩, ⟨tg1, iter1, [], 0⟩] scope lp) pos) Γ (fitN (Γ.set i (.o (both xs ys G)))) R := fun H0 H1 σ H f D hn hr => by
  refine wS_of (ps_setLc2 hc hN hNi hyl hsw pi_w ok hv (fun _ _ _ _ _ => pg_wb) (fun _ _ _ _ _ => pts_nil) (fun _ _ _ _ _ => pi_wb) (fun _ _ _ _ _ => pg_wb) (fun _ _ _ _ _ => pts_nil) (fun _ _ _ _ _ => pe_wb) hs hs1) ?_
  refine hi H0 H1 σ H f _ fun J H2 e2 wk A hA => ?_
  have f2 := f.mono e2
  have nA : H1 A = none := Evl.fresh_back f2.ex hA
  let Pv : Nat → Hp → Prop := fun k Hh => Ex H2 Hh ∧ ∃ acc, Hh A = some (.lst acc) ∧ Oks (both (xs.take k) ys G) Hh acc
  refine ⟨fun k m Hh => m = xs.length - k ∧ k ≤ xs.length ∧ Pv k Hh, ⟨_, rfl, Nat.zero_le _, Evl.Ex.new hA, [], upd_same, .nil⟩, ?_⟩
  rintro k m Hh ⟨rfl, hk, eh, acc, ha, ka⟩
  have eb : Ex (base Γ σ H2) Hh := base_ex.trans eh
  by_cases hlt : k < xs.length
  · refine .inr ⟨wk.go k Hh hlt eb, Pv (k + 1), fun H' q => ⟨xs.length - (k + 1), by omega, rfl, hlt, q⟩, fun v H3 y => ?_⟩
    obtain ⟨e3, a, ga, ra⟩ := wk.yld k Hh v H3 hlt eb y
    have hm : a ∈ xs := List.mem_of_getElem? ga
    have ts : xs.take (k + 1) = xs.take k ++ [a] := take_snoc ga
    intro s h C cl fp
    refine hg s h C cl fp a hm H0 H1 _ H3 v ((f2.mono (eh.trans e3)).wipe _) ra _ fun σ2 H4 e4 f4 l4 g4 => ⟨wipe_same (l4.trans (wipe_length _ _)) g4, ?_⟩
    show wIb X scope tg1 iter1 σ2 H4 _
    intro s h C cl fp
    refine hi1 s h C cl fp a hm H0 H1 σ2 H4 f4 _ fun J1 H5 e5 wk1 => ?_
    let Pw : Nat → Hp → Prop := fun j Hh => Ex H2 Hh ∧ Fit H0 H1 (Γe a) σ2 Hh ∧ ∃ acc, Hh A = some (.lst acc) ∧ Oks (both (xs.take k) ys G ++ ((ys a).take j).map (G a)) Hh acc
    have e35 : Ex Hh H5 := (e3.trans e4).trans e5
    have nown : ¬ Own (Γe a) σ2 A := fun ⟨j, Ps, h1, _⟩ => hno a hm j Ps h1
    refine ⟨fun j m Hh => m = (ys a).length - j ∧ j ≤ (ys a).length ∧ Pw j Hh, ⟨_, rfl, Nat.zero_le _, eh.trans e35, f4.mono e5, acc, e35 _ _ ha, ?_⟩, ?_⟩
    · rw [List.take_zero, List.map_nil, List.append_nil]
      exact ka.mono (.of e35)
    rintro j m Hj ⟨rfl, hj, ej, fj, acc, hb, kb⟩
    by_cases hlt1 : j < (ys a).length
    · refine .inr ⟨(wk1 Hj).go j Hj hlt1 Ex.r, Pw (j + 1), fun H' q => ⟨(ys a).length - (j + 1), by omega, rfl, hlt1, q⟩, fun v H6 y => ?_⟩
      obtain ⟨e6, b, gb, rb⟩ := (wk1 Hj).yld j Hj v H6 hlt1 Ex.r y
      have hm1 : b ∈ ys a := List.mem_of_getElem? gb
      have ts1 : (ys a).take (j + 1) = (ys a).take j ++ [b] := take_snoc gb
      intro s h C cl fp
      refine hg1 s h C cl fp a hm b hm1 H0 H1 _ H6 v ((fj.mono e6).wipe _) rb _ fun σ3 H7 e7 f7 l7 g7 => ⟨wipe_same (l7.trans (wipe_length _ _)) g7, ?_⟩
      show wEb X scope elt σ3 H7 _
      intro s h C cl fp
      refine he s h C cl fp a hm b hm1 H0 H1 σ3 H7 f7 _ fun w H8 e8 r8 => ?_
      have e68 : Ex Hj H8 := (e6.trans e7).trans e8
      refine ⟨acc, e68 _ _ hb, ?_, ?_⟩
      · have lb := kb.len
        rw [List.length_append, List.length_map, List.length_take] at lb
        have h1 := hl k
        have h2 := hl1 a hm
        exact Nat.lt_of_lt_of_le (show acc.length < 100001 by omega) (by decide)
      · have xx : ExI H8 (upd H8 A (.lst (acc ++ [w]))) := .upd (e68 _ _ hb) fun z => z
        refine ⟨Evl.Ex.mut (ej.trans e68) hA, (fj.mono e68).other nA (e68 _ _ hb) (fun z => z) nown, acc ++ [w], upd_same, ?_⟩
        rw [ts1, List.map_append, ← List.append_assoc]
        exact oks_append1 ((kb.mono (.of e68)).mono xx) ((G a b).mono xx r8)
    · have ee : j = (ys a).length := by omega
      subst ee
      refine .inl ⟨(wk1 Hj).stop Hj Ex.r, ej, acc, hb, ?_⟩
      rw [ts, both_snoc]
      rw [List.take_length] at kb
      exact kb
  · have ee : k = xs.length := by omega
    subst ee
    refine .inl ⟨wk.stop Hh eb, hn _ Hh (f.setO (e2.trans eh) i (Evl.fresh_back e2 hA) ha ?_)⟩
    rw [List.take_length] at ka
    exact ka
end
end K8
end
section
set_option Elab.async false
set_option linter.all false
set_option maxRecDepth 100000
set_option maxHeartbeats 1000000
set_option autoImplicit false
namespace K8
open PySem L2
open Evl (Ex)
/-! Counts. -/
theorem g_freezeR {X : Cx} {Γ : Ctx} {sts : List Stmt} {N : NK} {R : Ty} (i : Nat) {Ps : List VI} (hΓ : Γ[i]? = some (.o Ps)) (h : GS X sts (Γ.set i (.f (.lst Ps))) noN R) : GS X sts Γ N R := fun H0 H1 σ H f D hn hr => h H0 _ σ H (f.freeze hΓ) D (fun _ _ z => z.elim) hr
theorem idx_mid {k : Nat} {pre post : List Nat} {a : Nat} (e : List.range k = pre ++ a :: post) : a = pre.length ∧ pre = List.range a ∧ a < k := by
  have h := congrArg (fun l : List Nat => l[pre.length]?) e
  simp only [List.getElem?_append_right (Nat.le_refl _), Nat.sub_self, List.getElem?_cons_zero] at h
  obtain ⟨_, h⟩ := List.getElem?_eq_some_iff.mp h
  have ha : a = pre.length := by simpa using h.symm
  have hak : a < k := by
    have := mem_mid e
    simpa using this
  refine ⟨ha, ?_, hak⟩
  have h := take_pre e
  rw [List.take_range, Nat.min_eq_left (by omega)] at h
  rw [← h, ha]
def cnt (m : Nat) (wd : List Nat) : List Nat := (List.range m).map fun g => (wd.filter fun e => decide (e = g)).length
/-- one more good's count for all -/
def cstep (l : List (List Nat × Nat)) : List (List Nat × Nat) := l.flatMap fun z => (List.range (z.2 + 1)).map fun m => (z.1 ++ [m], z.2 - m)
def cfrom (d : Nat) : Nat → List (List Nat × Nat)
  | 0 => [([], d)]
  | g + 1 => cstep (cfrom d g)
/-- all counts of g + 1 goods in d days -/
def coa (g d : Nat) : List (List Nat) := (cfrom d g).map fun z => z.1 ++ [z.2]
def ways (cs : List Nat) : Int × Nat := cs.foldl (fun z c => (z.1 * chs ((z.2 + c : Nat) : Int) (List.range c), z.2 + c)) (1, 0)
theorem ways_snoc (cs : List Nat) (c : Nat) : ways (cs ++ [c]) = ((ways cs).1 * chs (((ways cs).2 + c : Nat) : Int) (List.range c), (ways cs).2 + c) := by simp [ways, List.foldl_append]
/-- few counts, each small -/
def Cs (cs : List Nat) : Prop := cs.length ≤ 5 ∧ ∀ c ∈ cs, c ≤ 10
theorem sum_le {b : Nat} : ∀ {cs : List Nat}, (∀ c ∈ cs, c ≤ b) → cs.sum ≤ cs.length * b
  | [], _ => by simp
  | c :: cs, h => by
    have h1 := h c (by simp)
    have h2 := sum_le (b := b) (cs := cs) fun x hx => h x (by simp [hx])
    simp only [List.sum_cons, List.length_cons, Nat.add_mul, Nat.one_mul]
    omega
theorem Cs.sum {cs : List Nat} (h : Cs cs) : cs.sum ≤ 50 := by
  have h1 := sum_le h.2
  have h2 := Nat.mul_le_mul_right 10 h.1
  omega
theorem ways_two (cs : List Nat) : (ways cs).2 = cs.sum := by
  induction cs using rev_ind with
  | h0 => rfl
  | h1 l a ih => rw [ways_snoc, List.sum_append, ih]; simp
theorem ways_lt {cs : List Nat} : Cs cs → (ways cs).1.natAbs < 2 ^ (cs.length * 101 + 1) := by
  induction cs using rev_ind with
  | h0 => intro _; decide
  | h1 l a ih =>
    intro h
    have hl : Cs l := ⟨by have := h.1; simp at this; omega, fun c hc => h.2 c (by simp [hc])⟩
    have ha := h.2 a (by simp)
    rw [ways_snoc, List.length_append]
    rw [Int.natAbs_mul]
    have h2 := chs_lt (m := (((ways l).2 + a : Nat) : Int)) (by have := hl.sum; rw [ways_two]; omega) a (by omega)
    exact Nat.lt_of_lt_of_le (mul_lt_pow (ih hl) h2) (pow_le (by simp only [List.length_singleton, Nat.add_mul]; omega))
theorem cfrom_le {d : Nat} : ∀ g, (cfrom d g).length ≤ (d + 1) ^ g ∧ ∀ z ∈ cfrom d g, z.1.length = g ∧ z.1.sum + z.2 = d
  | 0 => ⟨by simp [cfrom], by simp [cfrom]⟩
  | g + 1 => by
    obtain ⟨h1, h2⟩ := cfrom_le (d := d) g
    constructor
    · have key : ∀ l : List (List Nat × Nat), (∀ z ∈ l, z.2 ≤ d) → (cstep l).length ≤ l.length * (d + 1) := by
        intro l
        induction l with
        | nil => intro _; simp [cstep]
        | cons z l ih =>
          intro h
          have i1 := ih fun y hy => h y (by simp [hy])
          have i2 := h z (by simp)
          simp only [cstep, List.flatMap_cons, List.length_append, List.length_map, List.length_range, List.length_cons, Nat.add_mul, Nat.one_mul] at i1 ⊢
          omega
      have k := key (cfrom d g) fun z hz => by have := (h2 z hz).2; omega
      show (cstep (cfrom d g)).length ≤ _
      rw [Nat.pow_succ]
      exact Nat.le_trans k (Nat.mul_le_mul_right _ h1)
    · intro z hz
      obtain ⟨y, hy, hz⟩ := List.mem_flatMap.mp hz
      obtain ⟨m, hm, rfl⟩ := List.mem_map.mp hz
      obtain ⟨a, b⟩ := h2 y hy
      have hm := List.mem_range.mp hm
      exact ⟨by simp [a], by simp; omega⟩
theorem coa_mem {g d : Nat} {cs : List Nat} (h : cs ∈ coa g d) : cs.length = g + 1 ∧ cs.sum = d := by
  obtain ⟨z, hz, rfl⟩ := List.mem_map.mp h
  obtain ⟨a, b⟩ := (cfrom_le g).2 z hz
  exact ⟨by simp [a], by simp [b]⟩
theorem le_sum {cs : List Nat} {c : Nat} (h : c ∈ cs) : c ≤ cs.sum := by
  induction cs with
  | nil => simp at h
  | cons a l ih =>
    rcases List.mem_cons.mp h with rfl | h
    · simp
    · have := ih h
      simp
      omega
theorem coa_cs {g d : Nat} (hg : g ≤ 4) (hd : d ≤ 4) {cs : List Nat} (h : cs ∈ coa g d) : Cs cs := by
  obtain ⟨a, b⟩ := coa_mem h
  exact ⟨by omega, fun c hc => by have := le_sum hc; omega⟩
theorem pow5 {d g : Nat} (hg : g ≤ 4) (hd : d ≤ 4) : (d + 1) ^ g ≤ 625 := Nat.le_trans (Nat.pow_le_pow_left (show d + 1 ≤ 5 by omega) g) (Nat.le_trans (Nat.pow_le_pow_right (by decide) hg) (by decide))
/-- the two-clause comprehension's items -/
theorem both_cstep (l : List (List Nat × Nat)) : both l (fun z => List.range (z.2 + 1)) (fun z m => VI.tup [VI.tup (natz (z.1 ++ [m])), VI.int ((z.2 - m : Nat) : Int)]) = (cstep l).map fun z => VI.tup [VI.tup (natz z.1), VI.int (z.2 : Int)] := by
  unfold both cstep
  rw [List.map_flatMap]
  congr 1
  funext z
  rw [List.map_map]
  rfl
theorem both_take (l : List (List Nat × Nat)) (k : Nat) : (both (l.take k) (fun z => List.range (z.2 + 1)) (fun z m => VI.tup [VI.tup (natz (z.1 ++ [m])), VI.int ((z.2 - m : Nat) : Int)])).length ≤ (cstep l).length := by
  rw [both_cstep, List.length_map]
  conv => rhs; rw [← List.take_append_drop k l]
  simp only [cstep, List.flatMap_append, List.length_append]
  omega
section
variable {P : Program} {w : World} {K : PySem.W.Frag} {mg : Str → Option Value} {base : Heap} (T : Tx K mg)
include T
theorem ok_counts_in : Fq P w K mg base "counts_in" 1 ["goods", "word"] [] (spV (fun z : Nat × List Nat => z.1 ≤ 1000 ∧ z.2.length ≤ 1000) (fun z => [ei (z.1 : Int), (VI.tup (natz z.2)).p]) (fun z => VI.tup (natz (cnt z.1 z.2)))) :=
  fq_V T.x_counts_in sc_counts_in (fun _ _ _ _ _ _ us hl => match us, hl with | [_, _], _ => rfl) (fun _ => rfl) fun cdv A outer s H E hr ⟨m, wd⟩ ⟨h0, h1⟩ => by
    have h0 : m ≤ 1000 := h0
    have h1 : wd.length ≤ 1000 := h1
    refine g_one (g_ret ((e_tupL T.bl (EF.v (ef_lc (own := [("good", 2)]) (xs := List.range m) (F := fun i => VI.int (i : Int)) (G := fun g => VI.int (((wd.filter fun e => decide (e = g)).length : Nat) : Int)) (Γe := fun i => [.e (ei m), .e (VI.tup (natz wd)).p, .i (VI.int (i : Int)), .u]) rfl sc_counts_in.nd (blkOk_by (N := nm_counts_in) (sc := defScope st_counts_in) (by decide +kernel))
      (it_range T.bl (vE 0) (by omega)) (by simp; omega) (fun s h C cl fp z hz => tg_name 2 sc_counts_in.nd) (fun s h C cl fp z hz => (e_lenL T.bl (EF.v (ef_lcIf (own := [("each", 3)]) (xs := wd) (keep := fun e => decide (e = z)) (F := fun i => VI.int (i : Int)) (G := fun i => VI.int (i : Int)) (Γe := fun e => [.e (ei m), .e (VI.tup (natz wd)).p, .i (VI.int (z : Int)), .i (VI.int (e : Int))]) rfl sc_counts_in.nd (blkOk_by (N := nm_counts_in) (sc := relS _ (defScope st_counts_in)) (by decide +kernel))
        (it_tup (vE 1) rfl) (by omega) (fun s h C cl fp e he => tg_name 3 sc_counts_in.nd) (fun s h C cl fp e he => (t_eqI (vI 3) (vI 2)).to (decide_eq_decide.mpr (by omega))) (fun s h C cl fp e he _ => vI 3)))).to (by rw [List.length_map]))))).to ?_))
    show (VI.tup _).p = (VI.tup (natz (cnt m wd))).p
    rw [natz, cnt, List.map_map]
    rfl
theorem ok_many_counts : Fq P w K mg base "many_counts" 2 ["goods", "days"] [] (spV (fun z : Nat × Nat => z.1 ≤ 100 ∧ z.2 ≤ 100) (fun z => [ei ((z.1 + 1 : Nat) : Int), ei (z.2 : Int)]) (fun z => VI.int (chs ((z.2 + z.1 : Nat) : Int) (List.range z.1)))) :=
  fq_V T.x_many_counts sc_many_counts (fun _ _ _ _ _ _ us hl => match us, hl with | [_, _], _ => rfl) (fun _ => rfl) fun cdv A outer s H E hr ⟨g, d⟩ ⟨h0, h1⟩ => by
    have h0 : g ≤ 100 := h0
    have h1 : d ≤ 100 := h1
    exact g_one (g_ret (ev_call (ok_choose_in T) hr (((d + g : Nat) : Int), g) ⟨by show ((d + g : Nat) : Int).natAbs ≤ 400; omega, h0⟩ (ea_cons ((e_sub (e_add (vE 1) (vE 0)) e_int).to (congrArg ei (by omega : (d : Int) + ((g + 1 : Nat) : Int) - 1 = ((d + g : Nat) : Int)))) (ea_cons ((e_sub (vE 0) e_int).to (congrArg ei (by omega : ((g + 1 : Nat) : Int) - 1 = (g : Int)))) ea_nil))))
theorem ok_need_few_counts : Fq P w K mg base "need_few_counts" 3 ["goods", "days"] [] (spV (fun z : Nat × Nat => z.1 ≤ 100 ∧ z.2 ≤ 100 ∧ chs ((z.2 + z.1 : Nat) : Int) (List.range z.1) ≤ 5000) (fun z => [ei ((z.1 + 1 : Nat) : Int), ei (z.2 : Int)]) (fun _ => VI.non)) :=
  fq_V T.x_need_few_counts sc_need_few_counts (fun _ _ _ _ _ _ us hl => match us, hl with | [_, _], _ => rfl) (fun _ => rfl) fun cdv A outer s H E hr ⟨g, d⟩ ⟨h0, h1, h2⟩ => by
    have h2 : chs ((d + g : Nat) : Int) (List.range g) ≤ 5000 := h2
    exact gs_end (g_one (g_not ((t_gt (ev_call (ok_many_counts T) hr (g, d) ⟨h0, h1⟩ (ea_cons (vE 0) (ea_cons (vE 1) ea_nil))) (e_gInt T.c_MOST_COUNTS_words)).to (decide_eq_false (by omega)))))
theorem ok_ways_in : Fq P w K mg base "ways_in" 2 ["counts"] [] (spV (fun cs : List Nat => Cs cs) (fun cs => [(VI.tup (natz cs)).p]) (fun cs => VI.int (ways cs).1)) :=
  fq_V T.x_ways_in sc_ways_in (fun _ _ _ _ _ _ us hl => match us, hl with | [_], _ => rfl) (fun _ => rfl) fun cdv A outer s H E hr cs h0 => by
    have h0 : Cs cs := h0
    refine g_cons (g_asg (vs := [1, 2]) (e_tup (ei_cons e_int (ei_cons e_int ei_nil))) (tg_tup rfl (tgs_cons (tg_name 1 sc_ways_in.nd) (tgs_cons (tg_name 2 sc_ways_in.nd) tgs_nil)))) ?_
    refine g_cons ((g_for (vs := [3]) PassesOwn.never rfl (fun pre : List Nat => [.e (VI.tup (natz cs)).p, .i (VI.int (ways pre).1), .i (VI.int ((ways pre).2 : Nat)), .u]) (fun pre a => [.e (VI.tup (natz cs)).p, .i (VI.int (ways pre).1), .i (VI.int ((ways pre).2 : Nat)), .i (VI.int (a : Int))]) (it_tup (F := fun c : Nat => VI.int (c : Int)) (vE 0) rfl) (fun pre a post _ => tg_name 3 sc_ways_in.nd) (fun pre a post e => ?_))) (g_one (g_ret (vI 1)))
    have hp : Cs pre := ⟨by have := h0.1; rw [e] at this; simp at this; omega, fun c hc => h0.2 c (by rw [e]; simp [hc])⟩
    have ha := h0.2 a (mem_mid e)
    have h2 := chs_lt (m := (((ways pre).2 + a : Nat) : Int)) (by have := hp.sum; rw [ways_two]; omega) a (by omega)
    refine g_cons (g_set 2 sc_ways_in.nd ((e_add (vI 2) (vI 3)).to (congrArg ei (by omega : (((ways pre).2 : Nat) : Int) + (a : Int) = (((ways pre).2 + a : Nat) : Int))))) ?_
    refine g_one ((g_set 1 sc_ways_in.nd (e_mul (vI 1) (ev_call (ok_choose_in T) hr ((((ways pre).2 + a : Nat) : Int), a) ⟨by show (((ways pre).2 + a : Nat) : Int).natAbs ≤ 400; have := hp.sum; rw [ways_two]; omega, by show a ≤ 100; omega⟩ (ea_cons (vI 2) (ea_cons (vI 3) ea_nil))) (mulW (ways_lt hp) h2 (by have := hp.1; omega)))).toLe ⟨rfl, fun i U hi => ?_⟩)
    rw [ways_snoc] at hi
    match i, hi with
    | 0, hi => exact .inr hi
    | 1, hi => exact .inr hi
    | 2, hi => exact .inr hi
    | 3, hi => exact .inl (Option.some.inj hi).symm
theorem ok_counts_of_all : Fq P w K mg base "counts_of_all" 1 ["goods", "days"] [] (spL (fun z : Nat × Nat => z.1 ≤ 4 ∧ z.2 ≤ 4) (fun z => [ei ((z.1 + 1 : Nat) : Int), ei (z.2 : Int)]) (fun z => (coa z.1 z.2).map fun cs => VI.tup (natz cs))) :=
  fq_L T.x_counts_of_all sc_counts_of_all (fun _ _ _ _ _ _ us hl => match us, hl with | [_, _], _ => rfl) (fun _ => rfl) fun cdv A outer s H E hr ⟨g, d⟩ ⟨h0, h1⟩ => by
    have h0 : g ≤ 4 := h0
    have h1 : d ≤ 4 := h1
    have hlen : ∀ k ≤ 4, (cfrom d k).length ≤ 625 := fun k hk => Nat.le_trans (cfrom_le k).1 (pow5 hk h1)
    refine g_cons (g_setF 2 sc_counts_of_all.nd (Ps := (cfrom d 0).map fun z => VI.tup [VI.tup (natz z.1), VI.int (z.2 : Int)]) (ef_lst (ei_cons (e_tup (ei_cons (e_tup ei_nil) (ei_cons (vE 1) ei_nil))) ei_nil))) ?_
    refine g_cons ((g_for (vs := [3]) PassesOwn.never rfl (fun pre : List Nat => [.e (ei ((g + 1 : Nat) : Int)), .e (ei d), .o ((cfrom d pre.length).map fun z => VI.tup [VI.tup (natz z.1), VI.int (z.2 : Int)]), .u, .u, .u, .u]) (fun pre a => [.e (ei ((g + 1 : Nat) : Int)), .e (ei d), .o ((cfrom d pre.length).map fun z => VI.tup [VI.tup (natz z.1), VI.int (z.2 : Int)]), .i (VI.int (a : Int)), .u, .u, .u]) (it_range T.bl (k := g) ((e_sub (vE 0) e_int).to (congrArg ei (by omega : ((g + 1 : Nat) : Int) - 1 = (g : Int)))) (by omega)) (fun pre a post _ => tg_name 3 sc_counts_of_all.nd) (fun pre a post e => ?_))) ?_
    · obtain ⟨e1, e2, e3⟩ := idx_mid e
      have hk : pre.length ≤ 4 := by omega
      have hk1 : (cfrom d (pre.length + 1)).length ≤ 625 := hlen _ (by omega)
      refine g_one ((g_freeze 2 rfl (g_setLc2 2 (own := [("counts", 4), ("left", 5), ("many", 6)]) (vs1 := [6]) (xs := cfrom d pre.length) (ys := fun z => List.range (z.2 + 1)) (F := fun z => VI.tup [VI.tup (natz z.1), VI.int (z.2 : Int)]) (F1 := fun m : Nat => VI.int (m : Int)) (G := fun z m => VI.tup [VI.tup (natz (z.1 ++ [m])), VI.int ((z.2 - m : Nat) : Int)])
        (Γe := fun z => [.e (ei ((g + 1 : Nat) : Int)), .e (ei d), .f (.lst ((cfrom d pre.length).map fun z => VI.tup [VI.tup (natz z.1), VI.int (z.2 : Int)])), .i (VI.int (a : Int)), .i (VI.tup (natz z.1)), .i (VI.int (z.2 : Int)), .u])
        (Γe2 := fun z m => [.e (ei ((g + 1 : Nat) : Int)), .e (ei d), .f (.lst ((cfrom d pre.length).map fun z => VI.tup [VI.tup (natz z.1), VI.int (z.2 : Int)])), .i (VI.int (a : Int)), .i (VI.tup (natz z.1)), .i (VI.int (z.2 : Int)), .i (VI.int (m : Int))])
        rfl sc_counts_of_all.nd rfl (blkOk_by (N := nm_counts_of_all) (sc := defScope st_counts_of_all) (by decide +kernel)) (it_list (lF 2) rfl) (by decide) (fun k => Nat.le_trans (both_take _ k) (Nat.le_trans hk1 (by decide))) (fun z hz => ?_) rfl
        (fun s h C cl fp z hz => tg_tup rfl (tgs_cons (tg_name 4 sc_counts_of_all.nd) (tgs_cons (tg_name 5 sc_counts_of_all.nd) tgs_nil))) (fun z hz j Ps h => ?_)
        (fun s h C cl fp z hz => it0_range T.bl (k := z.2 + 1) ((e_add (vI 5) e_int).to (congrArg ei (by omega : (z.2 : Int) + 1 = ((z.2 + 1 : Nat) : Int)))) ?_) (fun s h C cl fp z hz m hm => tg_name 6 sc_counts_of_all.nd)
        (fun s h C cl fp z hz m hm => e_tup (ei_cons ((e_catT (vI 4) (e_tup (ei_cons (vI 6) ei_nil)) ?_).to ?_) (ei_cons ((e_sub (vI 5) (vI 6)).to ?_) ei_nil))))).toLe ?_)
      · have := ((cfrom_le _).2 z hz).2
        rw [List.length_range]
        omega
      · match j, h with
        | 0, h => cases h
        | 1, h => cases h
        | 2, h => cases h
        | 3, h => cases h
        | 4, h => cases h
        | 5, h => cases h
        | 6, h => cases h
      · have := ((cfrom_le _).2 z hz).2
        omega
      · have := ((cfrom_le _).2 z hz).1
        simp
        omega
      · show (VI.tup (natz z.1 ++ [VI.int (m : Int)])).p = (VI.tup (natz (z.1 ++ [m]))).p
        rw [natz, natz, List.map_append]
        rfl
      · have hm := List.mem_range.mp hm
        exact congrArg ei (by omega : (z.2 : Int) - (m : Int) = ((z.2 - m : Nat) : Int))
      · refine ⟨rfl, fun i U hi => ?_⟩
        rw [List.length_append] at hi
        match i, hi with
        | 0, hi => exact .inr hi
        | 1, hi => exact .inr hi
        | 2, hi =>
          refine .inr (Eq.trans ?_ hi)
          show some (Ty.o (both _ _ _)) = some (Ty.o _)
          rw [both_cstep]
          rfl
        | 3, hi => exact .inl (Option.some.inj hi).symm
        | 4, hi => exact .inl (Option.some.inj hi).symm
        | 5, hi => exact .inl (Option.some.inj hi).symm
        | 6, hi => exact .inl (Option.some.inj hi).symm
    · have hk := hlen g h0
      refine GS.le (g_freezeR 2 (Γ := [.u, .u, .o ((cfrom d g).map fun z => VI.tup [VI.tup (natz z.1), VI.int (z.2 : Int)]), .u, .u, .u, .u]) rfl (g_one (g_retF ((ef_lc (own := [("counts", 4), ("left", 5)]) (xs := cfrom d g) (F := fun z => VI.tup [VI.tup (natz z.1), VI.int (z.2 : Int)]) (G := fun z => VI.tup (natz (z.1 ++ [z.2]))) (Γe := fun z => [.u, .u, .f (.lst ((cfrom d g).map fun z => VI.tup [VI.tup (natz z.1), VI.int (z.2 : Int)])), .u, .i (VI.tup (natz z.1)), .i (VI.int (z.2 : Int)), .u]) rfl sc_counts_of_all.nd (blkOk_by (N := nm_counts_of_all) (sc := defScope st_counts_of_all) (by decide +kernel))
        (it_list (lF 2) rfl) (by omega) (fun s h C cl fp z hz => tg_tup rfl (tgs_cons (tg_name 4 sc_counts_of_all.nd) (tgs_cons (tg_name 5 sc_counts_of_all.nd) tgs_nil))) (fun s h C cl fp z hz => (e_catT (vI 4) (e_tup (ei_cons (vI 5) ei_nil)) ?_).to ?_)).to ?_)))) ?_
      · have := ((cfrom_le _).2 z hz).1
        simp
        omega
      · show (VI.tup (natz z.1 ++ [VI.int (z.2 : Int)])).p = (VI.tup (natz (z.1 ++ [z.2]))).p
        rw [natz, natz, List.map_append]
        rfl
      · show _ = (coa g d).map _
        rw [coa, List.map_map]
        rfl
      · refine ⟨rfl, fun i U hi => ?_⟩
        match i, hi with
        | 0, hi => exact .inl (Option.some.inj hi).symm
        | 1, hi => exact .inl (Option.some.inj hi).symm
        | 2, hi =>
          refine .inr (Eq.trans ?_ hi)
          show some (Ty.o _) = some (Ty.o _)
          rw [List.length_range]
        | 3, hi => exact .inl (Option.some.inj hi).symm
        | 4, hi => exact .inl (Option.some.inj hi).symm
        | 5, hi => exact .inl (Option.some.inj hi).symm
        | 6, hi => exact .inl (Option.some.inj hi).symm
end
end K8
end
section
set_option Elab.async false
set_option linter.all false
set_option maxRecDepth 100000
set_option maxHeartbeats 1000000
set_option autoImplicit false
namespace K8
open PySem L2
open Evl (Ex)
/-! Towers; the worth of counts. -/
def tw (cs : List Nat) : Int := cs.foldl (fun (a : Int) (c : Nat) => a * (c : Int) ^ c) 1
theorem tw_snoc (cs : List Nat) (c : Nat) : tw (cs ++ [c]) = tw cs * (c : Int) ^ c := by simp [tw, List.foldl_append]
theorem self_pos (n : Nat) : 0 < (n : Int) ^ n := by
  cases n with
  | zero => decide
  | succ n => exact Int.pow_pos (by omega)
theorem self_lt {n k : Nat} (h : n < 2 ^ k) : ((n : Int) ^ n).natAbs < 2 ^ (k * n + 1) := natAbs_pow_lt (n := (n : Int)) (k := k) (by rw [Int.natAbs_natCast]; exact h) n
/-- the worth of counts -/
def wt (cs : List Nat) : Rat := Rat.divInt (tw cs) ((cs.sum : Int) ^ cs.sum)
theorem tw_lt {cs : List Nat} : Cs cs → (tw cs).natAbs < 2 ^ (cs.length * 41 + 1) := by
  induction cs using rev_ind with
  | h0 => intro _; decide
  | h1 l a ih =>
    intro h
    have hl : Cs l := ⟨by have := h.1; simp at this; omega, fun c hc => h.2 c (by simp [hc])⟩
    have ha := h.2 a (by simp)
    rw [tw_snoc, Int.natAbs_mul, List.length_append]
    have h2 := self_lt (n := a) (k := 4) (by omega)
    exact Nat.lt_of_lt_of_le (mul_lt_pow (ih hl) h2) (pow_le (by simp only [List.length_singleton, Nat.add_mul]; omega))
theorem tw_pos (cs : List Nat) : 0 < tw cs := by
  induction cs using rev_ind with
  | h0 => decide
  | h1 l a ih => rw [tw_snoc]; exact Int.mul_pos ih (self_pos a)
theorem N_lt {cs : List Nat} (h : Cs cs) : ((cs.sum : Int) ^ cs.sum).natAbs < 2 ^ 301 := Nat.lt_of_lt_of_le (self_lt (k := 6) (by have := h.sum; omega)) (pow_le (by have := h.sum; omega))
theorem wt_sz {cs : List Nat} (h : Cs cs) : Sz 301 (wt cs) := Sz.div (Nat.lt_of_lt_of_le (tw_lt h) (pow_le (by have := h.1; omega))) (self_pos _) (N_lt h)
theorem tw_prod (cs : List Nat) : rprod (cs.map fun c => (((c : Nat) : Int) : Rat) ^ c) = ((tw cs : Int) : Rat) := by
  induction cs using rev_ind with
  | h0 => rfl
  | h1 l a ih => rw [List.map_append, List.map_singleton, rprod_snoc, ih, tw_snoc, Rat.intCast_mul, Rat.intCast_pow]
theorem ipow (c : Nat) : (((c : Nat) : Int) : Rat) ^ c = (((c : Int) ^ c : Int) : Rat) := by rw [Rat.intCast_pow]
theorem int_num {n : Int} {H : Hp} {v : V} (q : (VI.num (n : Rat)).p.ok H v) : (ei n).ok H v := num_int (r := (n : Rat)) (by simp) q
theorem szi {n : Nat} {k : Nat} (h : n < 2 ^ k) (hk : 0 < k) : Sz k (((n : Nat) : Int) : Rat) := Sz.int (n := (n : Int)) (by rw [Int.natAbs_natCast]; exact h) hk
theorem rpow_add (r : Rat) (a : Nat) : ∀ b : Nat, r ^ (a + b) = r ^ a * r ^ b
  | 0 => by rw [Nat.add_zero, Rat.pow_zero, Rat.mul_one]
  | b + 1 => by rw [← Nat.add_assoc, Rat.pow_succ, rpow_add r a b, Rat.pow_succ, Rat.mul_assoc]
theorem rmul_pow (r t : Rat) : ∀ n : Nat, (r * t) ^ n = r ^ n * t ^ n
  | 0 => by rw [Rat.pow_zero, Rat.pow_zero, Rat.pow_zero, Rat.mul_one]
  | n + 1 => by rw [Rat.pow_succ, rmul_pow r t n, Rat.pow_succ, Rat.pow_succ]; grind
/-- .. by parts -/
theorem wt_parts (cs : List Nat) : ∀ M : Nat, 0 < M → rprod ((cs.filter fun c => decide (0 < c)).map fun c : Nat => (Rat.divInt (c : Int) (M : Int)) ^ c) * ((M : Int) : Rat) ^ cs.sum = ((tw cs : Int) : Rat) := by
  intro M hM
  have hne : ((M : Int) : Rat) ≠ 0 := by
    intro e
    have := Rat.intCast_eq_zero_iff.mp e
    omega
  induction cs using rev_ind with
  | h0 => rw [List.filter_nil, List.map_nil]; show (1 : Rat) * _ ^ 0 = 1; rw [Rat.pow_zero, Rat.mul_one]
  | h1 l a ih =>
    rw [List.filter_append, List.map_append, List.sum_append, tw_snoc, Rat.intCast_mul, ← ih]
    by_cases h : 0 < a
    · rw [List.filter_cons, decide_eq_true h, if_pos rfl, List.filter_nil, List.map_singleton, rprod_snoc, List.sum_singleton, rpow_add]
      have e : Rat.divInt (a : Int) (M : Int) ^ a * ((M : Int) : Rat) ^ a = (((a : Int) ^ a : Int) : Rat) := by
        rw [← rmul_pow, Rat.divInt_eq_div, Rat.div_mul_cancel hne, Rat.intCast_pow]
      rw [← e]
      grind
    · have h0 : a = 0 := by omega
      subst h0
      rw [List.filter_cons, decide_eq_false (by omega), if_neg Bool.false_ne_true, List.filter_nil, List.map_nil, List.append_nil, List.sum_singleton, Nat.add_zero]
      have : (((0 : Nat) : Int) ^ 0 : Int) = 1 := rfl
      rw [this]
      grind
theorem wt_zero {cs : List Nat} (h : cs.sum = 0) : cs.filter (fun c => decide (0 < c)) = [] := by
  rw [List.filter_eq_nil_iff]
  intro c hc
  have := le_sum hc
  simp
  omega
theorem wt_by (cs : List Nat) : rprod ((cs.filter fun c => decide (0 < c)).map fun c : Nat => (Rat.divInt (c : Int) (cs.sum : Int)) ^ c) = wt cs := by
  by_cases h : 0 < cs.sum
  · have e := wt_parts cs cs.sum h
    have hne : ((cs.sum : Int) : Rat) ^ cs.sum ≠ 0 := by
      intro z
      rw [← Rat.intCast_pow] at z
      have := Rat.intCast_eq_zero_iff.mp z
      have := self_pos cs.sum
      omega
    rw [wt, Rat.divInt_eq_div, Rat.intCast_pow, ← e, Rat.div_def, Rat.mul_assoc, Rat.mul_inv_cancel _ hne, Rat.mul_one]
  · have h0 : cs.sum = 0 := by omega
    have e := wt_parts cs 1 (by decide)
    rw [wt_zero h0, h0] at e
    rw [wt_zero h0, wt, h0, Rat.divInt_eq_div, ← e]
    decide +kernel
theorem isum (cs : List Nat) : (cs.map fun c : Nat => (c : Int)).sum = (cs.sum : Int) := by
  induction cs with
  | nil => rfl
  | cons c cs ih => rw [List.map_cons, List.sum_cons, List.sum_cons, ih]; omega
section
variable {X : Cx} {Γ : Ctx} {pos p : Pos} {e : Expr}
theorem e_sumTn (M : Bl X.mg) {cs : List Nat} (hc : X.calm = true) (h : EV X e Γ (VI.tup (natz cs)).p) (hg : Gl X "sum" := by rfl) (he : starEach [e] X.env = (false, eval e X.env) :: starEach [] X.env := by rfl) : EV X (.Call (.Name "sum" p) [e] [] pos) Γ (ei (cs.sum : Int)) :=
  (e_sumT M (ns := cs.map fun c : Nat => (c : Int)) hc (h.to (by rw [List.map_map]; rfl)) hg he).to (congrArg ei (isum cs))
theorem e_sumLn (M : Bl X.mg) {cs : List Nat} (hc : X.calm = true) (h : EV X e Γ (.lst (natz cs))) (hg : Gl X "sum" := by rfl) (he : starEach [e] X.env = (false, eval e X.env) :: starEach [] X.env := by rfl) : EV X (.Call (.Name "sum" p) [e] [] pos) Γ (ei (cs.sum : Int)) :=
  (e_sum M (ns := cs.map fun c : Nat => (c : Int)) hc (h.to (by rw [List.map_map]; rfl)) hg he).to (congrArg ei (isum cs))
end
section
variable {P : Program} {w : World} {K : PySem.W.Frag} {mg : Str → Option Value} {base : Heap} (T : Tx K mg)
include T
theorem ok_tower : Fq P w K mg base "tower" 2 ["number"] [] (spV (fun n : Nat => n ≤ 400) (fun n => [ei (n : Int)]) (fun n => VI.int ((n : Int) ^ n))) :=
  fq_V T.x_tower sc_tower (fun _ _ _ _ _ _ us hl => match us, hl with | [_], _ => rfl) (fun _ => rfl) fun cdv A outer s H E hr n h0 => by
    have h0 : n ≤ 400 := h0
    exact g_one (g_ret (ev_call (ok_raised T) hr ((n : Int), n, 9) ⟨by show (n : Int).natAbs < 2 ^ 9; omega, by show 9 * n ≤ 400000; omega⟩ (ea_cons (vE 0) (ea_cons (vE 0) ea_nil))))
theorem ok_worth_by_bests : Fq P w K mg base "worth_by_bests" 3 ["counts"] [] (spV (fun cs : List Nat => Cs cs) (fun cs => [(VI.tup (natz cs)).p]) (fun cs => VI.num (wt cs))) :=
  fq_V T.x_worth_by_bests sc_worth_by_bests (fun _ _ _ _ _ _ us hl => match us, hl with | [_], _ => rfl) (fun _ => rfl) fun cdv A outer s H E hr cs h0 => by
    have h0 : Cs cs := h0
    refine g_cons (g_set 1 sc_worth_by_bests.nd e_int) ?_
    refine g_cons ((g_for (vs := [2]) PassesOwn.never rfl (fun pre : List Nat => [.e (VI.tup (natz cs)).p, .i (VI.int (tw pre)), .u]) (fun pre a => [.e (VI.tup (natz cs)).p, .i (VI.int (tw pre)), .i (VI.int (a : Int))]) (it_tup (F := fun c : Nat => VI.int (c : Int)) (vE 0) rfl) (fun pre a post _ => tg_name 2 sc_worth_by_bests.nd) (fun pre a post e => ?_))) (g_one (g_ret ?_))
    · have hp : Cs pre := ⟨by have := h0.1; rw [e] at this; simp at this; omega, fun c hc => h0.2 c (by rw [e]; simp [hc])⟩
      have ha := h0.2 a (mem_mid e)
      refine g_one ((g_set 1 sc_worth_by_bests.nd (e_mul (vI 1) (ev_call (ok_tower T) (hr.mono (by decide)) a (by show a ≤ 400; omega) (ea_cons (vI 2) ea_nil)) (mulW (tw_lt hp) (self_lt (n := a) (k := 4) (by omega)) (by have := hp.1; omega)))).toLe ⟨rfl, fun i U hi => ?_⟩)
      rw [tw_snoc] at hi
      match i, hi with
      | 0, hi => exact .inr hi
      | 1, hi => exact .inr hi
      | 2, hi => exact .inl (Option.some.inj hi).symm
    · exact ev_call (ok_lowest T) (hr.mono (by decide)) (tw cs, (cs.sum : Int) ^ cs.sum) ⟨self_pos _, Nat.lt_of_lt_of_le (N_lt h0) (pow_le (by decide))⟩ (ea_cons (vI 1) (ea_cons (ev_call (ok_tower T) (hr.mono (by decide)) cs.sum (by show cs.sum ≤ 400; have := h0.sum; omega) (ea_cons (e_sumTn T.bl rfl (vE 0)) ea_nil)) ea_nil))
theorem ok_best_at : Fq P w K mg base "best_at" 5 ["counts"] [] (spV (fun cs : List Nat => Cs cs) (fun cs => [.lst (natz cs)]) (fun cs => VI.num (wt cs))) :=
  fq_V T.x_best_at sc_best_at (fun _ _ _ _ _ _ us hl => match us, hl with | [_], _ => rfl) (fun _ => rfl) fun cdv A outer s H E hr cs h0 => by
    have h0 : Cs cs := h0
    have hs := h0.sum
    refine g_cons (g_set 1 sc_best_at.nd (e_sumLn T.bl rfl (vE 0))) (g_one (g_ret ?_))
    refine ev_call (ok_lowest T) (hr.mono (by decide)) (tw cs, (cs.sum : Int) ^ cs.sum) ⟨self_pos _, Nat.lt_of_lt_of_le (N_lt h0) (pow_le (by decide))⟩ (ea_cons (P := ei (tw cs)) (EV.imp (ev_call (ok_multiplied T) hr (cs.map fun c : Nat => ((c : Int) : Rat) ^ c) (szp_of (k := 41) (fun r hr => ?_) ?_ (by decide)) (ea_cons (EF.v ((ef_lc (own := [("count", 2)]) (xs := cs) (F := fun c : Nat => VI.int (c : Int)) (G := fun c : Nat => VI.num (((c : Int) : Rat) ^ c)) (Γe := fun c => [.e (.lst (natz cs)), .i (VI.int (cs.sum : Int)), .i (VI.int (c : Int))]) rfl sc_best_at.nd (blkOk_by (N := nm_best_at) (sc := defScope st_best_at) (by decide +kernel))
      (it_list (lE 0) rfl) (by have := h0.1; omega) (fun s h C cl fp z hz => tg_name 2 sc_best_at.nd) (fun s h C cl fp z hz => ev_call (ok_power_in T) (hr.mono (by decide)) (((z : Int) : Rat), z, 4) ⟨szi (k := 4) (show z < 2 ^ 4 by have := h0.2 z hz; omega) (by decide), by show 4 * z ≤ 8000; have := h0.2 z hz; omega⟩ (ea_cons ((vI (P := VI.int (z : Int)) 2).imp fun H v q => num_of_int rfl q) (ea_cons (vI 2) ea_nil)))).to (Ps' := nums (cs.map fun c : Nat => ((c : Int) : Rat) ^ c)) (by rw [nums, List.map_map]; rfl))) ea_nil)) fun H v q => int_num (by rw [← tw_prod]; exact q)) (ea_cons (P := ei ((cs.sum : Int) ^ cs.sum)) (EV.imp (ev_call (ok_power_in T) (hr.mono (by decide)) (((cs.sum : Int) : Rat), cs.sum, 6) ⟨szi (k := 6) (show cs.sum < 2 ^ 6 by omega) (by decide), by show 6 * cs.sum ≤ 8000; omega⟩ (ea_cons ((vI (P := VI.int (cs.sum : Int)) 1).imp fun H v q => num_of_int rfl q) (ea_cons (vI 1) ea_nil))) fun H v q => int_num (by rw [← ipow]; exact q)) ea_nil))
    · obtain ⟨c, hc, rfl⟩ := List.mem_map.mp hr
      have hc := h0.2 c hc
      exact (Sz.pow (szi (k := 4) (show c < 2 ^ 4 by omega) (by decide)) (by decide) c).mono (by omega)
    · rw [List.length_map]
      have := h0.1
      omega
theorem ok_best_by : Fq P w K mg base "best_by" 5 ["counts"] [] (spV (fun cs : List Nat => Cs cs) (fun cs => [.lst (natz cs)]) (fun cs => VI.num (wt cs))) :=
  fq_V T.x_best_by sc_best_by (fun _ _ _ _ _ _ us hl => match us, hl with | [_], _ => rfl) (fun _ => rfl) fun cdv A outer s H E hr cs h0 => by
    have h0 : Cs cs := h0
    have hs := h0.sum
    have hz : ∀ c ∈ cs, 0 < c → Sz 6 (Rat.divInt (c : Int) (cs.sum : Int)) := fun c hc h => by
      have h1 := h0.2 c hc
      have h2 := le_sum hc
      exact Sz.div (by rw [Int.natAbs_natCast]; exact Nat.lt_of_le_of_lt h1 (by decide)) (by omega) (by rw [Int.natAbs_natCast]; exact Nat.lt_of_le_of_lt hs (by decide))
    refine g_cons (g_set 1 sc_best_by.nd (e_sumLn T.bl rfl (vE 0))) (g_one (g_ret ?_))
    refine (ev_call (ok_multiplied T) hr ((cs.filter fun c => decide (0 < c)).map fun c : Nat => (Rat.divInt (c : Int) (cs.sum : Int)) ^ c) (szp_of (k := 61) (fun r hr => ?_) ?_ (by decide)) (ea_cons (EF.v ((ef_lcIf (own := [("each", 2)]) (xs := cs) (keep := fun c => decide (0 < c)) (F := fun c : Nat => VI.int (c : Int)) (G := fun c : Nat => VI.num ((Rat.divInt (c : Int) (cs.sum : Int)) ^ c)) (Γe := fun c => [.e (.lst (natz cs)), .i (VI.int (cs.sum : Int)), .i (VI.int (c : Int))]) rfl sc_best_by.nd (blkOk_by (N := nm_best_by) (sc := defScope st_best_by) (by decide +kernel))
      (it_list (lE 0) rfl) (by have := h0.1; omega) (fun s h C cl fp z hz => tg_name 2 sc_best_by.nd) (fun s h C cl fp z hz => (t_gt (vI 2) e_int).to (decide_eq_decide.mpr (by omega))) (fun s h C cl fp z hm hk => ev_call (ok_power_in T) (hr.mono (by decide)) (Rat.divInt (z : Int) (cs.sum : Int), z, 6) ⟨hz z hm (of_decide_eq_true hk), by show 6 * z ≤ 8000; have := h0.2 z hm; omega⟩ (ea_cons (ev_call (ok_lowest T) (hr.mono (by decide)) ((z : Int), (cs.sum : Int)) ⟨by show 0 < (cs.sum : Int); have := le_sum hm; have := of_decide_eq_true hk; omega, by show (cs.sum : Int).natAbs < _; rw [Int.natAbs_natCast]; exact Nat.lt_of_le_of_lt hs (Nat.lt_of_lt_of_le (show 50 < 2 ^ 6 by decide) (pow_le (by decide)))⟩ (ea_cons (vI 2) (ea_cons (vI 1) ea_nil))) (ea_cons (vI 2) ea_nil)))).to (Ps' := nums ((cs.filter fun c => decide (0 < c)).map fun c : Nat => (Rat.divInt (c : Int) (cs.sum : Int)) ^ c)) (by rw [nums, List.map_map]; rfl))) ea_nil)).to (by rw [wt_by])
    · obtain ⟨c, hc, rfl⟩ := List.mem_map.mp hr
      obtain ⟨hm, hk⟩ := List.mem_filter.mp hc
      have hc := h0.2 c hm
      exact (Sz.pow (hz c hm (of_decide_eq_true hk)) (by decide) c).mono (by omega)
    · rw [List.length_map]
      have h1 := h0.1
      have h2 : (cs.filter fun c => decide (0 < c)).length ≤ cs.length := List.length_filter_le _ _
      omega
theorem ok_need_counted : Fq P w K mg base "need_counted" 3 ["value"] [] (spV (fun cs : List Nat => Cs cs ∧ 1 ≤ cs.length) (fun cs => [.lst (natz cs)]) (fun cs => VI.tup (natz cs))) :=
  fq_V T.x_need_counted sc_need_counted (fun _ _ _ _ _ _ us hl => match us, hl with | [_], _ => rfl) (fun _ => rfl) fun cdv A outer s H E hr cs ⟨h0, h1⟩ => by
    have h0 : Cs cs := h0
    have h1 : 1 ≤ cs.length := h1
    have h5 := h0.1
    refine g_cons (g_not ((t_or (k := false) (l := false) ((t_not (t_val (ev_call (ok_is_list T) (hr.mono (by decide)) (.l (natz cs)) trivial (ea_cons (vE 0) ea_nil))))) fun _ => (t_not (t_val (ev_call (ok_is_within T) hr (((cs.length : Nat) : Int), 1, some 5) trivial (ea_cons ((e_lenL T.bl (vE 0)).to (by rw [List.length_map])) (ea_cons e_int (ea_cons (e_gInt T.c_MOST_GOODS) ea_nil)))))).to ?_))) ?_
    · show (!(decide ((1 : Int) ≤ (cs.length : Int)) && decide ((cs.length : Int) ≤ 5))) = false
      rw [decide_eq_true (by omega), decide_eq_true (by omega)]
      rfl
    refine g_cons (g_not ((t_not (t_val (e_all T.bl (ns := cs.map fun c : Nat => decide (c ≤ 1000)) rfl (EF.v ((ef_lc (own := [("each", 1)]) (xs := cs) (F := fun c : Nat => VI.int (c : Int)) (G := fun c : Nat => VI.bl (decide (c ≤ 1000))) (Γe := fun c => [.e (.lst (natz cs)), .i (VI.int (c : Int))]) rfl sc_need_counted.nd (blkOk_by (N := nm_need_counted) (sc := defScope st_need_counted) (by decide +kernel))
      (it_list (lE 0) rfl) (by omega) (fun s h C cl fp z hz => tg_name 1 sc_need_counted.nd) (fun s h C cl fp z hz => (ev_call (ok_is_within T) hr ((z : Int), 0, some 1000) trivial (ea_cons (vI 1) (ea_cons e_int (ea_cons (e_gInt T.c_MOST_COUNT_bests) ea_nil)))).to ?_)).to (by rw [List.map_map]; rfl)))))).to ?_)) (g_one (g_ret (e_tupL T.bl (vE 0))))
    · show eb (decide ((0 : Int) ≤ (z : Int)) && decide ((z : Int) ≤ 1000)) = eb (decide (z ≤ 1000))
      rw [decide_eq_true (show (0 : Int) ≤ (z : Int) by omega), Bool.true_and]
      exact congrArg eb (decide_eq_decide.mpr (by omega))
    · rw [List.all_map, show (List.all cs (id ∘ fun c : Nat => decide (c ≤ 1000))) = true from List.all_eq_true.mpr fun c hc => decide_eq_true (by have := h0.2 c hc; omega)]
      rfl
theorem ok_best_worth : Fq P w K mg base "best_worth" 4 ["counts"] [] (spV (fun cs : List Nat => Cs cs ∧ 1 ≤ cs.length) (fun cs => [.lst (natz cs)]) (fun cs => VI.num (wt cs))) :=
  fq_V T.x_best_worth sc_best_worth (fun _ _ _ _ _ _ us hl => match us, hl with | [_], _ => rfl) (fun _ => rfl) fun cdv A outer s H E hr cs h0 =>
    g_one (g_ret (ev_call (ok_worth_by_bests T) hr cs h0.1 (ea_cons (ev_call (ok_need_counted T) hr cs h0 (ea_cons (vE 0) ea_nil)) ea_nil)))
end
end K8
end
section
set_option Elab.async false
set_option linter.all false
set_option maxRecDepth 100000
set_option maxHeartbeats 1000000
set_option autoImplicit false
namespace K8
open PySem L2
open Evl (Ex)
/-! The rests and the prices of counts. -/
abbrev izs (ns : List Int) : List VI := ns.map VI.int
def B (k : Nat) (ns : List Int) : Prop := ∀ n ∈ ns, n.natAbs < 2 ^ k
/-- one row joined with another -/
def jsum (row ts : List Int) (d : Nat) (pre : List Nat) : Int := pre.foldl (fun a m => a + chs (d : Int) (List.range m) * row.getD (d - m) 0 * ts.getD m 0) 0
def jn (row ts : List Int) (d : Nat) : Int := jsum row ts d (List.range (d + 1))
theorem jsum_snoc {row ts : List Int} {d : Nat} (pre : List Nat) (m : Nat) : jsum row ts d (pre ++ [m]) = jsum row ts d pre + chs (d : Int) (List.range m) * row.getD (d - m) 0 * ts.getD m 0 := by simp [jsum, List.foldl_append]
theorem getD_lt {k j : Nat} {ns : List Int} (h : B k ns) (hk : 0 < k) : (ns.getD j 0).natAbs < 2 ^ k := by
  rw [List.getD_eq_getElem?_getD]
  cases e : ns[j]? with
  | none => exact Nat.pos_of_ne_zero (by simp)
  | some x => exact h x (List.mem_of_getElem? e)
theorem jterm_lt {a b : Nat} {row ts : List Int} {d m : Nat} (ha : B a row) (hb : B b ts) (pa : 0 < a) (pb : 0 < b) (hd : d ≤ 10) (hm : m ≤ d) : (chs (d : Int) (List.range m) * row.getD (d - m) 0 * ts.getD m 0).natAbs < 2 ^ (101 + a + b) := by
  rw [Int.natAbs_mul, Int.natAbs_mul]
  have h1 := chs_lt (m := (d : Int)) (by omega) m (by omega)
  exact Nat.lt_of_lt_of_le (mul_lt_pow (mul_lt_pow h1 (getD_lt ha pa)) (getD_lt hb pb)) (pow_le (by omega))
theorem jsum_lt {a b : Nat} {row ts : List Int} {d : Nat} (ha : B a row) (hb : B b ts) (pa : 0 < a) (pb : 0 < b) (hd : d ≤ 10) : ∀ k, k ≤ d + 1 → (jsum row ts d (List.range k)).natAbs < 2 ^ (101 + a + b + k)
  | 0, _ => Nat.pos_of_ne_zero (by simp)
  | k + 1, h => by
    rw [List.range_succ, jsum_snoc]
    have ih := jsum_lt ha hb pa pb hd k (by omega)
    have h2 := jterm_lt ha hb pa pb hd (show k ≤ d by omega)
    have h3 := Int.natAbs_add_le (jsum row ts d (List.range k)) (chs (d : Int) (List.range k) * row.getD (d - k) 0 * ts.getD k 0)
    have h4 : 2 ^ (101 + a + b) ≤ 2 ^ (101 + a + b + k) := pow_le (by omega)
    rw [← Nat.add_assoc, Nat.pow_succ]
    omega
def tws (c d : Nat) : List Int := (List.range (d + 1)).map fun m : Nat => ((c + m : Nat) : Int) ^ (c + m)
def rbrow (d : Nat) (cs : List Nat) : List Int := cs.foldl (fun row c => (List.range (d + 1)).map fun e => jn row (tws c d) e) ((1 : Int) :: List.replicate d 0)
theorem rbrow_snoc (d : Nat) (cs : List Nat) (c : Nat) : rbrow d (cs ++ [c]) = (List.range (d + 1)).map fun e => jn (rbrow d cs) (tws c d) e := by simp [rbrow, List.foldl_append]
theorem rbrow_len (d : Nat) (cs : List Nat) : (rbrow d cs).length = d + 1 := by
  induction cs using rev_ind with
  | h0 => simp [rbrow]
  | h1 l a ih => rw [rbrow_snoc]; simp
theorem tws_b {c d : Nat} (hc : c ≤ 10) (hd : d ≤ 4) : B 71 (tws c d) := fun n hn => by
  obtain ⟨m, hm, rfl⟩ := List.mem_map.mp hn
  have hm := List.mem_range.mp hm
  exact Nat.lt_of_lt_of_le (self_lt (n := c + m) (k := 4) (show c + m < 2 ^ 4 by omega)) (pow_le (by omega))
theorem rbrow_b {d : Nat} (hd : d ≤ 4) {cs : List Nat} : (∀ c ∈ cs, c ≤ 10) → B (cs.length * 200 + 1) (rbrow d cs) := by
  induction cs using rev_ind with
  | h0 =>
    intro _ n hn
    rcases List.mem_cons.mp hn with rfl | hn
    · decide
    · rw [List.eq_of_mem_replicate hn]
      decide
  | h1 l a ih =>
    intro h n hn
    rw [rbrow_snoc] at hn
    obtain ⟨e, he, rfl⟩ := List.mem_map.mp hn
    have he := List.mem_range.mp he
    have h2 := jsum_lt (ih fun c hc => h c (by simp [hc])) (tws_b (h a (by simp)) hd) (by omega) (by omega) (show e ≤ 10 by omega) (e + 1) (by omega)
    exact Nat.lt_of_lt_of_le h2 (pow_le (by rw [List.length_append, List.length_singleton, Nat.add_mul]; omega))
/-- the rest of counts -/
def rst (cs : List Nat) (d : Nat) : Rat := Rat.divInt ((rbrow d cs).getD d 0) (((cs.sum + d : Nat) : Int) ^ (cs.sum + d))
theorem atI_map {α : Type} {xs : List Int} {f : Int → α} {n : Int} {j : Nat} (h : n = (j : Int)) (hj : j < xs.length) : atI (xs.map f) n = some (f (xs.getD j 0)) := by
  subst h
  unfold atI ixN
  rw [List.length_map, if_pos (by omega), if_pos (by omega)]
  simp [hj]
section
variable {P : Program} {w : World} {K : PySem.W.Frag} {mg : Str → Option Value} {base : Heap} (T : Tx K mg)
include T
theorem ok_joined : Fq P w K mg base "joined" 1 ["row", "towers", "days"] [] (spV (fun z : List Int × List Int × Nat => B 2000 z.1 ∧ B 2000 z.2.1 ∧ z.2.2 ≤ 4 ∧ z.2.2 < z.1.length ∧ z.2.2 < z.2.1.length) (fun z => [.lst (izs z.1), .lst (izs z.2.1), ei (z.2.2 : Int)]) (fun z => VI.int (jn z.1 z.2.1 z.2.2))) :=
  fq_V T.x_joined sc_joined (fun _ _ _ _ _ _ us hl => match us, hl with | [_, _, _], _ => rfl) (fun _ => rfl) fun cdv A outer s H E hr ⟨row, ts, d⟩ ⟨h0, h1, h2, h3, h4⟩ => by
    have h0 : B 2000 row := h0
    have h1 : B 2000 ts := h1
    have h2 : d ≤ 4 := h2
    have h3 : d < row.length := h3
    have h4 : d < ts.length := h4
    refine g_cons (g_asg (vs := [3, 4]) (e_tup (ei_cons e_int (ei_cons e_int ei_nil))) (tg_tup rfl (tgs_cons (tg_name 3 sc_joined.nd) (tgs_cons (tg_name 4 sc_joined.nd) tgs_nil)))) ?_
    refine g_cons ((g_for (vs := [5]) PassesOwn.never rfl (fun pre : List Nat => [.e (.lst (izs row)), .e (.lst (izs ts)), .e (ei d), .i (VI.int (jsum row ts d pre)), .i (VI.int (chs (d : Int) pre)), .u]) (fun pre a => [.e (.lst (izs row)), .e (.lst (izs ts)), .e (ei d), .i (VI.int (jsum row ts d pre)), .i (VI.int (chs (d : Int) pre)), .i (VI.int (a : Int))]) (it_range T.bl (k := d + 1) ((e_add (vE 2) e_int).to (congrArg ei (by omega : (d : Int) + 1 = ((d + 1 : Nat) : Int)))) (by omega)) (fun pre a post _ => tg_name 5 sc_joined.nd) (fun pre a post e => ?_))) (g_one (g_ret (vI 3)))
    obtain ⟨e1, e2, e3⟩ := idx_mid e
    have hc := chs_lt (m := (d : Int)) (by omega) a (by omega)
    rw [← e2] at hc
    have hA := getD_lt (j := d - a) h0 (by decide)
    have hB := getD_lt (j := a) h1 (by decide)
    have hC := mul_lt_pow hc hA
    rw [← Int.natAbs_mul] at hC
    refine g_cons (g_set 3 sc_joined.nd (e_add (vI 3) (e_mul (e_mul (vI 4) (e_ixL (vE 0) (e_sub (vE 2) (vI 5)) (atI_map (j := d - a) (by omega) (by omega))) (mulW hc hA (by omega))) (e_ixL (vE 1) (vI 5) (atI_map (j := a) rfl (by omega))) (mulW hC hB (by omega))))) ?_
    refine g_one ((g_set 4 sc_joined.nd (e_fdiv (e_mul (vI 4) (e_sub (vE 2) (vI 5)) (mulW (b := 10) hc (by omega) (by omega))) (e_add (vI 5) e_int) (divW (b := 10) (by omega) (by omega) (by decide)))).toLe ⟨rfl, fun i U hi => ?_⟩)
    rw [jsum_snoc, chs_snoc, ← e2] at hi
    match i, hi with
    | 0, hi => exact .inr hi
    | 1, hi => exact .inr hi
    | 2, hi => exact .inr hi
    | 3, hi => exact .inr hi
    | 4, hi => exact .inr hi
    | 5, hi => exact .inl (Option.some.inj hi).symm
end
end K8
end
section
set_option Elab.async false
set_option linter.all false
set_option maxRecDepth 100000
set_option maxHeartbeats 1000000
set_option autoImplicit false
namespace K8
open PySem L2
open Evl (Ex)
/-- x, y = a new list, a thing, where the two are no swapped stores -/
theorem g_asgF {X : Cx} {Γ : Ctx} {pos : Pos} {a b : Expr} (i j : Nat) {x y : Str} {px py pt : Pos} {kt k2 pt2} {Ps : List VI} {Q : VI} {R : Ty} (hc : X.calm = true) (hN : X.N.Nodup) (ha : EF X a Γ Ps) (hb : EV X b Γ Q.p) (hi : X.N[i]? = some x := by rfl) (hj : X.N[j]? = some y := by rfl)
    (hx : Loc X.env.scope x := by first | exact Or.inl rfl | exact Or.inr rfl) (hy : Loc X.env.scope y := by first | exact Or.inl rfl | exact Or.inr rfl) (hf : X.fn x = true ∨ X.env.scope.names.lookup x = some .local := by first | exact .inl rfl | exact .inr rfl) (hf2 : X.fn y = true ∨ X.env.scope.names.lookup y = some .local := by first | exact .inl rfl | exact .inr rfl)
    (hs : swapsWithSole [.Tuple [.Name x px, .Name y py] kt pt] (.Tuple [a, b] k2 pt2) pos.line X.env = pure false := by rfl) (hw : swappedStores [.Tuple [.Name x px, .Name y py] kt pt] (.Tuple [a, b] k2 pt2) X.env = pure none := by rfl)
    (h1 : (assignEach [.Tuple [.Name x px, .Name y py] kt pt] X.env).map (·.2) = [assign (.Tuple [.Name x px, .Name y py] kt pt) X.env] := by rfl)
    (hn : (assignEach [.Name x px, .Name y py] X.env).length = 2 := by rfl) (hst : (assignEach [.Name x px, .Name y py] X.env).findIdx? (·.1) = none := by rfl)
    (hs1 : (assignEach [.Name x px, .Name y py] X.env).map (·.2) = assign (.Name x px) X.env :: (assignEach [.Name y py] X.env).map (·.2) := by rfl) (hs2 : (assignEach [.Name y py] X.env).map (·.2) = assign (.Name y py) X.env :: (assignEach [] X.env).map (·.2) := by rfl)
    (he : starEach [a, b] X.env = (false, eval a X.env) :: starEach [b] X.env := by rfl) (he2 : starEach [b] X.env = (false, eval b X.env) :: starEach [] X.env := by rfl) :
    GT X (.Assign [.Tuple [.Name x px, .Name y py] kt pt] (.Tuple [a, b] k2 pt2) pos) Γ (fitN ((Γ.set i (.o Ps)).set j (.i Q))) R := fun H0 H1 σ H f D hnx hr =>
  wS_of (ps_asg (pe_tup (pa_cons pe_w (pa_cons pe_w pa_nil he2) he)) (pg_tup hc (pgs_cons (pg_name hN hi hx hf) (pgs_cons (pg_name hN hj hy hf2) pgs_nil hs2) hs1) hn hst) hs hw h1) (ha H0 H1 σ H f _ fun c us H2 e2 n h2 k2 => hb H0 H1 σ H2 (f.mono e2) _ fun v H3 e3 r3 =>
    ⟨Nat.le_of_ble_eq_true rfl, fun p hp => ⟨p, [.ref c, v], rfl, .of upd_same, rfl, .ref c, [v], rfl, v, [], rfl, rfl, hnx _ _ ((f.setO ((e2.trans e3).trans (Evl.Ex.new hp)) i n ((e3.trans (Evl.Ex.new hp)) _ _ h2) (k2.mono (.of (e3.trans (Evl.Ex.new hp))))).setI j (Q.mono (.of (Evl.Ex.new hp)) r3))⟩⟩)
theorem map_tt {α β : Type} (xs : List α) (F : α → β) : (xs.filter fun _ => true).map F = xs.map F := by rw [List.filter_eq_self.mpr fun _ _ => rfl]
/-- the prices of g goods in d days, the least first -/
def pfs (d : Nat) : Nat → List Int
  | 0 => [(d : Int) ^ d, jn (tws 0 d) (tws 0 d) d]
  | k + 1 => pfs d k ++ [(pfs d k).getD (k + 1) 0 + (d : Int) * (pfs d k).getD k 0 / ((k + 1 : Nat) : Int)]
theorem pfs_len (d : Nat) : ∀ k, (pfs d k).length = k + 2
  | 0 => rfl
  | k + 1 => by unfold pfs; rw [List.length_append, pfs_len d k]; rfl
theorem pfs_lt : ∀ d ∈ List.range 5, ∀ k ∈ List.range 4, ∀ x ∈ pfs d k, x.natAbs < 2 ^ 60 := by decide +kernel
def bprice (g d : Nat) : Rat := Rat.divInt ((pfs d (g - 2)).getD (g - 1) 0) ((d : Int) ^ d)
theorem atI_neg {α : Type} {xs : List Int} {f : Int → α} {j n : Nat} (h : n + j = xs.length) (hn : 0 < n) : atI (xs.map f) (-(n : Int)) = some (f (xs.getD j 0)) := by
  unfold atI ixN
  rw [List.length_map, if_neg (by omega), if_pos (by omega), show (-(n : Int) + (xs.length : Int)).toNat = j by omega]
  have : j < xs.length := by omega
  simp [this]
theorem cut_take {α : Type} (xs : List α) (g : Nat) : cut xs none (some (g : Int)) = xs.take g := by
  unfold cut HT.sIx
  simp only [List.drop_zero, Nat.sub_zero]
  rw [if_neg (by omega)]
  simp only [Int.toNat_natCast]
  rw [List.take_eq_take_iff]
  omega
/-- numbers over one line -/
def lcf (rs : List Rat) : Int := rs.foldl (fun (u : Int) (r : Rat) => u * (r.den : Int) / ((Int.gcd u (r.den : Int) : Nat) : Int)) 1
theorem lcf_snoc (rs : List Rat) (r : Rat) : lcf (rs ++ [r]) = lcf rs * (r.den : Int) / ((Int.gcd (lcf rs) (r.den : Int) : Nat) : Int) := by simp [lcf, List.foldl_append]
theorem lcf_ok (rs : List Rat) : 0 < lcf rs ∧ ∀ r ∈ rs, (r.den : Int) ∣ lcf rs := by
  induction rs using rev_ind with
  | h0 => exact ⟨by decide, fun r hr => nomatch hr⟩
  | h1 l a ih =>
    obtain ⟨h1, h2⟩ := ih
    have hd := den_pos a
    have hg : (0 : Int) < ((Int.gcd (lcf l) (a.den : Int) : Nat) : Int) := by have := gcd_pos_r (a := lcf l) hd; omega
    have g1 : ((Int.gcd (lcf l) (a.den : Int) : Nat) : Int) ∣ (a.den : Int) := Int.gcd_dvd_right _ _
    have g2 : ((Int.gcd (lcf l) (a.den : Int) : Nat) : Int) ∣ lcf l := Int.gcd_dvd_left _ _
    have e1 : lcf (l ++ [a]) = lcf l * ((a.den : Int) / ((Int.gcd (lcf l) (a.den : Int) : Nat) : Int)) := by rw [lcf_snoc, Int.mul_ediv_assoc _ g1]
    have e2 : lcf (l ++ [a]) = (lcf l / ((Int.gcd (lcf l) (a.den : Int) : Nat) : Int)) * (a.den : Int) := by rw [lcf_snoc, Int.mul_comm, Int.mul_ediv_assoc _ g2, Int.mul_comm]
    refine ⟨?_, fun r hr => ?_⟩
    · rw [e1]
      refine Int.mul_pos h1 (Int.ediv_pos_of_pos_of_dvd hd (Int.le_of_lt hg) g1)
    · rcases List.mem_append.mp hr with hr | hr
      · rw [e1]
        exact Int.dvd_trans (h2 r hr) (Int.dvd_mul_right _ _)
      · rw [List.mem_singleton.mp hr, e2]
        exact Int.dvd_mul_left _ _
theorem lcf_lt {k : Nat} {rs : List Rat} : (∀ r ∈ rs, Sz k r) → (lcf rs).natAbs < 2 ^ (rs.length * k + 1) := by
  induction rs using rev_ind with
  | h0 => intro _; exact Nat.one_lt_two_pow (by simp)
  | h1 l a ih =>
    intro h
    have hg : (0 : Int) < ((Int.gcd (lcf l) (a.den : Int) : Nat) : Int) := by have := gcd_pos_r (a := lcf l) (den_pos a); omega
    rw [lcf_snoc]
    refine Nat.lt_of_le_of_lt (ediv_natAbs_le _ hg) ?_
    rw [Int.natAbs_mul]
    exact Nat.lt_of_lt_of_le (mul_lt_pow (ih fun r hr => h r (by simp [hr])) (h a (by simp)).2) (pow_le (by simp only [List.length_append, List.length_singleton, Nat.add_mul]; omega))
theorem over_line (u : Int) (hu : 0 < u) (rs : List Rat) (h : ∀ r ∈ rs, (r.den : Int) ∣ u) : (((rs.map fun r => r.num * (u / (r.den : Int))).sum : Int) : Rat) = rsum rs * (u : Rat) := by
  induction rs with
  | nil => show (0 : Rat) = 0 * _; grind
  | cons r rs ih =>
    have ih := ih fun x hx => h x (by simp [hx])
    rw [List.map_cons, List.sum_cons, Rat.intCast_add, ih, rsum_cons]
    obtain ⟨q, rfl⟩ := h r (by simp)
    have hd := den_pos r
    rw [Int.mul_ediv_cancel_left _ (by omega), Rat.intCast_mul, Rat.intCast_mul]
    have e : r * ((r.den : Int) : Rat) = (r.num : Rat) := by
      have h2 := Rat.num_divInt_den r
      rw [Rat.divInt_eq_div] at h2
      have hne : ((r.den : Int) : Rat) ≠ 0 := fun z => by
        have := Rat.intCast_eq_zero_iff.mp z
        omega
      conv => lhs; lhs; rw [← h2]
      exact Rat.div_mul_cancel hne
    rw [← e]
    grind
theorem over_line' {rs : List Rat} : Rat.divInt (rs.map fun r => r.num * (lcf rs / (r.den : Int))).sum (lcf rs) = rsum rs := by
  obtain ⟨h1, h2⟩ := lcf_ok rs
  have hne : ((lcf rs : Int) : Rat) ≠ 0 := fun z => by
    have := Rat.intCast_eq_zero_iff.mp z
    omega
  rw [Rat.divInt_eq_div, over_line _ h1 rs h2, Rat.div_def, Rat.mul_assoc, Rat.mul_inv_cancel _ hne, Rat.mul_one]
section
variable {P : Program} {w : World} {K : PySem.W.Frag} {mg : Str → Option Value} {base : Heap} (T : Tx K mg)
include T
theorem ok_by_one_line : Fq P w K mg base "by_one_line" 3 ["numbers"] [] (spV (fun rs : List Rat => rs.length ≤ 20 ∧ ∀ r ∈ rs, Sz 400 r) (fun rs => [.lst (nums rs)]) (fun rs => VI.num (rsum rs))) :=
  fq_V T.x_by_one_line sc_by_one_line (fun _ _ _ _ _ _ us hl => match us, hl with | [_], _ => rfl) (fun _ => rfl) fun cdv A outer s H E hr rs ⟨h0, h1⟩ => by
    have h0 : rs.length ≤ 20 := h0
    have h1 : ∀ r ∈ rs, Sz 400 r := h1
    refine g_cons (g_set 1 sc_by_one_line.nd e_int) ?_
    refine g_cons ((g_for (vs := [2]) PassesOwn.never rfl (fun pre : List Rat => [.e (.lst (nums rs)), .i (VI.int (lcf pre)), .u, .u]) (fun pre a => [.e (.lst (nums rs)), .i (VI.int (lcf pre)), .i (VI.num a), .u]) (it_list (F := VI.num) (lE 0) rfl) (fun pre a post _ => tg_name 2 sc_by_one_line.nd) (fun pre a post e => ?_))) ?_
    · have hp : ∀ r ∈ pre, Sz 400 r := fun r hr => h1 r (by rw [e]; simp [hr])
      have hl : pre.length ≤ 20 := by
        have := congrArg List.length e
        simp at this
        omega
      have b1 : (lcf pre).natAbs < 2 ^ 8001 := Nat.lt_of_lt_of_le (lcf_lt hp) (pow_le (by have := Nat.mul_le_mul_right 400 hl; omega))
      have b2 : ((a.den : Nat) : Int).natAbs < 2 ^ 400 := (h1 a (mem_mid e)).2
      have hg : (0 : Int) < ((Int.gcd (lcf pre) (a.den : Int) : Nat) : Int) := by have := gcd_pos_r (a := lcf pre) (den_pos a); omega
      have hg2 : ((Int.gcd (lcf pre) (a.den : Int) : Nat) : Int).natAbs < 2 ^ 400 := by
        refine Nat.lt_of_le_of_lt ?_ b2
        have := gcd_le_r (a := lcf pre) (den_pos a)
        omega
      refine g_cons (g_set 3 sc_by_one_line.nd (e_ixT (ev_call (ok_halves T) (hr.mono (by decide)) a trivial (ea_cons (vI 2) ea_nil)) e_int rfl)) ?_
      refine g_one ((g_set 1 sc_by_one_line.nd (e_fdiv (e_mul (vI 1) (vI 3) (mulW b1 b2 (by decide))) (ev_call (ok_common T) (hr.mono (by decide)) (lcf pre, (a.den : Int)) trivial (ea_cons (vI 1) (ea_cons (vI 3) ea_nil))) (divW (b := 400) hg hg2 (by decide)))).toLe ⟨rfl, fun i U hi => ?_⟩)
      rw [lcf_snoc] at hi
      match i, hi with
      | 0, hi => exact .inr hi
      | 1, hi => exact .inr hi
      | 2, hi => exact .inl (Option.some.inj hi).symm
      | 3, hi => exact .inl (Option.some.inj hi).symm
    · obtain ⟨l1, l2⟩ := lcf_ok rs
      have b1 : (lcf rs).natAbs < 2 ^ 8001 := Nat.lt_of_lt_of_le (lcf_lt h1) (pow_le (by have := Nat.mul_le_mul_right 400 h0; omega))
      refine g_one (g_ret ((ev_call (ok_lowest T) hr ((rs.map fun r => r.num * (lcf rs / (r.den : Int))).sum, lcf rs) ⟨l1, Nat.lt_of_lt_of_le b1 (pow_le (by decide))⟩ (ea_cons (e_sum T.bl rfl (EF.v ((ef_lc (own := [("number", 2)]) (xs := rs) (F := VI.num) (G := fun r => VI.int (r.num * (lcf rs / (r.den : Int)))) (Γe := fun r => [.e (.lst (nums rs)), .i (VI.int (lcf rs)), .i (VI.num r), .u]) rfl sc_by_one_line.nd (blkOk_by (N := nm_by_one_line) (sc := defScope st_by_one_line) (by decide +kernel))
        (it_list (lE 0) rfl) (by omega) (fun s h C cl fp z hz => tg_name 2 sc_by_one_line.nd) (fun s h C cl fp z hz => e_mul (e_ixT (ev_call (ok_halves T) (hr.mono (by decide)) z trivial (ea_cons (vI 2) ea_nil)) e_int rfl) (e_fdiv (vI 1) (e_ixT (ev_call (ok_halves T) (hr.mono (by decide)) z trivial (ea_cons (vI 2) ea_nil)) e_int rfl) (divW (b := 400) (den_pos z) (h1 z hz).2 (by decide))) (mulW (a := 400) (b := 8001) (h1 z hz).1 (Nat.lt_of_le_of_lt (ediv_natAbs_le _ (den_pos z)) b1) (by decide)))).to (by rw [List.map_map]; rfl)))) (ea_cons (vI 1) ea_nil))).to (by rw [over_line'])))
theorem ok_rest_by : Fq P w K mg base "rest_by" 4 ["counts", "days"] [] (spV (fun z : List Nat × Nat => Cs z.1 ∧ z.2 ≤ 4) (fun z => [(VI.tup (natz z.1)).p, ei (z.2 : Int)]) (fun z => VI.num (rst z.1 z.2))) :=
  fq_V T.x_rest_by sc_rest_by (fun _ _ _ _ _ _ us hl => match us, hl with | [_, _], _ => rfl) (fun _ => rfl) fun cdv A outer s H E hr ⟨cs, d⟩ ⟨h0, h1⟩ => by
    have h0 : Cs cs := h0
    have h1 : d ≤ 4 := h1
    have hd1 : (d : Int) + 1 = ((d + 1 : Nat) : Int) := by omega
    refine g_cons (GT.to (Γ2 := [.e (VI.tup (natz cs)).p, .e (ei d), .o (izs (rbrow d [])), .u, .u, .u, .u]) (g_setF 2 sc_rest_by.nd (Ps := [VI.int 1] ++ (List.replicate (d : Int).toNat [VI.int 0]).flatten) (ef_cat (EF.v (ef_lst (ei_cons e_int ei_nil))) (EF.v (ef_rep (EF.v (ef_lst (ei_cons e_int ei_nil))) (vE 1) (by omega) (by omega))) (by simp; omega))) ?_) ?_
    · have e : ∀ n : Nat, (List.replicate n [VI.int 0]).flatten = izs (List.replicate n 0) := fun n => by
        induction n with
        | zero => rfl
        | succ n ih => rw [List.replicate_succ, List.flatten_cons, ih]; rfl
      rw [Int.toNat_natCast, e]
      rfl
    refine g_cons ((g_for (vs := [3]) PassesOwn.never rfl (fun pre : List Nat => [.e (VI.tup (natz cs)).p, .e (ei d), .o (izs (rbrow d pre)), .u, .u, .u, .u]) (fun pre a => [.e (VI.tup (natz cs)).p, .e (ei d), .o (izs (rbrow d pre)), .i (VI.int (a : Int)), .u, .u, .u]) (it_tup (F := fun c : Nat => VI.int (c : Int)) (vE 0) rfl) (fun pre a post _ => tg_name 3 sc_rest_by.nd) (fun pre a post e => ?_))) (g_one (g_ret ?_))
    · have ha := h0.2 a (mem_mid e)
      have hb : B 2000 (rbrow d pre) := fun n hn => Nat.lt_of_lt_of_le (rbrow_b h1 (fun c hc => h0.2 c (by rw [e]; simp [hc])) n hn) (pow_le (by have := h0.1; rw [e] at this; simp at this; omega))
      have ht : B 2000 (tws a d) := fun n hn => Nat.lt_of_lt_of_le (tws_b ha h1 n hn) (pow_le (by decide))
      refine g_cons (GT.to (Γ2 := [.e (VI.tup (natz cs)).p, .e (ei d), .o (izs (rbrow d pre)), .i (VI.int (a : Int)), .o (izs (tws a d)), .u, .u]) (g_setF 4 sc_rest_by.nd (ef_lc (own := [("many", 5)]) (xs := List.range (d + 1)) (F := fun m : Nat => VI.int (m : Int)) (G := fun m : Nat => VI.int (((a + m : Nat) : Int) ^ (a + m))) (Γe := fun m => [.e (VI.tup (natz cs)).p, .e (ei d), .o (izs (rbrow d pre)), .i (VI.int (a : Int)), .u, .i (VI.int (m : Int)), .u]) rfl sc_rest_by.nd (blkOk_by (N := nm_rest_by) (sc := defScope st_rest_by) (by decide +kernel))
        (it_range T.bl ((e_add (vE 1) e_int).to (congrArg ei hd1)) (by omega)) (by simp; omega) (fun s h C cl fp z hz => tg_name 5 sc_rest_by.nd) (fun s h C cl fp z hz => ev_call (ok_tower T) (hr.mono (by decide)) (a + z) (by show a + z ≤ 400; have := List.mem_range.mp hz; omega) (ea_cons ((e_add (vI 3) (vI 5)).to (congrArg ei (by omega : (a : Int) + (z : Int) = ((a + z : Nat) : Int)))) ea_nil)))) ?_) ?_
      · simp only [izs, tws, List.map_map]
        rfl
      refine g_one (GT.toLe (Γ' := [.e (VI.tup (natz cs)).p, .e (ei d), .o (izs (rbrow d (pre ++ [a]))), .i (VI.int (a : Int)), .o (izs (tws a d)), .u, .u]) (GT.to (g_setF 2 sc_rest_by.nd (ef_lc (own := [("each", 6)]) (xs := List.range (d + 1)) (F := fun m : Nat => VI.int (m : Int)) (G := fun m : Nat => VI.int (jn (rbrow d pre) (tws a d) m)) (Γe := fun m => [.e (VI.tup (natz cs)).p, .e (ei d), .o (izs (rbrow d pre)), .i (VI.int (a : Int)), .o (izs (tws a d)), .u, .i (VI.int (m : Int))]) rfl sc_rest_by.nd (blkOk_by (N := nm_rest_by) (sc := defScope st_rest_by) (by decide +kernel))
        (it_range T.bl ((e_add (vE 1) e_int).to (congrArg ei hd1)) (by omega)) (by simp; omega) (fun s h C cl fp z hz => tg_name 6 sc_rest_by.nd) (fun s h C cl fp z hz => ev_call (ok_joined T) (hr.mono (by decide)) (rbrow d pre, tws a d, z) ⟨hb, ht, by show z ≤ 4; have := List.mem_range.mp hz; omega, by show z < (rbrow d pre).length; rw [rbrow_len]; have := List.mem_range.mp hz; omega, by show z < (tws a d).length; rw [tws, List.length_map]; exact (by have := List.mem_range.mp hz; simp; omega)⟩ (ea_cons (vO 2) (ea_cons (vO 4) (ea_cons (vI 6) ea_nil)))))) ?_) ⟨rfl, fun i U hi => ?_⟩)
      · rw [rbrow_snoc]
        simp only [izs, List.map_map]
        rfl
      · match i, hi with
        | 0, hi => exact .inr hi
        | 1, hi => exact .inr hi
        | 2, hi => exact .inr hi
        | 3, hi => exact .inl (Option.some.inj hi).symm
        | 4, hi => exact .inl (Option.some.inj hi).symm
        | 5, hi => exact .inl (Option.some.inj hi).symm
        | 6, hi => exact .inl (Option.some.inj hi).symm
    · have hs := h0.sum
      refine ev_call (ok_lowest T) (hr.mono (by decide)) ((rbrow d cs).getD d 0, ((cs.sum + d : Nat) : Int) ^ (cs.sum + d)) ⟨self_pos _, Nat.lt_of_lt_of_le (self_lt (n := cs.sum + d) (k := 6) (show cs.sum + d < 2 ^ 6 by omega)) (pow_le (by omega))⟩ (ea_cons (e_ixL (vO 2) (vE 1) (atI_map (j := d) rfl (by rw [rbrow_len]; omega))) (ea_cons (ev_call (ok_tower T) (hr.mono (by decide)) (cs.sum + d) (by show cs.sum + d ≤ 400; omega) (ea_cons ((e_add (e_sumTn T.bl rfl (vE 0)) (vE 1)).to (congrArg ei (by omega : (cs.sum : Int) + (d : Int) = ((cs.sum + d : Nat) : Int)))) ea_nil)) ea_nil))
theorem ok_best_rest : Fq P w K mg base "best_rest" 5 ["counts", "days"] [] (spV (fun z : List Nat × Nat => Cs z.1 ∧ 1 ≤ z.1.length ∧ z.2 ≤ 4 ∧ chs ((z.2 + (z.1.length - 1) : Nat) : Int) (List.range (z.1.length - 1)) ≤ 5000) (fun z => [.lst (natz z.1), ei (z.2 : Int)]) (fun z => VI.num (rst z.1 z.2))) :=
  fq_V T.x_best_rest sc_best_rest (fun _ _ _ _ _ _ us hl => match us, hl with | [_, _], _ => rfl) (fun _ => rfl) fun cdv A outer s H E hr ⟨cs, d⟩ ⟨h0, h1, h2, h3⟩ => by
    have h0 : Cs cs := h0
    have h1 : 1 ≤ cs.length := h1
    have h2 : d ≤ 4 := h2
    have h3 : chs ((d + (cs.length - 1) : Nat) : Int) (List.range (cs.length - 1)) ≤ 5000 := h3
    have h5 := h0.1
    refine g_cons (g_set 2 sc_best_rest.nd (ev_call (ok_need_counted T) (hr.mono (by decide)) cs ⟨h0, h1⟩ (ea_cons (vE 0) ea_nil))) ?_
    refine g_cons (g_drop (ev_call (ok_need_integer T) (hr.mono (by decide)) ((d : Int), 0, 250) ⟨by show (0 : Int) ≤ d; omega, by show (d : Int) ≤ 250; omega⟩ (ea_cons (vE 1) (ea_cons (EV.any e_str) (ea_cons e_int (ea_cons (e_gInt T.c_MOST_BEST_DAYS) ea_nil)))))) ?_
    refine g_cons (g_not ((t_gt (ev_call (ok_choose_in T) (hr.mono (by decide)) (((d + (cs.length - 1) : Nat) : Int), cs.length - 1) ⟨by show ((d + (cs.length - 1) : Nat) : Int).natAbs ≤ 400; omega, by show cs.length - 1 ≤ 100; omega⟩ (ea_cons ((e_sub (e_add (vE 1) (e_lenT T.bl (vI (P := VI.tup (natz cs)) 2))) e_int).to (congrArg ei (by rw [List.length_map]; omega : (d : Int) + ((natz cs).length : Int) - 1 = ((d + (cs.length - 1) : Nat) : Int)))) (ea_cons ((e_sub (e_lenT T.bl (vI (P := VI.tup (natz cs)) 2)) e_int).to (congrArg ei (by rw [List.length_map]; omega : ((natz cs).length : Int) - 1 = ((cs.length - 1 : Nat) : Int)))) ea_nil))) (e_gInt T.c_MOST_COUNTS_bests)).to (decide_eq_false (Int.not_lt.mpr h3)))) ?_
    exact g_one (g_ret (ev_call (ok_rest_by T) hr (cs, d) ⟨h0, h2⟩ (ea_cons (vI 2) (ea_cons (vE 1) ea_nil))))
theorem ok_prices_to : Fq P w K mg base "prices_to" 3 ["goods", "days"] [] (spL (fun z : Nat × Nat => 1 ≤ z.1 ∧ z.1 ≤ 5 ∧ z.2 ≤ 4) (fun z => [ei (z.1 : Int), ei (z.2 : Int)]) (fun z => ((pfs z.2 (z.1 - 2)).take z.1).map fun x => VI.num (Rat.divInt x ((z.2 : Int) ^ z.2)))) :=
  fq_L T.x_prices_to sc_prices_to (fun _ _ _ _ _ _ us hl => match us, hl with | [_, _], _ => rfl) (fun _ => rfl) fun cdv A outer s H E hr ⟨g, d⟩ ⟨h0, h1, h2⟩ => by
    have h0 : 1 ≤ g := h0
    have h1 : g ≤ 5 := h1
    have h2 : d ≤ 4 := h2
    have hd1 : (d : Int) + 1 = ((d + 1 : Nat) : Int) := by omega
    have ht : B 2000 (tws 0 d) := fun n hn => Nat.lt_of_lt_of_le (tws_b (by omega) h2 n hn) (pow_le (by decide))
    have hl : d < (tws 0 d).length := by rw [tws, List.length_map]; simp
    refine g_cons (GT.to (Γ2 := [.e (ei g), .e (ei d), .o (izs (tws 0 d)), .i (VI.int ((d : Int) ^ d)), .u, .u, .u]) (g_asgF 2 3 rfl sc_prices_to.nd (ef_lc (own := [("many", 5)]) (xs := List.range (d + 1)) (F := fun m : Nat => VI.int (m : Int)) (G := fun m : Nat => VI.int ((m : Int) ^ m)) (Γe := fun m => [.e (ei g), .e (ei d), .u, .u, .u, .i (VI.int (m : Int)), .u]) rfl sc_prices_to.nd (blkOk_by (N := nm_prices_to) (sc := defScope st_prices_to) (by decide +kernel))
      (it_range T.bl ((e_add (vE 1) e_int).to (congrArg ei hd1)) (by omega)) (by simp; omega) (fun s h C cl fp z hz => tg_name 5 sc_prices_to.nd) (fun s h C cl fp z hz => ev_call (ok_tower T) hr z (by show z ≤ 400; have := List.mem_range.mp hz; omega) (ea_cons (vI 5) ea_nil))) (ev_call (ok_tower T) hr d (by show d ≤ 400; omega) (ea_cons (vE 1) ea_nil))) ?_) ?_
    · show [_, _, _, _, _, _, _] = _
      rw [izs, tws, List.map_map]
      have e : (VI.int ∘ fun m : Nat => ((0 + m : Nat) : Int) ^ (0 + m)) = fun m : Nat => VI.int ((m : Int) ^ m) := funext fun m => by show VI.int (((0 + m : Nat) : Int) ^ (0 + m)) = _; rw [Nat.zero_add]
      rw [e]
    refine g_cons (g_setF 4 sc_prices_to.nd (Ps := izs (pfs d 0)) (ef_lst (ei_cons (vI 3) (ei_cons (ev_call (ok_joined T) (hr.mono (by decide)) (tws 0 d, tws 0 d, d) ⟨ht, ht, h2, hl, hl⟩ (ea_cons (vO 2) (ea_cons (vO 2) (ea_cons (vE 1) ea_nil)))) ei_nil)))) ?_
    refine g_cons (g_while PassesOwn.never (fun k : Nat => [.e (ei g), .e (ei d), .o (izs (tws 0 d)), .i (VI.int ((d : Int) ^ d)), .o (izs (pfs d k)), .u, .u]) (fun k => k ≤ g - 2) (fun k => 5 - k) (fun k => decide (k + 2 < g)) (Γ' := [.e (ei g), .e (ei d), .u, .i (VI.int ((d : Int) ^ d)), .o (izs (pfs d (g - 2))), .u, .u]) 0 (Nat.zero_le _) ?_ ?_ ?_) ?_
    · intro k hk
      exact (t_lt (e_lenL T.bl (vO 4)) (vE 0)).to (decide_eq_decide.mpr (by rw [List.length_map, pfs_len]; omega))
    · intro k hk hc
      have hc : k + 2 < g := of_decide_eq_true hc
      have hb : B 60 (pfs d k) := fun x hx => pfs_lt d (List.mem_range.mpr (by omega)) k (List.mem_range.mpr (by omega)) x hx
      have hg := getD_lt (j := k) hb (by decide)
      refine ⟨k + 1, by omega, by omega, g_one ((g_append 4 (P := VI.int ((pfs d k).getD (k + 1) 0 + (d : Int) * (pfs d k).getD k 0 / ((k + 1 : Nat) : Int))) rfl ?_ (by rw [List.length_map, pfs_len]; omega) rfl (.inl rfl) (by decide) (by decide) (pe_bm PySem.F.plainAttrs_list PySem.F.slot_list_append PySem.F.type_list_append mt_append (pe_var rfl (.inl rfl) (by decide) (by decide)) (pa_cons pe_w pa_nil))).to ?_)⟩
      · exact e_add (e_ixL (vO 4) (e_neg e_int) (atI_neg (n := 1) (j := k + 1) (by rw [pfs_len]; omega) (by decide))) (e_fdiv (e_mul (vE 1) (e_ixL (vO 4) (e_neg e_int) (atI_neg (n := 2) (j := k) (by rw [pfs_len]; omega) (by decide))) (mulW (a := 3) (show (d : Int).natAbs < 2 ^ 3 by omega) hg (by decide))) ((e_sub (e_lenL T.bl (vO 4)) e_int).to (congrArg ei (by rw [List.length_map, pfs_len]; omega))) (divW (b := 3) (by omega) (show ((k + 1 : Nat) : Int).natAbs < 2 ^ 3 by omega) (by decide)))
      · show List.set _ 4 _ = _
        rw [izs, ← List.map_singleton, ← List.map_append]
        rfl
    · intro k hk hc
      have hc : ¬ k + 2 < g := of_decide_eq_false hc
      have ek : k = g - 2 := by omega
      subst ek
      refine ⟨rfl, fun i U hi => ?_⟩
      match i, hi with
      | 0, hi => exact .inr hi
      | 1, hi => exact .inr hi
      | 2, hi => exact .inl (Option.some.inj hi).symm
      | 3, hi => exact .inr hi
      | 4, hi => exact .inr hi
      | 5, hi => exact .inr hi
      | 6, hi => exact .inr hi
    · have hlen := pfs_len d (g - 2)
      refine g_one (g_retF ((ef_lc (own := [("above", 6)]) (xs := (pfs d (g - 2)).take g) (F := VI.int) (G := fun x => VI.num (Rat.divInt x ((d : Int) ^ d))) (Γe := fun x => [.e (ei g), .e (ei d), .u, .i (VI.int ((d : Int) ^ d)), .o (izs (pfs d (g - 2))), .u, .i (VI.int x)]) rfl sc_prices_to.nd (blkOk_by (N := nm_prices_to) (sc := defScope st_prices_to) (by decide +kernel))
        (it_list (EF.l (ef_sl (vO 4) ep_none (ep_some (vE 0)))) (by rw [cut_take, List.map_take])) (by rw [List.length_take]; omega) (fun s h C cl fp z hz => tg_name 6 sc_prices_to.nd) (fun s h C cl fp z hz => ev_call (ok_lowest T) (hr.mono (by decide)) (z, (d : Int) ^ d) ⟨self_pos _, Nat.lt_of_lt_of_le (self_lt (n := d) (k := 3) (show d < 2 ^ 3 by omega)) (pow_le (by omega))⟩ (ea_cons (vI 6) (ea_cons (vI 3) ea_nil))))))
theorem ok_all_best : Fq P w K mg base "all_best" 4 ["goods", "days"] [] (spV (fun z : Nat × Nat => 1 ≤ z.1 ∧ z.1 ≤ 5 ∧ z.2 ≤ 4) (fun z => [ei (z.1 : Int), ei (z.2 : Int)]) (fun z => VI.tup (((pfs z.2 (z.1 - 2)).take z.1).map fun x => VI.num (Rat.divInt x ((z.2 : Int) ^ z.2))))) :=
  fq_V T.x_all_best sc_all_best (fun _ _ _ _ _ _ us hl => match us, hl with | [_, _], _ => rfl) (fun _ => rfl) fun cdv A outer s H E hr ⟨g, d⟩ ⟨h0, h1, h2⟩ => by
    have h0 : 1 ≤ g := h0
    have h1 : g ≤ 5 := h1
    have h2 : d ≤ 4 := h2
    refine g_cons (g_drop (ev_call (ok_need_integer T) hr ((g : Int), 1, 60) ⟨by show (1 : Int) ≤ g; omega, by show (g : Int) ≤ 60; omega⟩ (ea_cons (vE 0) (ea_cons (EV.any e_str) (ea_cons e_int (ea_cons (e_gInt T.c_MOST_LOTS) ea_nil)))))) ?_
    refine g_cons (g_drop (ev_call (ok_need_integer T) hr ((d : Int), 0, 250) ⟨by show (0 : Int) ≤ d; omega, by show (d : Int) ≤ 250; omega⟩ (ea_cons (vE 1) (ea_cons (EV.any e_str) (ea_cons e_int (ea_cons (e_gInt T.c_MOST_BEST_DAYS) ea_nil)))))) ?_
    exact g_one (g_ret (e_tupL T.bl (EF.v (ef_call (ok_prices_to T) hr (g, d) ⟨h0, h1, h2⟩ (ea_cons (vE 0) (ea_cons (vE 1) ea_nil))))))
theorem ok_best_price : Fq P w K mg base "best_price" 5 ["goods", "days"] [] (spV (fun z : Nat × Nat => 1 ≤ z.1 ∧ z.1 ≤ 5 ∧ z.2 ≤ 4) (fun z => [ei (z.1 : Int), ei (z.2 : Int)]) (fun z => VI.num (bprice z.1 z.2))) :=
  fq_V T.x_best_price sc_best_price (fun _ _ _ _ _ _ us hl => match us, hl with | [_, _], _ => rfl) (fun _ => rfl) fun cdv A outer s H E hr ⟨g, d⟩ ⟨h0, h1, h2⟩ => by
    have h0 : 1 ≤ g := h0
    have h1 : g ≤ 5 := h1
    have h2 : d ≤ 4 := h2
    refine g_one (g_ret (e_ixT (ev_call (ok_all_best T) hr (g, d) ⟨h0, h1, h2⟩ (ea_cons (vE 0) (ea_cons (vE 1) ea_nil))) (e_neg e_int) ((atI_neg (n := 1) (j := g - 1) ?_ (by decide)).trans ?_)))
    · rw [List.length_take, pfs_len]
      omega
    · show some (VI.num _) = some (VI.num (bprice g d))
      rw [bprice]
      congr 3
      simp only [List.getD_eq_getElem?_getD]
      rw [List.getElem?_take_of_lt (by omega)]
end
end K8
end
section
set_option Elab.async false
set_option linter.all false
set_option maxRecDepth 100000
set_option maxHeartbeats 1000000
set_option autoImplicit false
namespace K8
open PySem L2
open Evl (Ex)
/-! The law's own numbers. -/
/-- a product, above and under one line -/
def pfold (rs : List Rat) : Int × Int := rs.foldl (fun z r => (z.1 * r.num, z.2 * r.den)) (1, 1)
theorem pfold_snoc (rs : List Rat) (r : Rat) : pfold (rs ++ [r]) = ((pfold rs).1 * r.num, (pfold rs).2 * r.den) := by simp [pfold, List.foldl_append]
theorem pfold_ok (rs : List Rat) : 0 < (pfold rs).2 ∧ rprod rs = Rat.divInt (pfold rs).1 (pfold rs).2 := by
  induction rs using rev_ind with
  | h0 => exact ⟨by decide, by decide⟩
  | h1 l a ih =>
    rw [pfold_snoc, rprod_snoc]
    refine ⟨Int.mul_pos ih.1 (den_pos a), ?_⟩
    have h := Rat.divInt_mul_divInt (pfold l).1 a.num (d₁ := (pfold l).2) (d₂ := (a.den : Int))
    rw [Rat.num_divInt_den, ← ih.2] at h
    exact h
theorem pfold_lt {k : Nat} : ∀ {rs : List Rat}, (∀ r ∈ rs, Sz k r) → (pfold rs).1.natAbs < 2 ^ (rs.length * k + 1) ∧ (pfold rs).2.natAbs < 2 ^ (rs.length * k + 1) := by
  intro rs
  induction rs using rev_ind with
  | h0 => intro _; exact ⟨Nat.one_lt_two_pow (by simp), Nat.one_lt_two_pow (by simp)⟩
  | h1 l a ih =>
    intro h
    obtain ⟨i1, i2⟩ := ih fun r hr => h r (by simp [hr])
    obtain ⟨s1, s2⟩ := h a (by simp)
    rw [pfold_snoc, List.length_append]
    refine ⟨?_, ?_⟩
    · rw [Int.natAbs_mul]
      exact Nat.lt_of_lt_of_le (mul_lt_pow i1 s1) (pow_le (by simp only [List.length_singleton, Nat.add_mul]; omega))
    · rw [Int.natAbs_mul]
      exact Nat.lt_of_lt_of_le (mul_lt_pow i2 s2) (pow_le (by simp only [List.length_singleton, Nat.add_mul]; omega))
section
variable {P : Program} {w : World} {K : PySem.W.Frag} {mg : Str → Option Value} {base : Heap} (T : Tx K mg)
include T
theorem ok_law_number : Fq P w K mg base "_law_number" 1 ["_law_above", "_law_under"] [] (spV (fun z : Int × Int => 0 < z.2 ∧ z.2.natAbs < 2 ^ 8500 ∧ z.1.natAbs < 2 ^ 100000) (fun z => [ei z.1, ei z.2]) (fun z => VI.num (Rat.divInt z.1 z.2))) :=
  fq_V T.x_law_number sc_law_number (fun _ _ _ _ _ _ us hl => match us, hl with | [_, _], _ => rfl) (fun _ => rfl) fun cdv A outer s H E hr ⟨a, b⟩ ⟨h0, h1, h2⟩ => by
    have h0 : 0 < b := h0
    have h1 : b.natAbs < 2 ^ 8500 := h1
    have h2 : a.natAbs < 2 ^ 100000 := h2
    have hg : (0 : Int) < (Int.gcd a b : Nat) := by have := gcd_pos_r (a := a) h0; omega
    have hd : ∀ m, CDivW m ((Int.gcd a b : Nat) : Int) := fun _ => divW hg (Nat.lt_of_le_of_lt (by have := gcd_le_r (a := a) h0; omega) h1) (by decide)
    have one : ∀ m : Int, m.natAbs < 2 ^ 100000 → CMulW 1 m := fun m hm => mulW (a := 1) (by decide) hm (by decide)
    refine g_cons (g_par 2 3 rfl sc_law_number.nd (e_abs T.bl (vE 0)) (e_abs T.bl (vE 1))) ?_
    refine g_cons (g_while PassesOwn.never (fun z : Nat × Nat => [.e (ei a), .e (ei b), .i (VI.int z.1), .i (VI.int z.2), .u]) (fun z => Nat.gcd z.1 z.2 = Int.gcd a b) (fun z => z.2) (fun z => decide (0 < z.2)) (Γ' := [.e (ei a), .e (ei b), .i (VI.int (Int.gcd a b : Nat)), .u, .u]) (a.natAbs, b.natAbs) rfl ?_ ?_ ?_) ?_
    · intro z _
      exact (t_gt (vI 3) e_int).to (by simp)
    · intro z hz hc
      have hp : 0 < z.2 := of_decide_eq_true hc
      refine ⟨(z.2, z.1 % z.2), ?_, Nat.mod_lt _ hp, ?_⟩
      · show Nat.gcd z.2 (z.1 % z.2) = _
        rw [← hz, Nat.gcd_comm z.2, ← Nat.gcd_rec, Nat.gcd_comm]
      · exact g_one ((g_par 2 3 rfl sc_law_number.nd (vI 3) ((e_mod (e_int1 T.bl (vI 2)) (vI 3) (by omega)).to (congrArg ei (Int.natCast_emod _ _).symm))).to rfl)
    · intro z hz hc
      have h0 : z.2 = 0 := by
        have := of_decide_eq_false hc
        omega
      rw [h0, Nat.gcd_zero_right] at hz
      refine ⟨rfl, fun i U hi => ?_⟩
      rw [← hz] at hi
      match i, hi with
      | 0, hi => exact .inr hi
      | 1, hi => exact .inr hi
      | 2, hi => exact .inr hi
      | 3, hi => exact .inl (Option.some.inj hi).symm
      | 4, hi => exact .inr hi
    refine g_cons (g_set 4 sc_law_number.nd (e_ifF ((t_lt (vE 1) e_int).to (decide_eq_false (by omega))) e_int)) ?_
    have e1 := dnum (a := a) h0
    have e2 := dden (a := a) h0
    refine g_cons (GT.to (Γ2 := [.i (VI.int (Rat.divInt a b).num), .i (VI.int ((Rat.divInt a b).den : Int)), .i (VI.int (Int.gcd a b : Nat)), .u, .i (VI.int 1)]) (g_par 0 1 rfl sc_law_number.nd (e_fdiv (e_mul (vI 4) (vE 0) (one _ h2)) (vI 2) (hd _)) (e_fdiv (e_mul (vI 4) (vE 1) (one _ (Nat.lt_of_lt_of_le h1 (pow_le (by decide))))) (vI 2) (hd _))) ?_) ?_
    · rw [Int.one_mul, Int.one_mul, ← e1, ← e2]
      rfl
    refine g_one (g_ret (e_if (k := decide ((Rat.divInt a b).den = 1)) ((t_eqI (vI 1) e_int).to ?_) (fun h => ?_) (fun h => ?_)))
    · by_cases h : (Rat.divInt a b).den = 1
      · rw [decide_eq_true h, decide_eq_true (by omega)]
      · rw [decide_eq_false h, decide_eq_false (by omega)]
    · exact (vI (P := VI.int (Rat.divInt a b).num) 0).imp fun H v q => .inl ⟨of_decide_eq_true h, q⟩
    · exact (e_tup (ei_cons (vI 0) (ei_cons (vI 1) ei_nil))).imp fun H v q => num_of_tup (of_decide_eq_false h) q
theorem ok_law_halves : Fq P w K mg base "_law_halves" 1 ["_law_number_here"] [] (spV (fun _ : Rat => True) (fun r => [(VI.num r).p]) (fun r => VI.tup [VI.int r.num, VI.int (r.den : Int)])) :=
  fq_V T.x_law_halves sc_law_halves (fun _ _ _ _ _ _ us hl => match us, hl with | [_], _ => rfl) (fun _ => rfl) fun cdv A outer s H E hr r _ => by
    by_cases h : r.den = 1
    · exact g_one (g_ret (e_ifT (t_val (e_isi T.bl (vE 0) (of_num1 h) (e_bltn (T := "int") T.bl.int (by decide +kernel)) (.ty _) ki_ii)) (e_tup (ei_cons ((vE 0).imp fun H v q => num_int h q) (ei_cons (e_int.to (by rw [h]; rfl)) ei_nil)))))
    · exact g_one (g_ret (e_ifF (t_val (e_isi T.bl (vE 0) (of_num2 h) (e_bltn (T := "int") T.bl.int (by decide +kernel)) (.ty _) ki_ti)) (e_tup (ei_cons (e_ixT ((vE 0).imp fun H v q => num_tup h q) e_int rfl) (ei_cons (e_ixT ((vE 0).imp fun H v q => num_tup h q) e_int rfl) ei_nil)))))
theorem ok_law_sum : Fq P w K mg base "_law_sum" 2 ["_law_numbers"] [] (spV (fun z : List Rat × Nat => (∀ r ∈ z.1, Sz z.2 r) ∧ z.1.length * (z.2 + 1) ≤ 8000) (fun z => [.lst (nums z.1)]) (fun z => VI.num (rsum z.1))) :=
  fq_V T.x_law_sum sc_law_sum (fun _ _ _ _ _ _ us hl => match us, hl with | [_], _ => rfl) (fun _ => rfl) fun cdv A outer s H E hr ⟨rs, k⟩ ⟨h1, h0⟩ => by
    have h0 : rs.length * (k + 1) ≤ 8000 := h0
    have h1 : ∀ r ∈ rs, Sz k r := h1
    refine g_cons (g_asg (vs := [1, 2]) (e_tup (ei_cons e_int (ei_cons e_int ei_nil))) (tg_tup rfl (tgs_cons (tg_name 1 sc_law_sum.nd) (tgs_cons (tg_name 2 sc_law_sum.nd) tgs_nil)))) ?_
    refine g_cons ((g_for (vs := [3]) PassesOwn.never rfl (fun pre : List Rat => [.e (.lst (nums rs)), .i (VI.int (sfold pre).1), .i (VI.int (sfold pre).2), .u, .u, .u]) (fun pre a => [.e (.lst (nums rs)), .i (VI.int (sfold pre).1), .i (VI.int (sfold pre).2), .i (VI.num a), .u, .u]) (it_list (F := VI.num) (lE 0) rfl) (fun pre a post _ => tg_name 3 sc_law_sum.nd) (fun pre a post e => ?_))) (g_one (g_ret ?_))
    · have hpl : (pre.length + 1) * (k + 1) ≤ 8000 := by
        have h := congrArg List.length e
        simp at h
        exact Nat.le_trans (Nat.mul_le_mul_right _ (by omega)) h0
      rw [Nat.add_mul, Nat.one_mul] at hpl
      obtain ⟨b1, b2⟩ := sfold_lt (k := k) (rs := pre) fun r hr => h1 r (by rw [e]; simp [hr])
      obtain ⟨a1, a2⟩ := h1 a (mem_mid e)
      have a2 : ((a.den : Nat) : Int).natAbs < 2 ^ k := a2
      have hk2 : pre.length * k ≤ pre.length * (k + 1) := Nat.mul_le_mul_left _ (by omega)
      refine g_cons (g_asg (vs := [4, 5]) (ev_call (ok_law_halves T) (hr.mono (by decide)) a trivial (ea_cons (vI 3) ea_nil)) (tg_tup rfl (tgs_cons (tg_name 4 sc_law_sum.nd) (tgs_cons (tg_name 5 sc_law_sum.nd) tgs_nil)))) ?_
      refine g_one ((g_par 1 2 rfl sc_law_sum.nd (e_add (e_mul (vI 1) (vI 5) (mulW b1 a2 (by omega))) (e_mul (vI 4) (vI 2) (mulW a1 b2 (by omega)))) (e_mul (vI 2) (vI 5) (mulW b2 a2 (by omega)))).toLe ⟨rfl, fun i U hi => ?_⟩)
      rw [sfold_snoc] at hi
      match i, hi with
      | 0, hi => exact .inr hi
      | 1, hi => exact .inr hi
      | 2, hi => exact .inr hi
      | 3, hi => exact .inl (Option.some.inj hi).symm
      | 4, hi => exact .inl (Option.some.inj hi).symm
      | 5, hi => exact .inl (Option.some.inj hi).symm
    · obtain ⟨b1, b2⟩ := sfold_lt (k := k) (rs := rs) h1
      have hk2 : rs.length * k ≤ rs.length * (k + 1) := Nat.mul_le_mul_left _ (by omega)
      exact (ev_call (ok_law_number T) hr ((sfold rs).1, (sfold rs).2) ⟨(sfold_ok rs).1, Nat.lt_of_lt_of_le b2 (pow_le (by omega)), Nat.lt_of_lt_of_le b1 (pow_le (by omega))⟩ (ea_cons (vI 1) (ea_cons (vI 2) ea_nil))).to (by rw [(sfold_ok rs).2])
theorem ok_law_times : Fq P w K mg base "_law_times" 2 ["_law_numbers"] [] (spV (fun z : List Rat × Nat => (∀ r ∈ z.1, Sz z.2 r) ∧ z.1.length * z.2 ≤ 8000) (fun z => [.lst (nums z.1)]) (fun z => VI.num (rprod z.1))) :=
  fq_V T.x_law_times sc_law_times (fun _ _ _ _ _ _ us hl => match us, hl with | [_], _ => rfl) (fun _ => rfl) fun cdv A outer s H E hr ⟨rs, k⟩ ⟨h1, h0⟩ => by
    have h0 : rs.length * k ≤ 8000 := h0
    have h1 : ∀ r ∈ rs, Sz k r := h1
    refine g_cons (g_asg (vs := [1, 2]) (e_tup (ei_cons e_int (ei_cons e_int ei_nil))) (tg_tup rfl (tgs_cons (tg_name 1 sc_law_times.nd) (tgs_cons (tg_name 2 sc_law_times.nd) tgs_nil)))) ?_
    refine g_cons ((g_for (vs := [3]) PassesOwn.never rfl (fun pre : List Rat => [.e (.lst (nums rs)), .i (VI.int (pfold pre).1), .i (VI.int (pfold pre).2), .u, .u, .u]) (fun pre a => [.e (.lst (nums rs)), .i (VI.int (pfold pre).1), .i (VI.int (pfold pre).2), .i (VI.num a), .u, .u]) (it_list (F := VI.num) (lE 0) rfl) (fun pre a post _ => tg_name 3 sc_law_times.nd) (fun pre a post e => ?_))) (g_one (g_ret ?_))
    · have hpl : (pre.length + 1) * k ≤ 8000 := by
        have h := congrArg List.length e
        simp at h
        exact Nat.le_trans (Nat.mul_le_mul_right _ (by omega)) h0
      rw [Nat.add_mul, Nat.one_mul] at hpl
      obtain ⟨b1, b2⟩ := pfold_lt (k := k) (rs := pre) fun r hr => h1 r (by rw [e]; simp [hr])
      obtain ⟨a1, a2⟩ := h1 a (mem_mid e)
      have a2 : ((a.den : Nat) : Int).natAbs < 2 ^ k := a2
      refine g_cons (g_asg (vs := [4, 5]) (ev_call (ok_law_halves T) (hr.mono (by decide)) a trivial (ea_cons (vI 3) ea_nil)) (tg_tup rfl (tgs_cons (tg_name 4 sc_law_times.nd) (tgs_cons (tg_name 5 sc_law_times.nd) tgs_nil)))) ?_
      refine g_one ((g_par 1 2 rfl sc_law_times.nd (e_mul (vI 1) (vI 4) (mulW b1 a1 (by omega))) (e_mul (vI 2) (vI 5) (mulW b2 a2 (by omega)))).toLe ⟨rfl, fun i U hi => ?_⟩)
      rw [pfold_snoc] at hi
      match i, hi with
      | 0, hi => exact .inr hi
      | 1, hi => exact .inr hi
      | 2, hi => exact .inr hi
      | 3, hi => exact .inl (Option.some.inj hi).symm
      | 4, hi => exact .inl (Option.some.inj hi).symm
      | 5, hi => exact .inl (Option.some.inj hi).symm
    · obtain ⟨b1, b2⟩ := pfold_lt (k := k) (rs := rs) h1
      exact (ev_call (ok_law_number T) hr ((pfold rs).1, (pfold rs).2) ⟨(pfold_ok rs).1, Nat.lt_of_lt_of_le b2 (pow_le (by omega)), Nat.lt_of_lt_of_le b1 (pow_le (by omega))⟩ (ea_cons (vI 1) (ea_cons (vI 2) ea_nil))).to (by rw [(pfold_ok rs).2])
theorem ok_law_is_below : Fq P w K mg base "_law_is_below" 2 ["_law_one", "_law_other"] [] (spV (fun z : Rat × Rat => Sz 4000 z.1 ∧ Sz 4000 z.2) (fun z => [(VI.num z.1).p, (VI.num z.2).p]) (fun z => VI.bl (decide (z.1.num * (z.2.den : Int) < z.2.num * (z.1.den : Int))))) :=
  fq_V T.x_law_is_below sc_law_is_below (fun _ _ _ _ _ _ us hl => match us, hl with | [_, _], _ => rfl) (fun _ => rfl) fun cdv A outer s H E hr ⟨r, t⟩ ⟨h0, h1⟩ => by
    have h0 : Sz 4000 r := h0
    have h1 : Sz 4000 t := h1
    have b0 : ((r.den : Nat) : Int).natAbs < 2 ^ 4000 := h0.2
    have b1 : ((t.den : Nat) : Int).natAbs < 2 ^ 4000 := h1.2
    refine g_cons (g_asg (vs := [2, 3, 4, 5]) (e_tup (ei_cons (ev_call (ok_law_halves T) (hr.mono (by decide)) r trivial (ea_cons (vE 0) ea_nil)) (ei_cons (ev_call (ok_law_halves T) (hr.mono (by decide)) t trivial (ea_cons (vE 1) ea_nil)) ei_nil)))
      (tg_tup rfl (tgs_cons (tg_tup rfl (tgs_cons (tg_name 2 sc_law_is_below.nd) (tgs_cons (tg_name 3 sc_law_is_below.nd) tgs_nil))) (tgs_cons (tg_tup rfl (tgs_cons (tg_name 4 sc_law_is_below.nd) (tgs_cons (tg_name 5 sc_law_is_below.nd) tgs_nil))) tgs_nil)))) ?_
    exact g_one (g_ret (e_lt (e_mul (vI 2) (vI 5) (mulW h0.1 b1 (by decide))) (e_mul (vI 4) (vI 3) (mulW h1.1 b0 (by decide)))))
theorem ok_law_tower : Fq P w K mg base "_law_tower" 1 ["_law_number_here"] [] (spV (fun n : Nat => n ≤ 400) (fun n => [ei (n : Int)]) (fun n => VI.int ((n : Int) ^ n))) :=
  fq_V T.x_law_tower sc_law_tower (fun _ _ _ _ _ _ us hl => match us, hl with | [_], _ => rfl) (fun _ => rfl) fun cdv A outer s H E hr n h0 => by
    have h0 : n ≤ 400 := h0
    refine g_cons (g_set 1 sc_law_tower.nd e_int) ?_
    refine g_cons ((g_for (vs := [2]) PassesOwn.never rfl (fun pre : List Nat => [.e (ei n), .i (VI.int ((n : Int) ^ pre.length)), .u]) (fun pre a => [.e (ei n), .i (VI.int ((n : Int) ^ pre.length)), .i (VI.int (a : Int))]) (it_range T.bl (vE 0) (by omega)) (fun pre a post _ => tg_name 2 sc_law_tower.nd) (fun pre a post e => ?_))) (g_one (g_ret ((vI (P := VI.int ((n : Int) ^ (List.range n).length)) 1).to (by rw [List.length_range]))))
    obtain ⟨e1, e2, e3⟩ := idx_mid e
    refine g_one ((g_set 1 sc_law_tower.nd (e_mul (vI 1) (vE 0) (mulW (b := 9) (natAbs_pow_lt (k := 9) (show (n : Int).natAbs < 2 ^ 9 by omega) pre.length) (show (n : Int).natAbs < 2 ^ 9 by omega) (by omega)))).toLe ⟨rfl, fun i U hi => ?_⟩)
    rw [List.length_append, List.length_singleton, Int.pow_succ] at hi
    match i, hi with
    | 0, hi => exact .inr hi
    | 1, hi => exact .inr hi
    | 2, hi => exact .inl (Option.some.inj hi).symm
theorem ok_law_worth : Fq P w K mg base "_law_worth" 2 ["_law_counts"] [] (spV (fun cs : List Nat => Cs cs) (fun cs => [.lst (natz cs)]) (fun cs => VI.tup [VI.int (tw cs), VI.int ((cs.sum : Int) ^ cs.sum)])) :=
  fq_V T.x_law_worth sc_law_worth (fun _ _ _ _ _ _ us hl => match us, hl with | [_], _ => rfl) (fun _ => rfl) fun cdv A outer s H E hr cs h0 => by
    have h0 : Cs cs := h0
    have hs := h0.sum
    refine g_cons (g_set 1 sc_law_worth.nd e_int) ?_
    refine g_cons ((g_for (vs := [2]) PassesOwn.never rfl (fun pre : List Nat => [.e (.lst (natz cs)), .i (VI.int (tw pre)), .u]) (fun pre a => [.e (.lst (natz cs)), .i (VI.int (tw pre)), .i (VI.int (a : Int))]) (it_list (F := fun c : Nat => VI.int (c : Int)) (lE 0) rfl) (fun pre a post _ => tg_name 2 sc_law_worth.nd) (fun pre a post e => ?_))) (g_one (g_ret ?_))
    · have hp : Cs pre := ⟨by have := h0.1; rw [e] at this; simp at this; omega, fun c hc => h0.2 c (by rw [e]; simp [hc])⟩
      have ha := h0.2 a (mem_mid e)
      refine g_one ((g_set 1 sc_law_worth.nd (e_mul (vI 1) (ev_call (ok_law_tower T) hr a (by show a ≤ 400; omega) (ea_cons (vI 2) ea_nil)) (mulW (tw_lt hp) (self_lt (n := a) (k := 4) (by omega)) (by have := hp.1; omega)))).toLe ⟨rfl, fun i U hi => ?_⟩)
      rw [tw_snoc] at hi
      match i, hi with
      | 0, hi => exact .inr hi
      | 1, hi => exact .inr hi
      | 2, hi => exact .inl (Option.some.inj hi).symm
    · exact e_tup (ei_cons (vI 1) (ei_cons (ev_call (ok_law_tower T) hr cs.sum (by show cs.sum ≤ 400; omega) (ea_cons (e_sumLn T.bl rfl (vE 0)) ea_nil)) ei_nil))
end
end K8
end
section
set_option Elab.async false
set_option linter.all false
set_option maxRecDepth 100000
set_option maxHeartbeats 1000000
set_option autoImplicit false
namespace K8
open PySem L2
open Evl (Ex)
/-! Words; the law's own rests and purses. -/
theorem ef_listL {X : Cx} {Γ : Ctx} {pos p : Pos} {e : Expr} (M : Bl X.mg) {Ps : List VI} (h : EV X e Γ (.lst Ps)) (hg : Gl X "list" := by rfl) (he : starEach [e] X.env = (false, eval e X.env) :: starEach [] X.env := by rfl) (hpl : (backTo pos (starEach [] X.env)).any (·.1) = false := by rfl) : EF X (.Call (.Name "list" p) [e] [] pos) Γ Ps := fun H0 H1 σ H f Q q =>
  wE_of (pe_callTy call_list_of hg M.list (by decide +kernel) pa_w (by decide) (by decide) he hpl) (ea_cons h ea_nil he H0 H1 σ H f _ fun vs H2 e2 r2 => by
    obtain ⟨v, rfl, c, us, rfl, h2, k2⟩ := pk1 r2
    exact ⟨c, us, rfl, .inl (.of h2), fun l hl => q l us _ (e2.trans (Evl.Ex.new hl)) (Evl.fresh_back e2 hl) upd_same (k2.mono (.of (Evl.Ex.new hl)))⟩)
def ext (g : Nat) (w : List Nat) : List (List Nat) := (List.range g).map fun x => w ++ [x]
/-- all words of so many days -/
def wds (g : Nat) : Nat → List (List Nat)
  | 0 => [[]]
  | d + 1 => (wds g d).flatMap (ext g)
theorem wds_len (g : Nat) : ∀ d, (wds g d).length = g ^ d
  | 0 => rfl
  | d + 1 => by
    have key : ∀ l : List (List Nat), (l.flatMap (ext g)).length = l.length * g := by
      intro l
      induction l with
      | nil => simp
      | cons w l ih => rw [List.flatMap_cons, List.length_append, ih, List.length_cons, Nat.add_mul]; simp [ext]; omega
    show ((wds g d).flatMap (ext g)).length = _
    rw [key, wds_len g d, Nat.pow_succ]
theorem wds_mem {g : Nat} : ∀ {d : Nat} {w : List Nat}, w ∈ wds g d → w.length = d ∧ ∀ x ∈ w, x < g
  | 0, w, h => by
    have e : w = [] := by simpa [wds] using h
    subst e
    exact ⟨rfl, fun x hx => nomatch hx⟩
  | d + 1, w, h => by
    obtain ⟨u, hu, hw⟩ := List.mem_flatMap.mp h
    obtain ⟨x, hx, rfl⟩ := List.mem_map.mp hw
    obtain ⟨h1, h2⟩ := wds_mem hu
    refine ⟨by simp [h1], fun y hy => ?_⟩
    rcases List.mem_append.mp hy with hy | hy
    · exact h2 y hy
    · rw [List.mem_singleton.mp hy]
      exact List.mem_range.mp hx
abbrev wdz (ws : List (List Nat)) : List VI := ws.map fun w => VI.tup (natz w)
/-- counts after a word -/
def inc (cs : List Nat) (g : Nat) : List Nat := cs.set g (cs.getD g 0 + 1)
def withC (cs w : List Nat) : List Nat := w.foldl inc cs
theorem withC_snoc (cs w : List Nat) (g : Nat) : withC cs (w ++ [g]) = inc (withC cs w) g := by simp [withC, List.foldl_append]
theorem inc_len (cs : List Nat) (g : Nat) : (inc cs g).length = cs.length := by simp [inc]
theorem withC_len (cs w : List Nat) : (withC cs w).length = cs.length := by
  induction w using rev_ind with
  | h0 => rfl
  | h1 l a ih => rw [withC_snoc, inc_len, ih]
theorem inc_le {b : Nat} {cs : List Nat} {g : Nat} (h : ∀ c ∈ cs, c ≤ b) : ∀ c ∈ inc cs g, c ≤ b + 1 := fun c hc => by
  rcases List.mem_or_eq_of_mem_set hc with hc | rfl
  · have := h c hc
    omega
  · rw [List.getD_eq_getElem?_getD]
    cases e : cs[g]? with
    | none => simp
    | some x => have := h x (List.mem_of_getElem? e); simpa using this
theorem withC_le {b : Nat} {cs : List Nat} (h : ∀ c ∈ cs, c ≤ b) (w : List Nat) : ∀ c ∈ withC cs w, c ≤ b + w.length := by
  induction w using rev_ind with
  | h0 => simpa [withC] using h
  | h1 l a ih =>
    rw [withC_snoc, List.length_append]
    intro c hc
    have := inc_le ih c hc
    simpa [Nat.add_assoc] using this
theorem inc_sum : ∀ {cs : List Nat} {g : Nat}, g < cs.length → (inc cs g).sum = cs.sum + 1
  | c :: cs, 0, _ => by simp [inc]; omega
  | c :: cs, g + 1, h => by
    have := inc_sum (cs := cs) (g := g) (by simpa using h)
    simp [inc] at this ⊢
    omega
theorem withC_sum {cs w : List Nat} (h : ∀ x ∈ w, x < cs.length) : (withC cs w).sum = cs.sum + w.length := by
  induction w using rev_ind with
  | h0 => rfl
  | h1 l a ih =>
    rw [withC_snoc, inc_sum (by rw [withC_len]; exact h a (by simp)), ih fun x hx => h x (by simp [hx]), List.length_append]
    rfl
/-- counts and days as the law has them -/
structure Lw (cs : List Nat) (d : Nat) : Prop where
  l1 : 1 ≤ cs.length
  l5 : cs.length ≤ 5
  le : ∀ c ∈ cs, c + d ≤ 10
  s : cs.sum + d ≤ 30
  p : cs.length ^ d ≤ 27
  d4 : d ≤ 4
theorem Lw.cs {cs : List Nat} {d : Nat} (h : Lw cs d) : Cs cs := ⟨h.l5, fun c hc => by have := h.le c hc; omega⟩
theorem Lw.step {cs w : List Nat} {d : Nat} (h : Lw cs d) (hw : ∀ x ∈ w, x < cs.length) (hl : w.length ≤ d) : Lw (withC cs w) (d - w.length) where
  l1 := by rw [withC_len]; exact h.l1
  l5 := by rw [withC_len]; exact h.l5
  le := fun c hc => by
    have := withC_le (b := 10 - d) (cs := cs) (fun c hc => by have := h.le c hc; omega) w c hc
    have h1 := h.d4
    omega
  s := by
    rw [withC_sum hw]
    have := h.s
    omega
  p := by
    rw [withC_len]
    exact Nat.le_trans (Nat.pow_le_pow_right h.l1 (by omega)) h.p
  d4 := by have := h.d4; omega
/-- the law's own rest -/
def lrn (cs : List Nat) (d : Nat) : Int := ((wds cs.length d).map fun w => tw (withC cs w)).sum
def lrest (cs : List Nat) (d : Nat) : Rat := Rat.divInt (lrn cs d) (((cs.sum + d : Nat) : Int) ^ (cs.sum + d))
theorem sum_lt {k : Nat} : ∀ {ns : List Int}, (∀ n ∈ ns, n.natAbs < 2 ^ k) → ns.sum.natAbs < 2 ^ (k + ns.length)
  | [], _ => Nat.pos_of_ne_zero (by simp)
  | n :: ns, h => by
    have h1 := h n (by simp)
    have h2 := sum_lt fun x hx => h x (List.mem_cons_of_mem _ hx)
    have h3 := Int.natAbs_add_le n ns.sum
    have h4 : 2 ^ k ≤ 2 ^ (k + ns.length) := pow_le (by omega)
    rw [List.sum_cons, List.length_cons, ← Nat.add_assoc, Nat.pow_succ]
    omega
theorem lrn_lt {cs : List Nat} {d : Nat} (h : Lw cs d) : (lrn cs d).natAbs < 2 ^ 233 := by
  refine Nat.lt_of_lt_of_le (sum_lt (k := 206) fun n hn => ?_) (pow_le ?_)
  · obtain ⟨w, hw, rfl⟩ := List.mem_map.mp hn
    obtain ⟨h1, h2⟩ := wds_mem hw
    have h3 := (h.step h2 (by omega)).cs
    exact Nat.lt_of_lt_of_le (tw_lt h3) (pow_le (by have := h3.1; omega))
  · rw [List.length_map, wds_len]
    have := h.p
    omega
theorem lun_lt {cs : List Nat} {d : Nat} (h : Lw cs d) : (((cs.sum + d : Nat) : Int) ^ (cs.sum + d)).natAbs < 2 ^ 151 := Nat.lt_of_lt_of_le (self_lt (n := cs.sum + d) (k := 5) (by have := h.s; omega)) (pow_le (by have := h.s; omega))
theorem lrest_sz {cs : List Nat} {d : Nat} (h : Lw cs d) : Sz 233 (lrest cs d) := Sz.div (lrn_lt h) (self_pos _) (Nat.lt_of_lt_of_le (lun_lt h) (pow_le (by decide)))
/-- a word's weight -/
def wg (mk : List (List Rat)) (w : List Nat) : Rat := rprod ((mk.zip w).map fun z => z.1.getD z.2 0)
/-- the law's own purse -/
def lpurse (cs : List Nat) (d : Nat) (mk : List (List Rat)) : Rat := rsum ((wds cs.length mk.length).map fun w => wg mk w * lrest (withC cs w) (d - mk.length))
/-- days of a market -/
structure Mk (g : Nat) (mk : List (List Rat)) : Prop where
  l : mk.length ≤ 4
  r : ∀ rs ∈ mk, rs.length = g ∧ ∀ r ∈ rs, Sz 4 r ∧ 0 ≤ r.num
theorem rp2 (a b : Rat) : rprod [a, b] = a * b := by
  show 1 * a * b = a * b
  rw [Rat.one_mul]
theorem atI_num {rs : List Rat} {g : Nat} (h : g < rs.length) : atI (nums rs) (g : Int) = some (VI.num (rs.getD g 0)) := by
  unfold atI ixN
  rw [List.length_map, if_pos (by omega), if_pos (by omega)]
  simp [h]
theorem getD_mem {rs : List Rat} {g : Nat} (h : g < rs.length) : rs.getD g 0 ∈ rs := by
  simp [h]
theorem wg_szs {g : Nat} {mk : List (List Rat)} {w : List Nat} (h : Mk g mk) (hw : ∀ x ∈ w, x < g) : ∀ r ∈ (mk.zip w).map fun z => z.1.getD z.2 0, Sz 4 r := fun r hr => by
  obtain ⟨z, hz, rfl⟩ := List.mem_map.mp hr
  obtain ⟨h1, h2⟩ := List.of_mem_zip hz
  obtain ⟨k1, k2⟩ := h.r _ h1
  exact (k2 _ (getD_mem (by rw [k1]; exact hw _ h2))).1
theorem wg_sz {g : Nat} {mk : List (List Rat)} {w : List Nat} (h : Mk g mk) (hw : ∀ x ∈ w, x < g) : Sz 17 (wg mk w) := (Sz.prod (wg_szs h hw)).mono (by rw [List.length_map, List.length_zip]; have := h.l; omega)
section
variable {P : Program} {w : World} {K : PySem.W.Frag} {mg : Str → Option Value} {base : Heap} (T : Tx K mg)
include T
theorem ok_law_words : Fq P w K mg base "_law_words" 1 ["_law_goods", "_law_days"] [] (spL (fun z : Nat × Nat => z.1 ≤ 5 ∧ z.2 ≤ 4) (fun z => [ei (z.1 : Int), ei (z.2 : Int)]) (fun z => wdz (wds z.1 z.2))) :=
  fq_L T.x_law_words sc_law_words (fun _ _ _ _ _ _ us hl => match us, hl with | [_, _], _ => rfl) (fun _ => rfl) fun cdv A outer s H E hr ⟨g, d⟩ ⟨h0, h1⟩ => by
    have h0 : g ≤ 5 := h0
    have h1 : d ≤ 4 := h1
    have hlen : ∀ k ≤ 4, (wds g k).length ≤ 625 := fun k hk => by
      rw [wds_len]
      exact Nat.le_trans (Nat.pow_le_pow_left h0 k) (Nat.le_trans (Nat.pow_le_pow_right (by decide) hk) (by decide))
    refine g_cons (g_setF 2 sc_law_words.nd (Ps := wdz (wds g 0)) (ef_lst (ei_cons (e_tup ei_nil) ei_nil))) ?_
    refine g_cons ((g_for (vs := [3]) PassesOwn.never rfl (fun pre : List Nat => [.e (ei g), .e (ei d), .o (wdz (wds g pre.length)), .u, .u, .u, .u]) (fun pre a => [.e (ei g), .e (ei d), .o (wdz (wds g pre.length)), .i (VI.int (a : Int)), .u, .u, .u]) (it_range T.bl (vE 1) (by omega)) (fun pre a post _ => tg_name 3 sc_law_words.nd) (fun pre a post e => ?_))) (g_one (g_retO 2 (Ps := wdz (wds g d)) (hΓ := by show some (Ty.o _) = some (Ty.o _); rw [List.length_range])))
    obtain ⟨e1, e2, e3⟩ := idx_mid e
    have hk := hlen pre.length (by omega)
    refine g_cons (g_setF 4 sc_law_words.nd (ef_lst ei_nil)) ?_
    refine g_cons (g_freeze 2 rfl (g_for (vs := [5]) PassesOwn.never rfl (fun us : List (List Nat) => [.e (ei g), .e (ei d), .f (.lst (wdz (wds g pre.length))), .i (VI.int (a : Int)), .o (wdz (us.flatMap (ext g))), .u, .u]) (fun us u => [.e (ei g), .e (ei d), .f (.lst (wdz (wds g pre.length))), .i (VI.int (a : Int)), .o (wdz (us.flatMap (ext g))), .i (VI.tup (natz u)), .u]) (it_list (xs := wds g pre.length) (F := fun w => VI.tup (natz w)) (lF 2) rfl) (fun us u post _ => tg_name 5 sc_law_words.nd) (fun us u post eu => ?_))) ?_
    · have hu : (us.flatMap (ext g)).length ≤ 10000 := by
        have key : ∀ l : List (List Nat), (l.flatMap (ext g)).length = l.length * g := by
          intro l
          induction l with
          | nil => simp
          | cons w l ih => rw [List.flatMap_cons, List.length_append, ih, List.length_cons, Nat.add_mul]; simp [ext]; omega
        rw [key]
        have hl : us.length ≤ 625 := by
          have := congrArg List.length eu
          simp at this
          omega
        exact Nat.le_trans (Nat.mul_le_mul hl h0) (by decide)
      have ul : u.length = pre.length := (wds_mem (mem_mid eu)).1
      refine g_one ((g_extend 4 (Qs := wdz (ext g u)) rfl ((ef_lc (own := [("_law_good", 6)]) (xs := List.range g) (F := fun x : Nat => VI.int (x : Int)) (G := fun x : Nat => VI.tup (natz (u ++ [x]))) (Γe := fun x => [.e (ei g), .e (ei d), .f (.lst (wdz (wds g pre.length))), .i (VI.int (a : Int)), .o (wdz (us.flatMap (ext g))), .i (VI.tup (natz u)), .i (VI.int (x : Int))]) rfl sc_law_words.nd (blkOk_by (N := nm_law_words) (sc := defScope st_law_words) (by decide +kernel))
        (it_range T.bl (vE 0) (by omega)) (by simp; omega) (fun s h C cl fp z hz => tg_name 6 sc_law_words.nd) (fun s h C cl fp z hz => (e_catT (vI 5) (e_tup (ei_cons (vI 6) ei_nil)) ?_).to ?_)).to ?_) ?_ rfl (pe_bm PySem.F.plainAttrs_list PySem.F.slot_list_extend PySem.F.type_list_extend mt_extend (pe_var rfl (.inl rfl) (by decide) (by decide)) (pa_cons pe_w pa_nil))).toLe ⟨rfl, fun i U hi => ?_⟩)
      · rw [List.length_map]
        show u.length + 1 ≤ 100000
        omega
      · show (VI.tup (natz u ++ [VI.int (z : Int)])).p = (VI.tup (natz (u ++ [z]))).p
        rw [natz, natz, List.map_append]
        rfl
      · simp only [wdz, ext, List.map_map]
        rfl
      · have hx : (ext g u).length = g := by simp [ext]
        rw [List.length_map, List.length_map]
        omega
      · match i, hi with
        | 0, hi => exact .inr hi
        | 1, hi => exact .inr hi
        | 2, hi => exact .inr hi
        | 3, hi => exact .inr hi
        | 4, hi =>
          refine .inr (Eq.trans ?_ hi)
          show some (Ty.o _) = some (Ty.o _)
          rw [List.flatMap_append, wdz, wdz, wdz, List.map_append]
          simp
        | 5, hi => exact .inl (Option.some.inj hi).symm
        | 6, hi => exact .inl (Option.some.inj hi).symm
    · refine g_one ((g_move 2 4 sc_law_words.nd).toLe ⟨rfl, fun i U hi => ?_⟩)
      rw [List.length_append] at hi
      match i, hi with
      | 0, hi => exact .inr hi
      | 1, hi => exact .inr hi
      | 2, hi => exact .inr hi
      | 3, hi => exact .inl (Option.some.inj hi).symm
      | 4, hi => exact .inl (Option.some.inj hi).symm
      | 5, hi => exact .inl (Option.some.inj hi).symm
      | 6, hi => exact .inl (Option.some.inj hi).symm
theorem ok_law_with : Fq P w K mg base "_law_with" 1 ["_law_counts", "_law_word"] [] (spL (fun z : List Nat × List Nat => (∀ x ∈ z.2, x < z.1.length) ∧ z.1.length ≤ 1000) (fun z => [.lst (natz z.1), (VI.tup (natz z.2)).p]) (fun z => natz (withC z.1 z.2))) :=
  fq_L T.x_law_with sc_law_with (fun _ _ _ _ _ _ us hl => match us, hl with | [_, _], _ => rfl) (fun _ => rfl) fun cdv A outer s H E hr ⟨cs, wd⟩ ⟨h0, h1⟩ => by
    have h0 : ∀ x ∈ wd, x < cs.length := h0
    refine g_cons (g_setF 2 sc_law_with.nd (ef_listL T.bl (vE 0))) ?_
    refine g_cons ((g_for (vs := [3]) PassesOwn.never rfl (fun pre : List Nat => [.e (.lst (natz cs)), .e (VI.tup (natz wd)).p, .o (natz (withC cs pre)), .u]) (fun pre a => [.e (.lst (natz cs)), .e (VI.tup (natz wd)).p, .o (natz (withC cs pre)), .i (VI.int (a : Int))]) (it_tup (F := fun c : Nat => VI.int (c : Int)) (vE 1) rfl) (fun pre a post _ => tg_name 3 sc_law_with.nd) (fun pre a post e => ?_))) (g_one (g_retO 2))
    have ha := h0 a (mem_mid e)
    have hl := withC_len cs pre
    have hat : atI (natz (withC cs pre)) (a : Int) = some (VI.int (((withC cs pre).getD a 0 : Nat) : Int)) := by
      unfold atI ixN
      rw [List.length_map, if_pos (by omega), if_pos (by omega)]
      simp [show a < (withC cs pre).length by omega]
    refine g_one ((g_setIx 2 (P := VI.int (((withC cs pre).getD a 0 + 1 : Nat) : Int)) (n := (a : Int)) (j := a) rfl ((e_add (e_ixL (vO 2) (vI 3) hat) e_int).to (congrArg ei (by omega))) (vI 3) ?_ rfl (.inl rfl) (by decide) (by decide) (ps_asg pe_w (pg_sub (pe_var rfl (.inl rfl) (by decide) (by decide)) pe_w set_list))).toLe ⟨rfl, fun i U hi => ?_⟩)
    · unfold ixN
      rw [List.length_map, if_pos (by omega), if_pos (by omega), Int.toNat_natCast]
    · rw [withC_snoc] at hi
      match i, hi with
      | 0, hi => exact .inr hi
      | 1, hi => exact .inr hi
      | 2, hi =>
        refine .inr (Eq.trans ?_ hi)
        show some (Ty.o _) = some (Ty.o _)
        rw [inc, natz, natz, List.map_set]
      | 3, hi => exact .inl (Option.some.inj hi).symm
theorem ok_law_rest : Fq P w K mg base "_law_rest" 3 ["_law_counts", "_law_days"] [] (spV (fun z : List Nat × Nat => Lw z.1 z.2) (fun z => [.lst (natz z.1), ei (z.2 : Int)]) (fun z => VI.num (lrest z.1 z.2))) :=
  fq_V T.x_law_rest sc_law_rest (fun _ _ _ _ _ _ us hl => match us, hl with | [_, _], _ => rfl) (fun _ => rfl) fun cdv A outer s H E hr ⟨cs, d⟩ h0 => by
    have h0 : Lw cs d := h0
    have hs := h0.s
    have h5 := h0.l5
    have h4 := h0.d4
    have hp := h0.p
    refine g_cons (g_par 2 3 rfl sc_law_rest.nd (P := VI.int ((cs.length : Nat) : Int)) ((e_lenL T.bl (vE 0)).to (by rw [List.length_map])) (ev_call (ok_law_tower T) (hr.mono (by decide)) (cs.sum + d) (by show cs.sum + d ≤ 400; omega) (ea_cons ((e_add (e_sumLn T.bl rfl (vE 0)) (vE 1)).to (congrArg ei (by omega : (cs.sum : Int) + (d : Int) = ((cs.sum + d : Nat) : Int)))) ea_nil))) ?_
    refine g_one (g_ret (ev_call (ok_law_number T) (hr.mono (by decide)) (lrn cs d, ((cs.sum + d : Nat) : Int) ^ (cs.sum + d)) ⟨self_pos _, Nat.lt_of_lt_of_le (lun_lt h0) (pow_le (by decide)), Nat.lt_of_lt_of_le (lrn_lt h0) (pow_le (by decide))⟩ (ea_cons (e_sum T.bl (ns := (wds cs.length d).map fun u => tw (withC cs u)) rfl (EF.v ((ef_lc (own := [("_law_word", 4)]) (xs := wds cs.length d) (F := fun u => VI.tup (natz u)) (G := fun u => VI.int (tw (withC cs u))) (Γe := fun u => [.e (.lst (natz cs)), .e (ei d), .i (VI.int ((cs.length : Nat) : Int)), .i (VI.int (((cs.sum + d : Nat) : Int) ^ (cs.sum + d))), .i (VI.tup (natz u))]) rfl sc_law_rest.nd (blkOk_by (N := nm_law_rest) (sc := defScope st_law_rest) (by decide +kernel))
      (it_list (EF.l (ef_call (ok_law_words T) (hr.mono (by decide)) (cs.length, d) ⟨h5, h4⟩ (ea_cons (vI 2) (ea_cons (vE 1) ea_nil)))) rfl) (by rw [wds_len]; omega) (fun s h C cl fp z hz => tg_name 4 sc_law_rest.nd) (fun s h C cl fp z hz => e_ixT (ev_call (ok_law_worth T) hr (withC cs z) ((h0.step (wds_mem hz).2 (by have := (wds_mem hz).1; omega)).cs) (ea_cons (EF.v (ef_call (ok_law_with T) (hr.mono (by decide)) (cs, z) ⟨(wds_mem hz).2, by show cs.length ≤ 1000; omega⟩ (ea_cons (vE 0) (ea_cons (vI 4) ea_nil)))) ea_nil)) e_int rfl)).to (by rw [List.map_map]; rfl)))) (ea_cons (vI 3) ea_nil))))
end
end K8
end
section
set_option Elab.async false
set_option linter.all false
set_option maxRecDepth 100000
set_option maxHeartbeats 1000000
set_option autoImplicit false
namespace K8
open PySem L2
open Evl (Ex)
/-- shares that a day fits -/
structure Shr (g : Nat) (ss : List Rat) : Prop where
  l : ss.length = g
  r : ∀ r ∈ ss, Sz 8 r
theorem dots_sz {g : Nat} {ss rs : List Rat} (hg : g ≤ 5) (h : Shr g ss) (h2 : rs.length = g ∧ ∀ r ∈ rs, Sz 4 r ∧ 0 ≤ r.num) : (∀ r ∈ List.zipWith (fun a b => a * b) ss rs, Sz 12 r) ∧ (List.zipWith (fun a b => a * b) ss rs).length ≤ 5 := by
  constructor
  · intro r hr
    rw [← zip_map_fst] at hr
    obtain ⟨z, hz, rfl⟩ := List.mem_map.mp hr
    exact (h.r _ (List.of_mem_zip hz).1).mul (h2.2 _ (List.of_mem_zip hz).2).1
  · rw [List.length_zipWith, h.l, h2.1]
    omega
theorem dot_sz' {g : Nat} {ss rs : List Rat} (hg : g ≤ 5) (h : Shr g ss) (h2 : rs.length = g ∧ ∀ r ∈ rs, Sz 4 r ∧ 0 ≤ r.num) : Sz 66 (dot ss rs) := by
  obtain ⟨k, l⟩ := dots_sz hg h h2
  exact (Sz.sum k).mono (by have := Nat.mul_le_mul_right 13 l; omega)
/-- all that a mix makes -/
def mkl (ss : List Rat) (cs : List Nat) (mk : List (List Rat)) : List Rat := (ss.zip cs).foldl (fun l z => l ++ List.replicate z.2 z.1) (mk.map (dot ss))
def mk0 (ss : List Rat) (mk : List (List Rat)) (pre : List (Rat × Nat)) : List Rat := pre.foldl (fun l z => l ++ List.replicate z.2 z.1) (mk.map (dot ss))
theorem mk0_snoc (ss : List Rat) (mk : List (List Rat)) (pre : List (Rat × Nat)) (z : Rat × Nat) : mk0 ss mk (pre ++ [z]) = mk0 ss mk pre ++ List.replicate z.2 z.1 := by simp [mk0, List.foldl_append]
theorem mk0_len {ss : List Rat} {mk : List (List Rat)} {pre : List (Rat × Nat)} (h : ∀ z ∈ pre, z.2 ≤ 10) : (mk0 ss mk pre).length ≤ mk.length + pre.length * 10 := by
  induction pre using rev_ind with
  | h0 => simp [mk0]
  | h1 l a ih =>
    rw [mk0_snoc, List.length_append, List.length_replicate, List.length_append, List.length_singleton, Nat.add_mul]
    have h1 := ih fun z hz => h z (by simp [hz])
    have h2 := h a (by simp)
    omega
theorem mk0_sz {ss : List Rat} {mk : List (List Rat)} {k : Nat} {pre : List (Rat × Nat)} (h0 : ∀ r ∈ mk.map (dot ss), Sz k r) (h : ∀ z ∈ pre, Sz k z.1) : ∀ r ∈ mk0 ss mk pre, Sz k r := by
  induction pre using rev_ind with
  | h0 => exact h0
  | h1 l a ih =>
    rw [mk0_snoc]
    intro r hr
    rcases List.mem_append.mp hr with hr | hr
    · exact ih (fun z hz => h z (by simp [hz])) r hr
    · rw [List.eq_of_mem_replicate hr]
      exact h a (by simp)
theorem rep_flat {α β : Type} (a : α) (F : α → β) : ∀ n : Nat, (List.replicate n [F a]).flatten = (List.replicate n a).map F
  | 0 => rfl
  | n + 1 => by rw [List.replicate_succ, List.flatten_cons, rep_flat a F n, List.replicate_succ]; rfl
section
variable {P : Program} {w : World} {K : PySem.W.Frag} {mg : Str → Option Value} {base : Heap} (T : Tx K mg)
include T
theorem ok_law_pays : Fq P w K mg base "_law_pays" 3 ["_law_shares", "_law_market_here"] [] (spL (fun z : List Rat × List (List Rat) => z.1.length ≤ 5 ∧ Shr z.1.length z.1 ∧ Mk z.1.length z.2) (fun z => [(VI.tup (nums z.1)).p, .lst (rows z.2)]) (fun z => nums (z.2.map (dot z.1)))) :=
  fq_L T.x_law_pays sc_law_pays (fun _ _ _ _ _ _ us hl => match us, hl with | [_, _], _ => rfl) (fun _ => rfl) fun cdv A outer s H E hr ⟨ss, mk⟩ ⟨h0, h1, h2⟩ => by
    have h0 : ss.length ≤ 5 := h0
    have h1 : Shr ss.length ss := h1
    have h2 : Mk ss.length mk := h2
    have hl := h2.l
    refine g_one (g_retF ((ef_lc (own := [("_law_day_here", 2)]) (xs := mk) (F := fun rs => VI.tup (nums rs)) (G := fun rs => VI.num (dot ss rs)) (Γe := fun rs => [.e (VI.tup (nums ss)).p, .e (.lst (rows mk)), .i (VI.tup (nums rs)), .u, .u]) rfl sc_law_pays.nd (blkOk_by (N := nm_law_pays) (sc := defScope st_law_pays) (by decide +kernel))
      (it_list (lE 1) rfl) (by omega) (fun s h C cl fp z hz => tg_name 2 sc_law_pays.nd) (fun s h C cl fp z hz => ?_)).to (by rw [nums, List.map_map]; rfl)))
    obtain ⟨k1, k2⟩ := dots_sz h0 h1 (h2.r z hz)
    have hzl := (h2.r z hz).1
    exact (ev_call (ok_law_sum T) hr (List.zipWith (fun a b => a * b) ss z, 12) ⟨k1, by show (List.zipWith (fun a b => a * b) ss z).length * (12 + 1) ≤ 8000; have := Nat.mul_le_mul_right 13 k2; omega⟩ (ea_cons (EF.v ((ef_lc (own := [("_law_share", 3), ("_law_number_here", 4)]) (xs := ss.zip z) (F := fun y => VI.tup [VI.num y.1, VI.num y.2]) (G := fun y => VI.num (y.1 * y.2)) (Γe := fun y => [.e (VI.tup (nums ss)).p, .e (.lst (rows mk)), .i (VI.tup (nums z)), .i (VI.num y.1), .i (VI.num y.2)]) rfl sc_law_pays.nd (blkOk_by (N := nm_law_pays) (sc := relS _ (defScope st_law_pays)) (by decide +kernel))
      (it_zipT T.bl (vE 0) (vI 2) rfl rfl hzl.symm) (by rw [List.length_zip]; omega) (fun s h C cl fp y hy => tg_tup rfl (tgs_cons (tg_name 3 sc_law_pays.nd) (tgs_cons (tg_name 4 sc_law_pays.nd) tgs_nil)))
      (fun s h C cl fp y hy => (ev_call (ok_law_times T) (hr.mono (by decide)) ([y.1, y.2], 8) ⟨fun r hr => by
        rcases List.mem_cons.mp hr with rfl | hr
        · exact h1.r _ (List.of_mem_zip hy).1
        · rw [List.mem_singleton.mp hr]
          exact Sz.mono (b := 8) ((h2.r z hz).2 _ (List.of_mem_zip hy).2).1 (by decide), by show 2 * 8 ≤ 8000; decide⟩ (ea_cons (EF.v (ef_lst (ei_cons (vI 3) (ei_cons (vI 4) ei_nil)))) ea_nil)).to (by rw [rp2]))).to (Ps' := nums (List.zipWith (fun a b => a * b) ss z)) (by rw [nums, ← zip_map_fst, List.map_map]; rfl))) ea_nil))
theorem ok_law_purse : Fq P w K mg base "_law_purse" 4 ["_law_counts", "_law_days", "_law_market_here"] [] (spV (fun z : List Nat × Nat × List (List Rat) => Lw z.1 z.2.1 ∧ Mk z.1.length z.2.2 ∧ z.2.2.length ≤ z.2.1) (fun z => [.lst (natz z.1), ei (z.2.1 : Int), .lst (rows z.2.2)]) (fun z => VI.num (lpurse z.1 z.2.1 z.2.2))) :=
  fq_V T.x_law_purse sc_law_purse (fun _ _ _ _ _ _ us hl => match us, hl with | [_, _, _], _ => rfl) (fun _ => rfl) fun cdv A outer s H E hr ⟨cs, d, mk⟩ ⟨h0, h1, h2⟩ => by
    have h0 : Lw cs d := h0
    have h1 : Mk cs.length mk := h1
    have h2 : mk.length ≤ d := h2
    have h5 := h0.l5
    have h4 := h0.d4
    have hw27 : (wds cs.length mk.length).length ≤ 27 := by
      rw [wds_len]
      exact Nat.le_trans (Nat.pow_le_pow_right h0.l1 h2) h0.p
    have hstep : ∀ u ∈ wds cs.length mk.length, Lw (withC cs u) (d - mk.length) := fun u hu => by
      obtain ⟨e1, e2⟩ := wds_mem hu
      have := h0.step e2 (by omega)
      rw [e1] at this
      exact this
    have hsz : ∀ u ∈ wds cs.length mk.length, Sz 233 (lrest (withC cs u) (d - mk.length)) := fun u hu => lrest_sz (hstep u hu)
    have hwz : ∀ u ∈ wds cs.length mk.length, Sz 250 (wg mk u * lrest (withC cs u) (d - mk.length)) := fun u hu => ((wg_sz h1 (wds_mem hu).2).mul (hsz u hu)).mono (by decide)
    refine g_cons (g_setF 3 sc_law_purse.nd (ef_lst ei_nil)) ?_
    refine g_cons (g_for (vs := [4]) PassesOwn.never rfl (fun us : List (List Nat) => [.e (.lst (natz cs)), .e (ei d), .e (.lst (rows mk)), .o (nums (us.map fun u => wg mk u * lrest (withC cs u) (d - mk.length))), .u, .u, .u, .u]) (fun us u => [.e (.lst (natz cs)), .e (ei d), .e (.lst (rows mk)), .o (nums (us.map fun u => wg mk u * lrest (withC cs u) (d - mk.length))), .i (VI.tup (natz u)), .u, .u, .u])
      (it_list (xs := wds cs.length mk.length) (F := fun u => VI.tup (natz u)) (EF.l (ef_call (ok_law_words T) (hr.mono (by decide)) (cs.length, mk.length) ⟨h5, h1.l⟩ (ea_cons ((e_lenL T.bl (vE 0)).to (by rw [List.length_map])) (ea_cons ((e_lenL T.bl (vE 2)).to (by rw [List.length_map])) ea_nil)))) rfl) (fun us u post _ => tg_name 4 sc_law_purse.nd) (fun us u post eu => ?_)) (g_one (g_ret (ev_call (ok_law_sum T) (hr.mono (by decide)) ((wds cs.length mk.length).map fun u => wg mk u * lrest (withC cs u) (d - mk.length), 250) ⟨fun r hr => ?_, ?_⟩ (ea_cons (vO 3) ea_nil))))
    · have hu := mem_mid eu
      obtain ⟨e1, e2⟩ := wds_mem hu
      have hwl := wg_szs h1 e2
      refine g_cons (g_set 5 sc_law_purse.nd (P := VI.num (wg mk u)) (ev_call (ok_law_times T) (hr.mono (by decide)) ((mk.zip u).map fun z => z.1.getD z.2 0, 4) ⟨hwl, by show ((mk.zip u).map _).length * 4 ≤ 8000; rw [List.length_map, List.length_zip]; have := h1.l; omega⟩ (ea_cons (EF.v ((ef_lc (own := [("_law_day_here", 6), ("_law_good", 7)]) (xs := mk.zip u) (F := fun y => VI.tup [VI.tup (nums y.1), VI.int (y.2 : Int)]) (G := fun y => VI.num (y.1.getD y.2 0)) (Γe := fun y => [.e (.lst (natz cs)), .e (ei d), .e (.lst (rows mk)), .o (nums (us.map fun u => wg mk u * lrest (withC cs u) (d - mk.length))), .i (VI.tup (natz u)), .u, .i (VI.tup (nums y.1)), .i (VI.int (y.2 : Int))]) rfl sc_law_purse.nd (blkOk_by (N := nm_law_purse) (sc := defScope st_law_purse) (by decide +kernel))
        (it_zipLT T.bl (F := fun rs => VI.tup (nums rs)) (G := fun x : Nat => VI.int (x : Int)) (lE 2) (vI 4) rfl rfl e1.symm) (by rw [List.length_zip]; have := h1.l; omega) (fun s h C cl fp y hy => tg_tup rfl (tgs_cons (tg_name 6 sc_law_purse.nd) (tgs_cons (tg_name 7 sc_law_purse.nd) tgs_nil)))
        (fun s h C cl fp y hy => e_ixT (vI 6) (vI 7) (atI_num (by rw [(h1.r _ (List.of_mem_zip hy).1).1]; exact e2 _ (List.of_mem_zip hy).2)))).to (Ps' := nums ((mk.zip u).map fun z => z.1.getD z.2 0)) (by rw [nums, List.map_map]; rfl))) ea_nil))) ?_
      refine g_one ((g_append 3 (P := VI.num (wg mk u * lrest (withC cs u) (d - mk.length))) rfl ((ev_call (ok_law_times T) (hr.mono (by decide)) ([wg mk u, lrest (withC cs u) (d - mk.length)], 233) ⟨fun r hr => ?_, by show 2 * 233 ≤ 8000; decide⟩ (ea_cons (EF.v (ef_lst (ei_cons (vI 5) (ei_cons (ev_call (ok_law_rest T) hr (withC cs u, d - mk.length) (hstep u hu) (ea_cons (EF.v (ef_call (ok_law_with T) (hr.mono (by decide)) (cs, u) ⟨e2, by show cs.length ≤ 1000; omega⟩ (ea_cons (vE 0) (ea_cons (vI 4) ea_nil)))) (ea_cons ((e_sub (vE 1) (e_lenL T.bl (vE 2))).to (congrArg ei (by rw [List.length_map]; omega : (d : Int) - ((rows mk).length : Int) = ((d - mk.length : Nat) : Int)))) ea_nil))) ei_nil)))) ea_nil)).to (by rw [rp2])) ?_ rfl (.inl rfl) (by decide) (by decide) (pe_bm PySem.F.plainAttrs_list PySem.F.slot_list_append PySem.F.type_list_append mt_append (pe_var rfl (.inl rfl) (by decide) (by decide)) (pa_cons pe_w pa_nil))).toLe ⟨rfl, fun i U hi => ?_⟩)
      · rcases List.mem_cons.mp hr with rfl | hr
        · exact Sz.mono (b := 233) (wg_sz h1 e2) (by decide)
        · rw [List.mem_singleton.mp hr]
          exact hsz u hu
      · rw [List.length_map, List.length_map]
        have := congrArg List.length eu
        simp at this
        omega
      · rw [List.map_append] at hi
        match i, hi with
        | 0, hi => exact .inr hi
        | 1, hi => exact .inr hi
        | 2, hi => exact .inr hi
        | 3, hi =>
          refine .inr (Eq.trans ?_ hi)
          show some (Ty.o _) = some (Ty.o _)
          rw [nums, nums, List.map_append]
          rfl
        | 4, hi => exact .inl (Option.some.inj hi).symm
        | 5, hi => exact .inl (Option.some.inj hi).symm
        | 6, hi => exact .inl (Option.some.inj hi).symm
        | 7, hi => exact .inl (Option.some.inj hi).symm
    · obtain ⟨u, hu, rfl⟩ := List.mem_map.mp hr
      exact hwz u hu
    · rw [List.length_map]
      have := Nat.mul_le_mul_right 251 hw27
      omega
theorem ok_law_makes : Fq P w K mg base "_law_makes" 4 ["_law_shares", "_law_counts", "_law_market_here"] [] (spV (fun z : List Rat × List Nat × List (List Rat) => z.1.length ≤ 5 ∧ Shr z.1.length z.1 ∧ Mk z.1.length z.2.2 ∧ z.2.1.length = z.1.length ∧ ∀ c ∈ z.2.1, c ≤ 10) (fun z => [(VI.tup (nums z.1)).p, .lst (natz z.2.1), .lst (rows z.2.2)]) (fun z => VI.num (rprod (mkl z.1 z.2.1 z.2.2)))) :=
  fq_V T.x_law_makes sc_law_makes (fun _ _ _ _ _ _ us hl => match us, hl with | [_, _, _], _ => rfl) (fun _ => rfl) fun cdv A outer s H E hr ⟨ss, cs, mk⟩ ⟨h0, h1, h2, h3, h4⟩ => by
    have h0 : ss.length ≤ 5 := h0
    have h1 : Shr ss.length ss := h1
    have h2 : Mk ss.length mk := h2
    have h3 : cs.length = ss.length := h3
    have h4 : ∀ c ∈ cs, c ≤ 10 := h4
    have hl := h2.l
    have hz : ∀ r ∈ mk.map (dot ss), Sz 66 r := fun r hr => by
      obtain ⟨rs, hrs, rfl⟩ := List.mem_map.mp hr
      exact dot_sz' h0 h1 (h2.r rs hrs)
    have hzz : ∀ y ∈ ss.zip cs, y.2 ≤ 10 := fun y hy => h4 _ (List.of_mem_zip hy).2
    have hls : (ss.zip cs).length ≤ 5 := by rw [List.length_zip]; omega
    refine g_cons (g_setF 3 sc_law_makes.nd (ef_call (ok_law_pays T) hr (ss, mk) ⟨h0, h1, h2⟩ (ea_cons (vE 0) (ea_cons (vE 2) ea_nil)))) ?_
    refine g_cons (g_for (vs := [4, 5]) PassesOwn.never rfl (fun pre : List (Rat × Nat) => [.e (VI.tup (nums ss)).p, .e (.lst (natz cs)), .e (.lst (rows mk)), .o (nums (mk0 ss mk pre)), .u, .u]) (fun pre y => [.e (VI.tup (nums ss)).p, .e (.lst (natz cs)), .e (.lst (rows mk)), .o (nums (mk0 ss mk pre)), .i (VI.num y.1), .i (VI.int (y.2 : Int))])
      (it_zipTL T.bl (F := VI.num) (G := fun x : Nat => VI.int (x : Int)) (vE 0) (lE 1) rfl rfl h3.symm) (fun pre y post _ => tg_tup rfl (tgs_cons (tg_name 4 sc_law_makes.nd) (tgs_cons (tg_name 5 sc_law_makes.nd) tgs_nil))) (fun pre y post e => ?_)) (g_one (g_ret (ev_call (ok_law_times T) (hr.mono (by decide)) (mkl ss cs mk, 66) ⟨mk0_sz hz fun y hy => Sz.mono (b := 66) (h1.r _ (List.of_mem_zip hy).1) (by decide), ?_⟩ (ea_cons (vO 3) ea_nil))))
    · have hy := mem_mid e
      have hy2 := hzz y hy
      have hpl : (mk0 ss mk pre).length ≤ 60 := by
        have k1 := mk0_len (ss := ss) (mk := mk) (pre := pre) fun z hz => hzz z (by rw [e]; simp [hz])
        have k2 : pre.length ≤ 5 := by
          have := congrArg List.length e
          simp at this
          simp at hls
          omega
        omega
      refine g_one ((g_setF 3 sc_law_makes.nd ((ef_cat (Qs := nums (List.replicate y.2 y.1)) (vO 3) (EF.v ((ef_rep (EF.v (ef_lst (ei_cons (vI (P := VI.num y.1) 4) ei_nil))) (vI 5) (by omega) (by omega)).to (by rw [Int.toNat_natCast, rep_flat]))) (by rw [List.length_map, List.length_map, List.length_replicate]; omega)).to (Ps' := nums (mk0 ss mk (pre ++ [y]))) (by rw [mk0_snoc]; simp only [nums, List.map_append]))).toLe ⟨rfl, fun i U hi => ?_⟩)
      match i, hi with
      | 0, hi => exact .inr hi
      | 1, hi => exact .inr hi
      | 2, hi => exact .inr hi
      | 3, hi => exact .inr hi
      | 4, hi => exact .inl (Option.some.inj hi).symm
      | 5, hi => exact .inl (Option.some.inj hi).symm
    · show (mk0 ss mk (ss.zip cs)).length * 66 ≤ 8000
      have k1 := mk0_len (ss := ss) (mk := mk) (pre := ss.zip cs) hzz
      have k2 : (mk0 ss mk (ss.zip cs)).length ≤ 60 := by omega
      have := Nat.mul_le_mul_right 66 k2
      omega
end
end K8
end
section
set_option Elab.async false
set_option linter.all false
set_option maxRecDepth 100000
set_option maxHeartbeats 1000000
set_option autoImplicit false
namespace K8
open PySem L2
open Evl (Ex)
/-! Promises as objects. -/
def FOk (fs : List (Str × VI)) (gs : List (Str × V)) (H : Hp) : Prop := ∀ (f : Str) (P : VI), fs.lookup f = some P → ∃ v, gs.lookup f = some v ∧ P.ok H v
theorem FOk.mono {fs : List (Str × VI)} {gs : List (Str × V)} {H H' : Hp} (e : ExI H H') (h : FOk fs gs H) : FOk fs gs H' := fun f P l => by
  obtain ⟨v, h1, h2⟩ := h f P l
  exact ⟨v, h1, P.mono e h2⟩
/-- a made promise of a class, with such fields -/
def VI.ob (C : Addr) (fs : List (Str × VI)) : VI := ⟨fun H v => ∃ a dx gs, v = .ref a ∧ H a = some (.ins C dx gs) ∧ full gs = true ∧ FOk fs gs H, fun e ⟨a, dx, gs, h1, h2, h3, h4⟩ => ⟨a, dx, gs, h1, e a _ h2 h3, h3, h4.mono e⟩⟩
abbrev PF : List Str := ["kind", "told", "goods", "inner", "many", "levels", "shares", "counts", "number", "part"]
/-- what of the text the promises' classes have -/
structure PCls (K : PySem.W.Frag) (C : Addr) : Prop where
  c : Cls K C
  na : ∀ f ∈ PF, NoAttr K C f
  h1 : PySem.W.findIn K (.ref C) "__class__" = some (some (.builtin "object.__class__"))
  h2 : PySem.W.specialIn K (.builtin "object.__class__") "__get__" = some (some (.builtin "getset_descriptor.__get__"))
  h3 : PySem.W.takesIn K (.builtin "object.__class__") = some true
  h4 : PySem.W.mroIn K C (.type "object") = some true
  sub : PySem.W.kitOne K (.ref C) (.ref (He.ga K "Promise")) = some true
/-- the top's facts on objects -/
structure To (K : PySem.W.Frag) (mg : Str → Option Value) : Prop where
  g_Promise : mg "Promise" = some (.ref (He.ga K "Promise"))
  p_Promise : PCls K (He.ga K "Promise")
  p_Mix : PCls K (He.ga K "Mix")
  p_BestMix : PCls K (He.ga K "BestMix")
  ord : ∃ a, mg "ORDERED" = some (.ref a) ∧ ∀ H, SqT K H a [.str "then", .str "walk"]
section
variable {X : Cx} {Γ : Ctx} {pos p : Pos} {e b : Expr}
theorem e_fld {C : Addr} {fs : List (Str × VI)} {P : VI} {f : Str} (h : EV X e Γ (VI.ob C fs).p) (c : PCls X.K C) (hf : fs.lookup f = some P) (hn : f ∈ PF := by decide)
    (hb : attributeBase e f X.env (eval e X.env) = eval e X.env := by rfl) : EV X (.Attribute e f pos) Γ P.p := fun H0 H1 σ H ft Q q =>
  wE_of (pe_fld pe_w hb) (h H0 H1 σ H ft _ fun v H2 e2 ⟨a, dx, gs, ev, h2, h3, h4⟩ => by
    obtain ⟨w, l, k⟩ := h4 f P hf
    exact ⟨a, C, dx, gs, w, ev, h2, c.c, c.na f hn, l, q w H2 e2 k⟩)
theorem of_ob {K : PySem.W.Frag} {C : Addr} {fs : List (Str × VI)} (c : PCls K C) : OfTy K (VI.ob C fs).p (.ref C) := fun H v ⟨a, dx, gs, ev, h2, _⟩ => by
  subst ev
  exact .base (.ins h2 c.c c.h1 c.h2 c.h3 c.h4)
/-- x not in a tuple of texts of the top -/
theorem e_notIn {xs : List V} {x : Str} {a : Addr} {k : Bool} (ha : EV X e Γ (VI.str x).p) (hb : EV X b Γ (VI.is (.ref a)).p) (hs : ∀ H, SqT X.K H a xs) (fl : xs.all flatV = true) (hk : (!inV (.str x) xs) = k) (hm : behindInMarks .NotIn b = false := by rfl) : EV X (.Compare e [.NotIn] [b] pos) Γ (eb k) :=
  e_cmp op_notIn_seq hm ha hb fun x' y' H hx hy Q q => by
    obtain rfl : x' = .str x := hx
    obtain rfl : y' = .ref a := hy
    refine ⟨a, xs, rfl, .inr (hs H), rfl, fl, ?_⟩
    show Q (.bl (!inV (.str x) xs)) H
    rw [hk]
    exact q _ H Ex.r rfl
end
/-- the three kinds that the law makes -/
inductive Pr where
  | mix (ss : List Rat)
  | best (cs : List Nat)
  | times (r : Rat) (ss : List Rat)
def Pr.kind : Pr → Str
  | .mix _ => "mix"
  | .best _ => "best"
  | .times _ _ => "times"
def Pr.cls (K : PySem.W.Frag) : Pr → Addr
  | .mix _ => He.ga K "Mix"
  | .best _ => He.ga K "BestMix"
  | .times _ _ => He.ga K "Promise"
def Pr.goods : Pr → Nat
  | .mix ss => ss.length
  | .best cs => cs.length
  | .times _ ss => ss.length
abbrev mixF (ss : List Rat) : List (Str × VI) := [("kind", VI.str "mix"), ("goods", VI.int (ss.length : Int)), ("inner", VI.tup []), ("many", VI.int 1), ("levels", VI.int 1), ("shares", VI.tup (nums ss))]
abbrev mixI (K : PySem.W.Frag) (ss : List Rat) : VI := VI.ob (He.ga K "Mix") (mixF ss)
abbrev bestF (cs : List Nat) : List (Str × VI) := [("kind", VI.str "best"), ("goods", VI.int (cs.length : Int)), ("inner", VI.tup []), ("counts", VI.tup (natz cs))]
abbrev timesF (K : PySem.W.Frag) (r : Rat) (ss : List Rat) : List (Str × VI) := [("kind", VI.str "times"), ("goods", VI.int (ss.length : Int)), ("inner", VI.tup [mixI K ss]), ("number", VI.num r), ("part", mixI K ss)]
def Pr.fs (K : PySem.W.Frag) : Pr → List (Str × VI)
  | .mix ss => mixF ss
  | .best cs => bestF cs
  | .times r ss => timesF K r ss
/-- a promise -/
def VI.pr (K : PySem.W.Frag) (q : Pr) : VI := VI.ob (q.cls K) (q.fs K)
theorem To.pc {K : PySem.W.Frag} {mg : Str → Option Value} (O : To K mg) : ∀ q : Pr, PCls K (q.cls K)
  | .mix _ => O.p_Mix
  | .best _ => O.p_BestMix
  | .times _ _ => O.p_Promise
theorem fs_kind (K : PySem.W.Frag) : ∀ q : Pr, (q.fs K).lookup ("kind" : Str) = some (VI.str q.kind)
  | .mix _ => rfl
  | .best _ => rfl
  | .times _ _ => rfl
theorem fs_goods (K : PySem.W.Frag) : ∀ q : Pr, (q.fs K).lookup ("goods" : Str) = some (VI.int (q.goods : Int))
  | .mix _ => rfl
  | .best _ => rfl
  | .times _ _ => rfl
def Pr.isBest : Pr → Bool
  | .best _ => true
  | _ => false
/-- a promise and all within -/
def sprd : Pr → List Pr
  | .times r ss => [.times r ss, .mix ss]
  | q => [q]
theorem kind_best (q : Pr) : decide (V.str q.kind = V.str "best") = q.isBest := by
  cases q with
  | mix ss => exact (by decide +kernel : decide (V.str "mix" = V.str "best") = false)
  | best cs => exact (by decide +kernel : decide (V.str "best" = V.str "best") = true)
  | times r ss => exact (by decide +kernel : decide (V.str "times" = V.str "best") = false)
theorem kind_ord (q : Pr) : (!inV (.str q.kind) [.str "then", .str "walk"]) = true := by
  cases q with
  | mix ss => exact (by decide +kernel : (!inV (.str "mix") [.str "then", .str "walk"]) = true)
  | best cs => exact (by decide +kernel : (!inV (.str "best") [.str "then", .str "walk"]) = true)
  | times r ss => exact (by decide +kernel : (!inV (.str "times") [.str "then", .str "walk"]) = true)
theorem sprd_len (q : Pr) : (sprd q).length ≤ 2 := by
  cases q <;> exact Nat.le_of_ble_eq_true rfl
section
variable {P : Program} {w : World} {K : PySem.W.Frag} {mg : Str → Option Value} {base : Heap} (T : Tx K mg) (O : To K mg)
include T O
theorem ok_need_promise : Fq P w K mg base "need_promise" 1 ["value", "part", "goods"] [.str "promise", .non] (spV (fun _ : Pr => True) (fun q => [(VI.pr K q).p, (VI.str "promise").p, VI.non.p]) (fun _ => VI.non)) :=
  fq_VD 1 T.x_need_promise sc_need_promise (by simp) rfl (fun _ _ _ _ _ _ _ us its h1 h2 => match us, its, h1, h2 with | [_], [_, _], _, _ => ⟨_, rfl, rfl⟩) (fun _ => rfl) fun cdv A outer s H E hr q _ => by
    refine gs_end (g_one (g_not (t_or (k := false) (l := false) (t_not (k := true) (t_val (e_isi T.bl (P := (VI.pr K q).p) (t := .ref (q.cls K)) (vE 0) (of_ob (O.pc q)) (e_glob (v := .ref (He.ga K "Promise")) O.g_Promise rfl) (.own _) (O.pc q).sub))) fun _ => ?_)))
    exact t_and (k := false) (l := false) (t_notN (x := .non) (vE 2) e_non rfl) fun h => nomatch h
theorem ok_spread0 : Fq P w K mg base "spread" 1 ["promise"] [] (spL (fun q : Pr => ∀ r ss, q ≠ .times r ss) (fun q => [(VI.pr K q).p]) (fun q => [VI.pr K q])) :=
  fq_L T.x_spread sc_spread (fun _ _ _ _ _ _ us hl => match us, hl with | [_], _ => rfl) (fun _ => rfl) fun cdv A outer s H E hr q h0 => by
    have hin : (q.fs K).lookup ("inner" : Str) = some (VI.tup []) := by
      cases q with
      | mix ss => rfl
      | best cs => rfl
      | times r ss => exact absurd rfl (h0 r ss)
    refine g_cons (g_setF 1 sc_spread.nd (ef_lst (ei_cons (vE (P := (VI.pr K q).p) 0) ei_nil))) ?_
    refine g_cons (g_for (α := Nat) (xs := []) (F := fun _ => VI.any) (vs := [2]) PassesOwn.never rfl (fun _ => [.e (VI.pr K q).p, .o [VI.pr K q], .u]) (fun _ _ => [.e (VI.pr K q).p, .o [VI.pr K q], .u]) (it_tup (e_fld (vE (P := (VI.ob (q.cls K) (q.fs K)).p) 0) (O.pc q) hin) rfl) (fun pre a post e => ?_) (fun pre a post e => ?_)) (g_one (g_retO 1))
    · simp at e
    · simp at e
theorem ok_spread : Fq P w K mg base "spread" 2 ["promise"] [] (spL (fun _ : Pr => True) (fun q => [(VI.pr K q).p]) (fun q => (sprd q).map (VI.pr K))) := by
  refine fq_L T.x_spread sc_spread (fun _ _ _ _ _ _ us hl => match us, hl with | [_], _ => rfl) (fun _ => rfl) fun cdv A outer s H E hr q h0 => ?_
  have key : ∀ (q : Pr) (ps : List Pr), (q.fs K).lookup ("inner" : Str) = some (VI.tup (ps.map (VI.pr K))) → (∀ p ∈ ps, ∀ r ss, p ≠ .times r ss) → ps.length ≤ 10 → GS (cxOf CX0 P w K mg base nm_spread "spread" (defScope st_spread) (He.ga K "spread") cdv A outer s H E).nox (defBody st_spread) (ctx0 nm_spread [(VI.pr K q).p]) noN (.o ((q :: ps).map (VI.pr K))) := fun q ps hin hp hl => by
    refine g_cons (g_setF 1 sc_spread.nd (ef_lst (ei_cons (vE (P := (VI.pr K q).p) 0) ei_nil))) ?_
    refine g_cons (g_for (xs := ps) (F := VI.pr K) (vs := [2]) PassesOwn.never rfl (fun pre => [.e (VI.pr K q).p, .o ((q :: pre).map (VI.pr K)), .u]) (fun pre a => [.e (VI.pr K q).p, .o ((q :: pre).map (VI.pr K)), .i (VI.pr K a)]) (it_tup (e_fld (vE (P := (VI.ob (q.cls K) (q.fs K)).p) 0) (O.pc q) hin) rfl) (fun pre a post e => tg_name 2 sc_spread.nd) (fun pre a post e => ?_)) (g_one (g_retO 1))
    refine g_one ((g_extend 1 (Qs := [VI.pr K a]) rfl (ef_call (ok_spread0 T O) hr a (hp a (mem_mid e)) (ea_cons (vI 2) ea_nil)) ?_ rfl (pe_bm PySem.F.plainAttrs_list PySem.F.slot_list_extend PySem.F.type_list_extend mt_extend (pe_var rfl (.inl rfl) (by decide) (by decide)) (pa_cons pe_w pa_nil))).toLe ⟨rfl, fun i U hi => ?_⟩)
    · rw [List.length_map]
      have := congrArg List.length e
      simp at this ⊢
      omega
    · match i, hi with
      | 0, hi => exact .inr hi
      | 1, hi =>
        refine .inr (Eq.trans ?_ hi)
        show some (Ty.o _) = some (Ty.o _)
        simp
      | 2, hi => exact .inl (Option.some.inj hi).symm
  cases q with
  | mix ss => exact key (.mix ss) [] rfl (fun _ h => nomatch h) (Nat.le_of_ble_eq_true rfl)
  | best cs => exact key (.best cs) [] rfl (fun _ h => nomatch h) (Nat.le_of_ble_eq_true rfl)
  | times r ss => exact key (.times r ss) [.mix ss] rfl (fun p hp r' ss' e => by rw [List.mem_singleton.mp hp] at e; cases e) (Nat.le_of_ble_eq_true rfl)
theorem ok_best_many : Fq P w K mg base "best_many" 3 ["promise"] [] (spV (fun _ : Pr => True) (fun q => [(VI.pr K q).p]) (fun q => VI.int (if q.isBest then 1 else 0))) :=
  fq_V T.x_best_many sc_best_many (fun _ _ _ _ _ _ us hl => match us, hl with | [_], _ => rfl) (fun _ => rfl) fun cdv A outer s H E hr q _ => by
    refine g_one (g_ret ((e_lenL T.bl (EF.v (ef_lcIf (own := [("each", 1)]) (xs := sprd q) (F := VI.pr K) (G := VI.pr K) (keep := Pr.isBest) (Γe := fun a => [.e (VI.pr K q).p, .i (VI.pr K a)]) rfl sc_best_many.nd (blkOk_by (N := nm_best_many) (sc := defScope st_best_many) (by decide +kernel))
      (it_list (EF.l (ef_call (ok_spread T O) hr q trivial (ea_cons (vE 0) ea_nil))) rfl) (by have := sprd_len q; omega) (fun s h C cl fp z hz => tg_name 1 sc_best_many.nd) (fun s h C cl fp z hz => t_eq (x := .str z.kind) (y := .str "best") (e_fld (vI (P := VI.ob (z.cls K) (z.fs K)) 1) (O.pc z) (fs_kind K z)) e_str (kind_best z)) (fun s h C cl fp z hz _ => vI 1)))).to ?_))
    cases q <;> rfl
theorem ok_has_best_in : Fq P w K mg base "has_best_in" 4 ["promise"] [] (spV (fun _ : Pr => True) (fun q => [(VI.pr K q).p]) (fun q => VI.bl q.isBest)) :=
  fq_V T.x_has_best_in sc_has_best_in (fun _ _ _ _ _ _ us hl => match us, hl with | [_], _ => rfl) (fun _ => rfl) fun cdv A outer s H E hr q _ =>
    g_one (g_ret ((e_gt (ev_call (ok_best_many T O) hr q trivial (ea_cons (vE 0) ea_nil)) e_int).to (by cases q <;> rfl)))
theorem ok_need_no_best : Fq P w K mg base "need_no_best" 5 ["promise"] [] (spV (fun q : Pr => q.isBest = false) (fun q => [(VI.pr K q).p]) (fun _ => VI.non)) :=
  fq_V T.x_need_no_best sc_need_no_best (fun _ _ _ _ _ _ us hl => match us, hl with | [_], _ => rfl) (fun _ => rfl) fun cdv A outer s H E hr q h =>
    gs_end (g_one (g_not ((t_val (ev_call (ok_has_best_in T O) hr q trivial (ea_cons (vE 0) ea_nil))).to h)))
theorem ok_orderless_in : Fq P w K mg base "orderless_in" 3 ["promise"] [] (spV (fun _ : Pr => True) (fun q => [(VI.pr K q).p]) (fun q => VI.bl true)) :=
  fq_V T.x_orderless_in sc_orderless_in (fun _ _ _ _ _ _ us hl => match us, hl with | [_], _ => rfl) (fun _ => rfl) fun cdv A outer s H E hr q _ => by
    obtain ⟨oa, og, os⟩ := O.ord
    refine g_one (g_ret ((e_all T.bl (ns := (sprd q).map fun _ => true) rfl (EF.v ((ef_lc (own := [("each", 1)]) (xs := sprd q) (F := VI.pr K) (G := fun _ => VI.bl true) (Γe := fun a => [.e (VI.pr K q).p, .i (VI.pr K a)]) rfl sc_orderless_in.nd (blkOk_by (N := nm_orderless_in) (sc := defScope st_orderless_in) (by decide +kernel))
      (it_list (EF.l (ef_call (ok_spread T O) hr q trivial (ea_cons (vE 0) ea_nil))) rfl) (by have := sprd_len q; omega) (fun s h C cl fp z hz => tg_name 1 sc_orderless_in.nd) (fun s h C cl fp z hz => e_notIn (x := z.kind) (e_fld (vI (P := VI.ob (z.cls K) (z.fs K)) 1) (O.pc z) (fs_kind K z)) (e_glob (v := .ref oa) og rfl) os (by decide +kernel) (kind_ord z))).to (by rw [List.map_map]; rfl)))).to (by rw [List.all_map]; exact congrArg eb (List.all_eq_true.mpr fun _ _ => rfl))))
end
end K8
end
section
set_option Elab.async false
set_option linter.all false
set_option maxRecDepth 100000
set_option maxHeartbeats 1000000
set_option autoImplicit false
namespace K8
open PySem L2
open Evl (Ex)
/-! Making promises. -/
def gAt (K : PySem.W.Frag) (to : TE) (f : Str) : TG := fun v σ H Q => to σ H fun x H1 => ∃ a C dx gs, x = .ref a ∧ H1 a = some (.ins C dx gs) ∧ Cls K C ∧ NoAttr K C f ∧ gs.length < 1000 ∧ Q σ (upd H1 a (.ins C dx (putF f v gs)))
theorem pg_at {X : Cx} {o : Expr} {to : TE} {f : Str} {pos : Pos} (ho : PE X o to) : PG X (.Attribute o f pos) (gAt X.K to f) := by
  refine ⟨fun pins s σ H v u Q I r h => ?_⟩
  rw [assign_Attribute]
  refine wpAny_bind (wpAny_holding (thn (ho.run pins s σ H _ I h) fun ov s1 ⟨x, H1, I1, rx, a, C, dx, gs, ex, ea, c, n, l, q⟩ => ?_))
  subst ex
  obtain rfl : ov = Value.ref a := rx
  exact wpAny_bind (wpAny_standAt (wpAny_bind (wpAny_holding (setattr_ok I1 ea c n l r fun s3 I3 => wpAny_release ⟨σ, _, I3, q⟩))))
/-- an object with such fields, made or not -/
def pob (C : Addr) (fs : List (Str × VI)) : VP := ⟨fun H v => ∃ a dx gs, v = .ref a ∧ H a = some (.ins C dx gs) ∧ FOk fs gs H, fun e ⟨a, dx, gs, h1, h2, h3⟩ => ⟨a, dx, gs, h1, e a _ h2, h3.mono (.of e)⟩⟩
/-- an object of one's own, in slot j: its fields; are its levels, is its part laid -/
structure FO (j : Nat) (Γ : Ctx) (x C : Addr) (fs : List (Str × VI)) (lv pt : Bool) (n : Nat) (H0 H1 : Hp) (σ : St) (H : Hp) : Prop where
  f : Fit H0 H1 Γ σ H
  u : Γ[j]? = some .u
  s : σ[j]? = some (some (.ref x))
  nx : H1 x = none
  at_ : ∃ dx gs, H x = some (.ins C dx gs) ∧ gs.length ≤ n ∧ FOk fs gs H ∧ (gs.lookup ("levels" : Str)).isSome = lv ∧ (gs.lookup ("part" : Str)).isSome = pt
def open_ (fs : List (Str × VI)) (lv pt : Bool) : Prop := lv = false ∨ (fs.lookup ("kind" : Str) = some (VI.str "times") ∧ pt = false)
theorem not_full {fs : List (Str × VI)} {lv pt : Bool} {gs : List (Str × V)} {H : Hp} (o : open_ fs lv pt) (k : FOk fs gs H) (h1 : (gs.lookup ("levels" : Str)).isSome = lv) (h2 : (gs.lookup ("part" : Str)).isSome = pt) : full gs = false := by
  unfold full
  rcases o with o | ⟨o, p⟩
  · rw [h1, o, Bool.false_and]
  · obtain ⟨v, e, r⟩ := k _ _ o
    obtain rfl : v = .str "times" := r
    rw [e, h2, p]
    simp
section
variable {X : Cx} {Γ Γ' : Ctx} {j : Nat} {x C : Addr} {fs : List (Str × VI)} {lv pt : Bool} {n : Nat} {H0 H1 H H2 : Hp} {σ : St} {pos p p1 p2 p3 : Pos} {e : Expr} {es : List Expr} {R : Ty}
theorem FO.mono (h : FO j Γ x C fs lv pt n H0 H1 σ H) (e : Ex H H2) : FO j Γ x C fs lv pt n H0 H1 σ H2 := by
  obtain ⟨dx, gs, a1, a2, a3, a4, a5⟩ := h.at_
  exact ⟨h.f.mono e, h.u, h.s, h.nx, dx, gs, e _ _ a1, a2, a3.mono (.of e), a4, a5⟩
theorem FO.nown (h : FO j Γ x C fs lv pt n H0 H1 σ H) : ¬ Own Γ σ x := fun o => by
  obtain ⟨dx, gs, a1, _⟩ := h.at_
  obtain ⟨_, ys, q⟩ := h.f.own o
  rw [a1] at q
  cases q
theorem FO.view (h : FO j Γ x C fs lv pt n H0 H1 σ H) : Fit H0 (base Γ σ H) (Γ.set j (.f (pob C fs))) σ H := by
  have f := h.f.rebase
  obtain ⟨dx, gs, a1, a2, a3, a4, a5⟩ := h.at_
  have jl : j < Γ.length := (List.getElem?_eq_some_iff.mp h.u).1
  have hx : base Γ σ H x = some (.ins C dx gs) := by rw [base_in h.nown]; exact a1
  have nk : ∀ {m : Nat} {Ss : List VI}, (Γ.set j (.f (pob C fs)))[m]? = some (.o Ss) → Γ[m]? = some (.o Ss) := fun {m Ss} q => by
    by_cases z : m = j
    · subst z
      rw [List.getElem?_set_self jl] at q
      cases q
    · rw [List.getElem?_set_ne (Ne.symm z)] at q
      exact q
  refine ⟨f.b, f.ex, by simp [f.len], fun i U hi => ?_, fun i k Ps Qs v hik hi hk si sk => f.ap i k Ps Qs v hik (nk hi) (nk hk) si sk⟩
  by_cases z : i = j
  · subst z
    rw [List.getElem?_set_self jl] at hi
    cases hi
    exact .inr ⟨_, h.s, x, dx, gs, rfl, hx, a3.mono (exI_base h.f)⟩
  · rw [List.getElem?_set_ne (Ne.symm z)] at hi
    exact f.ok i U hi
theorem FO.put (h : FO j Γ x C fs lv pt n H0 H1 σ H) (o : open_ fs lv pt) {f : Str} {P : VI} {v : V} (k : P.ok H v) {dx : Addr} {gs : List (Str × V)} (hx : H x = some (.ins C dx gs)) :
    FO j Γ x C ((f, P) :: fs) (f == ("levels" : Str) || lv) (f == ("part" : Str) || pt) (n + 1) H0 H1 σ (upd H x (.ins C dx (putF f v gs))) := by
  obtain ⟨dx', gs', a1, a2, a3, a4, a5⟩ := h.at_
  rw [hx] at a1
  cases a1
  have ns : ¬ Stab (.ins C dx gs) := fun z => by
    have z : full gs = true := z
    rw [not_full o a3 a4 a5] at z
    cases z
  have ee : ExI H (upd H x (.ins C dx (putF f v gs))) := .upd hx ns
  refine ⟨h.f.other h.nx hx ns h.nown, h.u, h.s, h.nx, dx, putF f v gs, upd_same, Nat.le_trans (length_putF f v gs) (Nat.succ_le_succ a2), fun g Q hg => ?_, ?_, ?_⟩
  · rw [lookup_putF]
    rw [List.lookup_cons] at hg
    by_cases z : g = f
    · subst z
      rw [beq_self_eq_true] at hg
      cases hg
      rw [if_pos rfl]
      exact ⟨v, rfl, P.mono ee k⟩
    · rw [beq_eq_false_iff_ne.mpr z] at hg
      rw [if_neg z]
      obtain ⟨w, l, r⟩ := a3 g Q hg
      exact ⟨w, l, Q.mono ee r⟩
  · rw [lookup_putF, ← a4]
    by_cases z : ("levels" : Str) = f
    · rw [if_pos z, beq_iff_eq.mpr z.symm, Bool.true_or]
      rfl
    · rw [if_neg z, beq_eq_false_iff_ne.mpr (Ne.symm z), Bool.false_or]
  · rw [lookup_putF, ← a5]
    by_cases z : ("part" : Str) = f
    · rw [if_pos z, beq_iff_eq.mpr z.symm, Bool.true_or]
      rfl
    · rw [if_neg z, beq_eq_false_iff_ne.mpr (Ne.symm z), Bool.false_or]
theorem FO.exi (h : FO j Γ x C fs lv pt n H0 H1 σ H) (o : open_ fs lv pt) {dx : Addr} {gs : List (Str × V)} (hx : H x = some (.ins C dx gs)) (u : HO) : ExI H (upd H x u) := .upd hx fun z => by
  obtain ⟨dx', gs', z1, _, z3, z4, z5⟩ := h.at_
  rw [hx] at z1
  cases z1
  have z : full gs = true := z
  rw [not_full o z3 z4 z5] at z
  cases z
/-- x.f = e -/
theorem s_attr {y f : Str} {P : VI} (hP : PCls X.K C) (ho : open_ fs lv pt) (h : EV X e (Γ.set j (.f (pob C fs))) P.p) (hj : X.N[j]? = some y := by rfl) (hn : n < 900 := by decide) (hf : f ∈ PF := by decide) (hv : Vis X.env.scope y := by first | exact Or.inl rfl | exact Or.inr (Or.inl rfl) | exact Or.inr (Or.inr rfl)) (hd : (y == ("__debug__" : Str)) = false := by decide) (hcd : (y == ("__classdict__" : Str)) = false := by decide)
    (hs : swapsWith e (some (.Attribute (.Name y p1) f p2)) pos.line X.env = pure false := by rfl) {D : Ends} (a : FO j Γ x C fs lv pt n H0 H1 σ H) (hD : ∀ H', FO j Γ x C ((f, P) :: fs) (f == ("levels" : Str) || lv) (f == ("part" : Str) || pt) (n + 1) H0 H1 σ H' → D.nx σ H') : wS X (.Assign [.Attribute (.Name y p1) f p2] e pos) D σ H :=
  wS_of (ps_fld (pe_var hj hv hd hcd) pe_w hs) (h _ _ σ H a.view _ fun v H2 e2 r => by
    have a2 := a.mono e2
    obtain ⟨dx, gs, a1, al, _⟩ := a2.at_
    exact ⟨_, a2.s, x, C, dx, gs, rfl, a1, hP.c, hP.na f hf, by omega, hD _ (a2.put ho r a1)⟩)
/-- x.f, x.g, x.h = a, b, c -/
theorem s_attr3 {y f1 f2 f3 : Str} {P1 P2 P3 : VI} {kt k2 : Nat} {q1 q2 q3 q4 q5 q6 tp tp2 : Pos} {e1 e2 e3 : Expr} (hc : X.calm = true) (hP : PCls X.K C) (ho : lv = false) (h1 : EV X e1 (Γ.set j (.f (pob C fs))) P1.p) (h2 : EV X e2 (Γ.set j (.f (pob C fs))) P2.p) (h3 : EV X e3 (Γ.set j (.f (pob C fs))) P3.p) (hj : X.N[j]? = some y := by rfl) (hn : n < 900 := by decide) (hf1 : f1 ∈ PF := by decide) (hf2 : f2 ∈ PF := by decide) (hf3 : f3 ∈ PF := by decide) (hv : Vis X.env.scope y := by first | exact Or.inl rfl | exact Or.inr (Or.inl rfl) | exact Or.inr (Or.inr rfl)) (hd : (y == ("__debug__" : Str)) = false := by decide) (hcd : (y == ("__classdict__" : Str)) = false := by decide)
    (hl1 : (f1 == ("levels" : Str)) = false := by decide) (hl2 : (f2 == ("levels" : Str)) = false := by decide)
    (hs : swapsWithSole [.Tuple [.Attribute (.Name y q1) f1 q2, .Attribute (.Name y q3) f2 q4, .Attribute (.Name y q5) f3 q6] kt tp] (.Tuple [e1, e2, e3] k2 tp2) pos.line X.env = pure false := by rfl) (hw : swappedStores [.Tuple [.Attribute (.Name y q1) f1 q2, .Attribute (.Name y q3) f2 q4, .Attribute (.Name y q5) f3 q6] kt tp] (.Tuple [e1, e2, e3] k2 tp2) X.env = pure none := by rfl)
    (he1 : starEach [e1, e2, e3] X.env = (false, eval e1 X.env) :: starEach [e2, e3] X.env := by rfl) (he2 : starEach [e2, e3] X.env = (false, eval e2 X.env) :: starEach [e3] X.env := by rfl) (he3 : starEach [e3] X.env = (false, eval e3 X.env) :: starEach [] X.env := by rfl) {D : Ends} (a : FO j Γ x C fs lv pt n H0 H1 σ H)
    (hD : ∀ H', FO j Γ x C ((f3, P3) :: (f2, P2) :: (f1, P1) :: fs) (f3 == ("levels" : Str) || (f2 == ("levels" : Str) || (f1 == ("levels" : Str) || lv))) (f3 == ("part" : Str) || (f2 == ("part" : Str) || (f1 == ("part" : Str) || pt))) (n + 1 + 1 + 1) H0 H1 σ H' → D.nx σ H') :
    wS X (.Assign [.Tuple [.Attribute (.Name y q1) f1 q2, .Attribute (.Name y q3) f2 q4, .Attribute (.Name y q5) f3 q6] kt tp] (.Tuple [e1, e2, e3] k2 tp2) pos) D σ H :=
  wS_of (ps_asg (pe_tup pa_w) (pg_tup (n := 3) hc (pgs_cons (pg_at (pe_var hj hv hd hcd)) (pgs_cons (pg_at (pe_var hj hv hd hcd)) (pgs_cons (pg_at (pe_var hj hv hd hcd)) pgs_nil)))) hs hw) (ei_cons h1 (ei_cons h2 (ei_cons h3 ei_nil he3) he2) he1 _ _ σ H a.view _ fun vs H2 e k => by
    cases k with
    | @cons _ v1 _ _ r1 t =>
      cases t with
      | @cons _ v2 _ _ r2 t =>
        cases t with
        | @cons _ v3 _ _ r3 t =>
          cases t
          refine ⟨Nat.le_of_ble_eq_true rfl, fun l hl => ?_⟩
          have el := Evl.Ex.new (o := .tup [v1, v2, v3]) hl
          have a2 := a.mono (e.trans el)
          obtain ⟨dx, gs, b1, bl, _⟩ := a2.at_
          have m2 : n + 1 < 1000 := by omega
          refine ⟨l, _, rfl, .of upd_same, rfl, _, _, rfl, ⟨_, a2.s, x, C, dx, gs, rfl, b1, hP.c, hP.na _ hf1, by omega, _, _, rfl, ?_⟩⟩
          have a3 := a2.put (f := f1) (.inl ho) (P1.mono (.of el) r1) b1
          obtain ⟨dx3, gs3, c1, cl, _⟩ := a3.at_
          have o3 : open_ ((f1, P1) :: fs) (f1 == ("levels" : Str) || lv) (f1 == ("part" : Str) || pt) := .inl (by rw [hl1, ho]; rfl)
          refine ⟨_, a3.s, x, C, dx3, gs3, rfl, c1, hP.c, hP.na _ hf2, by omega, _, _, rfl, ?_⟩
          have a4 := a3.put (f := f2) o3 (P2.mono (a2.exi (.inl ho) b1 _) (P2.mono (.of el) r2)) c1
          obtain ⟨dx4, gs4, d1, dl, _⟩ := a4.at_
          refine ⟨_, a4.s, x, C, dx4, gs4, rfl, d1, hP.c, hP.na _ hf3, by omega, rfl, ?_⟩
          exact hD _ (a4.put (f := f3) (.inl (by rw [hl1, hl2, ho]; rfl)) (P3.mono (a3.exi o3 c1 _) (P3.mono (a2.exi (.inl ho) b1 _) (P3.mono (.of el) r3))) d1))
end
end K8
end
section
set_option Elab.async false
set_option linter.all false
set_option maxRecDepth 100000
set_option maxHeartbeats 1000000
set_option autoImplicit false
namespace K8
open PySem L2
open Evl (Ex)
/-! The constructors that say no super. -/
section
variable {X : Cx} {Γ Γ' : Ctx} {j : Nat} {x C : Addr} {fs : List (Str × VI)} {lv pt : Bool} {n : Nat} {H0 H1 H H2 : Hp} {σ : St} {pos p p1 p2 p3 : Pos} {e b : Expr} {es : List Expr} {R : Ty}
theorem e_pfld {P : VI} {f : Str} (h : EV X e Γ (pob C fs)) (c : PCls X.K C) (hf : fs.lookup f = some P) (hn : f ∈ PF := by decide)
    (hb : attributeBase e f X.env (eval e X.env) = eval e X.env := by rfl) : EV X (.Attribute e f pos) Γ P.p := fun H0 H1 σ H ft Q q =>
  wE_of (pe_fld pe_w hb) (h H0 H1 σ H ft _ fun v H2 e2 ⟨a, dx, gs, ev, h2, h4⟩ => by
    obtain ⟨w, l, k⟩ := h4 f P hf
    exact ⟨a, C, dx, gs, w, ev, h2, c.c, c.na f hn, l, q w H2 e2 k⟩)
/-- max of a list of whole numbers -/
theorem e_maxL (M : Bl X.mg) {ns : List Int} {m : Int} (hc : X.calm = true) (h : EV X e Γ (.lst (ns.map VI.int))) (h0 : 0 < ns.length) (hm : ∀ k, k ∈ ns → (∀ y, y ∈ ns → y ≤ k) → k = m) (hg : Gl X "max" := by rfl) (he : starEach [e] X.env = (false, eval e X.env) :: starEach [] X.env := by rfl) : EV X (.Call (.Name "max" p) [e] [] pos) Γ (ei m) :=
  e_cb (cr_max hc) hg M.max (by decide +kernel) (ea_cons h ea_nil he) (fun vs H k Q q => by
    obtain ⟨v, rfl, a, us, rfl, h1, k1⟩ := pk1 k
    exact ⟨a, ns, rfl, .of (by rw [← oks_ints M k1]; exact h1), h0, fun z z1 z2 => by rw [hm z z1 z2]; exact q _ H Ex.r rfl⟩) (he := he)
/-- x.f, x.g = a, b -/
theorem s_attr2 {y f1 f2 : Str} {P1 P2 : VI} {kt k2 : Nat} {q1 q2 q3 q4 tp tp2 : Pos} {e1 e2 : Expr} (hc : X.calm = true) (hP : PCls X.K C) (ho : open_ fs lv pt) (h1 : EV X e1 (Γ.set j (.f (pob C fs))) P1.p) (h2 : EV X e2 (Γ.set j (.f (pob C fs))) P2.p) (ho2 : open_ ((f1, P1) :: fs) (f1 == ("levels" : Str) || lv) (f1 == ("part" : Str) || pt)) (hj : X.N[j]? = some y := by rfl) (hn : n < 900 := by decide) (hf1 : f1 ∈ PF := by decide) (hf2 : f2 ∈ PF := by decide) (hv : Vis X.env.scope y := by first | exact Or.inl rfl | exact Or.inr (Or.inl rfl) | exact Or.inr (Or.inr rfl)) (hd : (y == ("__debug__" : Str)) = false := by decide) (hcd : (y == ("__classdict__" : Str)) = false := by decide)
    (hs : swapsWithSole [.Tuple [.Attribute (.Name y q1) f1 q2, .Attribute (.Name y q3) f2 q4] kt tp] (.Tuple [e1, e2] k2 tp2) pos.line X.env = pure false := by rfl) (hw : swappedStores [.Tuple [.Attribute (.Name y q1) f1 q2, .Attribute (.Name y q3) f2 q4] kt tp] (.Tuple [e1, e2] k2 tp2) X.env = pure none := by rfl)
    (he1 : starEach [e1, e2] X.env = (false, eval e1 X.env) :: starEach [e2] X.env := by rfl) (he2 : starEach [e2] X.env = (false, eval e2 X.env) :: starEach [] X.env := by rfl) {D : Ends} (a : FO j Γ x C fs lv pt n H0 H1 σ H)
    (hD : ∀ H', FO j Γ x C ((f2, P2) :: (f1, P1) :: fs) (f2 == ("levels" : Str) || (f1 == ("levels" : Str) || lv)) (f2 == ("part" : Str) || (f1 == ("part" : Str) || pt)) (n + 1 + 1) H0 H1 σ H' → D.nx σ H') :
    wS X (.Assign [.Tuple [.Attribute (.Name y q1) f1 q2, .Attribute (.Name y q3) f2 q4] kt tp] (.Tuple [e1, e2] k2 tp2) pos) D σ H :=
  wS_of (ps_asg (pe_tup pa_w) (pg_tup (n := 2) hc (pgs_cons (pg_at (pe_var hj hv hd hcd)) (pgs_cons (pg_at (pe_var hj hv hd hcd)) pgs_nil))) hs hw) (ei_cons h1 (ei_cons h2 ei_nil he2) he1 _ _ σ H a.view _ fun vs H2 e k => by
    cases k with
    | @cons _ v1 _ _ r1 t =>
      cases t with
      | @cons _ v2 _ _ r2 t =>
        cases t
        refine ⟨Nat.le_of_ble_eq_true rfl, fun l hl => ?_⟩
        have el := Evl.Ex.new (o := .tup [v1, v2]) hl
        have a2 := a.mono (e.trans el)
        obtain ⟨dx, gs, b1, bl, _⟩ := a2.at_
        refine ⟨l, _, rfl, .of upd_same, rfl, _, _, rfl, ⟨_, a2.s, x, C, dx, gs, rfl, b1, hP.c, hP.na _ hf1, by omega, _, _, rfl, ?_⟩⟩
        have a3 := a2.put (f := f1) ho (P1.mono (.of el) r1) b1
        obtain ⟨dx3, gs3, c1, cl, _⟩ := a3.at_
        refine ⟨_, a3.s, x, C, dx3, gs3, rfl, c1, hP.c, hP.na _ hf2, by omega, rfl, ?_⟩
        exact hD _ (a3.put (f := f2) ho2 (P2.mono (a2.exi ho b1 _) (P2.mono (.of el) r2)) c1))
end
/-- the entry of a def of an object: slot 0 is unknown -/
def ctxS (N : List Str) (Ts : List Ty) : Ctx := .u :: (Ts ++ List.replicate (N.length - (Ts.length + 1)) .u)
theorem fitS {N : List Str} {Ts : List Ty} {H1 H : Hp} {x : V} {ws : List V} (e : Ex H1 H) (k : Paired (fun (T : Ty) (v : V) => T.ok H1 H1 H v) Ts ws) (no : ∀ T ∈ Ts, ∀ Ps, T ≠ .o Ps) : Fit H1 H1 (ctxS N Ts) (L2.start N (x :: ws)) H := by
  have lk := k.length
  have noo : ∀ {i : Nat} {Ps : List VI}, (ctxS N Ts)[i]? ≠ some (.o Ps) := fun {i Ps} h => by
    have hm := List.mem_of_getElem? h
    unfold ctxS at hm
    rcases List.mem_cons.mp hm with z | z
    · cases z
    · rcases List.mem_append.mp z with z | z
      · exact no _ z Ps rfl
      · cases List.eq_of_mem_replicate z
  refine ⟨Ex.r, e, by unfold ctxS L2.start; simp [lk], fun i T h => ?_, fun i j Qs Rs v _ hi _ _ _ => absurd hi noo⟩
  cases i with
  | zero =>
    unfold ctxS at h
    cases h
    exact .inl rfl
  | succ i =>
    have h : (Ts ++ List.replicate (N.length - (Ts.length + 1)) Ty.u)[i]? = some T := h
    by_cases hi : i < Ts.length
    · rw [List.getElem?_append_left hi] at h
      have key : ∀ {Ts : List Ty} {ws : List V}, Paired (fun (T : Ty) (v : V) => T.ok H1 H1 H v) Ts ws → ∀ {i : Nat} {T : Ty}, Ts[i]? = some T → ∃ v, ws[i]? = some v ∧ T.ok H1 H1 H v := by
        intro Ts ws k
        induction k with
        | nil => intro i T h; simp at h
        | cons r t ih =>
          intro i T h
          cases i with
          | zero =>
            have e : _ = T := Option.some.inj h
            subst e
            exact ⟨_, rfl, r⟩
          | succ i => exact ih h
      obtain ⟨v, h1, h2⟩ := key k h
      refine .inr ⟨v, ?_, h2⟩
      unfold L2.start
      rw [List.getElem?_append_left (by simp; omega), List.getElem?_map]
      show ((x :: ws)[i + 1]?).map some = _
      rw [List.getElem?_cons_succ, h1]
      rfl
    · rw [List.getElem?_append_right (by omega), List.getElem?_replicate] at h
      split at h
      · cases h
        exact .inl rfl
      · cases h
/-- a method of a class, by its place in the text -/
structure Dm (K : PySem.W.Frag) (cname mname qual : Str) (st : Stmt) (dvs : List V) : Prop where
  fn : ∃ fd, FunD K mname qual (defArgs st) (defBody st) (defScope st) dvs [] (He.ma K (He.ga K cname) mname) fd
  me : Meth K (He.ga K cname) mname (He.ma K (He.ga K cname) mname)
theorem ones (ps : List (List Rat)) : (ps.map fun _ => (1 : Int)).sum = (ps.length : Int) := by
  induction ps with
  | nil => rfl
  | cons s ps ih => rw [List.map_cons, List.sum_cons, ih, List.length_cons]; omega
/-- what Promise's __init__ lays -/
abbrev initF (K : PySem.W.Frag) (k : Str) (ps : List (List Rat)) (g : Nat) : List (Str × VI) := [("levels", VI.int (1 + (if ps = [] then 0 else 1))), ("many", VI.int (1 + (ps.length : Int))), ("inner", VI.tup (ps.map (mixI K))), ("goods", VI.int (g : Int)), ("told", VI.any), ("kind", VI.str k)]
/-- its promise: self holds fs0 already, and the rest of the heap stays -/
def spI (K : PySem.W.Frag) : Sp := fun vs H Q _ => ∃ (k : Str) (ps : List (List Rat)) (g : Nat) (x dx C : Addr) (gs : List (Str × V)) (fs0 : List (Str × VI)) (H1 : Hp) (ws : List V), ps.length ≤ 10 ∧ PCls K C ∧ vs = .ref x :: ws ∧ Oks [VI.str k, VI.any, VI.tup (ps.map (mixI K)), VI.int (g : Int)] H ws ∧ Ex H1 H ∧ H1 x = none ∧ H x = some (.ins C dx gs) ∧ gs.length ≤ 20 ∧ FOk fs0 gs H ∧ (gs.lookup ("levels" : Str)).isSome = false ∧ (gs.lookup ("part" : Str)).isSome = false ∧
  ∀ H' dx' gs', Ex H1 H' → H' x = some (.ins C dx' gs') → FOk (initF K k ps g ++ fs0) gs' H' → (gs'.lookup ("levels" : Str)).isSome = true → (gs'.lookup ("part" : Str)).isSome = false → gs'.length ≤ 40 → Q .non H'
section
variable {P : Program} {w : World} {K : PySem.W.Frag} {mg : Str → Option Value} {base : Heap} (T : Tx K mg) (O : To K mg)
include T O
theorem ok_need_shares : Fq P w K mg base "need_shares" 7 ["value"] [] (spV (fun ss : List Rat => 1 ≤ ss.length ∧ ss.length ≤ 5 ∧ (∀ r ∈ ss, Sz 4000 r ∧ 0 ≤ r.num) ∧ rsum ss = 1) (fun ss => [(VI.tup (nums ss)).p]) (fun ss => VI.tup (nums ss))) :=
  fq_V T.x_need_shares sc_need_shares (fun _ _ _ _ _ _ us hl => match us, hl with | [_], _ => rfl) (fun _ => rfl) fun cdv A outer s H E hr ss ⟨h0, h1, h2, h3⟩ => by
    have h0 : 1 ≤ ss.length := h0
    have h1 : ss.length ≤ 5 := h1
    have h3 : rsum ss = 1 := h3
    have hb : (rowB ss (ss.length : Int) && decide (rsum ss = 1)) = true := by
      rw [rowB, decide_eq_true rfl, decide_eq_true h3, List.all_eq_true.mpr fun r hr => decide_eq_true (h2 r hr).2]
      rfl
    refine g_cons (g_not (t_or3 (k := false) (l := false) (r := false) (t_not (k := true) (t_val (ev_call (ok_is_list T) (hr.mono (by decide)) (.t (nums ss)) trivial (ea_cons (vE 0) ea_nil)))) (fun _ => (t_not (t_chain e_int (e_lenT T.bl (vE 0)) (e_gInt T.c_MOST_GOODS))).to ?_) fun _ _ => (t_not (t_val (ev_call (ok_is_mix_of T) (hr.mono (by decide)) (ss, (ss.length : Int)) ⟨by show ss.length ≤ 60; omega, fun r hr => (h2 r hr).1⟩ (ea_cons (vE 0) (ea_cons ((e_lenT T.bl (vE 0)).to (by rw [List.length_map])) ea_nil))))).to (by show (!(rowB ss (ss.length : Int) && decide (rsum ss = 1))) = false; rw [hb]; rfl))) (g_one (g_ret (ev_call (ok_kept_row T) (hr.mono (by decide)) ss (by show ss.length ≤ 1000; omega) (ea_cons (vE 0) ea_nil))))
    rw [List.length_map, decide_eq_true (by omega), decide_eq_true (by omega)]
    rfl
theorem ok_Promise_init (D : Dm K "Promise" "__init__" "Promise.__init__" st_Promise_init []) : ∃ fd, FnOk P w K mg base CX0 1 (He.ma K (He.ga K "Promise") "__init__") fd ["self", "kind", "told", "inner", "goods"] (spI K) ∧ Binds K fd ["self", "kind", "told", "inner", "goods"] [] := by
  obtain ⟨fd, F⟩ := D.fn
  refine ⟨fd, F.ok sc_Promise_init (fun vs H Q E h => ?_) (fun cdv A outer s H vs Q E hr h => ?_), F.bindsN (fun _ _ _ _ _ _ us hl => match us, hl with | [_, _, _, _, _], _ => rfl)⟩
  · obtain ⟨k, ps, g, x, dx, C, gs, fs0, H1, ws, _, _, rfl, ok, _⟩ := h
    rw [List.length_cons, ← ok.len]
    rfl
  · obtain ⟨k, ps, g, x, dx, C, gs, fs0, H1, ws, hps, hC, rfl, ok, e1, nx, hx, hl, fk, l1, l2, q⟩ := h
    refine ⟨_, PSs.nox pss_w, ?_⟩
    have f : Fit H1 H1 (ctxS nm_Promise_init [.i (VI.str k), .i VI.any, .i (VI.tup (ps.map (mixI K))), .i (VI.int (g : Int))]) (L2.start nm_Promise_init (.ref x :: ws)) H := by
      refine fitS e1 ?_ (fun T hT Ps e => ?_)
      · cases ok with
        | cons r1 t =>
          cases t with
          | cons r2 t =>
            cases t with
            | cons r3 t =>
              cases t with
              | cons r4 t =>
                cases t
                exact .cons r1 (.cons r2 (.cons r3 (.cons r4 .nil)))
      · subst e
        simp at hT
    have a : FO 0 (ctxS nm_Promise_init [.i (VI.str k), .i VI.any, .i (VI.tup (ps.map (mixI K))), .i (VI.int (g : Int))]) x C fs0 false false 20 H1 H1 (L2.start nm_Promise_init (.ref x :: ws)) H := ⟨f, rfl, rfl, nx, dx, gs, hx, hl, fk, l1, l2⟩
    refine wSs_of (pss_cons ps_w pss_w) (s_attr3 rfl hC rfl (vI 1) (vI 2) (vI 4) (a := a) (hD := fun H2 a2 => ?_))
    refine wSs_of (pss_cons ps_w pss_w) (s_attr hC (.inl rfl) (e_tupT T.bl (vI 3)) (a := a2) (hD := fun H3 a3 => ?_))
    refine wSs_of (pss_cons ps_w pss_w) (s_attr (P := VI.int (1 + (ps.length : Int))) hC (.inl rfl) ?_ (a := a3) (hD := fun H4 a4 => ?_))
    · refine (e_add e_int (e_sum T.bl (ns := ps.map fun _ => 1) rfl (EF.v ((ef_lc (own := [("part", 5)]) (xs := ps) (F := mixI K) (G := fun _ => VI.int 1) (Γe := fun ss => [.f (pob C _), .i (VI.str k), .i VI.any, .i (VI.tup (ps.map (mixI K))), .i (VI.int (g : Int)), .i (mixI K ss)]) rfl sc_Promise_init.nd (blkOk_by (N := nm_Promise_init) (sc := defScope st_Promise_init) (by decide +kernel))
        (it_tup (e_pfld (vF 0) hC rfl) rfl) (by omega) (fun s h C cl fp z hz => tg_name 5 sc_Promise_init.nd) (fun s h C cl fp z hz => e_fld (vI (P := mixI K z) 5) O.p_Mix rfl)).to (by rw [List.map_map]; rfl))))).to (congrArg ei ?_)
      congr 1
      exact ones ps
    refine wSs_of (pss_one ps_w) (s_attr (P := VI.int (1 + (if ps = [] then 0 else 1))) hC (.inl rfl) ?_ (a := a4) (hD := fun H5 a5 => ?_))
    · refine e_add e_int (e_maxL T.bl (ns := 0 :: ps.map fun _ => 1) rfl (EF.v ((ef_lst (ei_cons e_int (ei_starL (EF.v ((ef_lc (own := [("part", 5)]) (xs := ps) (F := mixI K) (G := fun _ => VI.int 1) (Γe := fun ss => [.f (pob C _), .i (VI.str k), .i VI.any, .i (VI.tup (ps.map (mixI K))), .i (VI.int (g : Int)), .i (mixI K ss)]) rfl sc_Promise_init.nd (blkOk_by (N := nm_Promise_init) (sc := defScope st_Promise_init) (by decide +kernel))
        (it_tup (e_pfld (vF 0) hC rfl) rfl) (by omega) (fun s h C cl fp z hz => tg_name 5 sc_Promise_init.nd) (fun s h C cl fp z hz => e_fld (vI (P := mixI K z) 5) O.p_Mix rfl)))) ei_nil)) (by simp; omega)).to (by rw [List.append_nil, List.map_cons, List.map_map]; rfl))) (by simp) (fun m hm hy => ?_))
      have h0 := hy 0 (by simp)
      by_cases z : ps = []
      · subst z
        rw [if_pos rfl]
        simpa using hm
      · rw [if_neg z]
        have h1 := hy 1 (by
          cases ps with
          | nil => exact absurd rfl z
          | cons s t => simp)
        rcases List.mem_cons.mp hm with rfl | hm
        · omega
        · obtain ⟨_, _, rfl⟩ := List.mem_map.mp hm
          rfl
    · obtain ⟨dx5, gs5, b1, b2, b3, b4, b5⟩ := a5.at_
      exact q H5 dx5 gs5 (a5.f.b.trans a5.f.ex) b1 b3 b4 b5 (Nat.le_trans b2 (by decide))
end
end K8
end
section
set_option Elab.async false
set_option linter.all false
set_option maxRecDepth 100000
set_option maxHeartbeats 1000000
set_option autoImplicit false
namespace K8
open PySem L2
open Evl (Ex)
/-! super().__init__(..), the last row of an own class's __init__. -/
/-- the context of such a body -/
def cxS (P : Program) (w : World) (K : PySem.W.Frag) (mg : Str → Option Value) (base : Heap) (N : List Str) (qual : Str) (scope : Scope) (f cda cc : Addr) (A : Around) (outer : List Env) (s : Shared) (H : Hp) : Cx where
  prog := P
  w := w
  K := K
  mg := mg
  base := base
  A := A.deeper (PySem.W.ksEnv qual scope s.heap.objs.size f (.ref cda) cc)
  N := N
  s_0 := s
  H_0 := H
  env := PySem.W.ksEnv qual scope s.heap.objs.size f (.ref cda) cc
  outer := outer
  stack := PySem.W.ksEnv qual scope s.heap.objs.size f (.ref cda) cc :: outer
  ex := []
  calm := true
  fn := fun y => y != "__class__"
  pn := []
  xe := fun _ _ => False
/-- the slots of such a def: no cell but the class's -/
structure FnSup (N ps : List Str) (sc : Scope) : Prop where
  kind : sc.kind = .function
  co : sc.isCoroutine = false
  gen : sc.isGenerator = false
  nd : N.Nodup
  pre : N.take ps.length = ps
  par : ∀ x ∈ ps, sc.names.lookup x = some .local
  cells : ∀ y ∈ sc.names, y.2 ≠ .cell
  free : ∀ y ∈ sc.names, y.2 = .free → y.1 = "__class__"
theorem binds_get {ps : List Str} (nd : ps.Nodup) : ∀ {us : List Value} {i : Nat} {x : Str} {u : Value}, ps[i]? = some x → us[i]? = some u → ps.length = us.length → (ps.zip us).reverse.lookup x = some u := by
  have key : ∀ {l : List (Str × Value)} {x : Str} {u : Value}, (x, u) ∈ l → (l.map (·.1)).Nodup → l.lookup x = some u := by
    intro l
    induction l with
    | nil => intro x u h; cases h
    | cons a l ih =>
      intro x u h nd
      obtain ⟨y, v⟩ := a
      rw [List.map_cons, List.nodup_cons] at nd
      rw [List.lookup_cons]
      rcases List.mem_cons.mp h with h | h
      · cases h
        rw [beq_self_eq_true]
      · have ne : x ≠ y := fun z => nd.1 (by rw [← z]; exact List.mem_map.mpr ⟨_, h, rfl⟩)
        rw [beq_eq_false_iff_ne.mpr ne]
        exact ih h nd.2
  intro us i x u h1 h2 hl
  refine key (List.mem_reverse.mpr (List.mem_of_getElem? (i := i) ?_)) ?_
  · rw [List.getElem?_zip_eq_some]
    exact ⟨h1, h2⟩
  · rw [List.map_reverse]
    refine List.pairwise_reverse.mpr ?_
    rw [show ((ps.zip us).map fun z => z.1) = ps from List.map_fst_zip (Nat.le_of_eq hl)]
    exact nd.imp Ne.symm
section
variable {P : Program} {w : World} {K : PySem.W.Frag} {mg : Str → Option Value} {base : Heap} {N ps : List Str} {qual : Str} {scope : Scope} {f cda cc : Addr} {A : Around} {outer : List Env} {s : Shared} {H : Hp} {us : List Value} {vs : List V}
theorem inv_sup (S : FnSup N ps scope) (hd : A.handled = none) (e0 : Env0 P w K mg base A outer s H) (hl : vs.length = ps.length) (r : Vals vs us) {oc : Obj} {cv : Option Value} (hcc : K.lookup cc = some oc) (hcd : oc.data = .cell cv) {h' : Heap} {t : Nat} (hns : h'.Ns s.heap.objs.size fun y => (ps.zip us).reverse.lookup y) (hk : ∀ b o, s.heap.get? b = some o → h'.get? b = some o) :
    Inv (cxS P w K mg base N qual scope f cda cc A outer s H) [] (L2.start N vs) H { s with heap := h', toks := t } := by
  have hlk : ∀ {y : Str} {c : Addr}, (cxS P w K mg base N qual scope f cda cc A outer s H).env.cells.lookup y = some c → y = "__class__" ∧ c = cc := fun {y c} z => by
    have z : List.lookup y [(("__class__" : Str), cc)] = some c := z
    rw [List.lookup_cons] at z
    by_cases q : y = "__class__"
    · rw [beq_iff_eq.mpr q] at z
      cases z
      exact ⟨q, rfl⟩
    · rw [beq_eq_false_iff_ne.mpr q] at z
      cases z
  have bcc : base.get? cc = some oc := e0.mod.kin _ _ hcc
  have hpl : ps.length ≤ N.length := by have := congrArg List.length S.pre; rw [List.length_take] at this; omega
  have nil : ∀ b : Addr, b ∉ (cxS P w K mg base N qual scope f cda cc A outer s H).ex := fun b z => nomatch (show b ∈ ([] : List Addr) from z)
  refine ⟨⟨e0.mod, S.kind, rfl, rfl, Nat.le_refl _, fun y z c h1 h2 => (hlk h1).1.trans (hlk h2).1.symm, fun y hy => ?_, fun y c h1 h2 => ?_, fun _ => hd, Around.frames_deeper e0.frames, .inr ⟨rfl, rfl⟩, fun b z => absurd z (nil b), e0.bs, e0.bsz, fun b _ _ => nil b, fun b z => absurd z (nil b), e0.funs, e0.frf⟩,
    rfl, e0.bare, Un.kept hk, ⟨_, hns, fun i y v h1 h2 h3 => ?_⟩, fun y c h => ?_, e0.hok.fresh (Nat.le_refl _), fun y c h => ?_, fun p hp => (nomatch (show p ∈ ([] : List (Addr × Obj)) from hp)), e0.hok.kept hk, by show (L2.start N vs).length = N.length; unfold L2.start; simp; omega⟩
  · have hy : scope.names.lookup y = some .cell ∨ scope.names.lookup y = some .free := hy
    rcases hy with hy | hy
    · exact absurd rfl (S.cells _ (PySem.mem_of_lookup hy))
    · have e := S.free _ (PySem.mem_of_lookup hy) rfl
      have e : y = "__class__" := e
      exact ⟨cc, by show List.lookup y [(("__class__" : Str), cc)] = _; rw [e]; rfl⟩
  · have e := (hlk h2).1
    have h1 : (y != "__class__") = true := h1
    rw [e] at h1
    simp at h1
  · have hi : i < vs.length := by
      unfold L2.start at h2
      by_cases hi : i < vs.length
      · exact hi
      · rw [List.getElem?_append_right (by simpa using hi), List.getElem?_replicate] at h2
        split at h2 <;> cases h2
    have ha : vs[i]? = some v := by
      unfold L2.start at h2
      rw [List.getElem?_append_left (by simpa using hi), List.getElem?_map] at h2
      cases e : vs[i]? with
      | none =>
        rw [e] at h2
        cases h2
      | some a =>
        rw [e] at h2
        cases h2
        rfl
    obtain ⟨u, hu, rv⟩ := r.get ha
    have hp : ps[i]? = some y := by
      rw [← S.pre, List.getElem?_take_of_lt (by omega)]
      exact h1
    have ndP : ps.Nodup := by
      rw [← S.pre]
      exact S.nd.sublist (List.take_sublist _ _)
    exact ⟨u, rv, .inl ⟨S.par y (List.mem_of_getElem? hp), binds_get ndP hp hu (by rw [← hl, r.length])⟩⟩
  · obtain ⟨e1, e2⟩ := hlk h
    subst e2
    exact ⟨cv, oc, hk _ _ ((e0.bs _ _ bcc).1), hcd⟩
  · obtain ⟨e1, e2⟩ := hlk h
    subst e2
    exact (e0.bs _ _ bcc).2
end
/-- what of the text such a class must have -/
structure Sup (P : Program) (K : PySem.W.Frag) (cname qual : Str) (st : Stmt) : Prop where
  ex : ∃ (oc : Value) (od : Option Addr) (dV kV doc pm : Value) (an : Option Addr) (cda cc : Addr) (ct : Value) (osl : Array (Option Value)) (ccl cl : Value) (cdd cld : Option Addr) (arr : Array Value) (ccs csl : Array (Option Value)) (file : Str) (tf : Tok) (cdD : ClassData) (of2 : Obj),
    K.lookup (He.ma K (He.ga K cname) "__init__") = some ⟨oc, od, .func (PySem.W.ksFn "__init__" qual (defArgs st) (defBody st) (defScope st) dV kV doc pm an (.ref cda) ct cc), osl⟩ ∧ PySem.W.codeIn K (.ref cda) qual = true ∧ K.lookup cda = some ⟨ccl, cdd, .fields arr, ccs⟩ ∧ arr[2]? = some (.str file tf) ∧ ((P.main.file : Str) == file) = true ∧ K.lookup cc = some ⟨cl, cld, .cell (some (.ref (He.ga K cname))), csl⟩ ∧ PySem.W.clsIn K (He.ga K cname) = some cdD ∧ K.lookup (He.ma K (He.ga K "Promise") "__init__") = some of2 ∧ of2.cls = .type "function" ∧ (∀ (us : List Value), us.length = (defArgs st).args.length → bindArgs (PySem.W.ksFn "__init__" qual (defArgs st) (defBody st) (defScope st) dV kV doc pm an (.ref cda) ct cc) ⟨us, []⟩ = pure (((defArgs st).args.map (·.arg)).zip us))
  mkr : L2.Mk K (He.ga K cname) (He.ma K (He.ga K cname) "__init__")
  sub : PySem.W.mroIn K (He.ga K cname) (.ref (He.ga K cname)) = some true
  opq : PySem.W.nsIn K cStatics "thirdparty.any" = some none
  along : PySem.W.ks_superIn K (He.ga K cname) (He.ga K cname) "__init__" = some (some (.ref (He.ma K (He.ga K "Promise") "__init__")))
  fi : PySem.W.fnIn K (He.ma K (He.ga K "Promise") "__init__") = true
  top : (P.main.scope.names.lookup ("super" : Str)).isSome = false
section
variable {P : Program} {w : World} {K : PySem.W.Frag} {mg : Str → Option Value} {base : Heap} {N ps ps2 : List Str} {qual : Str} {scope : Scope} {f cda cc : Addr} {A : Around} {outer : List Env} {s0 : Shared} {H0' : Hp} {k : Nat}
theorem sup_last {body : List Stmt} {p0 p1 apos pos pos2 : Pos} {e : Expr} {es : List Expr} {fd2 : FuncData} {sp : Sp} {E2 : XK} {C f2 x : Addr} {σ : St} {H : Hp} {s : Shared} {Qn : Hp → Prop}
    {oc od dV kV doc pm an ct osl ccl cl cdd cld arr ccs csl file tf cdD of2} {name : Str} {params : Arguments} {ar : Arg}
    (lk : K.lookup f = some ⟨oc, od, .func (PySem.W.ksFn name qual params body scope dV kV doc pm an (.ref cda) ct cc), osl⟩) (lcd : K.lookup cda = some ⟨ccl, cdd, .fields arr, ccs⟩) (hvs : arr[2]? = some (.str file tf)) (hfile : ((P.main.file : Str) == file) = true)
    (lcc : K.lookup cc = some ⟨cl, cld, .cell (some (.ref C)), csl⟩) (hC : PySem.W.clsIn K C = some cdD) (hsub : PySem.W.mroIn K C (.ref C) = some true) (hopq : PySem.W.nsIn K cStatics "thirdparty.any" = some none) (hal : PySem.W.ks_superIn K C C "__init__" = some (some (.ref f2))) (lf2 : K.lookup f2 = some of2) (cf2 : of2.cls = .type "function") (hfi : PySem.W.fnIn K f2 = true) (htop : (P.main.scope.names.lookup ("super" : Str)).isSome = false)
    (hp : (params.posonlyargs ++ params.args).head? = some ar) (hks : scope.names.lookup ("super" : Str) = some .globalImplicit) (hkc : scope.names.lookup ("__class__" : Str) = some .free) (hka : scope.names.lookup ar.arg = some .local) (hkind : scope.kind = .function) (hN : N[0]? = some ar.arg) (hms : mg "super" = none)
    (F : FnOk P w K mg base CX0 k f2 fd2 ps2 sp) (hb : Binds K fd2 ps2 []) (hr : Room k (A.deeper (PySem.W.ksEnv qual scope s0.heap.objs.size f (.ref cda) cc)))
    (I : Inv (cxS P w K mg base N qual scope f cda cc A outer s0 H0') [] σ H s) (hσ : σ[0]? = some (some (.ref x))) (hx : ∃ dx gs, H x = some (.ins C dx gs))
    (ha : wA (cxS P w K mg base N qual scope f cda cc A outer s0 H0') (e :: es) σ H fun ws H2 => sp (.ref x :: ws) H2 (fun _ H3 => Qn H3) E2)
    (he : starEach (e :: es) (PySem.W.ksEnv qual scope s0.heap.objs.size f (.ref cda) cc) = (false, eval e (PySem.W.ksEnv qual scope s0.heap.objs.size f (.ref cda) cc)) :: starEach es (PySem.W.ksEnv qual scope s0.heap.objs.size f (.ref cda) cc)) (hpl : (backTo pos (starEach es (PySem.W.ksEnv qual scope s0.heap.objs.size f (.ref cda) cc))).any (·.1) = false)
    (hint : interactive (PySem.W.ksEnv qual scope s0.heap.objs.size f (.ref cda) cc) = false) {pl : Sem Bool} (hev : eval (.Call (.Attribute (.Call (.Name "super" p0) [] [] p1) "__init__" apos) (e :: es) [] pos) (PySem.W.ksEnv qual scope s0.heap.objs.size f (.ref cda) cc) = (do
      let ov ← attributeBase (.Call (.Name "super" p0) [] [] p1) "__init__" (PySem.W.ksEnv qual scope s0.heap.objs.size f (.ref cda) cc) (eval (.Call (.Name "super" p0) [] [] p1) (PySem.W.ksEnv qual scope s0.heap.objs.size f (.ref cda) cc))
      standAt apos.atName
      let (g, first) ← holding [ov] (getMethod ov "__init__" pl)
      callWith pos g first (backTo pos (starEach (e :: es) (PySem.W.ksEnv qual scope s0.heap.objs.size f (.ref cda) cc))) [])) :
    _root_.PySem.wpAt (model P w) (A.deeper (PySem.W.ksEnv qual scope s0.heap.objs.size f (.ref cda) cc)) (.func body (PySem.W.ksEnv qual scope s0.heap.objs.size f (.ref cda) cc)) (exec (.Expr (.Call (.Attribute (.Call (.Name "super" p0) [] [] p1) "__init__" apos) (e :: es) [] pos) pos2) (PySem.W.ksEnv qual scope s0.heap.objs.size f (.ref cda) cc))
      (fun fl s' => fl = .next ∧ ∃ H', Inv (cxS P w K mg base N qual scope f cda cc A outer s0 H0') [] σ H' s' ∧ Qn H') (fun _ _ => False) s := by
  have X := I.kIn
  have X : K.In s.heap := X
  obtain ⟨dx, gs, hx⟩ := hx
  obtain ⟨mA, O, _, _, _, _⟩ := ins_get I.hok hx
  obtain ⟨odx, Ia, _⟩ := O.look
  obtain ⟨oD, hD1, hD2⟩ : ∃ oD, s.heap.get? C = some oD ∧ oD.data = .cls cdD := by
    unfold PySem.W.clsIn at hC
    split at hC
    · rename_i c d cd' sl ho
      cases hC
      exact ⟨_, X _ _ ho, rfl⟩
    · cases hC
  refine ks_wpAt_Expr_any (ks_wpAt_MethodCall (ks_wpAt_super_base (env := PySem.W.ksEnv qual scope s0.heap.objs.size f (.ref cda) cc) hks hkc (by decide) rfl (X _ _ lk) rfl hp rfl (X _ _ lcd) rfl hvs hfile htop ?_) hev) (hi := hint)
  obtain ⟨mb, hb1, hb2⟩ := I.mod.blt
  refine PySem.W.ks_loadName_global hkind hks (Calls.loadGlobal_builtin (I.mod.glob.keeps I.bk) hms (hb1.keeps I.bk) ((hb2 _ (by decide)).trans (show bootBuiltins "super" = some (.type "super") by decide +kernel)) ⟨rfl, ?_⟩)
  refine wpAny_loadName_free hkind hkc rfl ⟨_, X _ _ lcc, rfl⟩ ?_
  obtain ⟨m, hns, hlo⟩ := I.loc
  obtain ⟨u, ru, lo⟩ := hlo 0 ar.arg _ hN hσ (.inl hka)
  obtain rfl : u = Value.ref x := ru
  have hv : m ar.arg = some (.ref x) := by
    rcases lo with ⟨_, z⟩ | ⟨z, _⟩
    · exact z
    · rcases z with z | z
      · exact absurd (hka.symm.trans z) (by decide)
      · exact absurd (hka.symm.trans z) (by decide)
  refine wpAny_loadName_local hkind hka hns hv ?_
  obtain ⟨hh, g1, d1, t1, os1⟩ := s
  refine ks_wpAny_isType_cls hD1 hD2 ⟨rfl, ?_⟩
  refine ks_wpAny_call_super hD1 hD2 Ia.at_ Ia.cls (fun c q => ?_) (PySem.W.looks_mroIn X hsub) (fun h' eo kp => ?_)
  · have z := Ia.no
    unfold PySem.W.notCls at z
    rw [q] at z
    exact Bool.noConfusion z
  have I2 := I.kept (h' := h') (t' := t1) kp
  have X2 : K.In h' := I2.kIn
  have hal2 : PySem.W.alongIn K "__init__" ((cdD.mro.dropWhile (· != .ref C)).drop 1) = some (some (.ref f2)) := by
    unfold PySem.W.ks_superIn at hal
    rw [hC] at hal
    exact hal
  refine ks_wpAny_getMethod_super (l₀ := cdD.mro) eo (PySem.W.looks_opaque X2 hopq) (fun A Q E s k q => wpAny_bind ((PySem.W.looks_clsIn X2 hC) A _ E s k (wpAny_pure q))) rfl X2 hal2 (X2 _ _ lf2) cf2 (PySem.W.ks_ne X Ia hC) (by decide) ?_
  have I3 := ClX.pin_new (o := PySem.W.methodObj (.ref f2) (.ref x)) (h' := h'.push (PySem.W.methodObj (.ref f2) (.ref x))) (t' := t1 + 1) I2 (fun _ _ z => Heap.get?_push_of_some _ z) (Nat.le_refl _) (Heap.get?_push_size h' rfl) (fun v z => nomatch z)
  have hbn := ClX.base_none (X := cxS P w K mg base N qual scope f cda cc A outer s0 H0') I2 (Nat.le_refl _)
  have hL := (I3.pin (h'.objs.size, PySem.W.methodObj (.ref f2) (.ref x)) (List.mem_append_right _ List.mem_cons_self)).2.2.1
  refine PySem.W.callWith_M (K := K) (h₀ := base) (first := []) I3.ok.mod.kin (news_at hL hbn (ClX.pin_at I3)) List.mem_cons_self hfi ?_ he hpl
  refine thn (ha pos _ _ I3) fun us s1 ⟨ws, H1, I4, r1, q1⟩ => ?_
  refine ⟨⟨ClX.pin_at I4, I4.kIn⟩, ?_⟩
  have r2 : Vals (V.ref x :: ws) (Value.ref x :: us) := .cons rfl r1
  have hlen : (Value.ref x :: us).length = ps2.length := by
    rw [← r2.length]
    exact F.len _ _ _ _ q1
  refine wpAny_call (PySem.W.method_call (ClX.pin_at I4) (codeAny_mono (F.run _ _ s1 H1 ⟨Value.ref x :: us, []⟩ (Value.ref x :: us) (V.ref x :: ws) _ E2 hr I4.env0 (hb s1 (Value.ref x :: us) I4.kIn (by rw [List.append_nil]; exact hlen) |> fun z => by rw [List.append_nil] at z; exact z) r2 q1) fun rr s' hq => ?_))
  cases rr with
  | error e => exact hq.elim
  | ok fl =>
    cases fl with
    | ret u =>
      obtain ⟨v, H', I5, rv, q5⟩ := I4.after hq
      exact ⟨rfl, H', ClX.unpin I5, q5⟩
    | next => exact False.elim hq
    | brk => exact False.elim hq
    | cont => exact False.elim hq
end
end K8
end
section
set_option Elab.async false
set_option linter.all false
set_option maxRecDepth 100000
set_option maxHeartbeats 1000000
set_option autoImplicit false
namespace K8
open PySem L2
open Evl (Ex)
/-! Mix, BestMix and the promise of times, made. -/
abbrev nm_Mix_init : List Str := ["self", "shares"]
abbrev st_Mix_init : Stmt := inClass (top 57) 0
theorem sc_Mix_init : FnSup nm_Mix_init ["self", "shares"] (defScope st_Mix_init) := ⟨rfl, rfl, rfl, by decide +kernel, rfl, by decide +kernel, by decide +kernel, by decide +kernel⟩
abbrev nm_BestMix_init : List Str := ["self", "goods", "counts", "each"]
abbrev st_BestMix_init : Stmt := inClass (top 58) 0
theorem sc_BestMix_init : FnSup nm_BestMix_init ["self", "goods", "counts"] (defScope st_BestMix_init) := ⟨rfl, rfl, rfl, by decide +kernel, rfl, by decide +kernel, by decide +kernel, by decide +kernel⟩
/-- .. what it promises: a new thing of the class with such fields -/
def spM {ι : Type} (pre : ι → Prop) (args : ι → List VP) (C : Addr) (fs : ι → List (Str × VI)) : Sp := fun vs H Q _ => ∃ (i : ι) (x dx : Addr) (H1 : Hp) (ws : List V), pre i ∧ vs = .ref x :: ws ∧ Pks (args i) H1 ws ∧ Ex H1 H ∧ H1 x = none ∧ H x = some (.ins C dx []) ∧ ∀ H' dx' gs', Ex H1 H' → H' x = some (.ins C dx' gs') → full gs' = true → FOk (fs i) gs' H' → Q .non H'
theorem FOk.cons {fs : List (Str × VI)} {gs : List (Str × V)} {H : Hp} {f : Str} {P : VI} (h : ∃ v, gs.lookup f = some v ∧ P.ok H v) (r : FOk fs gs H) : FOk ((f, P) :: fs) gs H := fun g Q l => by
  rw [List.lookup_cons] at l
  by_cases z : g = f
  · subst z
    rw [beq_self_eq_true] at l
    cases l
    exact h
  · rw [beq_eq_false_iff_ne.mpr z] at l
    exact r g Q l
theorem FOk.nil {gs : List (Str × V)} {H : Hp} : FOk [] gs H := fun _ _ l => nomatch l
theorem full_of {fs : List (Str × VI)} {gs : List (Str × V)} {H : Hp} {k : Str} (h : FOk fs gs H) (hk : fs.lookup ("kind" : Str) = some (VI.str k)) (hl : (gs.lookup ("levels" : Str)).isSome = true) (ht : (k != ("times" : Str) || (gs.lookup ("part" : Str)).isSome) = true) : full gs = true := by
  obtain ⟨v, e, r⟩ := h _ _ hk
  obtain rfl : v = .str k := r
  unfold full
  rw [hl, e, Bool.true_and]
  exact ht
section
variable {P : Program} {w : World} {K : PySem.W.Frag} {mg : Str → Option Value} {base : Heap} {X : Cx}
/-- a row of such a body -/
theorem at_step {body : List Stmt} {env : Env} {st : Stmt} {rest : List Stmt} {t : TS} {nx : St → Hp → Prop} {σ : St} {H : Hp} {s : Shared} {Q : Flow → Shared → Prop} {E : Value → Shared → Prop} (hX : X.xe = fun _ _ => False) (h : PS X st t) (I : Inv X [] σ H s) (q : t { nx := nx, rt := fun _ _ => False } σ H)
    (k : ∀ σ' H' s', Inv X [] σ' H' s' → nx σ' H' → _root_.PySem.wpAt (model X.prog X.w) X.A (.func body env) (execs rest X.env) Q E s') : _root_.PySem.wpAt (model X.prog X.w) X.A (.func body env) (execs (st :: rest) X.env) Q E s := by
  refine ks_wpAt_execs_cons (wpAt_of_wpAny (wpAny_mono (h.run [] s σ H _ I q) (fun fl s' hs => ?_) fun e s' z => ?_))
  · cases fl with
    | next =>
      obtain ⟨σ', H', I', n⟩ := hs
      exact k σ' H' s' I' n
    | ret u =>
      obtain ⟨_, _, _, _, _, z⟩ := hs
      exact z.elim
    | brk =>
      obtain ⟨_, _, _, z⟩ := hs
      exact z.elim
    | cont =>
      obtain ⟨_, _, _, z⟩ := hs
      exact z.elim
  · rw [hX] at z
    exact z.elim
theorem fn_sup {cname qual : Str} {st : Stmt} {N ps : List Str} {sp : Sp} {k : Nat} (S : Sup P K cname qual st) (FS : FnSup N ps (defScope st)) (len : ∀ vs H Q E, sp vs H Q E → vs.length = ps.length)
    (hbody : ∀ (cda cc : Addr) (A : Around) (outer : List Env) (s : Shared) (H : Hp) (vs : List V) (Q : VK) (E : XK) (s1 : Shared), Room k (A.deeper (PySem.W.ksEnv qual (defScope st) s.heap.objs.size (He.ma K (He.ga K cname) "__init__") (.ref cda) cc)) → sp vs H Q E → Inv (cxS P w K mg base N qual (defScope st) (He.ma K (He.ga K cname) "__init__") cda cc A outer s H) [] (L2.start N vs) H s1 →
      (∃ (oc : Value) (od : Option Addr) (dV kV doc pm : Value) (an : Option Addr) (ct : Value) (osl : Array (Option Value)) (ccl cl : Value) (cdd cld : Option Addr) (arr : Array Value) (ccs csl : Array (Option Value)) (file : Str) (tf : Tok) (cdD : ClassData) (of2 : Obj),
        K.lookup (He.ma K (He.ga K cname) "__init__") = some ⟨oc, od, .func (PySem.W.ksFn "__init__" qual (defArgs st) (defBody st) (defScope st) dV kV doc pm an (.ref cda) ct cc), osl⟩ ∧ K.lookup cda = some ⟨ccl, cdd, .fields arr, ccs⟩ ∧ arr[2]? = some (.str file tf) ∧ ((P.main.file : Str) == file) = true ∧ K.lookup cc = some ⟨cl, cld, .cell (some (.ref (He.ga K cname))), csl⟩ ∧ PySem.W.clsIn K (He.ga K cname) = some cdD ∧ K.lookup (He.ma K (He.ga K "Promise") "__init__") = some of2 ∧ of2.cls = .type "function") →
      _root_.PySem.wpAt (model P w) (A.deeper (PySem.W.ksEnv qual (defScope st) s.heap.objs.size (He.ma K (He.ga K cname) "__init__") (.ref cda) cc)) (.func (defBody st) (PySem.W.ksEnv qual (defScope st) s.heap.objs.size (He.ma K (He.ga K cname) "__init__") (.ref cda) cc)) (execs (defBody st) (PySem.W.ksEnv qual (defScope st) s.heap.objs.size (He.ma K (He.ga K cname) "__init__") (.ref cda) cc))
        (fun fl s' => fl = .next ∧ ∃ σ' H', Inv (cxS P w K mg base N qual (defScope st) (He.ma K (He.ga K cname) "__init__") cda cc A outer s H) [] σ' H' s' ∧ Q .non H') (fun _ _ => False) s1)
    (hps : (defArgs st).args.map (·.arg) = ps := by rfl) : ∃ fd, FnOk P w K mg base CX0 (k + 1) (He.ma K (He.ga K cname) "__init__") fd ps sp ∧ Binds K fd ps [] := by
  obtain ⟨oc, od, dV, kV, doc, pm, an, cda, cc, ct, osl, ccl, cl, cdd, cld, arr, ccs, csl, file, tf, cdD, of2, lk, hcd, lcd, hvs, hfile, lcc, hC, lf2, cf2, hbi⟩ := S.ex
  refine ⟨PySem.W.ksFn "__init__" qual (defArgs st) (defBody st) (defScope st) dV kV doc pm an (.ref cda) ct cc, ⟨len, fun A outer s H args us vs Q E hr e0 hb r hsp => ?_⟩, .all fun us hl => ?_⟩
  · have hl := len _ _ _ _ hsp
    have KX : K.In s.heap := e0.mod.kin.keeps fun b o e => (e0.bs b o e).1
    have lim : s.heap.NoLimit := e0.mod.nolimit.keeps fun b o e => (e0.bs b o e).1
    refine ks_codeAny_call_defAt (binds := ps.zip us) hr.depth (KX _ _ lk) rfl lim (PySem.W.codeRec_of KX hcd) rfl hb (fun y hy => FS.cells y hy) (fun y hy => FS.par y.1 (List.of_mem_zip hy).1) (fun h1 hns hk => ?_) FS.co FS.gen FS.kind
    have I := inv_sup (P := P) (w := w) (K := K) (mg := mg) (base := base) (qual := qual) (f := He.ma K (He.ga K cname) "__init__") (cda := cda) (t := s.toks + (ps.zip us).length) FS hr.hd e0 hl r lcc rfl hns hk
    refine ks_wpAt_mono (hbody cda cc A outer s H vs Q E _ (hr.deeper _) hsp I ⟨oc, od, dV, kV, doc, pm, an, ct, osl, ccl, cl, cdd, cld, arr, ccs, csl, file, tf, cdD, of2, lk, lcd, hvs, hfile, lcc, hC, lf2, cf2⟩) (fun fl s' hs => ?_) fun _ _ z => z.elim
    obtain ⟨rfl, σ', H', J, q⟩ := hs
    exact ⟨V.non, H', J.os, J.bare, J.base, J.hok, rfl, q⟩
  · rw [← hps]
    exact hbi us (by rw [hl, ← hps, List.length_map])
end
end K8
end
section
set_option Elab.async false
set_option linter.all false
set_option maxRecDepth 100000
set_option maxHeartbeats 1000000
set_option autoImplicit false
namespace K8
open PySem L2
open Evl (Ex)
theorem run_EI {X : Cx} {es : List Expr} {Γ : Ctx} {Ps : List VI} {H0 H1 H : Hp} {σ : St} {Q : List V → Hp → Prop} (f : Fit H0 H1 Γ σ H) (h : EI X es Γ Ps) (q : ∀ vs H2, Ex H H2 → Oks Ps H2 vs → Q vs H2) : wA X es σ H Q := h H0 H1 σ H f Q q
section
variable {P : Program} {w : World} {K : PySem.W.Frag} {mg : Str → Option Value} {base : Heap}
/-- what the text has of the promises' methods -/
structure Tm (P : Program) (K : PySem.W.Frag) (mg : Str → Option Value) : Prop where
  d_Promise : Dm K "Promise" "__init__" "Promise.__init__" st_Promise_init []
  k_Promise : L2.Mk K (He.ga K "Promise") (He.ma K (He.ga K "Promise") "__init__")
  s_Mix : Sup P K "Mix" "Mix.__init__" st_Mix_init
  s_BestMix : Sup P K "BestMix" "BestMix.__init__" st_BestMix_init
  g_Mix : mg "Mix" = some (.ref (He.ga K "Mix"))
  g_BestMix : mg "BestMix" = some (.ref (He.ga K "BestMix"))
/-- a new thing of an own class -/
theorem ev_make {X : Cx} {Γ : Ctx} {pos p : Pos} {e : Expr} {es : List Expr} {ι : Type} {pre : ι → Prop} {args : ι → List VP} {C f : Addr} {fs : ι → List (Str × VI)} {k : Nat} {fd : FuncData} {ps : List Str} {x : Str} {Ps : List VP} (M : L2.Mk X.K C f) (F : FnOk X.prog X.w X.K X.mg X.base CX0 k f fd ps (spM pre args C fs)) (hb : Binds X.K fd ps []) (hm : X.mg x = some (.ref C)) (hr : Room (k + 1) X.A) (i : ι) (hp : pre i) (ha : EA X (e :: es) Γ Ps) (hA : Ps = args i := by rfl) (hg : Gl X x := by rfl)
    (hdb : (x == ("__debug__" : Str)) = false := by decide) (he : starEach (e :: es) X.env = (false, eval e X.env) :: starEach es X.env := by rfl) (hpl : (backTo pos (starEach es X.env)).any (·.1) = false := by rfl) : EV X (.Call (.Name x p) (e :: es) [] pos) Γ (VI.ob C (fs i)).p := fun H0 H1 σ H ft Q q =>
  wE_of (pe_make M F hr hg hm hb .nil pass0 pa_w hdb he hpl) (ha H0 H1 σ H ft _ fun vs H2 e2 r2 => fun y dy n1 n2 ne => by
    have b1 : upd H2 dy (.own y) y = none := by rw [upd_ne (Ne.symm ne)]; exact n1
    refine ⟨i, y, dy, H2, vs, hp, by rw [List.append_nil], by rw [← hA]; exact r2, (Evl.Ex.new n2).trans (Evl.Ex.new b1), n1, upd_same, fun H' dx' gs' e' h' ful fk => ⟨rfl, q _ H' (e2.trans e') ⟨y, dx', gs', rfl, h', ful, fk⟩⟩⟩)
variable (T : Tx K mg) (O : To K mg) (M : Tm P K mg)
include T O M
theorem ok_Mix_init : ∃ fd, FnOk P w K mg base CX0 8 (He.ma K (He.ga K "Mix") "__init__") fd ["self", "shares"] (spM (fun ss : List Rat => 1 ≤ ss.length ∧ ss.length ≤ 5 ∧ (∀ r ∈ ss, Sz 4000 r ∧ 0 ≤ r.num) ∧ rsum ss = 1) (fun ss => [(VI.tup (nums ss)).p]) (He.ga K "Mix") mixF) ∧ Binds K fd ["self", "shares"] [] := by
  obtain ⟨fd2, F2, B2⟩ := ok_Promise_init (P := P) (w := w) (base := base) T O M.d_Promise
  refine fn_sup M.s_Mix sc_Mix_init (fun vs H Q E h => ?_) fun cda cc A outer s H vs Q E s1 hr h I hx => ?_
  · obtain ⟨i, x, dx, H1, ws, _, rfl, ok, _⟩ := h
    rw [List.length_cons, ← Pks.len ok]
    rfl
  · obtain ⟨ss, x, dx, H1, ws, hp, rfl, ok, e1, nx, hx0, q⟩ := h
    obtain ⟨oc, od, dV, kV, doc, pm, an, ct, osl, ccl, cl, cdd, cld, arr, ccs, csl, file, tf, cdD, of2, lk, lcd, hvs, hfile, lcc, hC, lf2, cf2⟩ := hx
    have f : Fit H1 H1 (ctxS nm_Mix_init [.e (VI.tup (nums ss)).p]) (L2.start nm_Mix_init (.ref x :: ws)) H := by
      refine fitS e1 ?_ (fun T hT Ps e => ?_)
      · cases ok with
        | cons r1 t =>
          cases t
          exact .cons r1 .nil
      · subst e
        simp at hT
    have a : FO 0 (ctxS nm_Mix_init [.e (VI.tup (nums ss)).p]) x (He.ga K "Mix") [] false false 0 H1 H1 (L2.start nm_Mix_init (.ref x :: ws)) H := ⟨f, rfl, rfl, nx, dx, [], hx0, Nat.le_refl _, FOk.nil, rfl, rfl⟩
    refine at_step (nx := fun σ' H' => FO 0 (ctxS nm_Mix_init [.e (VI.tup (nums ss)).p]) x (He.ga K "Mix") [("shares", VI.tup (nums ss))] false false 1 H1 H1 σ' H') rfl ps_w I (s_attr (P := VI.tup (nums ss)) O.p_Mix (.inl rfl) (ev_call (ok_need_shares T O) hr ss hp (ea_cons (vE 1) ea_nil)) (a := a) (hD := fun H' a' => a')) fun σ' H' s' I' a' => ?_
    refine ks_wpAt_execs_cons (ks_wpAt_mono (sup_last (sp := spI K) (E2 := E0) (Qn := fun H3 => Q .non H3) lk lcd hvs hfile lcc hC M.s_Mix.sub M.s_Mix.opq M.s_Mix.along lf2 cf2 M.s_Mix.fi M.s_Mix.top rfl rfl rfl rfl rfl rfl T.bl.super F2 B2 (hr.mono (by decide)) I' a'.s (by obtain ⟨dx', gs', z, _⟩ := a'.at_; exact ⟨dx', gs', z⟩) ?_ rfl rfl rfl rfl) (fun fl s2 hq => ?_) fun _ _ z => z)
    · refine run_EI a'.view (ei_cons e_str (ei_cons (P := VI.any) (EV.any (e_pfld (vF 0) O.p_Mix rfl)) (ei_cons (e_tup ei_nil) (ei_cons ((e_lenT T.bl (e_pfld (P := VI.tup (nums ss)) (vF 0) O.p_Mix rfl)).to (by rw [List.length_map])) ei_nil)))) fun vs2 H2 e2 r2 => ?_
      have a2 := a'.mono e2
      obtain ⟨dx2, gs2, b1, b2, b3, b4, b5⟩ := a2.at_
      refine ⟨"mix", [], ss.length, x, dx2, _, gs2, _, H1, vs2, by decide, O.p_Mix, rfl, r2, a2.f.b.trans a2.f.ex, nx, b1, Nat.le_trans b2 (by decide), b3, b4, b5, fun H3 dx3 gs3 e3 h3 fk l1 l2 _ => q H3 dx3 gs3 e3 h3 (full_of fk rfl l1 ?_) ?_⟩
      · rw [l2]
        decide
      · refine FOk.cons (fk _ _ rfl) (FOk.cons (fk _ _ rfl) (FOk.cons (fk _ _ rfl) (FOk.cons (fk _ _ rfl) (FOk.cons ?_ (FOk.cons (fk _ _ rfl) FOk.nil)))))
        obtain ⟨v, z1, z2⟩ := fk "levels" _ rfl
        rw [if_pos rfl] at z2
        exact ⟨v, z1, z2⟩
    · obtain ⟨rfl, H3, I3, q3⟩ := hq
      exact wpAt_of_wpAny (wpAny_pure ⟨rfl, _, H3, I3, q3⟩)
theorem ev_mix {X : Cx} {Γ : Ctx} {pos p : Pos} {e : Expr} (hX : X.prog = P ∧ X.K = K ∧ X.mg = mg) (hr : Room 9 X.A) (ss : List Rat) (h0 : 1 ≤ ss.length ∧ ss.length ≤ 5 ∧ (∀ r ∈ ss, Sz 4000 r ∧ 0 ≤ r.num) ∧ rsum ss = 1) (ha : EV X e Γ (VI.tup (nums ss)).p) (hg : Gl X "Mix" := by rfl)
    (he : starEach [e] X.env = (false, eval e X.env) :: starEach [] X.env := by rfl) (hpl : (backTo pos (starEach [] X.env)).any (·.1) = false := by rfl) : EV X (.Call (.Name "Mix" p) [e] [] pos) Γ (mixI K ss).p := by
  obtain ⟨rfl, rfl, rfl⟩ := hX
  obtain ⟨fd, F, B⟩ := ok_Mix_init (w := X.w) (base := X.base) T O M
  exact ev_make M.s_Mix.mkr F B M.g_Mix hr ss h0 (ea_cons ha ea_nil he) (he := he) (hpl := hpl) (hg := hg)
end
end K8
end
section
set_option Elab.async false
set_option linter.all false
set_option maxRecDepth 100000
set_option maxHeartbeats 1000000
set_option autoImplicit false
namespace K8
open PySem L2
open Evl (Ex)
section
variable {X : Cx} {Γ : Ctx} {j : Nat} {x C : Addr} {fs : List (Str × VI)} {lv pt : Bool} {n : Nat} {H0 H1 H : Hp} {σ : St} {pos : Pos} {e c : Expr}
theorem s_drop {P : VP} {D : Ends} (h : EV X e (Γ.set j (.f (pob C fs))) P) (a : FO j Γ x C fs lv pt n H0 H1 σ H) (hD : ∀ H', FO j Γ x C fs lv pt n H0 H1 σ H' → D.nx σ H') (hs : swapsWith e none pos.line X.env = pure false := by rfl) : wS X (.Expr e pos) D σ H :=
  wS_of (ps_expr pe_w hs) (h _ _ σ H a.view _ fun v H2 e2 _ => hD H2 (a.mono e2))
theorem s_not {A : List Stmt} {D : Ends} (h : ET X c (Γ.set j (.f (pob C fs))) false) (a : FO j Γ x C fs lv pt n H0 H1 σ H) (hD : ∀ H', FO j Γ x C fs lv pt n H0 H1 σ H' → D.nx σ H') : wS X (.If c A [] pos) D σ H :=
  wS_of (ps_if pt_w pss_w pss_nil) (h _ _ σ H a.view _ fun H2 e2 => by
    rw [if_neg Bool.false_ne_true]
    exact hD H2 (a.mono e2))
/-- x = C(..), the object in slot j -/
theorem s_new (j : Nat) {y cx : Str} {p pc pq : Pos} {es : List Expr} {C f : Addr} {fd : FuncData} {k : Nat} {D : Ends} {kd : Str} {ps : List (List Rat)} {g : Nat} (hC : PCls X.K C) (M : L2.Mk X.K C f) (F : FnOk X.prog X.w X.K X.mg X.base CX0 k f fd ["self", "kind", "told", "inner", "goods"] (spI X.K)) (hb : Binds X.K fd ["self", "kind", "told", "inner", "goods"] []) (hm : X.mg cx = some (.ref C)) (hr : Room (k + 1) X.A) (hN : X.N.Nodup) (hps : ps.length ≤ 10)
    (ha : EI X (e :: es) Γ [VI.str kd, VI.any, VI.tup (ps.map (mixI X.K)), VI.int (g : Int)]) (f0 : Fit H0 H1 Γ σ H) (hl : j < Γ.length) (hD : ∀ a H', FO j (Γ.set j .u) a C (initF X.K kd ps g) true false 40 H0 H1 (σ.set j (some (.ref a))) H' → D.nx (σ.set j (some (.ref a))) H') (hi : X.N[j]? = some y := by rfl) (hx : Loc X.env.scope y := by first | exact Or.inl rfl | exact Or.inr rfl) (hf : X.fn y = true ∨ X.env.scope.names.lookup y = some .local := by first | exact .inl rfl | exact .inr rfl) (hg : Gl X cx := by rfl)
    (hdb : (cx == ("__debug__" : Str)) = false := by decide) (he : starEach (e :: es) X.env = (false, eval e X.env) :: starEach es X.env := by rfl) (hpl : (backTo pq (starEach es X.env)).any (·.1) = false := by rfl) (hs : swapsWith (.Call (.Name cx pc) (e :: es) [] pq) (some (.Name y p)) pos.line X.env = pure false := by rfl) : wS X (.Assign [.Name y p] (.Call (.Name cx pc) (e :: es) [] pq) pos) D σ H :=
  wS_of (ps_set hN hi hx (pe_make M F hr hg hm hb .nil pass0 pa_w hdb he hpl) hs hf) (run_EI f0 ha fun vs H2 e2 r2 => fun a dy n1 n2 ne => by
    have b1 : upd H2 dy (.own a) a = none := by rw [upd_ne (Ne.symm ne)]; exact n1
    have e3 : Ex H2 (upd (upd H2 dy (.own a)) a (.ins C dy [])) := (Evl.Ex.new n2).trans (Evl.Ex.new b1)
    refine ⟨kd, ps, g, a, dy, C, [], [], H2, vs, hps, hC, by rw [List.append_nil], r2.mono (.of e3), e3, n1, upd_same, by decide, FOk.nil, rfl, rfl, fun H' dx' gs' e' h' fk l1 l2 l3 => ⟨rfl, hD a H' ⟨?_, ?_, ?_, ?_, dx', gs', h', l3, ?_, l1, l2⟩⟩⟩
    · exact (f0.mono (e2.trans e')).set j trivial fun _ z => nomatch z
    · rw [List.getElem?_set_self hl]
    · rw [List.getElem?_set_self (by rw [f0.len]; exact hl)]
    · exact Evl.fresh_back (f0.ex.trans e2) n1
    · rw [List.append_nil] at fk
      exact fk)
end
section
variable {P : Program} {w : World} {K : PySem.W.Frag} {mg : Str → Option Value} {base : Heap}
variable (T : Tx K mg) (O : To K mg) (M : Tm P K mg)
include T O M
theorem ok_BestMix_init : ∃ fd, FnOk P w K mg base CX0 8 (He.ma K (He.ga K "BestMix") "__init__") fd ["self", "goods", "counts"] (spM (fun cs : List Nat => Cs cs ∧ 1 ≤ cs.length) (fun cs => [ei (cs.length : Int), .lst (natz cs)]) (He.ga K "BestMix") bestF) ∧ Binds K fd ["self", "goods", "counts"] [] := by
  obtain ⟨fd2, F2, B2⟩ := ok_Promise_init (P := P) (w := w) (base := base) T O M.d_Promise
  refine fn_sup M.s_BestMix sc_BestMix_init (fun vs H Q E h => ?_) fun cda cc A outer s H vs Q E s1 hr h I hx => ?_
  · obtain ⟨i, x, dx, H1, ws, _, rfl, ok, _⟩ := h
    rw [List.length_cons, ← Pks.len ok]
    rfl
  · obtain ⟨cs, x, dx, H1, ws, ⟨hp, hp1⟩, rfl, ok, e1, nx, hx0, q⟩ := h
    have hp : Cs cs := hp
    have h5 := hp.1
    obtain ⟨oc, od, dV, kV, doc, pm, an, ct, osl, ccl, cl, cdd, cld, arr, ccs, csl, file, tf, cdD, of2, lk, lcd, hvs, hfile, lcc, hC, lf2, cf2⟩ := hx
    have f : Fit H1 H1 (ctxS nm_BestMix_init [.e (ei (cs.length : Int)), .e (.lst (natz cs))]) (L2.start nm_BestMix_init (.ref x :: ws)) H := by
      refine fitS e1 ?_ (fun T hT Ps e => ?_)
      · cases ok with
        | cons r1 t =>
          cases t with
          | cons r2 t =>
            cases t
            exact .cons r1 (.cons r2 .nil)
      · subst e
        simp at hT
    have a : FO 0 (ctxS nm_BestMix_init [.e (ei (cs.length : Int)), .e (.lst (natz cs))]) x (He.ga K "BestMix") [] false false 0 H1 H1 (L2.start nm_BestMix_init (.ref x :: ws)) H := ⟨f, rfl, rfl, nx, dx, [], hx0, Nat.le_refl _, FOk.nil, rfl, rfl⟩
    refine at_step (nx := fun σ' H' => FO 0 (ctxS nm_BestMix_init [.e (ei (cs.length : Int)), .e (.lst (natz cs))]) x (He.ga K "BestMix") [] false false 0 H1 H1 σ' H') rfl ps_w I (s_drop (ev_call (ok_need_goods T) (hr.mono (by decide)) (cs.length : Int) (by show 1 ≤ (cs.length : Int) ∧ (cs.length : Int) ≤ 5; omega) (ea_cons (vE 1) ea_nil)) a (fun H' a' => a')) fun σ1 Ha sa Ia aa => ?_
    refine at_step (nx := fun σ' H' => FO 0 (ctxS nm_BestMix_init [.e (ei (cs.length : Int)), .e (.lst (natz cs))]) x (He.ga K "BestMix") [] false false 0 H1 H1 σ' H') rfl ps_w Ia (s_not (t_or3 (k := false) (l := false) (r := false) (t_not (k := true) (t_val (ev_call (ok_is_list T) (hr.mono (by decide)) (.l (natz cs)) trivial (ea_cons (vE 2) ea_nil)))) (fun _ => (t_neI (e_lenL T.bl (vE 2)) (vE 1)).to (by rw [List.length_map]; simp)) fun _ _ => (t_not (t_val (e_all T.bl (ns := cs.map fun c : Nat => decide (c ≤ 1000)) rfl (EF.v ((ef_lc (own := [("each", 3)]) (xs := cs) (F := fun c : Nat => VI.int (c : Int)) (G := fun c : Nat => VI.bl (decide (c ≤ 1000))) (Γe := fun c => [.f (pob (He.ga K "BestMix") []), .e (ei (cs.length : Int)), .e (.lst (natz cs)), .i (VI.int (c : Int))]) rfl sc_BestMix_init.nd (blkOk_by (N := nm_BestMix_init) (sc := defScope st_BestMix_init) (by decide +kernel))
      (it_list (lE 2) rfl) (by omega) (fun s h C cl fp z hz => tg_name 3 sc_BestMix_init.nd) (fun s h C cl fp z hz => (ev_call (ok_is_within T) (hr.mono (by decide)) ((z : Int), 0, some 1000) trivial (ea_cons (vI 3) (ea_cons e_int (ea_cons (e_gInt T.c_MOST_COUNT_promises) ea_nil)))).to (by
        show eb (decide ((0 : Int) ≤ (z : Int)) && decide ((z : Int) ≤ 1000)) = eb (decide (z ≤ 1000))
        rw [decide_eq_true (show (0 : Int) ≤ (z : Int) by omega), Bool.true_and]
        exact congrArg eb (decide_eq_decide.mpr (by omega))))).to (by rw [List.map_map]; rfl)))))).to (by
        rw [List.all_map, show (List.all cs (id ∘ fun c : Nat => decide (c ≤ 1000))) = true from List.all_eq_true.mpr fun c hc => decide_eq_true (by have := hp.2 c hc; omega)]
        rfl)) aa (fun H' a' => a')) fun σ2 Hb sb Ib ab => ?_
    refine at_step (nx := fun σ' H' => FO 0 (ctxS nm_BestMix_init [.e (ei (cs.length : Int)), .e (.lst (natz cs))]) x (He.ga K "BestMix") [("counts", VI.tup (natz cs))] false false 1 H1 H1 σ' H') rfl ps_w Ib (s_attr (P := VI.tup (natz cs)) O.p_BestMix (.inl rfl) (e_tupL T.bl (vE 2)) (a := ab) (hD := fun H' a' => a')) fun σ' H' s' I' a' => ?_
    refine ks_wpAt_execs_cons (ks_wpAt_mono (sup_last (sp := spI K) (E2 := E0) (Qn := fun H3 => Q .non H3) lk lcd hvs hfile lcc hC M.s_BestMix.sub M.s_BestMix.opq M.s_BestMix.along lf2 cf2 M.s_BestMix.fi M.s_BestMix.top rfl rfl rfl rfl rfl rfl T.bl.super F2 B2 (hr.mono (by decide)) I' a'.s (by obtain ⟨dx', gs', z, _⟩ := a'.at_; exact ⟨dx', gs', z⟩) ?_ rfl rfl rfl rfl) (fun fl s2 hq => ?_) fun _ _ z => z)
    · refine run_EI a'.view (ei_cons e_str (ei_cons (P := VI.any) (EV.any (e_pfld (vF 0) O.p_BestMix rfl)) (ei_cons (e_tup ei_nil) (ei_cons (P := VI.int (cs.length : Int)) (vE 1) ei_nil)))) fun vs2 H2 e2 r2 => ?_
      have a2 := a'.mono e2
      obtain ⟨dx2, gs2, b1, b2, b3, b4, b5⟩ := a2.at_
      refine ⟨"best", [], cs.length, x, dx2, _, gs2, _, H1, vs2, by decide, O.p_BestMix, rfl, r2, a2.f.b.trans a2.f.ex, nx, b1, Nat.le_trans b2 (by decide), b3, b4, b5, fun H3 dx3 gs3 e3 h3 fk l1 l2 _ => q H3 dx3 gs3 e3 h3 (full_of fk rfl l1 ?_) ?_⟩
      · rw [l2]
        decide
      · exact FOk.cons (fk _ _ rfl) (FOk.cons (fk _ _ rfl) (FOk.cons (fk _ _ rfl) (FOk.cons (fk _ _ rfl) FOk.nil)))
    · obtain ⟨rfl, H3, I3, q3⟩ := hq
      exact wpAt_of_wpAny (wpAny_pure ⟨rfl, _, H3, I3, q3⟩)
theorem ok_times_in : Fq P w K mg base "times_in" 3 ["number", "part"] [] (spV (fun _ : Rat × List Rat => True) (fun z => [(VI.num z.1).p, (mixI K z.2).p]) (fun z => VI.pr K (.times z.1 z.2))) :=
  fq_V T.x_times_in sc_times_in (fun _ _ _ _ _ _ us hl => match us, hl with | [_, _], _ => rfl) (fun _ => rfl) fun cdv A outer s H E hr ⟨r, ss⟩ _ => by
    obtain ⟨fd2, F2, B2⟩ := ok_Promise_init (P := P) (w := w) (base := base) T O M.d_Promise
    intro H0 H1 σ H f D hn hrt
    refine wSs_of (pss_cons ps_w pss_w) (s_new 2 (kd := "times") (ps := [ss]) (g := ss.length) O.p_Promise M.k_Promise F2 B2 O.g_Promise hr sc_times_in.nd (Nat.le_of_ble_eq_true rfl) (ei_cons e_str (ei_cons (P := VI.any) (EV.any (e_tup (ei_cons (vE (P := (VI.num r).p) 0) ei_nil))) (ei_cons (e_tup (ei_cons (vE (P := (mixI K ss).p) 1) ei_nil)) (ei_cons (e_fld (vE (P := (mixI K ss).p) 1) O.p_Mix rfl) ei_nil)))) f (Nat.le_of_ble_eq_true rfl) fun a H2 a2 => ?_)
    refine wSs_of (pss_cons ps_w pss_w) (s_attr2 (P1 := VI.num r) (P2 := mixI K ss) rfl O.p_Promise (.inr ⟨rfl, rfl⟩) (vE 0) (vE 1) (.inr ⟨rfl, rfl⟩) (a := a2) (hD := fun H3 a3 => ?_))
    obtain ⟨dx3, gs3, b1, b2, b3, b4, b5⟩ := a3.at_
    refine wSs_of (pss_one (ps_ret (pe_var rfl (.inl rfl) (by decide) (by decide)))) ⟨_, a3.s, hrt _ H3 (a3.f.b.trans a3.f.ex) ?_⟩
    refine ⟨a, dx3, gs3, rfl, b1, full_of b3 rfl b4 (by rw [b5]; decide), ?_⟩
    exact FOk.cons (b3 _ _ rfl) (FOk.cons (b3 _ _ rfl) (FOk.cons (b3 _ _ rfl) (FOk.cons (b3 _ _ rfl) (FOk.cons (b3 _ _ rfl) FOk.nil))))
end
end K8
end
section
set_option Elab.async false
set_option linter.all false
set_option maxRecDepth 100000
set_option maxHeartbeats 1000000
set_option autoImplicit false
namespace K8
open PySem L2
open Evl (Ex)
/-! Worths, prices and rests of promises. -/
theorem light_get {m : Nat} {g i : Nat} (h : i < m) : (light m g).getD i 0 = if i = g then 1 else 0 := by
  simp [light, h]
theorem atI_nat {cs : List Nat} {i : Nat} (h : i < cs.length) : atI (natz cs) (i : Int) = some (VI.int ((cs.getD i 0 : Nat) : Int)) := by
  unfold atI ixN
  rw [List.length_map, if_pos (by omega), if_pos (by omega)]
  simp [h]
/-- counts behind a word, as worth_in has them -/
def atW (cs : List Nat) (m : Nat) (wd : List Nat) : List Nat := ((List.range cs.length).zip cs).map fun z => z.2 + (wd.map fun g => (light m g).getD z.1 0).sum
def addL (a b : List Nat) : List Nat := List.zipWith (fun x y => x + y) a b
/-- the price by counts -/
def priceC (cs known : List Nat) (d : Nat) : Rat := rsum ((coa (cs.length - 1) d).map fun c => ((ways c).1 : Rat) * wt (addL (addL c known) cs))
theorem addL_len (a b : List Nat) : (addL a b).length = min a.length b.length := by simp [addL]
theorem addL_le {a b : List Nat} {x y : Nat} (ha : ∀ c ∈ a, c ≤ x) (hb : ∀ c ∈ b, c ≤ y) : ∀ c ∈ addL a b, c ≤ x + y := fun c hc => by
  unfold addL at hc
  rw [← zip_map_fst] at hc
  obtain ⟨z, hz, rfl⟩ := List.mem_map.mp hc
  have h1 := ha _ (List.of_mem_zip hz).1
  have h2 := hb _ (List.of_mem_zip hz).2
  omega
/-- what the law asks of counts and of those known -/
structure Kn (cs known : List Nat) (d : Nat) : Prop where
  l1 : 1 ≤ cs.length
  l5 : cs.length ≤ 5
  lk : known.length = cs.length
  d4 : d ≤ 4
  le : ∀ i, cs.getD i 0 + known.getD i 0 + d ≤ 10
theorem natz_addL (a b : List Nat) : (a.zip b).map (fun z => VI.int ((z.1 : Int) + (z.2 : Int))) = natz (addL a b) := by
  rw [addL, natz, ← zip_map_fst, List.map_map]
  apply List.map_congr_left
  intro z _
  show VI.int _ = VI.int _
  congr 1
section
variable {P : Program} {w : World} {K : PySem.W.Frag} {mg : Str → Option Value} {base : Heap}
variable (T : Tx K mg) (O : To K mg) (M : Tm P K mg)
include T O M
theorem ok_worth_in_mix : Fq P w K mg base "worth_in" 7 ["promise", "market"] [] (spV (fun z : List Rat × List (List Rat) => Row 40 z.1 ∧ z.2.length ≤ 5 ∧ ∀ rs ∈ z.2, Row 40 rs ∧ rs.length = z.1.length) (fun z => [(mixI K z.1).p, (VI.tup (rows z.2)).p]) (fun z => VI.num (rprod (z.2.map fun rs => dot z.1 rs)))) :=
  fq_V T.x_worth_in sc_worth_in (fun _ _ _ _ _ _ us hl => match us, hl with | [_, _], _ => rfl) (fun _ => rfl) fun cdv A outer s H E hr ⟨ss, mk⟩ h => by
    refine g_cons (g_set 2 sc_worth_in.nd (P := VI.str "mix") (e_fld (vE (P := (mixI K ss).p) 0) O.p_Mix rfl)) ?_
    refine g_ifR (k := false) (t_eq (x := .str "mix") (y := .str "hold") (vI 2) e_str (by decide +kernel)) (fun h => nomatch h) fun _ => ?_
    exact g_ifR (k := true) (t_eq (x := .str "mix") (y := .str "mix") (vI 2) e_str (by decide +kernel)) (fun _ => g_one (g_ret (ev_call (ok_run_in T) hr (ss, mk) h (ea_cons (e_fld (vE (P := (mixI K ss).p) 0) O.p_Mix rfl) (ea_cons (vE 1) ea_nil))))) fun h => nomatch h
theorem ok_worth_in_times : Fq P w K mg base "worth_in" 8 ["promise", "market"] [] (spV (fun z : Rat × List Rat × List (List Rat) => Sz 4000 z.1 ∧ Sz 4000 (rprod (z.2.2.map fun rs => dot z.2.1 rs)) ∧ Row 40 z.2.1 ∧ z.2.2.length ≤ 5 ∧ ∀ rs ∈ z.2.2, Row 40 rs ∧ rs.length = z.2.1.length) (fun z => [(VI.pr K (.times z.1 z.2.1)).p, (VI.tup (rows z.2.2)).p]) (fun z => VI.num (z.1 * rprod (z.2.2.map fun rs => dot z.2.1 rs)))) :=
  fq_V T.x_worth_in sc_worth_in (fun _ _ _ _ _ _ us hl => match us, hl with | [_, _], _ => rfl) (fun _ => rfl) fun cdv A outer s H E hr ⟨r, ss, mk⟩ ⟨h1, h2, h3⟩ => by
    have vp : ∀ {X : Cx} {Γ : Ctx} {e : Expr}, EV X e Γ (VI.pr K (.times r ss)).p → EV X e Γ (VI.ob (He.ga K "Promise") (timesF K r ss)).p := fun h => h
    refine g_cons (g_set 2 sc_worth_in.nd (P := VI.str "times") (e_fld (vp (vE 0)) O.p_Promise rfl)) ?_
    refine g_ifR (k := false) (t_eq (x := .str "times") (y := .str "hold") (vI 2) e_str (by decide +kernel)) (fun h => nomatch h) fun _ => ?_
    refine g_ifR (k := false) (t_eq (x := .str "times") (y := .str "mix") (vI 2) e_str (by decide +kernel)) (fun h => nomatch h) fun _ => ?_
    exact g_ifR (k := true) (t_eq (x := .str "times") (y := .str "times") (vI 2) e_str (by decide +kernel)) (fun _ => g_one (g_ret (ev_call (ok_product T) (hr.mono (by decide)) (r, rprod (mk.map fun rs => dot ss rs)) ⟨h1, h2⟩ (ea_cons (e_fld (vp (vE 0)) O.p_Promise rfl) (ea_cons (ev_call (ok_worth_in_mix T O M) hr (ss, mk) h3 (ea_cons (e_fld (vp (vE 0)) O.p_Promise rfl) (ea_cons (vE 1) ea_nil))) ea_nil))))) fun h => nomatch h
theorem ok_worth_in_best : Fq P w K mg base "worth_in" 7 ["promise", "market"] [] (spV (fun z : List Nat × Nat × List Nat => z.1.length ≤ z.2.1 ∧ z.1.length ≤ 5 ∧ z.2.2.length ≤ 1000 ∧ Cs (atW z.1 z.2.1 z.2.2)) (fun z => [(VI.pr K (.best z.1)).p, (VI.tup (z.2.2.map fun g => VI.tup (natz (light z.2.1 g)))).p]) (fun z => VI.num (wt (atW z.1 z.2.1 z.2.2)))) :=
  fq_V T.x_worth_in sc_worth_in (fun _ _ _ _ _ _ us hl => match us, hl with | [_, _], _ => rfl) (fun _ => rfl) fun cdv A outer s H E hr ⟨cs, m, wd⟩ ⟨h1, h2, h3, h4⟩ => by
    have h1 : cs.length ≤ m := h1
    have h2 : cs.length ≤ 5 := h2
    have h3 : wd.length ≤ 1000 := h3
    have vp : ∀ {X : Cx} {Γ : Ctx} {e : Expr}, EV X e Γ (VI.pr K (.best cs)).p → EV X e Γ (VI.ob (He.ga K "BestMix") (bestF cs)).p := fun h => h
    refine g_cons (g_set 2 sc_worth_in.nd (P := VI.str "best") (e_fld (vp (vE 0)) O.p_BestMix rfl)) ?_
    refine g_ifR (k := false) (t_eq (x := .str "best") (y := .str "hold") (vI 2) e_str (by decide +kernel)) (fun h => nomatch h) fun _ => ?_
    refine g_ifR (k := false) (t_eq (x := .str "best") (y := .str "mix") (vI 2) e_str (by decide +kernel)) (fun h => nomatch h) fun _ => ?_
    refine g_ifR (k := false) (t_eq (x := .str "best") (y := .str "times") (vI 2) e_str (by decide +kernel)) (fun h => nomatch h) fun _ => ?_
    refine g_ifR (k := false) (t_eq (x := .str "best") (y := .str "then") (vI 2) e_str (by decide +kernel)) (fun h => nomatch h) fun _ => ?_
    refine g_ifR (k := false) (t_eq (x := .str "best") (y := .str "walk") (vI 2) e_str (by decide +kernel)) (fun h => nomatch h) fun _ => ?_
    refine g_ifR (k := true) (t_eq (x := .str "best") (y := .str "best") (vI 2) e_str (by decide +kernel)) (fun _ => g_one (g_ret (ev_call (ok_best_at T) (hr.mono (by decide)) (atW cs m wd) h4 (ea_cons (EF.v ((ef_lc (own := [("good", 7), ("count", 8)]) (xs := (List.range cs.length).zip cs) (F := fun z => VI.tup [VI.int (z.1 : Nat), VI.int ((z.2 : Nat) : Int)]) (G := fun z => VI.int ((z.2 + (wd.map fun g => (light m g).getD z.1 0).sum : Nat) : Int)) (Γe := fun z => [.e (VI.pr K (.best cs)).p, .e (VI.tup (wd.map fun g => VI.tup (natz (light m g)))).p, .i (VI.str "best"), .u, .u, .u, .u, .i (VI.int (z.1 : Nat)), .i (VI.int ((z.2 : Nat) : Int)), .u]) rfl sc_worth_in.nd (blkOk_by (N := nm_worth_in) (sc := defScope st_worth_in) (by decide +kernel))
      (it_enumT T.bl (F := fun c : Nat => VI.int (c : Int)) (e_fld (vp (vE 0)) O.p_BestMix rfl) rfl) (by rw [List.length_zip, List.length_range]; omega) (fun s h C cl fp z hz => tg_tup rfl (tgs_cons (tg_name 7 sc_worth_in.nd) (tgs_cons (tg_name 8 sc_worth_in.nd) tgs_nil))) (fun s h C cl fp z hz => ?_)).to (Ps' := natz (atW cs m wd)) (by rw [natz, atW, List.map_map]; rfl))) ea_nil)))) fun h => nomatch h
    have hz1 : z.1 < m := by
      have := (List.of_mem_zip hz).1
      rw [List.mem_range] at this
      omega
    refine (e_add (vI 8) (e_sumLn T.bl (cs := wd.map fun g => (light m g).getD z.1 0) rfl (EF.v ((ef_lc (own := [("day", 6)]) (xs := wd) (F := fun g => VI.tup (natz (light m g))) (G := fun g => VI.int (((light m g).getD z.1 0 : Nat) : Int)) (Γe := fun g => [.e (VI.pr K (.best cs)).p, .e (VI.tup (wd.map fun g => VI.tup (natz (light m g)))).p, .i (VI.str "best"), .u, .u, .u, .i (VI.tup (natz (light m g))), .i (VI.int (z.1 : Nat)), .i (VI.int ((z.2 : Nat) : Int)), .u]) rfl sc_worth_in.nd (blkOk_by (N := nm_worth_in) (sc := relS _ (defScope st_worth_in)) (by decide +kernel))
      (it_tup (vE 1) rfl) (by omega) (fun s h C cl fp g hg => tg_name 6 sc_worth_in.nd) (fun s h C cl fp g hg => e_ixT (vI 6) (vI 7) (atI_nat (by rw [light, List.length_map, List.length_range]; exact hz1)))).to (by rw [natz, List.map_map]; rfl))))).to (congrArg ei (by omega))
theorem ok_worth_at_in : Fq P w K mg base "worth_at_in" 8 ["promise", "word"] [] (spV (fun z : List Nat × List Nat => z.1.length ≤ 5 ∧ z.2.length ≤ 1000 ∧ Cs (atW z.1 z.1.length z.2)) (fun z => [(VI.pr K (.best z.1)).p, (VI.tup (natz z.2)).p]) (fun z => VI.num (wt (atW z.1 z.1.length z.2)))) :=
  fq_V T.x_worth_at_in sc_worth_at_in (fun _ _ _ _ _ _ us hl => match us, hl with | [_, _], _ => rfl) (fun _ => rfl) fun cdv A outer s H E hr ⟨cs, wd⟩ ⟨h2, h3, h4⟩ => by
    have h2 : cs.length ≤ 5 := h2
    have vp : ∀ {X : Cx} {Γ : Ctx} {e : Expr}, EV X e Γ (VI.pr K (.best cs)).p → EV X e Γ (VI.ob (He.ga K "BestMix") (bestF cs)).p := fun h => h
    exact g_one (g_ret (ev_call (ok_worth_in_best T O M) hr (cs, cs.length, wd) ⟨Nat.le_refl _, h2, h3, h4⟩ (ea_cons (vE 0) (ea_cons (ev_call (ok_lightnings_in T) (hr.mono (by decide)) (cs.length, wd) ⟨by show cs.length ≤ 1000; omega, h3⟩ (ea_cons (e_fld (vp (vE 0)) O.p_BestMix rfl) (ea_cons (vE 1) ea_nil))) ea_nil))))
theorem ok_worth_at : Fq P w K mg base "worth_at" 9 ["promise", "word"] [] (spV (fun z : List Nat × List Nat => z.1.length ≤ 5 ∧ z.2.length ≤ 1000 ∧ (∀ g ∈ z.2, g < z.1.length) ∧ Cs (atW z.1 z.1.length z.2)) (fun z => [(VI.pr K (.best z.1)).p, (VI.tup (natz z.2)).p]) (fun z => VI.num (wt (atW z.1 z.1.length z.2)))) :=
  fq_V T.x_worth_at sc_worth_at (fun _ _ _ _ _ _ us hl => match us, hl with | [_, _], _ => rfl) (fun _ => rfl) fun cdv A outer s H E hr ⟨cs, wd⟩ ⟨h2, h3, h4, h5⟩ => by
    have vp : ∀ {X : Cx} {Γ : Ctx} {e : Expr}, EV X e Γ (VI.pr K (.best cs)).p → EV X e Γ (VI.ob (He.ga K "BestMix") (bestF cs)).p := fun h => h
    exact g_cons (g_drop (ev_call (ok_need_promise T O) (hr.mono (by decide)) (.best cs) trivial (ea_cons (vE 0) ea_nil))) (g_one (g_ret (ev_call (ok_worth_at_in T O M) hr (cs, wd) ⟨h2, h3, h5⟩ (ea_cons (vE 0) (ea_cons (ev_call (ok_need_word T) (hr.mono (by decide)) (wd, cs.length) ⟨h3, h4⟩ (ea_cons (vE 1) (ea_cons (e_fld (vp (vE 0)) O.p_BestMix rfl) ea_nil))) ea_nil)))))
theorem ok_worth : Fq P w K mg base "worth" 9 ["promise", "market"] [] (spV (fun z : Rat × List Rat × List (List Rat) => Sz 4000 z.1 ∧ Sz 4000 (rprod (z.2.2.map fun rs => dot z.2.1 rs)) ∧ Row 40 z.2.1 ∧ z.2.2.length ≤ 5 ∧ ∀ rs ∈ z.2.2, Row 40 rs ∧ rs.length = z.2.1.length ∧ ∀ r ∈ rs, 0 ≤ r.num) (fun z => [(VI.pr K (.times z.1 z.2.1)).p, .lst (rows z.2.2)]) (fun z => VI.num (z.1 * rprod (z.2.2.map fun rs => dot z.2.1 rs)))) :=
  fq_V T.x_worth sc_worth (fun _ _ _ _ _ _ us hl => match us, hl with | [_, _], _ => rfl) (fun _ => rfl) fun cdv A outer s H E hr ⟨r, ss, mk⟩ ⟨h1, h2, h3, h4, h5⟩ => by
    have h4 : mk.length ≤ 5 := h4
    have vp : ∀ {X : Cx} {Γ : Ctx} {e : Expr}, EV X e Γ (VI.pr K (.times r ss)).p → EV X e Γ (VI.ob (He.ga K "Promise") (timesF K r ss)).p := fun h => h
    refine g_cons (g_drop (ev_call (ok_need_promise T O) (hr.mono (by decide)) (.times r ss) trivial (ea_cons (vE 0) ea_nil))) ?_
    refine g_cons (g_set 2 sc_worth.nd (ev_call (ok_need_market T) (hr.mono (by decide)) (mk, (ss.length : Int)) ⟨by show mk.length ≤ 1000; omega, fun rs hrs => by have := (h5 rs hrs).1.1; omega, List.all_eq_true.mpr fun rs hrs => ?_⟩ (ea_cons (vE 1) (ea_cons (e_fld (vp (vE 0)) O.p_Promise rfl) ea_nil)))) ?_
    · obtain ⟨a, b, c⟩ := h5 rs hrs
      have b : rs.length = ss.length := b
      show rowB rs (ss.length : Int) = true
      rw [rowB, decide_eq_true (by omega), List.all_eq_true.mpr fun r hr => decide_eq_true (c r hr)]
      rfl
    · refine g_cons (g_drop (ev_call (ok_need_no_best T O) (hr.mono (by decide)) (.times r ss) rfl (ea_cons (vE 0) ea_nil))) ?_
      exact g_one (g_ret (ev_call (ok_worth_in_times T O M) hr (r, ss, mk) ⟨h1, h2, h3, h4, fun rs hrs => ⟨(h5 rs hrs).1, (h5 rs hrs).2.1⟩⟩ (ea_cons (vE 0) (ea_cons (vI 2) ea_nil))))
end
end K8
end
section
set_option Elab.async false
set_option linter.all false
set_option maxRecDepth 100000
set_option maxHeartbeats 1000000
set_option autoImplicit false
namespace K8
open PySem L2
open Evl (Ex)
def namedW (ss : List Rat) (cs : List Nat) : Rat := rprod ((ss.zip cs).map fun z => z.1 ^ z.2)
theorem namedW_szs {ss : List Rat} {cs : List Nat} (h1 : ∀ r ∈ ss, Sz 8 r) (h2 : ∀ c ∈ cs, c ≤ 10) : ∀ r ∈ (ss.zip cs).map fun z => z.1 ^ z.2, Sz 81 r := fun r hr => by
  obtain ⟨z, hz, rfl⟩ := List.mem_map.mp hr
  have hc := h2 _ (List.of_mem_zip hz).2
  exact (Sz.pow (h1 _ (List.of_mem_zip hz).1) (by decide) z.2).mono (by omega)
/-- what a mix must be to be named -/
structure Nm (ss : List Rat) (cs : List Nat) : Prop where
  l1 : 1 ≤ ss.length
  l5 : ss.length ≤ 5
  l : cs.length = ss.length
  sz : ∀ r ∈ ss, Sz 8 r
  nn : ∀ r ∈ ss, 0 ≤ r.num
  one : rsum ss = 1
  c : ∀ c ∈ cs, c ≤ 10
theorem ways_b : ∀ g ∈ List.range 5, ∀ d ∈ List.range 5, ∀ c ∈ coa g d, (ways c).1.natAbs < 2 ^ 16 := by decide +kernel
theorem coa_b : ∀ g ∈ List.range 5, ∀ d ∈ List.range 5, (g + 1) ^ d ≤ 27 → (coa g d).length ≤ 20 := by decide +kernel
theorem few_b : ∀ g ∈ List.range 5, ∀ d ∈ List.range 5, chs ((d + g : Nat) : Int) (List.range g) ≤ 5000 := by decide +kernel
section
variable {P : Program} {w : World} {K : PySem.W.Frag} {mg : Str → Option Value} {base : Heap}
variable (T : Tx K mg) (O : To K mg) (M : Tm P K mg)
include T O M
theorem ok_named_by : Fq P w K mg base "named_by" 10 ["counts", "mix"] [] (spV (fun z : List Nat × List Rat => Nm z.2 z.1) (fun z => [(VI.tup (natz z.1)).p, (VI.tup (nums z.2)).p]) (fun z => VI.pr K (.times (namedW z.2 z.1) z.2))) :=
  fq_V T.x_named_by sc_named_by (fun _ _ _ _ _ _ us hl => match us, hl with | [_, _], _ => rfl) (fun _ => rfl) fun cdv A outer s H E hr ⟨cs, ss⟩ h => by
    have h : Nm ss cs := h
    have h5 := h.l5
    refine g_one (g_ret (ev_call (ok_times_in T O M) (hr.mono (by decide)) (namedW ss cs, ss) trivial (ea_cons (ev_call (ok_multiplied T) (hr.mono (by decide)) ((ss.zip cs).map fun z => z.1 ^ z.2) (szp_of (namedW_szs h.sz h.c) (by rw [List.length_map, List.length_zip]; omega) (by decide)) (ea_cons (EF.v ((ef_lc (own := [("share", 2), ("count", 3)]) (xs := ss.zip cs) (F := fun z => VI.tup [VI.num z.1, VI.int ((z.2 : Nat) : Int)]) (G := fun z => VI.num (z.1 ^ z.2)) (Γe := fun z => [.e (VI.tup (natz cs)).p, .e (VI.tup (nums ss)).p, .i (VI.num z.1), .i (VI.int ((z.2 : Nat) : Int))]) rfl sc_named_by.nd (blkOk_by (N := nm_named_by) (sc := defScope st_named_by) (by decide +kernel))
      (it_zipT T.bl (F := VI.num) (G := fun c : Nat => VI.int (c : Int)) (vE 1) (vE 0) rfl rfl h.l.symm) (by rw [List.length_zip]; omega) (fun s h C cl fp z hz => tg_tup rfl (tgs_cons (tg_name 2 sc_named_by.nd) (tgs_cons (tg_name 3 sc_named_by.nd) tgs_nil))) (fun s' h' C cl fp z hz => ev_call (ok_power_in T) (hr.mono (by decide)) (z.1, z.2, 8) ⟨h.sz _ (List.of_mem_zip hz).1, by show 8 * z.2 ≤ 8000; have := h.c _ (List.of_mem_zip hz).2; omega⟩ (ea_cons (vI 2) (ea_cons (vI 3) ea_nil)))).to (Ps' := nums ((ss.zip cs).map fun z => z.1 ^ z.2)) (by rw [nums, List.map_map]; rfl))) ea_nil)) (ea_cons (ev_mix T O M ⟨rfl, rfl, rfl⟩ hr ss ⟨h.l1, h.l5, fun r hr => ⟨(h.sz r hr).mono (by decide), h.nn r hr⟩, h.one⟩ (vE 1)) ea_nil))))
theorem ok_named_in : Fq P w K mg base "named_in" 11 ["promise", "mixes"] [] (spV (fun z : List Nat × List Rat => Nm z.2 z.1) (fun z => [(VI.pr K (.best z.1)).p, .lst [VI.tup (nums z.2)]]) (fun z => VI.tup [VI.pr K (.times (namedW z.2 z.1) z.2), VI.any])) :=
  fq_V T.x_named_in sc_named_in (fun _ _ _ _ _ _ us hl => match us, hl with | [_, _], _ => rfl) (fun _ => rfl) fun cdv A outer s H E hr ⟨cs, ss⟩ h => by
    have vp : ∀ {X : Cx} {Γ : Ctx} {e : Expr}, EV X e Γ (VI.pr K (.best cs)).p → EV X e Γ (VI.ob (He.ga K "BestMix") (bestF cs)).p := fun h => h
    exact g_ifR (k := true) (t_eq (x := .str "best") (y := .str "best") (e_fld (vp (vE 0)) O.p_BestMix rfl) e_str (by decide +kernel)) (fun _ => g_one (g_ret (e_tup (ei_cons (ev_call (ok_named_by T O M) hr (cs, ss) h (ea_cons (e_fld (vp (vE 0)) O.p_BestMix rfl) (ea_cons (e_ixL (vE 1) e_int rfl) ea_nil))) (ei_cons (EV.any (EF.v (ef_sl (vE 1) (ep_some e_int) ep_none))) ei_nil))))) fun h => nomatch h
theorem ok_named : Fq P w K mg base "named" 12 ["promise", "mixes"] [] (spV (fun z : List Nat × List Rat => Nm z.2 z.1) (fun z => [(VI.pr K (.best z.1)).p, .lst [VI.tup (nums z.2)]]) (fun z => VI.pr K (.times (namedW z.2 z.1) z.2))) :=
  fq_V T.x_named sc_named (fun _ _ _ _ _ _ us hl => match us, hl with | [_, _], _ => rfl) (fun _ => rfl) fun cdv A outer s H E hr ⟨cs, ss⟩ h => by
    have h : Nm ss cs := h
    have h5 := h.l5
    have vp : ∀ {X : Cx} {Γ : Ctx} {e : Expr}, EV X e Γ (VI.pr K (.best cs)).p → EV X e Γ (VI.ob (He.ga K "BestMix") (bestF cs)).p := fun h => h
    have hb : (rowB ss (cs.length : Int) && decide (rsum ss = 1)) = true := by
      rw [rowB, decide_eq_true (by rw [h.l]), decide_eq_true h.one, List.all_eq_true.mpr fun r hr => decide_eq_true (h.nn r hr)]
      rfl
    refine g_cons (g_drop (ev_call (ok_need_promise T O) (hr.mono (by decide)) (.best cs) trivial (ea_cons (vE 0) ea_nil))) ?_
    refine g_cons (g_not (t_or (k := false) (l := false) (t_not (k := true) (t_val (ev_call (ok_is_list T) (hr.mono (by decide)) (.l [VI.tup (nums ss)]) trivial (ea_cons (vE 1) ea_nil)))) fun _ => (t_neI (m := 1) (n := 1) (e_lenL T.bl (Ps := [VI.tup (nums ss)]) (vE 1)) (ev_call (ok_best_many T O) (hr.mono (by decide)) (.best cs) trivial (ea_cons (vE 0) ea_nil))).to (by decide))) ?_
    refine g_cons (g_not (t_not (k := true) (t_val (e_all T.bl (ns := [true]) rfl (EF.v (ef_lc (own := [("mix", 2)]) (xs := [ss]) (F := fun rs => VI.tup (nums rs)) (G := fun _ => VI.bl true) (Γe := fun rs => [.e (VI.pr K (.best cs)).p, .e (.lst [VI.tup (nums ss)]), .i (VI.tup (nums rs))]) rfl sc_named.nd (blkOk_by (N := nm_named) (sc := defScope st_named) (by decide +kernel))
      (it_list (lE 1) rfl) (Nat.le_of_ble_eq_true rfl) (fun s h C cl fp z hz => tg_name 2 sc_named.nd) (fun s' h' C cl fp z hz => (ev_call (ok_is_mix_of T) (hr.mono (by decide)) (z, (cs.length : Int)) ⟨by rw [List.mem_singleton.mp hz]; show ss.length ≤ 60; omega, fun r hr => by rw [List.mem_singleton.mp hz] at hr; exact (h.sz r hr).mono (by decide)⟩ (ea_cons (vI 2) (ea_cons (e_fld (vp (vE 0)) O.p_BestMix rfl) ea_nil))).to (by rw [List.mem_singleton.mp hz]; exact congrArg eb hb)))))))) ?_
    exact g_one (g_ret (e_ixT (ev_call (ok_named_in T O M) hr (cs, ss) h (ea_cons (vE 0) (ea_cons (P := .lst [VI.tup (nums ss)]) (EF.v (ef_lc (own := [("mix", 2)]) (xs := [ss]) (F := fun rs => VI.tup (nums rs)) (G := fun rs => VI.tup (nums rs)) (Γe := fun rs => [.e (VI.pr K (.best cs)).p, .e (.lst [VI.tup (nums ss)]), .i (VI.tup (nums rs))]) rfl sc_named.nd (blkOk_by (N := nm_named) (sc := defScope st_named) (by decide +kernel))
      (it_list (lE 1) rfl) (Nat.le_of_ble_eq_true rfl) (fun s h C cl fp z hz => tg_name 2 sc_named.nd) (fun s' h' C cl fp z hz => ev_call (ok_kept_row T) (hr.mono (by decide)) z (by rw [List.mem_singleton.mp hz]; show ss.length ≤ 1000; omega) (ea_cons (vI 2) ea_nil)))) ea_nil))) e_int rfl))
theorem ok_worth_by_L : Fq P w K mg base "worth_by_prices" 6 ["promise", "counts"] [] (spV (fun z : List Nat × List Nat => z.2.length = z.1.length ∧ Cs (addL z.2 z.1)) (fun z => [(VI.pr K (.best z.1)).p, .lst (natz z.2)]) (fun z => VI.num (wt (addL z.2 z.1)))) :=
  fq_V T.x_worth_by_prices sc_worth_by_prices (fun _ _ _ _ _ _ us hl => match us, hl with | [_, _], _ => rfl) (fun _ => rfl) fun cdv A outer s H E hr ⟨cs, kn⟩ ⟨h1, h2⟩ => by
    have h1 : kn.length = cs.length := h1
    have h2 : Cs (addL kn cs) := h2
    have h5 := h2.1
    rw [addL_len] at h5
    have vp : ∀ {X : Cx} {Γ : Ctx} {e : Expr}, EV X e Γ (VI.pr K (.best cs)).p → EV X e Γ (VI.ob (He.ga K "BestMix") (bestF cs)).p := fun h => h
    refine g_ifR (k := false) (t_eq (x := .str "best") (y := .str "hold") (e_fld (vp (vE 0)) O.p_BestMix rfl) e_str (by decide +kernel)) (fun h => nomatch h) fun _ => ?_
    refine g_ifR (k := false) (t_eq (x := .str "best") (y := .str "mix") (e_fld (vp (vE 0)) O.p_BestMix rfl) e_str (by decide +kernel)) (fun h => nomatch h) fun _ => ?_
    exact g_ifR (k := true) (t_eq (x := .str "best") (y := .str "best") (e_fld (vp (vE 0)) O.p_BestMix rfl) e_str (by decide +kernel)) (fun _ => g_one (g_ret (ev_call (ok_best_by T) hr (addL kn cs) h2 (ea_cons (EF.v ((ef_lc (own := [("each", 4), ("its", 5)]) (xs := kn.zip cs) (F := fun z => VI.tup [VI.int ((z.1 : Nat) : Int), VI.int ((z.2 : Nat) : Int)]) (G := fun z => VI.int ((z.1 : Int) + (z.2 : Int))) (Γe := fun z => [.e (VI.pr K (.best cs)).p, .e (.lst (natz kn)), .u, .u, .i (VI.int ((z.1 : Nat) : Int)), .i (VI.int ((z.2 : Nat) : Int)), .u]) rfl sc_worth_by_prices.nd (blkOk_by (N := nm_worth_by_prices) (sc := defScope st_worth_by_prices) (by decide +kernel))
      (it_zipLT T.bl (F := fun c : Nat => VI.int (c : Int)) (G := fun c : Nat => VI.int (c : Int)) (lE 1) (e_fld (vp (vE 0)) O.p_BestMix rfl) rfl rfl h1) (by rw [List.length_zip]; omega) (fun s h C cl fp z hz => tg_tup rfl (tgs_cons (tg_name 4 sc_worth_by_prices.nd) (tgs_cons (tg_name 5 sc_worth_by_prices.nd) tgs_nil))) (fun s' h' C cl fp z hz => e_add (vI 4) (vI 5))).to (natz_addL kn cs))) ea_nil)))) fun h => nomatch h
theorem ok_worth_by_T : Fq P w K mg base "worth_by_prices" 6 ["promise", "counts"] [] (spV (fun z : List Nat × List Nat => z.2.length = z.1.length ∧ Cs (addL z.2 z.1)) (fun z => [(VI.pr K (.best z.1)).p, (VI.tup (natz z.2)).p]) (fun z => VI.num (wt (addL z.2 z.1)))) :=
  fq_V T.x_worth_by_prices sc_worth_by_prices (fun _ _ _ _ _ _ us hl => match us, hl with | [_, _], _ => rfl) (fun _ => rfl) fun cdv A outer s H E hr ⟨cs, kn⟩ ⟨h1, h2⟩ => by
    have h1 : kn.length = cs.length := h1
    have h2 : Cs (addL kn cs) := h2
    have h5 := h2.1
    rw [addL_len] at h5
    have vp : ∀ {X : Cx} {Γ : Ctx} {e : Expr}, EV X e Γ (VI.pr K (.best cs)).p → EV X e Γ (VI.ob (He.ga K "BestMix") (bestF cs)).p := fun h => h
    refine g_ifR (k := false) (t_eq (x := .str "best") (y := .str "hold") (e_fld (vp (vE 0)) O.p_BestMix rfl) e_str (by decide +kernel)) (fun h => nomatch h) fun _ => ?_
    refine g_ifR (k := false) (t_eq (x := .str "best") (y := .str "mix") (e_fld (vp (vE 0)) O.p_BestMix rfl) e_str (by decide +kernel)) (fun h => nomatch h) fun _ => ?_
    exact g_ifR (k := true) (t_eq (x := .str "best") (y := .str "best") (e_fld (vp (vE 0)) O.p_BestMix rfl) e_str (by decide +kernel)) (fun _ => g_one (g_ret (ev_call (ok_best_by T) hr (addL kn cs) h2 (ea_cons (EF.v ((ef_lc (own := [("each", 4), ("its", 5)]) (xs := kn.zip cs) (F := fun z => VI.tup [VI.int ((z.1 : Nat) : Int), VI.int ((z.2 : Nat) : Int)]) (G := fun z => VI.int ((z.1 : Int) + (z.2 : Int))) (Γe := fun z => [.e (VI.pr K (.best cs)).p, .e (VI.tup (natz kn)).p, .u, .u, .i (VI.int ((z.1 : Nat) : Int)), .i (VI.int ((z.2 : Nat) : Int)), .u]) rfl sc_worth_by_prices.nd (blkOk_by (N := nm_worth_by_prices) (sc := defScope st_worth_by_prices) (by decide +kernel))
      (it_zipT T.bl (F := fun c : Nat => VI.int (c : Int)) (G := fun c : Nat => VI.int (c : Int)) (vE 1) (e_fld (vp (vE 0)) O.p_BestMix rfl) rfl rfl h1) (by rw [List.length_zip]; omega) (fun s h C cl fp z hz => tg_tup rfl (tgs_cons (tg_name 4 sc_worth_by_prices.nd) (tgs_cons (tg_name 5 sc_worth_by_prices.nd) tgs_nil))) (fun s' h' C cl fp z hz => e_add (vI 4) (vI 5))).to (natz_addL kn cs))) ea_nil)))) fun h => nomatch h
end
end K8
end
section
set_option Elab.async false
set_option linter.all false
set_option maxRecDepth 100000
set_option maxHeartbeats 1000000
set_option autoImplicit false
namespace K8
open PySem L2
open Evl (Ex)
/-- what the counts of a price must be -/
structure Pk (cs known : List Nat) (d : Nat) : Prop where
  l1 : 1 ≤ cs.length
  l5 : cs.length ≤ 5
  lk : known.length = cs.length
  d4 : d ≤ 4
  p : cs.length ^ d ≤ 27
  c : ∀ c ∈ coa (cs.length - 1) d, Cs (addL (addL c known) cs)
def pterm (cs known c : List Nat) : Rat := (((ways c).1 : Int) : Rat) * wt (addL (addL c known) cs)
def pric (cs known : List Nat) (d : Nat) : Rat := rsum ((coa (cs.length - 1) d).map (pterm cs known))
theorem Pk.len {cs known : List Nat} {d : Nat} (h : Pk cs known d) : (coa (cs.length - 1) d).length ≤ 20 := coa_b _ (List.mem_range.mpr (by have := h.l5; omega)) _ (List.mem_range.mpr (by have := h.d4; omega)) (by rw [Nat.sub_add_cancel h.l1]; exact h.p)
theorem Pk.wy {cs known : List Nat} {d : Nat} (h : Pk cs known d) {c : List Nat} (hc : c ∈ coa (cs.length - 1) d) : (ways c).1.natAbs < 2 ^ 16 := ways_b _ (List.mem_range.mpr (by have := h.l5; omega)) _ (List.mem_range.mpr (by have := h.d4; omega)) c hc
theorem Pk.sz {cs known : List Nat} {d : Nat} (h : Pk cs known d) {c : List Nat} (hc : c ∈ coa (cs.length - 1) d) : Sz 400 (pterm cs known c) := ((Sz.int (h.wy hc) (by decide)).mul (wt_sz (h.c c hc))).mono (by decide)
section
variable {P : Program} {w : World} {K : PySem.W.Frag} {mg : Str → Option Value} {base : Heap}
variable (T : Tx K mg) (O : To K mg) (M : Tm P K mg)
include T O M
theorem ok_by_counts : Fq P w K mg base "by_counts" 7 ["promise", "days", "known"] [] (spV (fun z : List Nat × List Nat × Nat => Pk z.1 z.2.1 z.2.2) (fun z => [(VI.pr K (.best z.1)).p, ei (z.2.2 : Int), (VI.tup (natz z.2.1)).p]) (fun z => VI.num (pric z.1 z.2.1 z.2.2))) :=
  fq_V T.x_by_counts sc_by_counts (fun _ _ _ _ _ _ us hl => match us, hl with | [_, _, _], _ => rfl) (fun _ => rfl) fun cdv A outer s H E hr ⟨cs, kn, d⟩ h => by
    have h : Pk cs kn d := h
    have h1 := h.l1
    have h5 := h.l5
    have h4 := h.d4
    have hlk := h.lk
    have vp : ∀ {X : Cx} {Γ : Ctx} {e : Expr}, EV X e Γ (VI.pr K (.best cs)).p → EV X e Γ (VI.ob (He.ga K "BestMix") (bestF cs)).p := fun h => h
    refine g_cons (g_setF 3 sc_by_counts.nd (ef_lst ei_nil)) ?_
    refine g_cons (g_for (vs := [4]) PassesOwn.never rfl (fun pre : List (List Nat) => [.e (VI.pr K (.best cs)).p, .e (ei d), .e (VI.tup (natz kn)).p, .o (nums (pre.map (pterm cs kn))), .u, .u, .u, .u]) (fun pre c => [.e (VI.pr K (.best cs)).p, .e (ei d), .e (VI.tup (natz kn)).p, .o (nums (pre.map (pterm cs kn))), .i (VI.tup (natz c)), .u, .u, .u])
      (it_list (xs := coa (cs.length - 1) d) (F := fun c => VI.tup (natz c)) (EF.l (ef_call (ok_counts_of_all T) (hr.mono (by decide)) (cs.length - 1, d) ⟨by show cs.length - 1 ≤ 4; omega, h4⟩ (ea_cons ((e_fld (vp (vE 0)) O.p_BestMix rfl).to (congrArg ei (by omega : (cs.length : Int) = ((cs.length - 1 + 1 : Nat) : Int)))) (ea_cons (vE 1) ea_nil)))) rfl) (fun pre a post e => tg_name 4 sc_by_counts.nd) (fun pre a post e => ?_)) (g_one (g_ret (ev_call (ok_by_one_line T) (hr.mono (by decide)) ((coa (cs.length - 1) d).map (pterm cs kn)) ⟨by rw [List.length_map]; exact h.len, fun r hr => ?_⟩ (ea_cons (vO 3) ea_nil))))
    · have ha := mem_mid e
      obtain ⟨m1, m2⟩ := coa_mem ha
      have hal : a.length = kn.length := by omega
      refine g_cons (GT.to (Γ2 := [.e (VI.pr K (.best cs)).p, .e (ei d), .e (VI.tup (natz kn)).p, .o (nums (pre.map (pterm cs kn))), .i (VI.tup (natz a)), .o (natz (addL a kn)), .u, .u]) (g_setLc 5 (own := [("each", 6), ("its", 7)]) (xs := a.zip kn) (keep := fun _ => true) (F := fun z => VI.tup [VI.int ((z.1 : Nat) : Int), VI.int ((z.2 : Nat) : Int)]) (G := fun z => VI.int ((z.1 : Int) + (z.2 : Int))) (Γe := fun z => [.e (VI.pr K (.best cs)).p, .e (ei d), .e (VI.tup (natz kn)).p, .o (nums (pre.map (pterm cs kn))), .i (VI.tup (natz a)), .u, .i (VI.int ((z.1 : Nat) : Int)), .i (VI.int ((z.2 : Nat) : Int))]) rfl sc_by_counts.nd rfl (blkOk_by (N := nm_by_counts) (sc := defScope st_by_counts) (by decide +kernel))
        (it_zipT T.bl (F := fun c : Nat => VI.int (c : Int)) (G := fun c : Nat => VI.int (c : Int)) (vI 4) (vE 2) rfl rfl hal) (by rw [List.length_zip]; omega) rfl (fun s h C cl fp z hz => tg_tup rfl (tgs_cons (tg_name 6 sc_by_counts.nd) (tgs_cons (tg_name 7 sc_by_counts.nd) tgs_nil))) (.inl ⟨rfl, fun _ _ => rfl⟩) (fun s' h' C cl fp z hz _ => e_add (vI 6) (vI 7))) ?_) ?_
      · rw [map_tt, natz_addL]
        rfl
      refine g_one ((g_append 3 (P := VI.num (pterm cs kn a)) rfl (ev_call (ok_product T) (hr.mono (by decide)) ((((ways a).1 : Int) : Rat), wt (addL (addL a kn) cs)) ⟨Sz.mono (b := 4000) (Sz.int (h.wy ha) (by decide)) (by decide), Sz.mono (b := 4000) (wt_sz (h.c a ha)) (by decide)⟩ (ea_cons ((ev_call (ok_ways_in T) (hr.mono (by decide)) a (coa_cs (g := cs.length - 1) (by omega) h4 ha) (ea_cons (vI 4) ea_nil)).imp fun H v q => num_of_int rfl q) (ea_cons (ev_call (ok_worth_by_L T O M) hr (cs, addL a kn) ⟨by show (addL a kn).length = cs.length; rw [addL_len]; omega, h.c a ha⟩ (ea_cons (vE 0) (ea_cons (vO 5) ea_nil))) ea_nil))) ?_ rfl (.inl rfl) (by decide) (by decide) (pe_bm PySem.F.plainAttrs_list PySem.F.slot_list_append PySem.F.type_list_append mt_append (pe_var rfl (.inl rfl) (by decide) (by decide)) (pa_cons pe_w pa_nil))).toLe ⟨rfl, fun i U hi => ?_⟩)
      · rw [List.length_map, List.length_map]
        have e2 := congrArg List.length e
        simp only [List.length_append, List.length_cons] at e2
        have := h.len
        omega
      · rw [List.map_append] at hi
        match i, hi with
        | 0, hi => exact .inr hi
        | 1, hi => exact .inr hi
        | 2, hi => exact .inr hi
        | 3, hi =>
          refine .inr (Eq.trans ?_ hi)
          show some (Ty.o _) = some (Ty.o _)
          simp only [nums, List.map_append, List.map_cons, List.map_nil]
        | 4, hi => exact .inl (Option.some.inj hi).symm
        | 5, hi => exact .inl (Option.some.inj hi).symm
        | 6, hi => exact .inl (Option.some.inj hi).symm
        | 7, hi => exact .inl (Option.some.inj hi).symm
    · obtain ⟨c, hc, rfl⟩ := List.mem_map.mp hr
      exact h.sz hc
theorem ok_rest_through : Fq P w K mg base "rest_through" 8 ["promise", "days", "word"] [] (spV (fun z : List Nat × Nat × List Nat => Pk z.1 (cnt z.1.length z.2.2) (z.2.1 - z.2.2.length) ∧ z.2.2.length ≤ z.2.1 ∧ z.2.1 ≤ 4) (fun z => [(VI.pr K (.best z.1)).p, ei (z.2.1 : Int), (VI.tup (natz z.2.2)).p]) (fun z => VI.num (pric z.1 (cnt z.1.length z.2.2) (z.2.1 - z.2.2.length)))) :=
  fq_V T.x_rest_through sc_rest_through (fun _ _ _ _ _ _ us hl => match us, hl with | [_, _, _], _ => rfl) (fun _ => rfl) fun cdv A outer s H E hr ⟨cs, d, wd⟩ ⟨h, h2, h3⟩ => by
    have h : Pk cs (cnt cs.length wd) (d - wd.length) := h
    have h2 : wd.length ≤ d := h2
    have h3 : d ≤ 4 := h3
    have h1 := h.l1
    have h5 := h.l5
    have vp : ∀ {X : Cx} {Γ : Ctx} {e : Expr}, EV X e Γ (VI.pr K (.best cs)).p → EV X e Γ (VI.ob (He.ga K "BestMix") (bestF cs)).p := fun h => h
    have hg : (cs.length : Int) = ((cs.length - 1 + 1 : Nat) : Int) := by omega
    refine g_ifR (k := true) (t_val (ev_call (ok_orderless_in T O) (hr.mono (by decide)) (.best cs) trivial (ea_cons (vE 0) ea_nil))) (fun _ => ?_) fun h => nomatch h
    refine g_cons (g_drop (ev_call (ok_need_few_counts T) (hr.mono (by decide)) (cs.length - 1, d) ⟨by show cs.length - 1 ≤ 100; omega, by show d ≤ 100; omega, few_b _ (List.mem_range.mpr (by omega)) _ (List.mem_range.mpr (by omega))⟩ (ea_cons ((e_fld (vp (vE 0)) O.p_BestMix rfl).to (congrArg ei hg)) (ea_cons (vE 1) ea_nil)))) ?_
    exact g_one (g_ret (ev_call (ok_by_counts T O M) hr (cs, cnt cs.length wd, d - wd.length) h (ea_cons (vE 0) (ea_cons ((e_sub (vE 1) (e_lenT T.bl (vE 2))).to (congrArg ei (by rw [List.length_map]; omega : (d : Int) - ((natz wd).length : Int) = ((d - wd.length : Nat) : Int)))) (ea_cons (ev_call (ok_counts_in T) (hr.mono (by decide)) (cs.length, wd) ⟨by show cs.length ≤ 1000; omega, by show wd.length ≤ 1000; omega⟩ (ea_cons (e_fld (vp (vE 0)) O.p_BestMix rfl) (ea_cons (vE 2) ea_nil))) ea_nil)))))
theorem ok_rest_in : Fq P w K mg base "rest_in" 9 ["promise", "days", "word"] [] (spV (fun z : List Nat × Nat × List Nat => Pk z.1 (cnt z.1.length z.2.2) (z.2.1 - z.2.2.length) ∧ z.2.2.length ≤ z.2.1 ∧ z.2.1 ≤ 4) (fun z => [(VI.pr K (.best z.1)).p, ei (z.2.1 : Int), (VI.tup (natz z.2.2)).p]) (fun z => VI.num (pric z.1 (cnt z.1.length z.2.2) (z.2.1 - z.2.2.length)))) :=
  fq_V T.x_rest_in sc_rest_in (fun _ _ _ _ _ _ us hl => match us, hl with | [_, _, _], _ => rfl) (fun _ => rfl) fun cdv A outer s H E hr ⟨cs, d, wd⟩ h => by
    have vp : ∀ {X : Cx} {Γ : Ctx} {e : Expr}, EV X e Γ (VI.pr K (.best cs)).p → EV X e Γ (VI.ob (He.ga K "BestMix") (bestF cs)).p := fun h => h
    refine g_ifR (k := false) (t_eq (x := .str "best") (y := .str "hold") (e_fld (vp (vE 0)) O.p_BestMix rfl) e_str (by decide +kernel)) (fun h => nomatch h) fun _ => ?_
    refine g_ifR (k := false) (t_eq (x := .str "best") (y := .str "mix") (e_fld (vp (vE 0)) O.p_BestMix rfl) e_str (by decide +kernel)) (fun h => nomatch h) fun _ => ?_
    refine g_ifR (k := false) (t_eq (x := .str "best") (y := .str "times") (e_fld (vp (vE 0)) O.p_BestMix rfl) e_str (by decide +kernel)) (fun h => nomatch h) fun _ => ?_
    refine g_ifR (k := false) (t_eq (x := .str "best") (y := .str "sum") (e_fld (vp (vE 0)) O.p_BestMix rfl) e_str (by decide +kernel)) (fun h => nomatch h) fun _ => ?_
    refine g_ifR (k := false) (t_eq (x := .str "best") (y := .str "then") (e_fld (vp (vE 0)) O.p_BestMix rfl) e_str (by decide +kernel)) (fun h => nomatch h) fun _ => ?_
    exact g_one (g_ret (ev_call (ok_rest_through T O M) hr (cs, d, wd) h (ea_cons (vE 0) (ea_cons (vE 1) (ea_cons (vE 2) ea_nil)))))
theorem ok_price_in : Fq P w K mg base "price_in" 10 ["promise", "days"] [] (spV (fun z : List Nat × Nat => Pk z.1 (cnt z.1.length []) z.2) (fun z => [(VI.pr K (.best z.1)).p, ei (z.2 : Int)]) (fun z => VI.num (pric z.1 (cnt z.1.length []) z.2))) :=
  fq_V T.x_price_in sc_price_in (fun _ _ _ _ _ _ us hl => match us, hl with | [_, _], _ => rfl) (fun _ => rfl) fun cdv A outer s H E hr ⟨cs, d⟩ h =>
    g_one (g_ret (ev_call (ok_rest_in T O M) hr (cs, d, []) ⟨h, Nat.zero_le _, Pk.d4 h⟩ (ea_cons (vE 0) (ea_cons (vE 1) (ea_cons (e_tup ei_nil) ea_nil)))))
theorem ok_price : Fq P w K mg base "price" 11 ["promise", "days"] [] (spV (fun z : List Nat × Nat => Pk z.1 (cnt z.1.length []) z.2) (fun z => [(VI.pr K (.best z.1)).p, ei (z.2 : Int)]) (fun z => VI.num (pric z.1 (cnt z.1.length []) z.2))) :=
  fq_V T.x_price sc_price (fun _ _ _ _ _ _ us hl => match us, hl with | [_, _], _ => rfl) (fun _ => rfl) fun cdv A outer s H E hr ⟨cs, d⟩ h => by
    have h4 : d ≤ 4 := Pk.d4 h
    exact g_cons (g_drop (ev_call (ok_need_promise T O) (hr.mono (by decide)) (.best cs) trivial (ea_cons (vE 0) ea_nil))) (g_cons (g_drop (ev_call (ok_need_days T) (hr.mono (by decide)) (d : Int) (by show (0 : Int) ≤ d ∧ (d : Int) ≤ 1000; omega) (ea_cons (vE 1) ea_nil))) (g_one (g_ret (ev_call (ok_price_in T O M) hr (cs, d) h (ea_cons (vE 0) (ea_cons (vE 1) ea_nil))))))
theorem ok_rest : Fq P w K mg base "rest" 11 ["promise", "days", "word"] [] (spV (fun z : List Nat × Nat × List Nat => Pk z.1 (cnt z.1.length z.2.2) (z.2.1 - z.2.2.length) ∧ z.2.2.length ≤ z.2.1 ∧ z.2.1 ≤ 4 ∧ ∀ g ∈ z.2.2, g < z.1.length) (fun z => [(VI.pr K (.best z.1)).p, ei (z.2.1 : Int), (VI.tup (natz z.2.2)).p]) (fun z => VI.num (pric z.1 (cnt z.1.length z.2.2) (z.2.1 - z.2.2.length)))) :=
  fq_V T.x_rest sc_rest (fun _ _ _ _ _ _ us hl => match us, hl with | [_, _, _], _ => rfl) (fun _ => rfl) fun cdv A outer s H E hr ⟨cs, d, wd⟩ ⟨h, h2, h3, h4⟩ => by
    have h2 : wd.length ≤ d := h2
    have h3 : d ≤ 4 := h3
    have vp : ∀ {X : Cx} {Γ : Ctx} {e : Expr}, EV X e Γ (VI.pr K (.best cs)).p → EV X e Γ (VI.ob (He.ga K "BestMix") (bestF cs)).p := fun h => h
    refine g_cons (g_drop (ev_call (ok_need_promise T O) (hr.mono (by decide)) (.best cs) trivial (ea_cons (vE 0) ea_nil))) ?_
    refine g_cons (g_drop (ev_call (ok_need_days T) (hr.mono (by decide)) (d : Int) (by show (0 : Int) ≤ d ∧ (d : Int) ≤ 1000; omega) (ea_cons (vE 1) ea_nil))) ?_
    refine g_cons (g_set 3 sc_rest.nd (ev_call (ok_need_word T) (hr.mono (by decide)) (wd, cs.length) ⟨by show wd.length ≤ 1000; omega, h4⟩ (ea_cons (vE 2) (ea_cons (e_fld (vp (vE 0)) O.p_BestMix rfl) ea_nil)))) ?_
    refine g_cons (g_not ((t_gt (e_lenT T.bl (vI (P := VI.tup (natz wd)) 3)) (vE 1)).to (decide_eq_false (by rw [List.length_map]; show ¬ ((d : Int) < (wd.length : Int)); omega)))) ?_
    exact g_one (g_ret (ev_call (ok_rest_in T O M) (hr.mono (by decide)) (cs, d, wd) ⟨h, h2, h3⟩ (ea_cons (vE 0) (ea_cons (vE 1) (ea_cons (vI 3) ea_nil)))))
end
end K8
end
section
set_option Elab.async false
set_option linter.all false
set_option maxRecDepth 100000
set_option maxHeartbeats 1000000
set_option autoImplicit false
namespace K8
open PySem L2
open Evl (Ex)
/-! Betters. -/
/-- a number as data -/
def dN (r : Rat) : PyData := if r.den = 1 then .int r.num else .tuple [.int r.num, .int (r.den : Int)]
theorem dp_num {K : PySem.W.Frag} {H : Hp} {r : Rat} {v : V} (h : (VI.num r).ok H v) : Dp K H v (dN r) := by
  unfold dN
  rcases h with ⟨h1, rfl⟩ | ⟨h1, a, rfl, h2⟩
  · rw [if_pos h1]
    exact .int _
  · rw [if_neg h1]
    exact .tup (.inl (.inl h2)) (.cons (.int _) (.cons (.int _) .nil))
theorem dp_int {K : PySem.W.Frag} {H : Hp} {n : Int} {v : V} (h : (VI.int n).ok H v) : Dp K H v (.int n) := by
  obtain rfl : v = .int n := h
  exact .int n
theorem shp_num (r : Rat) : SeqAt.shaped (dN r) = true := by
  unfold dN
  split <;> rfl
theorem eqv_num (r t : Rat) : PyData.eqv (dN r) (dN t) = decide (r = t) := by
  unfold dN
  by_cases h1 : r.den = 1
  · rw [if_pos h1]
    by_cases h2 : t.den = 1
    · rw [if_pos h2]
      show (r.num == t.num) = _
      by_cases e : r = t
      · rw [decide_eq_true e, e]
        simp
      · rw [decide_eq_false e]
        have : r.num ≠ t.num := fun z => e (Rat.ext z (h1.trans h2.symm))
        simpa using this
    · rw [if_neg h2, decide_eq_false fun z : r = t => h2 (z ▸ h1)]
      rfl
  · rw [if_neg h1]
    by_cases h2 : t.den = 1
    · rw [if_pos h2, decide_eq_false fun z : r = t => h1 (z ▸ h2)]
      rfl
    · rw [if_neg h2]
      show ((r.num == t.num) && (((r.den : Int) == (t.den : Int)) && true)) = _
      by_cases e : r = t
      · rw [decide_eq_true e, e]
        simp
      · rw [decide_eq_false e]
        by_cases z : r.num = t.num
        · have : r.den ≠ t.den := fun z2 => e (Rat.ext z z2)
          rw [beq_iff_eq.mpr z, beq_eq_false_iff_ne.mpr (show (r.den : Int) ≠ (t.den : Int) by omega)]
          rfl
        · rw [beq_eq_false_iff_ne.mpr z]
          rfl
section
variable {X : Cx} {Γ : Ctx} {pos : Pos} {a b : Expr}
/-- == of data -/
theorem e_eqD {P Q : VP} {d e : PyData} (hu : X.A.units + 64 < cLine) (ha : EV X a Γ P) (hb : EV X b Γ Q) (hP : ∀ H v, P.ok H v → Dp X.K H v d) (hQ : ∀ H v, Q.ok H v → Dp X.K H v e) (s1 : SeqAt.shaped d = true) (s2 : SeqAt.shaped e = true) : EV X (.Compare a [.Eq] [b] pos) Γ (eb (PyData.eqv d e)) :=
  e_cmp (op_eqD hu) (nomark _) ha hb fun x y H hx hy R q => ⟨d, e, hP H x hx, hQ H y hy, s1, s2, q _ H Ex.r rfl⟩
theorem t_neD {P Q : VP} {d e : PyData} {k : Bool} (hu : X.A.units + 64 < cLine) (ha : EV X a Γ P) (hb : EV X b Γ Q) (hP : ∀ H v, P.ok H v → Dp X.K H v d) (hQ : ∀ H v, Q.ok H v → Dp X.K H v e) (s1 : SeqAt.shaped d = true) (s2 : SeqAt.shaped e = true) (hk : (!PyData.eqv d e) = k) : ET X (.Compare a [.NotEq] [b] pos) Γ k :=
  t_cmp (op_neD hu) (nomark _) ha hb fun x y H hx hy R q => ⟨d, e, hP H x hx, hQ H y hy, s1, s2, by rw [hk]; exact q H Ex.r⟩
theorem t_eqD {P Q : VP} {d e : PyData} {k : Bool} (hu : X.A.units + 64 < cLine) (ha : EV X a Γ P) (hb : EV X b Γ Q) (hP : ∀ H v, P.ok H v → Dp X.K H v d) (hQ : ∀ H v, Q.ok H v → Dp X.K H v e) (s1 : SeqAt.shaped d = true) (s2 : SeqAt.shaped e = true) (hk : PyData.eqv d e = k) : ET X (.Compare a [.Eq] [b] pos) Γ k :=
  t_cmp (op_eqD hu) (nomark _) ha hb fun x y H hx hy R q => ⟨d, e, hP H x hx, hQ H y hy, s1, s2, by rw [hk]; exact q H Ex.r⟩
/-- != of numbers -/
theorem t_neNum {r t : Rat} (hu : X.A.units + 64 < cLine) (ha : EV X a Γ (VI.num r).p) (hb : EV X b Γ (VI.num t).p) : ET X (.Compare a [.NotEq] [b] pos) Γ (!decide (r = t)) := t_neD hu ha hb (fun _ _ => dp_num) (fun _ _ => dp_num) (shp_num r) (shp_num t) (by rw [eqv_num])
end
theorem roomU {k : Nat} {A : Around} (r : Room k A) : A.units + 64 < cLine := by
  have := r.un
  omega
/-- days of two goods, none of them nothing -/
def D2 (ds : List (Rat × Rat)) : Prop := ds.length ≤ 4 ∧ ∀ z ∈ ds, Sz 4 z.1 ∧ Sz 4 z.2 ∧ 0 ≤ z.1 ∧ 0 ≤ z.2 ∧ ¬ (z.1 = 0 ∧ z.2 = 0)
def rterm (t : Rat) (z : Rat × Rat) : Rat := (z.1 - z.2) / (z.2 + t * (z.1 - z.2))
def sgn (r : Rat) : Int := (if decide (0 < r.num) then 1 else 0) - (if decide (r.num < 0) then 1 else 0)
theorem mid_pos {t : Rat} {z : Rat × Rat} (h0 : 0 < t) (h1 : t < 1) (a : 0 ≤ z.1) (b : 0 ≤ z.2) (n : ¬ (z.1 = 0 ∧ z.2 = 0)) : 0 < z.2 + t * (z.1 - z.2) := by
  have e : z.2 + t * (z.1 - z.2) = t * z.1 + (1 - t) * z.2 := by grind
  rw [e]
  have p1 : 0 ≤ t * z.1 := Rat.mul_nonneg (Rat.le_of_lt h0) a
  have p2 : 0 ≤ (1 - t) * z.2 := Rat.mul_nonneg (by grind) b
  by_cases h : z.1 = 0
  · have hz : 0 < z.2 := by
      rcases Rat.le_iff_lt_or_eq.mp b with q | q
      · exact q
      · exact absurd ⟨h, q.symm⟩ n
    have := Rat.mul_pos (show 0 < 1 - t by grind) hz
    grind
  · have hz : 0 < z.1 := by
      rcases Rat.le_iff_lt_or_eq.mp a with q | q
      · exact q
      · exact absurd q.symm h
    have := Rat.mul_pos h0 hz
    grind
theorem num_pos {r : Rat} (h : 0 < r) : 0 < r.num := by
  have h2 := (Rat.lt_iff 0 r).mp h
  simpa using h2
theorem rterm_sz {t : Rat} {z : Rat × Rat} (ht : Sz 8 t) (h0 : 0 < t) (h1 : t < 1) (s1 : Sz 4 z.1) (s2 : Sz 4 z.2) (a : 0 ≤ z.1) (b : 0 ≤ z.2) (n : ¬ (z.1 = 0 ∧ z.2 = 0)) : Sz 40 (rterm t z) := by
  have e : z.1 - z.2 = z.1 + -z.2 := Rat.sub_eq_add_neg _ _
  have m : Sz 9 (z.1 - z.2) := by rw [e]; exact s1.add s2.neg
  exact (m.quo ((s2.add (ht.mul m)).mono (show 4 + (8 + 9) + 1 ≤ 22 by decide)) (num_pos (mid_pos h0 h1 a b n))).mono (by decide)
section
variable {P : Program} {w : World} {K : PySem.W.Frag} {mg : Str → Option Value} {base : Heap} (T : Tx K mg)
include T
theorem ok_rising : Fq P w K mg base "rising" 5 ["market", "share"] [] (spV (fun z : List (Rat × Rat) × Rat => D2 z.1 ∧ Sz 8 z.2 ∧ 0 < z.2 ∧ z.2 < 1) (fun z => [(VI.tup (z.1.map fun y => VI.tup [VI.num y.1, VI.num y.2])).p, (VI.num z.2).p]) (fun z => VI.int (sgn (rsum (z.1.map (rterm z.2)))))) :=
  fq_V T.x_rising sc_rising (fun _ _ _ _ _ _ us hl => match us, hl with | [_, _], _ => rfl) (fun _ => rfl) fun cdv A outer s H E hr ⟨ds, t⟩ ⟨⟨h0, h1⟩, h2, h3, h4⟩ => by
    have h0 : ds.length ≤ 4 := h0
    have h2 : Sz 8 t := h2
    have h3 : 0 < t := h3
    have h4 : t < 1 := h4
    refine g_cons (g_set 2 sc_rising.nd (P := VI.num 0) (e_int.imp fun H v q => num_of_int rfl q)) ?_
    refine g_cons ((g_for (vs := [3, 4]) PassesOwn.never rfl (fun pre : List (Rat × Rat) => [.e (VI.tup (ds.map fun y => VI.tup [VI.num y.1, VI.num y.2])).p, .e (VI.num t).p, .i (VI.num (rsum (pre.map (rterm t)))), .u, .u, .u]) (fun pre y => [.e (VI.tup (ds.map fun y => VI.tup [VI.num y.1, VI.num y.2])).p, .e (VI.num t).p, .i (VI.num (rsum (pre.map (rterm t)))), .i (VI.num y.1), .i (VI.num y.2), .u]) (it_tup (xs := ds) (F := fun y => VI.tup [VI.num y.1, VI.num y.2]) (vE 0) rfl) (fun pre y post _ => tg_tup rfl (tgs_cons (tg_name 3 sc_rising.nd) (tgs_cons (tg_name 4 sc_rising.nd) tgs_nil))) (fun pre y post e => ?_))) (g_one (g_ret (ev_call (ok_sign_in T) (hr.mono (by decide)) (rsum (ds.map (rterm t))) trivial (ea_cons (vI 2) ea_nil))))
    obtain ⟨s1, s2, n1, n2, nz⟩ := h1 y (mem_mid e)
    have e1 : y.1 - y.2 = y.1 + -y.2 := Rat.sub_eq_add_neg _ _
    have m : Sz 9 (y.1 - y.2) := by rw [e1]; exact s1.add s2.neg
    have hs : Sz 400 (rsum (pre.map (rterm t))) := (Sz.sum (k := 40) fun r hr => by
      obtain ⟨z, hz, rfl⟩ := List.mem_map.mp hr
      obtain ⟨a1, a2, a3, a4, a5⟩ := h1 z (by rw [e]; simp [hz])
      exact rterm_sz h2 h3 h4 a1 a2 a3 a4 a5).mono (by
        rw [List.length_map]
        have := congrArg List.length e
        simp at this
        omega)
    refine g_cons (g_set 5 sc_rising.nd (ev_call (ok_less_by T) (hr.mono (by decide)) (y.1, y.2) ⟨s1.mono (by decide), s2.mono (by decide)⟩ (ea_cons (vI 3) (ea_cons (vI 4) ea_nil)))) ?_
    refine g_one ((g_set 2 sc_rising.nd (ev_call (ok_added T) (hr.mono (by decide)) (rsum (pre.map (rterm t)), rterm t y) ⟨hs.mono (by decide), (rterm_sz h2 h3 h4 s1 s2 n1 n2 nz).mono (by decide)⟩ (ea_cons (vI 2) (ea_cons (ev_call (ok_part_by T) (hr.mono (by decide)) (y.1 - y.2, y.2 + t * (y.1 - y.2)) ⟨m.mono (by decide), ((s2.add (h2.mul m)).mono (by decide)), num_pos (mid_pos h3 h4 n1 n2 nz)⟩ (ea_cons (vI 5) (ea_cons (ev_call (ok_added T) (hr.mono (by decide)) (y.2, t * (y.1 - y.2)) ⟨s2.mono (by decide), (h2.mul m).mono (by decide)⟩ (ea_cons (vI 4) (ea_cons (ev_call (ok_product T) (hr.mono (by decide)) (t, y.1 - y.2) ⟨h2.mono (by decide), m.mono (by decide)⟩ (ea_cons (vE 1) (ea_cons (vI 5) ea_nil))) ea_nil))) ea_nil))) ea_nil)))).toLe ⟨rfl, fun i U hi => ?_⟩)
    rw [List.map_append, List.map_singleton, rsum_snoc] at hi
    match i, hi with
    | 0, hi => exact .inr hi
    | 1, hi => exact .inr hi
    | 2, hi => exact .inr hi
    | 3, hi => exact .inl (Option.some.inj hi).symm
    | 4, hi => exact .inl (Option.some.inj hi).symm
    | 5, hi => exact .inl (Option.some.inj hi).symm
end
end K8
end
section
set_option Elab.async false
set_option linter.all false
set_option maxRecDepth 100000
set_option maxHeartbeats 1000000
set_option autoImplicit false
namespace K8
open PySem L2
open Evl (Ex)
def mid (p : Rat × Rat) : Rat := Rat.divInt 1 2 * (p.1 + p.2)
/-- the stretch after so many halvings -/
def stp (ds : List (Rat × Rat)) : Nat → Rat × Rat
  | 0 => (0, 1)
  | j + 1 => if 0 < sgn (rsum (ds.map (rterm (mid (stp ds j))))) then (mid (stp ds j), (stp ds j).2) else ((stp ds j).1, mid (stp ds j))
theorem stp_pos {ds : List (Rat × Rat)} {j : Nat} (h : 0 < sgn (rsum (ds.map (rterm (mid (stp ds j)))))) : stp ds (j + 1) = (mid (stp ds j), (stp ds j).2) := by rw [stp, if_pos h]
theorem stp_neg {ds : List (Rat × Rat)} {j : Nat} (h : ¬ 0 < sgn (rsum (ds.map (rterm (mid (stp ds j)))))) : stp ds (j + 1) = ((stp ds j).1, mid (stp ds j)) := by rw [stp, if_neg h]
/-- r is k parts of 2^j -/
def Dy (j : Nat) (k : Int) (r : Rat) : Prop := r * (((2 : Int) ^ j : Int) : Rat) = (k : Rat)
theorem two_pow_pos (j : Nat) : (0 : Rat) < (((2 : Int) ^ j : Int) : Rat) := by
  have h : (0 : Int) < (2 : Int) ^ j := Int.pow_pos (by decide)
  exact_mod_cast h
theorem dy_succ {j : Nat} {k : Int} {r : Rat} (h : Dy j k r) : Dy (j + 1) (2 * k) r := by
  unfold Dy at h ⊢
  rw [Int.pow_succ, Rat.intCast_mul, ← Rat.mul_assoc, h, Rat.intCast_mul]
  exact Rat.mul_comm _ _
theorem half : (Rat.divInt 1 2) * 2 = 1 := by decide +kernel
theorem dy_mid {j : Nat} {k : Int} {p : Rat × Rat} (h1 : Dy j k p.1) (h2 : Dy j (k + 1) p.2) : Dy (j + 1) (2 * k + 1) (mid p) := by
  unfold Dy mid at *
  have e : (((2 : Int) ^ (j + 1) : Int) : Rat) = (((2 : Int) ^ j : Int) : Rat) * 2 := by rw [Int.pow_succ, Rat.intCast_mul]; rfl
  rw [e]
  generalize (((2 : Int) ^ j : Int) : Rat) = c at h1 h2
  have hk : ((2 * k + 1 : Int) : Rat) = 2 * (k : Rat) + 1 := by rw [Rat.intCast_add, Rat.intCast_mul]; rfl
  have hk1 : ((k + 1 : Int) : Rat) = (k : Rat) + 1 := by rw [Rat.intCast_add]; rfl
  rw [hk1] at h2
  rw [hk]
  have q := half
  generalize Rat.divInt 1 2 = u at q
  have : u * (p.1 + p.2) * (c * 2) = (u * 2) * (p.1 * c + p.2 * c) := by grind
  rw [this, q, h1, h2]
  grind
theorem dy_div {j : Nat} {k : Int} {r : Rat} (h : Dy j k r) : r = Rat.divInt k ((2 : Int) ^ j) := by
  have p := two_pow_pos j
  have hne : (((2 : Int) ^ j : Int) : Rat) ≠ 0 := fun z => by rw [z] at p; exact absurd p (by decide)
  rw [Rat.divInt_eq_div, ← h, Rat.div_def, Rat.mul_assoc, Rat.mul_inv_cancel _ hne, Rat.mul_one]
theorem dy_sz {j : Nat} {k : Int} {r : Rat} (h : Dy j k r) (h0 : 0 ≤ k) (h1 : k ≤ 2 ^ j) : Sz (j + 1) r := by
  rw [dy_div h]
  have p : (2 : Nat) ^ j < 2 ^ (j + 1) := Nat.pow_lt_pow_right (by decide) (by omega)
  have e : ((2 : Int) ^ j) = ((2 ^ j : Nat) : Int) := by rw [Int.natCast_pow]; rfl
  refine Sz.div ?_ (Int.pow_pos (by decide)) ?_
  · rw [e] at h1
    omega
  · rw [e, Int.natAbs_natCast]
    exact p
theorem dy_pos {j : Nat} {k : Int} {r : Rat} (h : Dy j k r) (h0 : 0 < k) : 0 < r := by
  have p := two_pow_pos j
  unfold Dy at h
  have hk : (0 : Rat) < (k : Rat) := by exact_mod_cast h0
  refine Rat.not_le.mp fun z => ?_
  have := Rat.mul_nonneg (show 0 ≤ -r by grind) (Rat.le_of_lt p)
  grind
theorem dy_nn {j : Nat} {k : Int} {r : Rat} (h : Dy j k r) (h0 : 0 ≤ k) : 0 ≤ r := by
  by_cases z : k = 0
  · subst z
    rw [dy_div h]
    simp
  · exact Rat.le_of_lt (dy_pos h (by omega))
theorem dy_le {j : Nat} {k : Int} {r : Rat} (h : Dy j k r) (h1 : k ≤ 2 ^ j) : r ≤ 1 := by
  have h2 : Dy j (2 ^ j - k) (1 - r) := by
    unfold Dy at h ⊢
    rw [Rat.intCast_sub, ← h]
    grind
  have := dy_nn h2 (by omega)
  grind
theorem dy_lt {j : Nat} {k : Int} {r : Rat} (h : Dy j k r) (h1 : k < 2 ^ j) : r < 1 := by
  have h2 : Dy j (2 ^ j - k) (1 - r) := by
    unfold Dy at h ⊢
    rw [Rat.intCast_sub, ← h]
    grind
  have := dy_pos h2 (by omega)
  grind
theorem stp_dy (ds : List (Rat × Rat)) : ∀ j, ∃ k : Int, 0 ≤ k ∧ k < 2 ^ j ∧ Dy j k (stp ds j).1 ∧ Dy j (k + 1) (stp ds j).2
  | 0 => ⟨0, by decide, by decide, by unfold Dy stp; decide +kernel, by unfold Dy stp; decide +kernel⟩
  | j + 1 => by
    obtain ⟨k, h0, h1, h2, h3⟩ := stp_dy ds j
    have hm := dy_mid h2 h3
    have e : (2 : Int) ^ (j + 1) = 2 ^ j * 2 := Int.pow_succ ..
    unfold stp
    split
    · exact ⟨2 * k + 1, by omega, by omega, hm, by have := dy_succ h3; rw [show 2 * k + 1 + 1 = 2 * (k + 1) by omega]; exact this⟩
    · exact ⟨2 * k, by omega, by omega, dy_succ h2, hm⟩
/-- a share that a mix of two may have -/
def Sh1 (r : Rat) : Prop := Sz 8 r ∧ 0 ≤ r ∧ r ≤ 1
abbrev VI.stretch : VI := VI.ex (α := { p : Rat × Rat // Sh1 p.1 ∧ Sh1 p.2 }) fun p => VI.tup [VI.num p.1.1, VI.num p.1.2]
theorem stp_ok (ds : List (Rat × Rat)) {j : Nat} (hj : j ≤ 6) : Sh1 (stp ds j).1 ∧ Sh1 (stp ds j).2 ∧ Sh1 (mid (stp ds j)) ∧ 0 < mid (stp ds j) ∧ mid (stp ds j) < 1 := by
  obtain ⟨k, h0, h1, h2, h3⟩ := stp_dy ds j
  have hm := dy_mid h2 h3
  have e : (2 : Int) ^ (j + 1) = 2 ^ j * 2 := Int.pow_succ ..
  exact ⟨⟨(dy_sz h2 h0 (by omega)).mono (by omega), dy_nn h2 h0, dy_le h2 (by omega)⟩, ⟨(dy_sz h3 (by omega) (by omega)).mono (by omega), dy_nn h3 (by omega), dy_le h3 (by omega)⟩, ⟨(dy_sz hm (by omega) (by omega)).mono (by omega), dy_nn hm (by omega), dy_le hm (by omega)⟩, dy_pos hm (by omega), dy_lt hm (by omega)⟩
theorem rows2 (ds : List (Rat × Rat)) : rows (ds.map fun y => [y.1, y.2]) = ds.map fun y => VI.tup [VI.num y.1, VI.num y.2] := by rw [rows, List.map_map]; rfl
section
variable {P : Program} {w : World} {K : PySem.W.Frag} {mg : Str → Option Value} {base : Heap} (T : Tx K mg)
include T
theorem ok_best_stretch : Fq P w K mg base "best_stretch" 8 ["market", "times"] [] (spV (fun ds : List (Rat × Rat) => D2 ds) (fun ds => [.lst (rows (ds.map fun y => [y.1, y.2])), ei 6]) (fun _ => VI.stretch)) :=
  fq_V T.x_best_stretch sc_best_stretch (fun _ _ _ _ _ _ us hl => match us, hl with | [_, _], _ => rfl) (fun _ => rfl) fun cdv A outer s H E hr ds ⟨h0, h1⟩ => by
    have h0 : ds.length ≤ 4 := h0
    refine g_cons (g_set 2 sc_best_stretch.nd (P := VI.tup (ds.map fun y => VI.tup [VI.num y.1, VI.num y.2])) ((ev_call (ok_need_market T) hr (ds.map fun y => [y.1, y.2], 2) ⟨by rw [List.length_map]; omega, fun rs hrs => ?_, List.all_eq_true.mpr fun rs hrs => ?_⟩ (ea_cons (vE 0) (ea_cons e_int ea_nil))).to (by rw [rows2]))) ?_
    · obtain ⟨y, _, rfl⟩ := List.mem_map.mp hrs
      exact Nat.le_of_ble_eq_true rfl
    · obtain ⟨y, hy, rfl⟩ := List.mem_map.mp hrs
      obtain ⟨_, _, n1, n2, _⟩ := h1 y hy
      show rowB [y.1, y.2] 2 = true
      rw [rowB, List.all_eq_true.mpr fun r hr => ?_]
      · rfl
      · rcases List.mem_cons.mp hr with rfl | hr
        · exact decide_eq_true (Rat.num_nonneg.mpr n1)
        · rw [List.mem_singleton.mp hr]
          exact decide_eq_true (Rat.num_nonneg.mpr n2)
    refine g_cons (g_drop (ev_call (ok_need_integer T) (hr.mono (by decide)) (6, 0, 60) (by decide) (ea_cons (vE 1) (ea_cons (EV.any e_str) (ea_cons e_int (ea_cons (e_gInt T.c_MOST_HALVED) ea_nil)))))) ?_
    refine g_cons (g_not ((t_val (e_any T.bl (ns := ds.map fun _ => false) rfl (EF.v ((ef_lc (own := [("day", 8)]) (xs := ds) (F := fun y => VI.tup [VI.num y.1, VI.num y.2]) (G := fun _ => VI.bl false) (Γe := fun y => [.e (.lst (rows (ds.map fun y => [y.1, y.2]))), .e (ei 6), .i (VI.tup (ds.map fun y => VI.tup [VI.num y.1, VI.num y.2])), .u, .u, .u, .u, .u, .i (VI.tup [VI.num y.1, VI.num y.2])]) rfl sc_best_stretch.nd (blkOk_by (N := nm_best_stretch) (sc := defScope st_best_stretch) (by decide +kernel))
      (it_tup (vI 2) rfl) (by omega) (fun s h C cl fp y hy => tg_name 8 sc_best_stretch.nd) (fun s h C cl fp y hy => (e_eqD (d := .tuple [dN y.1, dN y.2]) (e := .tuple [.int 0, .int 0]) (roomU hr) (vI (P := VI.tup [VI.num y.1, VI.num y.2]) 8) (e_tup (ei_cons e_int (ei_cons e_int ei_nil))) (fun H v q => ?_) (fun H v q => ?_) ?_ rfl).to ?_)).to (by rw [List.map_map]; rfl))))).to ?_)) ?_
    · obtain ⟨a, xs, rfl, z1, z2⟩ := q
      cases z2 with
      | cons r1 t =>
        cases t with
        | cons r2 t =>
          cases t
          exact .tup (.inl (.inl z1)) (.cons (dp_num r1) (.cons (dp_num r2) .nil))
    · obtain ⟨a, xs, rfl, z1, z2⟩ := q
      cases z2 with
      | cons r1 t =>
        cases t with
        | cons r2 t =>
          cases t
          exact .tup (.inl (.inl z1)) (.cons (dp_int r1) (.cons (dp_int r2) .nil))
    · unfold dN
      split <;> split <;> rfl
    · obtain ⟨_, _, _, _, nz⟩ := h1 y hy
      have e0 : PyData.int 0 = dN 0 := by
        unfold dN
        exact (if_pos (show (0 : Rat).den = 1 from rfl)).symm
      show eb (PyData.eqv (dN y.1) (.int 0) && (PyData.eqv (dN y.2) (.int 0) && true)) = eb false
      rw [e0, eqv_num, eqv_num]
      by_cases z1 : y.1 = 0
      · rw [decide_eq_false fun z2 : y.2 = 0 => nz ⟨z1, z2⟩]
        simp
      · rw [decide_eq_false z1]
        rfl
    · rw [List.any_map]
      exact List.any_eq_false.mpr fun _ _ => by simp
    refine g_cons (g_asg (vs := [3, 4]) (P := VI.tup [VI.num 0, VI.num 1]) (e_tup (ei_cons (e_int.imp fun H v q => num_of_int rfl q) (ei_cons (e_int.imp fun H v q => num_of_int rfl q) ei_nil))) (tg_tup rfl (tgs_cons (tg_name 3 sc_best_stretch.nd) (tgs_cons (tg_name 4 sc_best_stretch.nd) tgs_nil)))) ?_
    refine g_cons (g_for (vs := [5]) PassesOwn.never rfl (fun pre : List Nat => [.e (.lst (rows (ds.map fun y => [y.1, y.2]))), .e (ei 6), .i (VI.tup (ds.map fun y => VI.tup [VI.num y.1, VI.num y.2])), .i (VI.num (stp ds pre.length).1), .i (VI.num (stp ds pre.length).2), .u, .u, .u, .u]) (fun pre a => [.e (.lst (rows (ds.map fun y => [y.1, y.2]))), .e (ei 6), .i (VI.tup (ds.map fun y => VI.tup [VI.num y.1, VI.num y.2])), .i (VI.num (stp ds pre.length).1), .i (VI.num (stp ds pre.length).2), .i (VI.int (a : Int)), .u, .u, .u]) (it_range T.bl (k := 6) (vE 1) (by decide)) (fun pre a post _ => tg_name 5 sc_best_stretch.nd) (fun pre a post e => ?_)) (g_one (g_ret ((e_tup (ei_cons (vI (P := VI.num (stp ds (List.range 6).length).1) 3) (ei_cons (vI (P := VI.num (stp ds (List.range 6).length).2) 4) ei_nil))).imp fun H v q => ⟨⟨stp ds 6, (stp_ok ds (by decide)).1, (stp_ok ds (by decide)).2.1⟩, q⟩)))
    obtain ⟨e1, e2, e3⟩ := idx_mid e
    obtain ⟨k1, k2, k3, k4, k5⟩ := stp_ok ds (j := pre.length) (by omega)
    have k6 : Sz 20 ((stp ds pre.length).1 + (stp ds pre.length).2) := (k1.1.add k2.1).mono (by decide)
    refine g_cons (g_set 6 sc_best_stretch.nd (P := VI.num (mid (stp ds pre.length))) (ev_call (ok_product T) (hr.mono (by decide)) (Rat.divInt 1 2, (stp ds pre.length).1 + (stp ds pre.length).2) ⟨Sz.mono (b := 4000) (Sz.div (a := 1) (b := 2) (k := 4) (by decide) (by decide) (by decide)) (by decide), k6.mono (by decide)⟩ (ea_cons ((e_tup (ei_cons (P := VI.int 1) e_int (ei_cons (P := VI.int 2) e_int ei_nil))).imp fun H v q => num_of_tup (r := Rat.divInt 1 2) (by decide +kernel) q) (ea_cons (ev_call (ok_added T) (hr.mono (by decide)) ((stp ds pre.length).1, (stp ds pre.length).2) ⟨k1.1.mono (by decide), k2.1.mono (by decide)⟩ (ea_cons (vI 3) (ea_cons (vI 4) ea_nil))) ea_nil)))) ?_
    refine g_cons (g_set 7 sc_best_stretch.nd (ev_call (ok_rising T) (hr.mono (by decide)) (ds, mid (stp ds pre.length)) ⟨⟨h0, h1⟩, k3.1, k4, k5⟩ (ea_cons (vI 2) (ea_cons (vI 6) ea_nil)))) ?_
    refine g_ifR (t_eqI (vI 7) e_int) (fun _ => g_one (g_ret ((e_tup (ei_cons (vI (P := VI.num (mid (stp ds pre.length))) 6) (ei_cons (vI (P := VI.num (mid (stp ds pre.length))) 6) ei_nil))).imp fun H v q => ⟨⟨(mid (stp ds pre.length), mid (stp ds pre.length)), k3, k3⟩, q⟩))) fun _ => ?_
    refine g_one ((g_asg (vs := [3, 4]) (P := VI.tup [VI.num (stp ds (pre.length + 1)).1, VI.num (stp ds (pre.length + 1)).2]) (e_if (t_gt (vI 7) e_int) (fun hk => ?_) (fun hk => ?_)) (tg_tup rfl (tgs_cons (tg_name 3 sc_best_stretch.nd) (tgs_cons (tg_name 4 sc_best_stretch.nd) tgs_nil)))).toLe ⟨rfl, fun i U hi => ?_⟩)
    · have hk := of_decide_eq_true hk
      rw [stp_pos hk]
      exact e_tup (ei_cons (vI 6) (ei_cons (vI 4) ei_nil))
    · have hk := of_decide_eq_false hk
      rw [stp_neg hk]
      exact e_tup (ei_cons (vI 3) (ei_cons (vI 6) ei_nil))
    · rw [List.length_append, List.length_singleton] at hi
      match i, hi with
      | 0, hi => exact .inr hi
      | 1, hi => exact .inr hi
      | 2, hi => exact .inr hi
      | 3, hi => exact .inr hi
      | 4, hi => exact .inr hi
      | 5, hi => exact .inl (Option.some.inj hi).symm
      | 6, hi => exact .inl (Option.some.inj hi).symm
      | 7, hi => exact .inl (Option.some.inj hi).symm
      | 8, hi => exact .inl (Option.some.inj hi).symm
end
end K8
end
section
set_option Elab.async false
set_option linter.all false
set_option maxRecDepth 100000
set_option maxHeartbeats 1000000
set_option autoImplicit false
namespace K8
open PySem L2
open Evl (Ex)
/-! Expressions that change things of their own: all else stays. -/
def ES (S : Addr → Prop) (H H' : Hp) : Prop := ∀ b o, ¬ S b → H b = some o → H' b = some o
theorem ES.of {S : Addr → Prop} {H H' : Hp} (e : Ex H H') : ES S H H' := fun b o _ h => e b o h
theorem ES.trans {S : Addr → Prop} {H H' H'' : Hp} (a : ES S H H') (b : ES S H' H'') : ES S H H'' := fun c o n h => b c o n (a c o n h)
/-- what is known of such things (S) and of what it rests on (U) -/
structure JOk (S U : Addr → Prop) (J : Hp → Prop) : Prop where
  su : ∀ a, S a → U a
  mono' : ∀ {H H' : Hp}, ExI H H' → (∀ b o, U b → H b = some o → H' b = some o) → J H → J H'
  ex : ∀ {H : Hp}, J H → ∀ a, U a → ∃ o, H a = some o ∧ (S a → ¬ Stab o)
theorem JOk.mono {S U : Addr → Prop} {J : Hp → Prop} (jo : JOk S U J) {H H' : Hp} (e : Ex H H') (j : J H) : J H' := jo.mono' (.of e) (fun b o _ h => e b o h) j
theorem JOk.ns {S U : Addr → Prop} {J : Hp → Prop} (jo : JOk S U J) {H : Hp} (j : J H) (a : Addr) (s : S a) : ∃ o, H a = some o ∧ ¬ Stab o := by
  obtain ⟨o, h, n⟩ := jo.ex j a (jo.su a s)
  exact ⟨o, h, n s⟩
structure FS (S U : Addr → Prop) (J : Hp → Prop) (Γ : Ctx) (H0 H1 : Hp) (σ : St) (H : Hp) : Prop where
  f : Fit H0 H1 Γ σ H
  nx : ∀ a, S a → H1 a = none
  no : ∀ a, U a → ¬ Own Γ σ a
  j : J H
section
variable {S U : Addr → Prop} {J J1 J2 J3 : Hp → Prop} {Γ : Ctx} {H0 H1 H H2 : Hp} {σ : St}
theorem exI_es (jo : JOk S U J) (j : J H) (e : ES S H H2) : ExI H H2 := fun a o h st => by
  by_cases s : S a
  · obtain ⟨o', h', ns⟩ := jo.ns j a s
    rw [h] at h'
    cases h'
    exact absurd st ns
  · exact e a o s h
theorem Fit.es (f : Fit H0 H1 Γ σ H) (nx : ∀ a, S a → H1 a = none) (no : ∀ a, S a → ¬ Own Γ σ a) (x : ExI H H2) (e : ES S H H2) : Fit H0 H1 Γ σ H2 := by
  refine ⟨f.b, fun a o h => e a o (fun s => by rw [nx a s] at h; cases h) (f.ex a o h), f.len, fun i T h => ?_, f.ap⟩
  rcases f.ok i T h with z | ⟨v, h1, h2⟩
  · exact .inl z
  · refine .inr ⟨v, h1, ?_⟩
    cases T with
    | u => trivial
    | i P => exact P.mono x h2
    | e P => exact h2
    | f P => exact h2
    | o Ps =>
      obtain ⟨p, xs, rfl, a1, a2, a3⟩ := h2
      exact ⟨p, xs, rfl, a1, e p _ (fun s => no p s ⟨i, Ps, h, h1⟩) a2, a3.mono x⟩
theorem FS.es (jo : JOk S U J) (h : FS S U J Γ H0 H1 σ H) (e : ES S H H2) (j2 : J2 H2) : FS S U J2 Γ H0 H1 σ H2 := ⟨h.f.es h.nx (fun a s => h.no a (jo.su a s)) (exI_es jo h.j e) e, h.nx, h.no, j2⟩
theorem FS.mono (jo : JOk S U J) (h : FS S U J Γ H0 H1 σ H) (e : Ex H H2) : FS S U J Γ H0 H1 σ H2 := ⟨h.f.mono e, h.nx, h.no, jo.mono e h.j⟩
end
def EVS (S U : Addr → Prop) (J J' : Hp → Prop) (X : Cx) (e : Expr) (Γ : Ctx) (P : VI) : Prop := ∀ (H0 H1 : Hp) (σ : St) (H : Hp), FS S U J Γ H0 H1 σ H → ∀ Q : VK, (∀ v H2, ES S H H2 → J' H2 → P.ok H2 v → Q v H2) → wE X e σ H Q
/-- a new list -/
def EFS (S U : Addr → Prop) (J J' : Hp → Prop) (X : Cx) (e : Expr) (Γ : Ctx) (Ps : List VI) : Prop := ∀ (H0 H1 : Hp) (σ : St) (H : Hp), FS S U J Γ H0 H1 σ H → ∀ Q : VK, (∀ p xs H2, ES S H H2 → J' H2 → H p = none → H2 p = some (.lst xs) → Oks Ps H2 xs → Q (.ref p) H2) → wE X e σ H Q
/-- a list that is none of the changing things -/
def ELS (S U : Addr → Prop) (J J' : Hp → Prop) (X : Cx) (e : Expr) (Γ : Ctx) (Ps : List VI) : Prop := ∀ (H0 H1 : Hp) (σ : St) (H : Hp), FS S U J Γ H0 H1 σ H → ∀ Q : VK, (∀ p xs H2, ES S H H2 → J' H2 → ¬ S p → H2 p = some (.lst xs) → Oks Ps H2 xs → Q (.ref p) H2) → wE X e σ H Q
def EIS (S U : Addr → Prop) (J J' : Hp → Prop) (X : Cx) (es : List Expr) (Γ : Ctx) (Ps : List VI) : Prop := ∀ (H0 H1 : Hp) (σ : St) (H : Hp), FS S U J Γ H0 H1 σ H → ∀ Q : List V → Hp → Prop, (∀ vs H2, ES S H H2 → J' H2 → Oks Ps H2 vs → Q vs H2) → wA X es σ H Q
section
variable {S U : Addr → Prop} {J J1 J2 J3 : Hp → Prop} {X : Cx} {Γ : Ctx} {pos p : Pos} {e a b : Expr} {es : List Expr}
theorem EV.s {P : VI} (jo : JOk S U J) (h : EV X e Γ P.p) : EVS S U J J X e Γ P := fun H0 H1 σ H f Q q => h H0 H1 σ H f.f Q fun v H2 e2 r => q v H2 (.of e2) (jo.mono e2 f.j) r
theorem EVS.imp {P P' : VI} (h : EVS S U J J1 X e Γ P) (k : ∀ H v, P.ok H v → P'.ok H v) : EVS S U J J1 X e Γ P' := fun H0 H1 σ H f Q q => h H0 H1 σ H f Q fun v H2 e2 j r => q v H2 e2 j (k H2 v r)
theorem EVS.to {P P' : VI} (h : EVS S U J J1 X e Γ P) (k : P = P') : EVS S U J J1 X e Γ P' := k ▸ h
theorem EFS.l (jo : JOk S U J) {Ps : List VI} (h : EFS S U J J1 X e Γ Ps) : ELS S U J J1 X e Γ Ps := fun H0 H1 σ H f Q q => h H0 H1 σ H f Q fun p xs H2 e2 j n h2 k => q p xs H2 e2 j (fun s => by
  obtain ⟨o, z, _⟩ := jo.ns f.j p s
  rw [n] at z
  cases z) h2 k
theorem ls_own (jo : JOk S U J) (i : Nat) {x : Str} {Ps : List VI} (hΓ : Γ[i]? = some (.o Ps) := by rfl) (hN : X.N[i]? = some x := by rfl) (hv : Vis X.env.scope x := by first | exact Or.inl rfl | exact Or.inr (Or.inl rfl) | exact Or.inr (Or.inr rfl)) (hd : (x == ("__debug__" : Str)) = false := by decide) (hcd : (x == ("__classdict__" : Str)) = false := by decide) : ELS S U J J X (.Name x pos) Γ Ps := fun H0 H1 σ H f Q q => by
  obtain ⟨v, s1, p, xs, rfl, n, h1, h2⟩ := f.f.get hΓ (by simp)
  exact wE_of (pe_var hN hv hd hcd) ⟨_, s1, q p xs H (fun _ _ _ h => h) f.j (fun s => f.no p (jo.su p s) ⟨i, Ps, hΓ, s1⟩) h1 h2⟩
theorem is_nil : EIS S U J J X [] Γ [] := fun _ _ σ H f Q q => wA_of pa_nil (q [] H (fun _ _ _ h => h) f.j .nil)
theorem is_cons {P : VI} {Ps : List VI} (jo : JOk S U J) (jo1 : JOk S U J1) (h : EVS S U J J1 X e Γ P) (hr : EIS S U J1 J2 X es Γ Ps) (hs : starEach (e :: es) X.env = (false, eval e X.env) :: starEach es X.env := by rfl) : EIS S U J J2 X (e :: es) Γ (P :: Ps) := fun H0 H1 σ H f Q q =>
  wA_of (pa_cons pe_w pa_w hs) (h H0 H1 σ H f _ fun v H2 e2 j2 r2 => hr H0 H1 σ H2 (f.es jo e2 j2) _ fun vs H3 e3 j3 r3 => q _ H3 (e2.trans e3) j3 (.cons (P.mono (exI_es jo1 j2 e3) r2) r3))
theorem fs_lst {Ps : List VI} (jo : JOk S U J) (jo1 : JOk S U J1) (h : EIS S U J J1 X es Γ Ps) (hl : Ps.length ≤ 1000 := by exact Nat.le_of_ble_eq_true rfl) : EFS S U J J1 X (.List es pos) Γ Ps := fun H0 H1 σ H f Q q =>
  wE_of (pe_lst pa_w) (h H0 H1 σ H f _ fun vs H2 e2 j2 r2 => ⟨by rw [← r2.len]; exact Nat.le_trans hl (by decide), fun p hp => q p vs _ (e2.trans (.of (Evl.Ex.new hp))) (jo1.mono (Evl.Ex.new hp) j2) (by
    cases z : H p with
    | none => rfl
    | some o =>
      by_cases s : S p
      · obtain ⟨o', z', _⟩ := jo1.ns j2 p s
        rw [hp] at z'
        cases z'
      · have := e2 p o s z
        rw [hp] at this
        cases this) upd_same (r2.mono (.of (Evl.Ex.new hp)))⟩)
theorem vs_add {ι κ : Type} {F : ι → Int} {G : κ → Int} (jo : JOk S U J) (jo1 : JOk S U J1) (ha : EVS S U J J1 X a Γ (VI.ex fun i => VI.int (F i))) (hb : EVS S U J1 J2 X b Γ (VI.ex fun i => VI.int (G i))) : EVS S U J J2 X (.BinOp a .Add b pos) Γ (VI.ex fun z : ι × κ => VI.int (F z.1 + G z.2)) := fun H0 H1 σ H f Q q =>
  wE_of (pe_op op_add pe_w pe_w) (ha H0 H1 σ H f _ fun x H2 e2 j2 ⟨i, r2⟩ => hb H0 H1 σ H2 (f.es jo e2 j2) _ fun y H3 e3 j3 ⟨k, r3⟩ => r_I0 (m := F i) (n := G k) r2 r3 (q _ H3 (e2.trans e3) j3 ⟨(i, k), rfl⟩))
/-- a call: what is called tells what it asks and gives -/
theorem vs_call {P : VI} {Ps : List VI} {x : Str} {k : Nat} {ps : List Str} {dvs : List V} {sp : Sp} (F : Fq X.prog X.w X.K X.mg X.base x k ps dvs sp) (hr : Room k X.A) (jo : JOk S U J) (ha : EIS S U J J1 X (e :: es) Γ Ps) (hs : ∀ vs H2 Q, Oks Ps H2 vs → J1 H2 → (∀ v H3, ES S H2 H3 → J2 H3 → P.ok H3 v → Q v H3) → sp (vs ++ dvs) H2 Q E0) (hg : Gl X x := by rfl)
    (hdb : (x == ("__debug__" : Str)) = false := by decide) (he : starEach (e :: es) X.env = (false, eval e X.env) :: starEach es X.env := by rfl) (hpl : (backTo pos (starEach es X.env)).any (·.1) = false := by rfl) : EVS S U J J2 X (.Call (.Name x p) (e :: es) [] pos) Γ P := fun H0 H1 σ H f Q q => by
  obtain ⟨fa, fd, ds, G, mf, kp, bd, vd⟩ := F.ex
  exact wE_of (pe_call G hr hg mf kp bd vd pass0 pa_w hdb he hpl) (ha H0 H1 σ H f _ fun vs H2 e2 j2 r2 => hs vs H2 Q r2 j2 fun v H3 e3 j3 r3 => q v H3 (e2.trans e3) j3 r3)
/-- a pure call of such arguments -/
theorem vs_callV {ι : Type} {pre : ι → Prop} {args : ι → List VP} {res : ι → VI} {P : VI} {Ps : List VI} {x : Str} {k : Nat} {ps : List Str} {dvs : List V} (F : Fq X.prog X.w X.K X.mg X.base x k ps dvs (spV pre args res)) (hr : Room k X.A) (jo : JOk S U J) (jo1 : JOk S U J1) (ha : EIS S U J J1 X (e :: es) Γ Ps) (hs : ∀ vs H2, Oks Ps H2 vs → ∃ i, pre i ∧ Pks (args i) H2 (vs ++ dvs) ∧ ∀ v H3, (res i).ok H3 v → P.ok H3 v) (hg : Gl X x := by rfl)
    (hdb : (x == ("__debug__" : Str)) = false := by decide) (he : starEach (e :: es) X.env = (false, eval e X.env) :: starEach es X.env := by rfl) (hpl : (backTo pos (starEach es X.env)).any (·.1) = false := by rfl) : EVS S U J J1 X (.Call (.Name x p) (e :: es) [] pos) Γ P :=
  vs_call F hr jo ha (fun vs H2 Q r2 j2 q => by
    obtain ⟨i, h1, h2, h3⟩ := hs vs H2 r2
    exact ⟨i, h1, h2, fun v H3 e3 r3 => q v H3 (.of e3) (jo1.mono e3 j2) (h3 v H3 r3)⟩) hg hdb he hpl
/-- tuple(a new list) -/
theorem vs_tupL (M : Bl X.mg) (jo : JOk S U J) (jo1 : JOk S U J1) {Ps : List VI} (h : EFS S U J J1 X e Γ Ps) (hg : Gl X "tuple" := by rfl) (he : starEach [e] X.env = (false, eval e X.env) :: starEach [] X.env := by rfl) (hpl : (backTo pos (starEach [] X.env)).any (·.1) = false := by rfl) : EVS S U J J1 X (.Call (.Name "tuple" p) [e] [] pos) Γ (VI.tup Ps) := fun H0 H1 σ H f Q q =>
  wE_of (pe_callTy call_tuple_of hg M.tuple (by decide +kernel) (pa_cons pe_w pa_nil he) (by decide) (by decide) he hpl) (h H0 H1 σ H f _ fun c us H2 e2 j2 n h2 k2 => ⟨c, us, rfl, .inl ⟨.of h2, fun l hl => q _ _ (e2.trans (.of (Evl.Ex.new hl))) (jo1.mono (Evl.Ex.new hl) j2) ⟨l, us, rfl, upd_same, k2.mono (.of (Evl.Ex.new hl))⟩⟩⟩)
end
end K8
end
section
set_option Elab.async false
set_option linter.all false
set_option maxRecDepth 100000
set_option maxHeartbeats 1000000
set_option autoImplicit false
namespace K8
open PySem L2
open Evl (Ex)
def VI.never : VI := ⟨fun _ _ => False, fun _ h => h⟩
abbrev RK := V → Hp → Prop
def GTS (S U : Addr → Prop) (J : Hp → Prop) (X : Cx) (st : Stmt) (Γ : Ctx) (N : NK) (R : RK) : Prop := ∀ (H0 H1 : Hp) (σ : St) (H : Hp), FS S U J Γ H0 H1 σ H → ∀ D : Ends, (∀ σ' H', N H0 H1 σ' H' → D.nx σ' H') → (∀ v H', Ex H0 H' → R v H' → D.rt v H') → wS X st D σ H
def GSS (S U : Addr → Prop) (J : Hp → Prop) (X : Cx) (sts : List Stmt) (Γ : Ctx) (N : NK) (R : RK) : Prop := ∀ (H0 H1 : Hp) (σ : St) (H : Hp), FS S U J Γ H0 H1 σ H → ∀ D : Ends, (∀ σ' H', N H0 H1 σ' H' → D.nx σ' H') → (∀ v H', Ex H0 H' → R v H' → D.rt v H') → wSs X sts D σ H
def nextS (S U : Addr → Prop) (J : Hp → Prop) (Γ : Ctx) : NK := fun H0 H1 σ H => FS S U J Γ H0 H1 σ H
section
variable {S U : Addr → Prop} {J J1 J2 J3 : Hp → Prop} {X : Cx} {Γ Γ' : Ctx} {pos : Pos} {e c : Expr} {st : Stmt} {sts A B : List Stmt} {N : NK} {R : RK} {H0 H1 H : Hp} {σ : St}
theorem FS.setI {P : VI} {v : V} (h : FS S U J Γ H0 H1 σ H) (i : Nat) (k : P.ok H v) : FS S U J (Γ.set i (.i P)) H0 H1 (σ.set i (some v)) H := ⟨h.f.setI i k, h.nx, fun a s ⟨j, Ps, h1, h2⟩ => by
  have jl : j < Γ.length := by
    have := (List.getElem?_eq_some_iff.mp h1).1
    simpa using this
  by_cases z : j = i
  · subst z
    rw [List.getElem?_set_self jl] at h1
    cases h1
  · rw [List.getElem?_set_ne (Ne.symm z)] at h1 h2
    exact h.no a s ⟨j, Ps, h1, h2⟩, h.j⟩
/-- by another base that holds what is rested on -/
theorem FS.base (jo : JOk S U J) (h : FS S U J Γ H0 H1 σ H) : Fit H0 (K8.base Γ σ H) Γ σ H ∧ ExI H (K8.base Γ σ H) ∧ (∀ a, U a → ∃ o, K8.base Γ σ H a = some o ∧ H a = some o) := ⟨h.f.rebase, exI_base h.f, fun a u => by
  obtain ⟨o, z, _⟩ := jo.ex h.j a u
  exact ⟨o, by rw [base_in (h.no a u)]; exact z, z⟩⟩
theorem FS.back (jo : JOk S U J) {B : Hp} {Γ' : Ctx} {σ' : St} {H' : Hp} (h : FS S U J Γ H0 H1 σ H) (hB : ExI H B ∧ ∀ a, U a → ∃ o, B a = some o ∧ H a = some o) (eB : Ex H1 B) (f : Fit H0 B Γ' σ' H') : FS S U J (Γ'.map Ty.dem) H0 H1 σ' H' := by
  refine ⟨f.unbase h.f.b eB, h.nx, fun a u ⟨i, Ps, h1, h2⟩ => ?_, jo.mono' (hB.1.trans (.of f.ex)) (fun b o u z => ?_) h.j⟩
  · have up : Γ'[i]? = some (.o Ps) := by
      rw [List.getElem?_map] at h1
      cases q : Γ'[i]? with
      | none =>
        rw [q] at h1
        cases h1
      | some T =>
        rw [q] at h1
        cases T <;> first | (cases h1; rfl) | cases h1
    have n := (f.own ⟨i, Ps, up, h2⟩).1
    obtain ⟨o, z, _⟩ := hB.2 a u
    rw [n] at z
    cases z
  · obtain ⟨o', z1, z2⟩ := hB.2 b u
    rw [z2] at z
    cases z
    exact f.ex b _ z1
theorem s_cons (h1 : GTS S U J X st Γ (nextS S U J1 Γ') R) (h2 : GSS S U J1 X sts Γ' N R) : GSS S U J X (st :: sts) Γ N R := fun H0 H1 σ H f D hn hr => wSs_of (pss_cons ps_w pss_w) (h1 H0 H1 σ H f { D with nx := wSs X sts D } (fun σ' H' n => h2 H0 H1 σ' H' n D hn hr) hr)
theorem s_one (h : GTS S U J X st Γ N R) : GSS S U J X [st] Γ N R := fun H0 H1 σ H f D hn hr => wSs_of (pss_one ps_w) (h H0 H1 σ H f D hn hr)
theorem s_nil : GSS S U J X [] Γ (nextS S U J Γ) R := fun H0 H1 σ H f D hn _ => wSs_of pss_nil (hn σ H f)
theorem GTS.weak {N' : NK} (h : GTS S U J X st Γ N R) (k : ∀ H0 H1 σ H, N H0 H1 σ H → N' H0 H1 σ H) : GTS S U J X st Γ N' R := fun H0 H1 σ H f D hn hr => h H0 H1 σ H f D (fun σ' H' n => hn σ' H' (k H0 H1 σ' H' n)) hr
theorem GSS.weak {N' : NK} (h : GSS S U J X sts Γ N R) (k : ∀ H0 H1 σ H, N H0 H1 σ H → N' H0 H1 σ H) : GSS S U J X sts Γ N' R := fun H0 H1 σ H f D hn hr => h H0 H1 σ H f D (fun σ' H' n => hn σ' H' (k H0 H1 σ' H' n)) hr
theorem GTS.to {Γ2 : Ctx} (h : GTS S U J X st Γ (nextS S U J1 Γ') R) (l : Γ' = Γ2) : GTS S U J X st Γ (nextS S U J1 Γ2) R := l ▸ h
theorem FS.le (h : FS S U J Γ H0 H1 σ H) (l : Le Γ' Γ) : FS S U J Γ' H0 H1 σ H := ⟨h.f.le l, h.nx, fun a u ⟨i, Ps, h1, h2⟩ => h.no a u ⟨i, Ps, (l.2 i _ h1).resolve_left (by simp), h2⟩, h.j⟩
theorem GTS.toLe {Γ2 : Ctx} (h : GTS S U J X st Γ (nextS S U J1 Γ') R) (l : Le Γ2 Γ') : GTS S U J X st Γ (nextS S U J1 Γ2) R := h.weak fun _ _ _ _ n => n.le l
theorem s_set (jo : JOk S U J) (i : Nat) {x : Str} {p : Pos} {P : VI} (hN : X.N.Nodup) (h : EVS S U J J1 X e Γ P) (hi : X.N[i]? = some x := by rfl) (hx : Loc X.env.scope x := by first | exact Or.inl rfl | exact Or.inr rfl) (hs : swapsWith e (some (.Name x p)) pos.line X.env = pure false := by rfl)
    (hf : X.fn x = true ∨ X.env.scope.names.lookup x = some .local := by first | exact .inl rfl | exact .inr rfl) : GTS S U J X (.Assign [.Name x p] e pos) Γ (nextS S U J1 (Γ.set i (.i P))) R := fun H0 H1 σ H f D hn hr =>
  wS_of (ps_set hN hi hx pe_w hs hf) (h H0 H1 σ H f _ fun v H2 e2 j2 r => hn _ H2 ((f.es jo e2 j2).setI i r))
theorem FS.setO (jo : JOk S U J) (jo1 : JOk S U J1) {Ps : List VI} {p : Addr} {xs : List V} {H' : Hp} (h : FS S U J Γ H0 H1 σ H) (e : ES S H H') (j1 : J1 H') (i : Nat) (n : H p = none) (hp : H' p = some (.lst xs)) (k : Oks Ps H' xs) : FS S U J1 (Γ.set i (.o Ps)) H0 H1 (σ.set i (some (.ref p))) H' := by
  have g := h.es jo e j1
  refine ⟨g.f.set i ⟨p, xs, rfl, Evl.fresh_back h.f.ex n, hp, k⟩ fun Qs _ j Rs hj hji sj => ?_, h.nx, fun a u ⟨j, Rs, h1, h2⟩ => ?_, j1⟩
  · obtain ⟨_, ys, q⟩ := h.f.own ⟨j, Rs, hj, sj⟩
    rw [n] at q
    cases q
  · have jl : j < Γ.length := by
      have := (List.getElem?_eq_some_iff.mp h1).1
      simpa using this
    by_cases z : j = i
    · subst z
      rw [List.getElem?_set_self (by rw [h.f.len]; exact jl)] at h2
      cases h2
      obtain ⟨o, q, _⟩ := jo.ex h.j _ u
      rw [n] at q
      cases q
    · rw [List.getElem?_set_ne (Ne.symm z)] at h1 h2
      exact h.no a u ⟨j, Rs, h1, h2⟩
theorem s_setF (jo : JOk S U J) (jo1 : JOk S U J1) (i : Nat) {x : Str} {p : Pos} {Ps : List VI} (hN : X.N.Nodup) (h : EFS S U J J1 X e Γ Ps) (hi : X.N[i]? = some x := by rfl) (hx : Loc X.env.scope x := by first | exact Or.inl rfl | exact Or.inr rfl) (hs : swapsWith e (some (.Name x p)) pos.line X.env = pure false := by rfl)
    (hf : X.fn x = true ∨ X.env.scope.names.lookup x = some .local := by first | exact .inl rfl | exact .inr rfl) : GTS S U J X (.Assign [.Name x p] e pos) Γ (nextS S U J1 (Γ.set i (.o Ps))) R := fun H0 H1 σ H f D hn hr =>
  wS_of (ps_set hN hi hx pe_w hs hf) (h H0 H1 σ H f _ fun c us H2 e2 j2 n r k => hn _ H2 (f.setO jo jo1 e2 j2 i n r k))
theorem s_ret {P : VI} (jo : JOk S U J) (h : EVS S U J J1 X e Γ P) (k : ∀ v H, J1 H → P.ok H v → R v H) : GTS S U J X (.Return (some e) pos) Γ N R := fun H0 H1 σ H f D hn hr => wS_of (ps_ret pe_w) (h H0 H1 σ H f _ fun v H2 e2 j2 r => hr v H2 (f.es jo e2 j2 |> fun g => g.f.b.trans g.f.ex) (k v H2 j2 r))
/-- what changes nothing of all that -/
theorem s_lift (jo : JOk S U J) (h : GT X st Γ (fitN Γ') (.i VI.never)) : GTS S U J X st Γ (nextS S U J (Γ'.map Ty.dem)) R := fun H0 H1 σ H f D hn hr => by
  obtain ⟨fb, hB⟩ := f.base jo
  exact h H0 _ σ H fb D (fun σ' H' n => hn σ' H' (f.back jo hB f.f.toBase n)) fun v H' _ r => r.elim
/-- a thing of some kind is opened -/
theorem s_open {ι : Type} {F : ι → VI} (i : Nat) (hΓ : Γ[i]? = some (.i (VI.ex F))) (h : ∀ a, GSS S U J X sts (Γ.set i (.i (F a))) N R) : GSS S U J X sts Γ N R := fun H0 H1 σ H f D hn hr => by
  obtain ⟨v, s1, a, r⟩ := f.f.get hΓ (by simp)
  have e : σ.set i (some v) = σ := by
    apply List.ext_getElem?
    intro k
    by_cases z : i = k
    · subst z
      rw [List.getElem?_set_self (List.getElem?_eq_some_iff.mp s1).1, s1]
    · rw [List.getElem?_set_ne z]
  have g := f.setI i r
  rw [e] at g
  exact h a H0 H1 σ H g D hn hr
theorem s_if {k : Bool} (jo : JOk S U J) (hc : ET X c Γ k) (h1 : k = true → GSS S U J X A Γ N R) (h2 : k = false → GSS S U J X B Γ N R) : GTS S U J X (.If c A B pos) Γ N R := fun H0 H1 σ H f D hn hr =>
  wS_of (ps_if pt_w pss_w pss_w) (hc H0 H1 σ H f.f _ fun H2 e2 => by
    cases k with
    | true =>
      rw [if_pos rfl]
      exact h1 rfl H0 H1 σ H2 (f.mono jo e2) D hn hr
    | false =>
      rw [if_neg Bool.false_ne_true]
      exact h2 rfl H0 H1 σ H2 (f.mono jo e2) D hn hr)
end
/-! ### comprehensions -/
section
variable {α : Type} {S U : Addr → Prop} {J : Hp → Prop} {Jn : Nat → Hp → Prop} {X : Cx} {Γ : Ctx} {xs : List α} {F G : α → VI} {pos : Pos} {elt tg iter : Expr} {scope : Scope} {own : List (Str × Nat)} {Γe : α → Ctx} {H0 H1 H2 : Hp} {σ : St} {Jt : It}
theorem own_wipe {vs : List Nat} {a : Addr} (h : Own (wipeC Γ vs) (L2.wipe σ vs) a) : Own Γ σ a := by
  obtain ⟨i, Ps, h1, h2⟩ := h
  obtain ⟨r1, s1⟩ := (wipeC_get i vs h1).resolve_left (by simp)
  rw [wipe_get, if_neg fun z => s1 z.1] at h2
  exact ⟨i, Ps, r1, h2⟩
theorem lcS_run {g : TG} {te : TE} {vs : List Nat} (jo : ∀ k, JOk S U (Jn k)) (f : FS S U (Jn 0) Γ H0 H1 σ H2) (wk : ∀ B, Wk B Jt xs F) (hl : xs.length ≤ 100000) (hd : ∀ a ∈ xs, (Γe a).map Ty.dem = Γe a)
    (hg : ∀ a ∈ xs, ∀ (H1 : Hp) v H3, Fit H0 H1 (wipeC Γ vs) (L2.wipe σ vs) H3 → (F a).ok H3 v → ∀ Q : St → Hp → Prop, (∀ σ' H', Ex H3 H' → Fit H0 H1 (Γe a) σ' H' → σ'.length = (L2.wipe σ vs).length → (∀ k, k ∉ vs → σ'[k]? = (L2.wipe σ vs)[k]?) → Q σ' H') → g v (L2.wipe σ vs) H3 Q)
    (he : ∀ k, k < xs.length → ∀ a ∈ xs, ∀ σ' H', FS S U (Jn k) (Γe a) H0 H1 σ' H' → ∀ Q : VK, (∀ v H'', ES S H' H'' → Jn (k + 1) H'' → (G a).ok H'' v → Q v H'') → te σ' H' Q)
    (D : Addr) (hD : H2 D = none) {Qd : Hp → Prop} (hq : ∀ H' acc, ES S H2 H' → Jn xs.length H' → H' D = some (.lst acc) → Oks (xs.map G) H' acc → Qd H') :
    ∃ W : Nat → Nat → Hp → Prop, (∃ m, W 0 m (upd H2 D (.lst []))) ∧ ∀ i m H, W i m H →
      (Jt.stop i H ∧ Qd H) ∨ (Jt.go i H ∧ ∃ Nx : Hp → Prop, (∀ H', Nx H' → ∃ m', m' < m ∧ W (i + 1) m' H') ∧ ∀ x H', Jt.yld i H x H' → g x (L2.wipe σ vs) H' fun σ2 H2 => L2.wipe σ2 vs = L2.wipe σ vs ∧ tYes σ2 H2 fun b H3 =>
        if b = true then te σ2 H3 fun y H4 => ∃ acc, H4 D = some (.lst acc) ∧ acc.length < sizeLine ∧ Nx (upd H4 D (.lst (acc ++ [y]))) else Nx H3) := by
  have DU : ¬ U D := fun u => by
    obtain ⟨o, z, _⟩ := (jo 0).ex f.j D u
    rw [hD] at z
    cases z
  have DS : ¬ S D := fun s => DU ((jo 0).su D s)
  let Pv : Nat → Hp → Prop := fun k H => ES S H2 H ∧ Jn k H ∧ ∃ acc, H D = some (.lst acc) ∧ Oks ((xs.take k).map G) H acc
  refine ⟨fun k m H => m = xs.length - k ∧ k ≤ xs.length ∧ Pv k H, ⟨_, rfl, Nat.zero_le _, .of (Evl.Ex.new hD), (jo 0).mono (Evl.Ex.new hD) f.j, [], upd_same, .nil⟩, ?_⟩
  rintro k m H ⟨rfl, hk, eh, jk, acc, ha, ka⟩
  by_cases hlt : k < xs.length
  · refine .inr ⟨(wk H).go k H hlt Ex.r, Pv (k + 1), fun H' q => ⟨xs.length - (k + 1), by omega, rfl, hlt, q⟩, fun v H3 y => ?_⟩
    obtain ⟨e3, a, ga, ra⟩ := (wk H).yld k H v H3 hlt Ex.r y
    have hm : a ∈ xs := List.mem_of_getElem? ga
    have ts : xs.take (k + 1) = xs.take k ++ [a] := take_snoc ga
    have f3 : FS S U (Jn k) Γ H0 H1 σ H3 := (f.es (jo 0) eh jk).mono (jo k) e3
    have f4 : FS S U (Jn k) (wipeC Γ vs) H0 H1 (L2.wipe σ vs) H3 := ⟨f3.f.wipe vs, f3.nx, fun b u o => f3.no b u (own_wipe o), f3.j⟩
    obtain ⟨fb, hB⟩ := f4.base (jo k)
    refine hg a hm _ v H3 fb ra _ fun σ2 H4 e4 f5 l5 g5 => ⟨wipe_same (l5.trans (wipe_length _ _)) g5, ?_⟩
    have f6 := f4.back (jo k) hB f4.f.toBase f5
    rw [hd a hm] at f6
    show te σ2 H4 _
    refine he k hlt a hm σ2 H4 f6 _ fun w H5 e5 j5 r5 => ?_
    have h5 : H5 D = some (.lst acc) := e5 D _ DS ((e3.trans e4) _ _ ha)
    refine ⟨acc, h5, ?_, ?_⟩
    · have la := ka.len
      rw [List.length_map, List.length_take] at la
      exact Nat.lt_of_lt_of_le (show acc.length < 100001 by omega) (by decide)
    · have xx : ExI H5 (upd H5 D (.lst (acc ++ [w]))) := .upd h5 fun z => z
      refine ⟨fun b o s h => ?_, (jo (k + 1)).mono' xx (fun b o u h => ?_) j5, acc ++ [w], upd_same, ?_⟩
      · have nb : b ≠ D := fun z => by
          subst z
          rw [hD] at h
          cases h
        rw [upd_ne nb]
        exact e5 b o s ((e3.trans e4) _ _ (eh b o s h))
      · have nb : b ≠ D := fun z => DU (z ▸ u)
        rw [upd_ne nb]
        exact h
      · rw [ts, List.map_append]
        exact oks_append1 (((ka.mono (.of (e3.trans e4))).mono (exI_es (jo k) f6.j e5)).mono xx) ((G a).mono xx r5)
  · have ee : k = xs.length := by omega
    subst ee
    refine .inl ⟨(wk H).stop H Ex.r, hq H acc eh jk ha ?_⟩
    rw [List.take_length] at ka
    exact ka
/-- a source whose turns know no heap, what is done ahead of it -/
def ITS (S U : Addr → Prop) (J J1 : Hp → Prop) (X : Cx) (tg iter : Expr) (Γ : Ctx) (xs : List α) (F : α → VI) : Prop := ∀ (H0 H1 : Hp) (σ : St) (H : Hp), FS S U J Γ H0 H1 σ H → ∀ R : It → Hp → Prop, (∀ Jt H2, ES S H H2 → J1 H2 → (∀ B, Wk B Jt xs F) → R Jt H2) → wI X tg iter σ H R
theorem IT0.s {J : Hp → Prop} (jo : JOk S U J) (h : IT0 X tg iter Γ xs F) : ITS S U J J X tg iter Γ xs F := fun H0 H1 σ H f R q => h H0 H1 σ H f.f R fun Jt H2 e2 wk => q Jt H2 (.of e2) (jo.mono e2 f.j) wk
theorem fs_lc (jo0 : JOk S U J) (jo : ∀ k, JOk S U (Jn k)) (hc : X.calm = true) (hN : X.N.Nodup) (ok : BlkOk X.N X.env.scope scope own) (hi : ITS S U J (Jn 0) X tg iter Γ xs F) (hl : xs.length ≤ 100000) (hd : ∀ a ∈ xs, (Γe a).map Ty.dem = Γe a)
    (hg : ∀ s h C cl fp, ∀ a ∈ xs, TGT (bk X scope s h C cl fp) tg (wipeC Γ (own.map (·.2))) (F a) (Γe a) (own.map (·.2)))
    (he : ∀ k, k < xs.length → ∀ s h C cl fp, ∀ a ∈ xs, EVS S U (Jn k) (Jn (k + 1)) (bk X scope s h C cl fp) elt (Γe a) (G a)) (hs : ∀ x, foldedSetIterable iter X.env x = pure x := by intro _; rfl) :
    EFS S U J (Jn xs.length) X (.ListComp elt [⟨tg, iter, [], 0⟩] scope pos) Γ (xs.map G) := fun H0 H1 σ H f Q q =>
  wE_of (pe_lc hc hN pi_w ok (fun _ _ _ _ _ => pg_wb) (fun _ _ _ _ _ => pts_nil) (fun _ _ _ _ _ => pe_wb) hs) (hi H0 H1 σ H f _ fun Jt H2 e2 j2 wk D hD => by
    refine lcS_run (Γe := Γe) (G := G) jo (f.es jo0 e2 j2) wk hl hd (fun a ha H1' v H3 f3 r3 Q' q' s h C cl fp => hg s h C cl fp a ha H0 H1' _ H3 v f3 r3 Q' q') (fun k hk a ha σ' H' f' Q' q' s h C cl fp => he k hk s h C cl fp a ha H0 H1 σ' H' f' Q' q') D hD fun H' acc e' j' h' k' => ?_
    refine q D acc H' (e2.trans e') j' ?_ h' k'
    cases z : H D with
    | none => rfl
    | some o =>
      by_cases s : S D
      · obtain ⟨o', z', _⟩ := (jo 0).ns j2 D s
        rw [hD] at z'
        cases z'
      · have := e2 D o s z
        rw [hD] at this
        cases this)
theorem s_setLc {R : RK} (i : Nat) {x : Str} {p lp : Pos} (jo0 : JOk S U J) (jo : ∀ k, JOk S U (Jn k)) (hc : X.calm = true) (hN : X.N.Nodup) (hyl : X.env.scope.names.lookup x = some .local) (ok : BlkOk X.N X.env.scope scope own) (hi : ITS S U J (Jn 0) X tg iter Γ xs F) (hl : xs.length ≤ 100000) (hd : ∀ a ∈ xs, (Γe a).map Ty.dem = Γe a)
    (hsw : swapsWith (.ListComp elt [⟨tg, iter, [], 0⟩] scope lp) (some (.Name x p)) pos.line X.env = pure true)
    (hg : ∀ s h C cl fp, ∀ a ∈ xs, TGT (bk X scope s h C cl fp) tg (wipeC Γ (own.map (·.2))) (F a) (Γe a) (own.map (·.2)))
    (he : ∀ k, k < xs.length → ∀ s h C cl fp, ∀ a ∈ xs, EVS S U (Jn k) (Jn (k + 1)) (bk X scope s h C cl fp) elt (Γe a) (G a)) (hNi : X.N[i]? = some x := by rfl) (hs : ∀ x, foldedSetIterable iter X.env x = pure x := by intro _; rfl) :
    GTS S U J X (.Assign [.Name x p] (.ListComp elt [⟨tg, iter, [], 0⟩] scope lp) pos) Γ (nextS S U (Jn xs.length) (Γ.set i (.o (xs.map G)))) R := fun H0 H1 σ H f D hn hr =>
  wS_of (ps_setLc hc hN hNi hyl hsw pi_w ok (fun _ _ _ _ _ => pg_wb) (fun _ _ _ _ _ => pts_nil) (fun _ _ _ _ _ => pe_wb) hs) (hi H0 H1 σ H f _ fun Jt H2 e2 j2 wk Da hD =>
    lcS_run (Γe := Γe) (G := G) jo (f.es jo0 e2 j2) wk hl hd (fun a ha H1' v H3 f3 r3 Q' q' s h C cl fp => hg s h C cl fp a ha H0 H1' _ H3 v f3 r3 Q' q') (fun k hk a ha σ' H' f' Q' q' s h C cl fp => he k hk s h C cl fp a ha H0 H1 σ' H' f' Q' q') Da hD fun H' acc e' j' h' k' =>
      hn _ H' ((f.es jo0 e2 j2).setO (jo 0) (jo _) e' j' i hD h' k'))
end
end K8
end
section
set_option Elab.async false
set_option linter.all false
set_option maxRecDepth 100000
set_option maxHeartbeats 1000000
set_option autoImplicit false
namespace K8
open PySem L2
open Evl (Ex)
/-! The fair list and its dealer. -/
def FairX (a l : Addr) (ns : List Int) (t c : Nat) (H : Hp) : Prop := H a = some (.lst [.ref l, .int t, .int c]) ∧ H l = some (.lst (ns.map V.int)) ∧ l ≠ a
def FairAt (a l : Addr) (ns : List Int) (n : Nat) (H : Hp) : Prop := ∃ t c, t ≤ n ∧ FairX a l ns t c H
theorem fairX_ok {a l : Addr} {ns : List Int} {t c : Nat} : JOk (fun b => b = a) (fun b => b = a ∨ b = l) (FairX a l ns t c) where
  su := fun b h => .inl h
  mono' := fun _ h j => ⟨h _ _ (.inl rfl) j.1, h _ _ (.inr rfl) j.2.1, j.2.2⟩
  ex := fun j b u => by
    rcases u with rfl | rfl
    · exact ⟨_, j.1, fun _ z => z⟩
    · exact ⟨_, j.2.1, fun _ z => z⟩
theorem fairAt_ok {a l : Addr} {ns : List Int} {n : Nat} : JOk (fun b => b = a) (fun b => b = a ∨ b = l) (FairAt a l ns n) where
  su := fun b h => .inl h
  mono' := fun e h ⟨t, c, q, j⟩ => ⟨t, c, q, fairX_ok.mono' e h j⟩
  ex := fun ⟨t, c, q, j⟩ => fairX_ok.ex j
/-- the fair list, as it stands -/
def fairV (a l : Addr) (ns : List Int) (t c : Nat) : VP := ⟨fun H v => v = .ref a ∧ FairX a l ns t c H, fun e ⟨h, j⟩ => ⟨h, fairX_ok.mono e j⟩⟩
section
variable {S U : Addr → Prop} {J J1 : Hp → Prop} {X : Cx} {Γ Γ' : Ctx} {pos p : Pos} {e b c : Expr} {st : Stmt} {sts A B : List Stmt} {N : NK} {R : RK} {H0 H1 H : Hp} {σ : St} {v : V} {W : VP}
theorem FS.view (jo : JOk S U J) (hJ : ∀ H, J H → W.ok H v) (i : Nat) (hΓ : Γ[i]? = some (.i (VI.is v))) (h : FS S U J Γ H0 H1 σ H) : Fit H0 (K8.base Γ σ H) (Γ.set i (.f W)) σ H := by
  obtain ⟨f, hB⟩ := h.base jo
  have il : i < Γ.length := (List.getElem?_eq_some_iff.mp hΓ).1
  obtain ⟨w, s1, rfl⟩ := f.get hΓ (by simp)
  have jb : J (K8.base Γ σ H) := jo.mono' hB.1 (fun b o u z => by
    obtain ⟨o', z1, z2⟩ := hB.2 b u
    rw [z2] at z
    cases z
    exact z1) h.j
  have nk : ∀ {m : Nat} {Ss : List VI}, (Γ.set i (.f W))[m]? = some (.o Ss) → Γ[m]? = some (.o Ss) := fun {m Ss} q => by
    by_cases z : m = i
    · subst z
      rw [List.getElem?_set_self il] at q
      cases q
    · rw [List.getElem?_set_ne (Ne.symm z)] at q
      exact q
  refine ⟨f.b, f.ex, by simp [f.len], fun k T hk => ?_, fun k m Ps Qs v hkm hk hm sk sm => f.ap k m Ps Qs v hkm (nk hk) (nk hm) sk sm⟩
  by_cases z : k = i
  · subst z
    rw [List.getElem?_set_self il] at hk
    cases hk
    exact .inr ⟨w, s1, hJ _ jb⟩
  · rw [List.getElem?_set_ne (Ne.symm z)] at hk
    exact f.ok k T hk
theorem set_same {σ : St} {i : Nat} {v : V} (s1 : σ[i]? = some (some v)) : σ.set i (some v) = σ := by
  apply List.ext_getElem?
  intro k
  by_cases z : i = k
  · subst z
    rw [List.getElem?_set_self (List.getElem?_eq_some_iff.mp s1).1, s1]
  · rw [List.getElem?_set_ne z]
theorem s_view (i : Nat) (jo : JOk S U J) (hJ : ∀ H, J H → W.ok H v) (hW : ∀ H w, W.ok H w → w = v) (hΓ : Γ[i]? = some (.i (VI.is v))) (h : GT X st (Γ.set i (.f W)) (fitN Γ') (.i VI.never)) (h' : Γ'[i]? = some (.f W)) : GTS S U J X st Γ (nextS S U J ((Γ'.map Ty.dem).set i (.i (VI.is v)))) R := fun H0 H1 σ H f D hn hr => by
  obtain ⟨fb, hB⟩ := f.base jo
  refine h H0 _ σ H (f.view jo hJ i hΓ) D (fun σ' H' n => hn σ' H' ?_) fun v H' _ r => r.elim
  have n : Fit H0 (K8.base Γ σ H) Γ' σ' H' := n
  obtain ⟨w, s1, k⟩ := n.get h' (by simp)
  have e := hW _ w k
  subst e
  have g := (f.back jo hB f.f.toBase n).setI (P := VI.is w) i rfl
  rw [set_same s1] at g
  exact g
theorem s_ifV {k : Bool} (i : Nat) (jo : JOk S U J) (hJ : ∀ H, J H → W.ok H v) (hΓ : Γ[i]? = some (.i (VI.is v))) (hc : ET X c (Γ.set i (.f W)) k) (h1 : k = true → GSS S U J X A Γ N R) (h2 : k = false → GSS S U J X B Γ N R) : GTS S U J X (.If c A B pos) Γ N R := fun H0 H1 σ H f D hn hr =>
  wS_of (ps_if pt_w pss_w pss_w) (hc H0 _ σ H (f.view jo hJ i hΓ) _ fun H2 e2 => by
    cases k with
    | true =>
      rw [if_pos rfl]
      exact h1 rfl H0 H1 σ H2 (f.mono jo e2) D hn hr
    | false =>
      rw [if_neg Bool.false_ne_true]
      exact h2 rfl H0 H1 σ H2 (f.mono jo e2) D hn hr)
/-- if c: (a block that hands back), the rest -/
theorem s_ifR {k : Bool} (i : Nat) (jo : JOk S U J) (hJ : ∀ H, J H → W.ok H v) (hΓ : Γ[i]? = some (.i (VI.is v))) (hc : ET X c (Γ.set i (.f W)) k) (h1 : k = true → GSS S U J X A Γ noN R) (h2 : k = false → GSS S U J X sts Γ N R) : GSS S U J X (.If c A [] pos :: sts) Γ N R := fun H0 H1 σ H f D hn hr =>
  wSs_of (pss_cons (ps_if pt_w pss_w pss_nil) pss_w) (hc H0 _ σ H (f.view jo hJ i hΓ) _ fun H2 e2 => by
    cases k with
    | true =>
      rw [if_pos rfl]
      exact h1 rfl H0 H1 σ H2 (f.mono jo e2) _ (fun _ _ z => z.elim) hr
    | false =>
      rw [if_neg Bool.false_ne_true]
      exact h2 rfl H0 H1 σ H2 (f.mono jo e2) D hn hr)
theorem e_mulS {m n : Int} {a : Expr} (ha : EV X a Γ (ei m)) (hb : EV X b Γ (ei n)) (hc : CMul m n) : EV X (.BinOp a .Mult b pos) Γ (ei (m * n)) := e_op2 op_mul ha hb fun _ _ H hx hy _ q => r_I hc hx hy (q _ H Ex.r rfl)
theorem e_fairL {a l : Addr} {ns : List Int} {t k : Nat} (h : EV X e Γ (fairV a l ns t k)) : EV X e Γ (.lst [VI.is (.ref l), VI.int (t : Int), VI.int (k : Int)]) := h.imp fun H w ⟨e, j⟩ => ⟨a, _, e, j.1, .cons rfl (.cons rfl (.cons rfl .nil))⟩
theorem oks_izs {H : Hp} : ∀ (ns : List Int), Oks (izs ns) H (ns.map V.int)
  | [] => .nil
  | _ :: ns => .cons rfl (oks_izs ns)
/-- fair[0] -/
theorem e_fair0 {a l : Addr} {ns : List Int} {t k : Nat} (h : EV X e Γ (fairV a l ns t k)) (hb : EV X b Γ (ei 0)) (hs : PlainIx b := by exact fun _ _ => rfl) : EV X (.Subscript e b pos) Γ (.lst (izs ns)) := fun H0 H1 σ H f Q q =>
  wE_of (pe_ix ix_list pe_w pe_w hs) (h H0 H1 σ H f _ fun x H2 e2 ⟨ex, j⟩ => hb H0 H1 σ H2 (f.mono e2) _ fun y H3 e3 r3 => by
    have j3 := fairX_ok.mono e3 j
    exact ⟨a, _, 0, .ref l, ex, r3, .of j3.1, rfl, q _ H3 (e2.trans e3) ⟨l, _, rfl, j3.2.1, oks_izs ns⟩⟩)
/-- fair[k] = e -/
theorem s_fairW {a l : Addr} {ns : List Int} {t k t' k' : Nat} {n : Int} {x : Str} {q1 : Pos} {ix : Nat} (i : Nat) (hΓ : Γ[i]? = some (.i (VI.is (.ref a)))) (h : EV X e (Γ.set i (.f (fairV a l ns t k))) (ei n)) (hb : EV X b (Γ.set i (.f (fairV a l ns t k))) (ei (ix : Int))) (hix : ix < 3) (hv : ([V.ref l, .int (t : Int), .int (k : Int)].set ix (.int n)) = [V.ref l, .int (t' : Int), .int (k' : Int)]) (hN : X.N[i]? = some x := by rfl) (hvs : Vis X.env.scope x := by first | exact Or.inl rfl | exact Or.inr (Or.inl rfl) | exact Or.inr (Or.inr rfl)) (hd : (x == ("__debug__" : Str)) = false := by decide) (hcd : (x == ("__classdict__" : Str)) = false := by decide)
    (hE : PS X (.Assign [.Subscript (.Name x p) b q1] e pos) (tAsg (wE X e) (gSub (tVar i) (wE X b) rSetL))) : GTS (fun b => b = a) (fun b => b = a ∨ b = l) (FairX a l ns t k) X (.Assign [.Subscript (.Name x p) b q1] e pos) Γ (nextS (fun b => b = a) (fun b => b = a ∨ b = l) (FairX a l ns t' k') Γ) R := fun H0 H1 σ H f D hn hr => by
  have jo := fairX_ok (a := a) (l := l) (ns := ns) (t := t) (c := k)
  have hJ : ∀ H, FairX a l ns t k H → (fairV a l ns t k).ok H (.ref a) := fun H j => ⟨rfl, j⟩
  obtain ⟨w, s1, ew⟩ := f.f.get hΓ (by simp)
  obtain rfl : w = .ref a := ew
  refine wS_of hE (h H0 _ σ H (f.view jo hJ i hΓ) _ fun y H2 e2 r2 => ⟨_, s1, hb H0 _ σ H2 ((f.mono jo e2).view jo hJ i hΓ) _ fun z H3 e3 r3 => ?_⟩)
  have j3 := jo.mono (e2.trans e3) f.j
  obtain rfl : y = .int n := r2
  refine ⟨a, _, (ix : Int), ix, rfl, r3, j3.1, ?_, ?_⟩
  · unfold ixN
    rw [if_pos (by omega), if_pos (by simp; omega), Int.toNat_natCast]
  · rw [hv]
    have hl : l ≠ a := j3.2.2
    exact hn σ _ ((f.mono jo (e2.trans e3)).es jo (fun b o nb h => by rw [upd_ne nb]; exact h) ⟨upd_same, by rw [upd_ne hl]; exact j3.2.1, hl⟩)
end
/-- what a def of the fair list promises -/
def spF {ι : Type} (cost : ι → Nat) (pre : ι → Prop) (args : ι → List VP) (res : ι → VI) : Sp := fun vs H Q _ => ∃ (i : ι) (a l : Addr) (ns : List Int) (n : Nat) (ws : List V) (H1 : Hp), pre i ∧ vs = .ref a :: ws ∧ Pks (args i) H1 ws ∧ Ex H1 H ∧ H1 a = none ∧ FairAt a l ns n H ∧ n + cost i ≤ 100000 ∧ ns.length ≤ 60 ∧ ∀ v H2, ES (fun b => b = a) H H2 → FairAt a l ns (n + cost i) H2 → (res i).ok H2 v → Q v H2
def VI.below (k : Nat) : VI := VI.ex (α := Fin k) fun i => VI.int (i : Nat)
theorem below_mod {k : Nat} (h : 0 < k) {x : Int} {H : Hp} {v : V} (q : (VI.int (x % (k : Int))).ok H v) : (VI.below k).ok H v := by
  have h1 := Int.emod_nonneg x (show (k : Int) ≠ 0 by omega)
  have h2 := Int.emod_lt_of_pos x (show (0 : Int) < k by omega)
  exact ⟨⟨(x % (k : Int)).toNat, by omega⟩, by
    show v = .int _
    have q : v = .int (x % (k : Int)) := q
    rw [q]
    congr 1
    show x % (k : Int) = (((x % (k : Int)).toNat : Nat) : Int)
    omega⟩
end K8
end
section
set_option Elab.async false
set_option linter.all false
set_option maxRecDepth 100000
set_option maxHeartbeats 1000000
set_option autoImplicit false
namespace K8
open PySem L2
open Evl (Ex)
def ctxF (N : List Str) (Ps : List VP) (a : Addr) : Ctx := .i (VI.is (.ref a)) :: (Ps.map Ty.e ++ List.replicate (N.length - (Ps.length + 1)) .u)
def hide (a : Addr) (H : Hp) : Hp := fun b => open Classical in if b = a then none else H b
theorem hide_self {a : Addr} {H : Hp} : hide a H a = none := by unfold hide; rw [if_pos rfl]
theorem hide_ne {a b : Addr} {H : Hp} (h : b ≠ a) : hide a H b = H b := by unfold hide; rw [if_neg h]
theorem hide_ex {a : Addr} {H : Hp} : Ex (hide a H) H := fun b o h => by
  by_cases z : b = a
  · subst z
    rw [hide_self] at h
    cases h
  · rw [hide_ne z] at h
    exact h
section
variable {P : Program} {w : World} {K : PySem.W.Frag} {mg : Str → Option Value} {base : Heap} {x name qual : Str} {st : Stmt} {N ps : List Str} {k : Nat} {ι : Type} {cost : ι → Nat} {pre : ι → Prop} {args : ι → List VP} {res : ι → VI}
abbrev Sa (a : Addr) : Addr → Prop := fun b => b = a
abbrev Ua (a l : Addr) : Addr → Prop := fun b => b = a ∨ b = l
theorem GSS.ex {X : Cx} {sts : List Stmt} {Γ : Ctx} {R : RK} {N : NK} {a l : Addr} {ns : List Int} {n : Nat} (h : ∀ t c, t ≤ n → GSS (Sa a) (Ua a l) (FairX a l ns t c) X sts Γ N R) : GSS (Sa a) (Ua a l) (FairAt a l ns n) X sts Γ N R := fun H0 H1 σ H f D hn hr => by
  obtain ⟨t, c, q, j⟩ := f.j
  exact h t c q H0 H1 σ H ⟨f.f, f.nx, f.no, j⟩ D hn hr
theorem fq_F (D : Df K mg x name qual st []) (S : FnScope N ps (defScope st)) (hbd : BindN name qual st ps) (hl : ∀ i, (args i).length + 1 = ps.length)
    (hb : ∀ (cdv : Value) (A : Around) (outer : List Env) (s : Shared) (H : Hp) (E : XK), Room k (A.deeper (PyProof.Rows.envOfC qual (defScope st) s.heap.objs.size (He.ga K x) cdv)) → ∀ i a l ns n, pre i → n + cost i ≤ 100000 → ns.length ≤ 60 →
      GSS (Sa a) (Ua a l) (FairAt a l ns n) (cxOf CX0 P w K mg base N qual (defScope st) (He.ga K x) cdv A outer s H E).nox (defBody st) (ctxF N (args i) a) noN (fun v H => FairAt a l ns (n + cost i) H ∧ (res i).ok H v)) : Fq P w K mg base x (k + 1) ps [] (spF cost pre args res) := by
  obtain ⟨fd, F⟩ := D.fn
  refine ⟨_, fd, [], F.ok S (fun vs H Q E h => ?_) (fun cdv A outer s H vs Q E hr h => ?_), D.mg, F.kp, F.bindsN hbd, .nil⟩
  · obtain ⟨i, a, l, ns, n, ws, H1, _, rfl, kk, _⟩ := h
    rw [List.length_cons, ← Pks.len kk, hl]
  · obtain ⟨i, a, l, ns, n, ws, H1, hp, rfl, kk, e1, n1, fa, hc, hlen, q⟩ := h
    refine ⟨_, PSs.nox pss_w, ?_⟩
    have e2 : Ex H1 (hide a H) := fun b o z => by
      have nb : b ≠ a := fun y => by
        subst y
        rw [n1] at z
        cases z
      rw [hide_ne nb]
      exact e1 b o z
    have f1 := fitS (N := N) (Ts := (args i).map Ty.e) (H1 := hide a H) (H := H) (x := .ref a) (ws := ws) hide_ex ?_ (fun T hT Ps e => by
      subst e
      obtain ⟨_, _, z⟩ := List.mem_map.mp hT
      cases z)
    · have noo : ∀ {j : Nat} {Ps : List VI}, (ctxF N (args i) a)[j]? ≠ some (.o Ps) := fun {j Ps} h => by
        have hm := List.mem_of_getElem? h
        unfold ctxF at hm
        rcases List.mem_cons.mp hm with z | z
        · cases z
        · rcases List.mem_append.mp z with z | z
          · obtain ⟨_, _, z⟩ := List.mem_map.mp z
            cases z
          · cases List.eq_of_mem_replicate z
      have f2 : Fit (hide a H) (hide a H) (ctxF N (args i) a) (L2.start N (.ref a :: ws)) H := by
        refine ⟨f1.b, f1.ex, ?_, fun j T hj => ?_, fun j m Ps Qs v _ hj _ _ _ => absurd hj noo⟩
        · rw [f1.len]
          unfold ctxS ctxF
          simp
        · cases j with
          | zero =>
            unfold ctxF at hj
            cases hj
            exact .inr ⟨.ref a, rfl, rfl⟩
          | succ j =>
            refine f1.ok (j + 1) T ?_
            unfold ctxF at hj
            unfold ctxS
            rw [List.getElem?_cons_succ] at hj ⊢
            rw [List.length_map]
            exact hj
      refine hb cdv A outer s H E hr i a l ns n hp hc hlen (hide a H) (hide a H) _ H ⟨f2, fun b z => by rw [z]; exact hide_self, fun b _ ⟨j, Ps, h1, _⟩ => noo h1, fa⟩ _ (fun _ H' z => z.elim) fun v H' e' z => q v H' (fun b o nb h => e' b o (by rw [hide_ne nb]; exact h)) z.1 z.2
    · have key : ∀ {Ps : List VP} {ws : List V}, Pks Ps H1 ws → Paired (fun (T : Ty) (v : V) => T.ok (hide a H) (hide a H) H v) (Ps.map Ty.e) ws := by
        intro Ps ws k
        induction k with
        | nil => exact .nil
        | @cons P v _ _ r t ih => exact .cons (P.mono e2 r) ih
      exact key kk
end
def cellv (ns : List Int) (t : Nat) : Int := if ns = [] then 70117 * (t : Int) + 9199 else ns.getD (t % ns.length) 0
theorem dp_lst {K : PySem.W.Frag} {H : Hp} {ns : List Int} {v : V} (h : (VP.lst (izs ns)).ok H v) : Dp K H v (.list (ns.map PyData.int)) := by
  obtain ⟨a, xs, rfl, h1, k⟩ := h
  refine .lst (.inl (.inl h1)) ?_
  clear h1
  induction ns generalizing xs with
  | nil =>
    cases k
    exact .nil
  | cons n ns ih =>
    cases k with
    | cons r t =>
      obtain rfl : _ = V.int n := r
      exact .cons (.int n) (ih _ t)
theorem shp_ints (ns : List Int) : SeqAt.shaped (.list (ns.map PyData.int)) = true := by
  have h1 : PyData.canLayAll0 (ns.map PyData.int) = true := by
    induction ns with
    | nil => rfl
    | cons n ns ih => exact ih
  have h2 : PyData.depthAll (ns.map PyData.int) ≤ 1 := by
    clear h1
    induction ns with
    | nil => decide
    | cons n ns ih =>
      simp only [List.map_cons, PyData.depthAll, PyData.depth]
      omega
  unfold SeqAt.shaped
  rw [Bool.and_eq_true]
  refine ⟨h1, decide_eq_true ?_⟩
  simp only [PyData.depth]
  omega
theorem ten18 : (10 : Int) ^ ((18 : Int).toNat) = 1000000000000000000 := by decide +kernel
section
variable {X : Cx} {Γ : Ctx}
theorem e_leftv {n m d r : Int} {A B C : Expr} {p1 p2 p3 p4 : Pos} {j1 : Nat} (hA : EV X A Γ (ei n)) (hB : EV X B Γ (ei m)) (hC : EV X C Γ (ei d)) (hr : 2 * (n - m) + d = r) : EV X (.BinOp (.BinOp (.Constant (.int 2) j1 p1) .Mult (.BinOp A .Sub B p2) p3) .Add C p4) Γ (ei r) := (e_add (e_mulS e_int (e_sub hA hB) (.inl (by decide))) hC).to (congrArg ei hr)
end
section
variable {P : Program} {w : World} {K : PySem.W.Frag} {mg : Str → Option Value} {base : Heap} (T : Tx K mg)
include T
theorem ok_law_deal : Fq P w K mg base "_law_deal" 1 ["_law_fair_here", "_law_many"] [] (spF (fun _ : Nat => 1) (fun m => 0 < m ∧ m < 2 ^ 60) (fun m => [ei (m : Int)]) (fun m => VI.below m)) :=
  fq_F T.x_law_deal sc_law_deal (fun _ _ _ _ _ _ us hl => match us, hl with | [_, _], _ => rfl) (fun _ => rfl) fun cdv A outer s H E hr m a l ns n ⟨h0, h1⟩ hn hlen => by
    have h0 : 0 < m := h0
    have h1 : m < 2 ^ 60 := h1
    have hn : n + 1 ≤ 100000 := hn
    have hb : (m : Int).natAbs < 2 ^ 60 := by rw [Int.natAbs_natCast]; exact h1
    refine GSS.ex fun t c htn => ?_
    have jo : ∀ t c, JOk (Sa a) (Ua a l) (FairX a l ns t c) := fun t c => fairX_ok
    have hJ : ∀ t c H, FairX a l ns t c H → (fairV a l ns t c).ok H (.ref a) := fun t c H j => ⟨rfl, j⟩
    have hW : ∀ t c H w, (fairV a l ns t c).ok H w → w = .ref a := fun t c H w j => j.1
    have fin : ∀ t' c', t' ≤ n + 1 → ∀ x v H, FairX a l ns t' c' H → (VI.int (x % (m : Int))).ok H v → FairAt a l ns (n + 1) H ∧ (VI.below m).ok H v := fun t' c' ht x v H j q => ⟨⟨t', c', ht, j⟩, below_mod h0 q⟩
    refine s_ifR (W := fairV a l ns t c) 0 (jo t c) (hJ t c) rfl (t_gt (e_ixL (e_fairL (vF 0)) e_int rfl) e_int) (fun _ => ?_) fun _ => ?_
    · refine s_cons (GTS.to (Γ2 := [.i (VI.is (.ref a)), .e (ei m), .i (VI.int (c : Int)), .u, .u, .u]) (s_view 0 (jo t c) (hJ t c) (hW t c) rfl (g_set 2 sc_law_deal.nd (e_int1 T.bl (e_ixL (e_fairL (vF 0)) e_int rfl))) rfl) rfl) ?_
      refine s_cons (s_fairW (t' := t) (k' := c / m) (n := ((c / m : Nat) : Int)) (ix := 2) 0 rfl ((e_fdiv (vI 2) (vE 1) (divW (b := 60) (by omega) hb (by decide))).to (congrArg ei (Int.natCast_ediv c m).symm)) e_int (by decide) rfl (hE := ps_asg pe_w (pg_sub (pe_var rfl (.inl rfl) (by decide) (by decide)) pe_w set_list))) ?_
      exact s_one (s_ret (jo t (c / m)) (EV.s (jo t (c / m)) (e_mod (e_int1 T.bl (vI 2)) (vE 1) (by omega))) fun v H j q => fin t (c / m) (by omega) _ v H j q)
    · refine s_cons (GTS.to (Γ2 := [.i (VI.is (.ref a)), .e (ei m), .u, .i (VI.int (t : Int)), .u, .u]) (s_view 0 (jo t c) (hJ t c) (hW t c) rfl (g_set 3 sc_law_deal.nd (e_ixL (e_fairL (vF 0)) e_int rfl)) rfl) rfl) ?_
      refine s_cons (s_fairW (t' := t + 1) (k' := c) (n := ((t + 1 : Nat) : Int)) (ix := 1) 0 rfl ((e_add (vI 3) e_int).to (congrArg ei (by omega))) e_int (by decide) rfl (hE := ps_asg pe_w (pg_sub (pe_var rfl (.inl rfl) (by decide) (by decide)) pe_w set_list))) ?_
      refine s_cons (GTS.to (Γ2 := [.i (VI.is (.ref a)), .e (ei m), .u, .i (VI.int (t : Int)), .i (VI.int (70117 * (t : Int) + 9199)), .u]) (s_lift (jo (t + 1) c) (g_set 4 sc_law_deal.nd (e_add (e_mulS e_int (vI 3) (.inl (by decide))) e_int))) rfl) ?_
      refine s_cons (J1 := FairX a l ns (t + 1) c) (Γ' := [.i (VI.is (.ref a)), .e (ei m), .u, .i (VI.int (t : Int)), .i (VI.int (cellv ns t)), .u]) (s_ifV (k := !decide (ns = [])) (W := fairV a l ns (t + 1) c) 0 (jo _ c) (hJ _ c) rfl (t_neD (d := .list (ns.map PyData.int)) (e := .list []) (roomU hr) (e_fair0 (vF 0) e_int) (EF.v (ef_lst ei_nil)) (fun H v q => dp_lst q) (fun H v q => dp_lst (ns := []) q) (shp_ints ns) rfl ?_) (fun hk => ?_) fun hk => ?_) ?_
      · cases ns with
        | nil => rfl
        | cons n ns => rfl
      · have hne : ns ≠ [] := by simpa using hk
        have hpos : 0 < ns.length := List.length_pos_iff.mpr hne
        have hlt : t % ns.length < ns.length := Nat.mod_lt _ hpos
        refine s_one (GTS.to (s_view 0 (jo _ c) (hJ _ c) (hW _ c) rfl (g_set 4 sc_law_deal.nd (e_ixL (e_fair0 (vF 0) e_int) ((e_mod (e_int1 T.bl (vI 3)) (e_lenL T.bl (e_fair0 (vF 0) e_int)) (by rw [List.length_map]; omega)).to (congrArg ei (by rw [List.length_map]; exact (Int.natCast_emod t ns.length).symm))) (atI_map (j := t % ns.length) rfl hlt))) rfl) ?_)
        unfold cellv
        rw [if_neg hne]
        rfl
      · have he : ns = [] := by simpa using hk
        have z : cellv ns t = 70117 * (t : Int) + 9199 := by unfold cellv; rw [if_pos he]
        rw [z]
        exact s_nil
      refine s_ifR (W := fairV a l ns (t + 1) c) 0 (jo _ c) (hJ _ c) rfl (t_and (t_lt (vI 3) (e_lenL T.bl (e_fair0 (vF 0) e_int))) fun _ => t_ge (n := 1000000000000000000) (e_abs T.bl (vI 4)) ((e_pow e_int e_int ⟨by decide, by decide, by decide⟩).to (congrArg ei ten18))) (fun hk => ?_) fun _ => ?_
      · have hk : (1000000000000000000 : Int) ≤ ((cellv ns t).natAbs : Int) := by
          rw [Bool.and_eq_true] at hk
          exact of_decide_eq_true hk.2
        obtain ⟨L, hL⟩ : ∃ L : Nat, 2 * (((cellv ns t).natAbs : Int) - (1000000000000000000 : Int)) + (if decide (cellv ns t < 0) then 1 else 0) = (L : Int) := by
          refine ⟨(2 * (((cellv ns t).natAbs : Int) - (1000000000000000000 : Int)) + (if decide (cellv ns t < 0) then 1 else 0)).toNat, ?_⟩
          split <;> omega
        refine s_cons (GTS.to (Γ2 := [.i (VI.is (.ref a)), .e (ei m), .i (VI.int (L : Int)), .i (VI.int (t : Int)), .i (VI.int (cellv ns t)), .u]) (s_lift (jo _ c) (g_set 2 sc_law_deal.nd (P := VI.int (L : Int)) (e_leftv (e_abs T.bl (e_int1 T.bl (vI 4))) ((e_pow e_int e_int ⟨by decide, by decide, by decide⟩).to (congrArg ei ten18)) (e_intB T.bl (e_lt (vI 4) e_int)) hL))) rfl) ?_
        refine s_cons (s_fairW (t' := t + 1) (k' := L / m) (n := ((L / m : Nat) : Int)) (ix := 2) 0 rfl ((e_fdiv (vI 2) (vE 1) (divW (b := 60) (by omega) hb (by decide))).to (congrArg ei (Int.natCast_ediv L m).symm)) e_int (by decide) rfl (hE := ps_asg pe_w (pg_sub (pe_var rfl (.inl rfl) (by decide) (by decide)) pe_w set_list))) ?_
        exact s_one (s_ret (jo _ (L / m)) (EV.s (jo _ (L / m)) (e_mod (e_int1 T.bl (vI 2)) (vE 1) (by omega))) fun v H j q => fin (t + 1) (L / m) (by omega) _ v H j q)
      · have b1 := Int.emod_nonneg (cellv ns t) (show (2147483549 : Int) ≠ 0 by decide)
        have b2 := Int.emod_lt_of_pos (cellv ns t) (show (0 : Int) < 2147483549 by decide)
        refine s_cons (GTS.to (Γ2 := [.i (VI.is (.ref a)), .e (ei m), .u, .i (VI.int (t : Int)), .i (VI.int (cellv ns t)), .i (VI.int ((cellv ns t % 2147483549 + 52147 * (t : Int) + 9199) ^ ((5 : Int).toNat) % 2147483587))]) (s_lift (jo _ c) (g_set 5 sc_law_deal.nd (e_mod (e_int1 T.bl (e_pow (e_add (e_add (e_mod (e_int1 T.bl (vI 4)) e_int (by decide)) (e_mulS e_int (vI 3) (.inl (by decide)))) e_int) e_int ⟨by decide, by decide, by omega⟩)) e_int (by decide)))) rfl) ?_
        generalize hg : (cellv ns t % 2147483549 + 52147 * (t : Int) + 9199) ^ ((5 : Int).toNat) % 2147483587 = g
        have g1 : 0 ≤ g := by rw [← hg]; exact Int.emod_nonneg _ (by decide)
        have g2 : g < 2147483587 := by rw [← hg]; exact Int.emod_lt_of_pos _ (by decide)
        have g3 : (g * (2 * (t : Int) + 3109) + 70117 * (t : Int) * (t : Int) + 52147).natAbs < 2 ^ 64 := by
          have p1 : g * (2 * (t : Int) + 3109) ≤ 2147483587 * 203109 := Int.mul_le_mul (by omega) (by omega) (by omega) (by omega)
          have p2 : 0 ≤ g * (2 * (t : Int) + 3109) := Int.mul_nonneg g1 (by omega)
          have p3 : 70117 * (t : Int) * (t : Int) ≤ 70117 * 100000 * 100000 := Int.mul_le_mul (by omega) (by omega) (by omega) (by omega)
          have p4 : 0 ≤ 70117 * (t : Int) * (t : Int) := Int.mul_nonneg (by omega) (by omega)
          omega
        refine s_cons (GTS.to (Γ2 := [.i (VI.is (.ref a)), .e (ei m), .u, .i (VI.int (t : Int)), .i (VI.int (cellv ns t)), .i (VI.int ((g * (2 * (t : Int) + 3109) + 70117 * (t : Int) * (t : Int) + 52147) ^ ((3 : Int).toNat) % 2147483563))]) (s_lift (jo _ c) (g_set 5 sc_law_deal.nd (e_mod (e_int1 T.bl (e_pow (e_add (e_add (e_mulS (vI 5) (e_add (e_mulS e_int (vI 3) (.inl (by decide))) e_int) (.inl (by omega))) (e_mulS (e_mulS e_int (vI 3) (.inl (by decide))) (vI 3) (.inr (by omega)))) e_int) e_int ⟨by decide, by decide, g3⟩)) e_int (by decide)))) rfl) ?_
        exact s_one (s_ret (jo _ c) (EV.s (jo _ c) (e_mod (e_int1 T.bl (e_fdiv (vI 5) e_int (divW (b := 7) (by decide) (by decide) (by decide)))) (vE 1) (by omega))) fun v H j q => fin (t + 1) c (by omega) _ v H j q)
end
end K8
end
section
set_option Elab.async false
set_option linter.all false
set_option maxRecDepth 100000
set_option maxHeartbeats 1000000
set_option autoImplicit false
namespace K8
open PySem L2
open Evl (Ex)
/-- a family of what is known, by how often was dealt -/
structure JFam (S U : Addr → Prop) (a l : Addr) (ns : List Int) (J : Nat → Hp → Prop) : Prop where
  ok : ∀ n, JOk S U (J n)
  s : S a
  get : ∀ {n H}, J n H → FairAt a l ns n H
  put : ∀ {n n' H H'}, J n H → ES (Sa a) H H' → FairAt a l ns n' H' → J n' H'
theorem FairAt.up {a l : Addr} {ns : List Int} {n m : Nat} {H : Hp} (h : FairAt a l ns n H) (e : n ≤ m) : FairAt a l ns m H := by
  obtain ⟨t, c, q, j⟩ := h
  exact ⟨t, c, Nat.le_trans q e, j⟩
theorem fairFam {a l : Addr} {ns : List Int} : JFam (Sa a) (Ua a l) a l ns (FairAt a l ns) := ⟨fun _ => fairAt_ok, rfl, fun h => h, fun _ _ h => h⟩
theorem exI_hide {a l : Addr} {ns : List Int} {n : Nat} {H : Hp} (h : FairAt a l ns n H) : ExI H (hide a H) := fun b o z st => by
  by_cases e : b = a
  · subst e
    obtain ⟨t, c, _, j⟩ := h
    rw [j.1] at z
    cases z
    cases st
  · rw [hide_ne e]
    exact z
def VI.among (Ps : List VI) : VI := ⟨fun H v => ∃ P ∈ Ps, P.ok H v, fun e ⟨P, m, h⟩ => ⟨P, m, P.mono e h⟩⟩
section
variable {S U : Addr → Prop} {a l : Addr} {ns : List Int} {J : Nat → Hp → Prop} {X : Cx} {Γ : Ctx} {pos p : Pos} {e b ef : Expr} {es : List Expr} {n n1 : Nat} {ι : Type} {cost : ι → Nat} {pre : ι → Prop} {args : ι → List VP} {res : ι → VI} {x : Str} {k : Nat} {ps : List Str}
theorem es_sub (hs : S a) {H H' : Hp} (e : ES (Sa a) H H') : ES S H H' := fun c o nc h => e c o (fun z => nc (z ▸ hs)) h
theorem vs_fair {c : Nat} {P : VI} {Ps : List VI} (JF : JFam S U a l ns J) (F : Fq X.prog X.w X.K X.mg X.base x k ps [] (spF cost pre args res)) (hr : Room k X.A) (hlen : ns.length ≤ 60) (hf : EV X ef Γ (VI.is (.ref a)).p) (ha : EIS S U (J n) (J n1) X es Γ Ps) (hs : ∀ ws H, Oks Ps H ws → ∃ i, pre i ∧ cost i ≤ c ∧ Pks (args i) H ws ∧ ∀ v H', (res i).ok H' v → P.ok H' v) (hb : n1 + c ≤ 100000) (hg : Gl X x := by rfl)
    (hdb : (x == ("__debug__" : Str)) = false := by decide) (he : starEach (ef :: es) X.env = (false, eval ef X.env) :: starEach es X.env := by rfl) (hpl : (backTo pos (starEach es X.env)).any (·.1) = false := by rfl) : EVS S U (J n) (J (n1 + c)) X (.Call (.Name x p) (ef :: es) [] pos) Γ P :=
  vs_call F hr (JF.ok n) (is_cons (JF.ok n) (JF.ok n) (EV.s (JF.ok n) hf) ha he) (fun vs H2 Q r2 j2 q => by
    cases r2 with
    | @cons _ v _ ws r t =>
      obtain rfl : v = .ref a := r
      have fa := JF.get j2
      obtain ⟨i, h1, h2, h3, h4⟩ := hs ws (hide a H2) (Oks.mono (exI_hide fa) t)
      exact ⟨i, a, l, ns, n1, ws, hide a H2, h1, by rw [List.append_nil], h3, hide_ex, hide_self, fa, by omega, hlen, fun v H3 e3 f3 r3 => q v H3 (es_sub JF.s e3) (JF.put j2 e3 (f3.up (by omega))) (h4 v H3 r3)⟩) hg hdb he hpl
theorem vs_oneof {Ps : List VI} (JF : JFam S U a l ns J) (F : Fq X.prog X.w X.K X.mg X.base x k ps [] (spF (fun _ : List VI => 1) (fun Ps => 1 ≤ Ps.length ∧ Ps.length ≤ 1000) (fun Ps => [.lst Ps]) VI.among)) (hr : Room k X.A) (hlen : ns.length ≤ 60) (hf : EV X ef Γ (VI.is (.ref a)).p) (hl : ELS S U (J n) (J n1) X e Γ Ps) (h1 : 1 ≤ Ps.length) (h2 : Ps.length ≤ 1000) (hb : n1 + 1 ≤ 100000) (hg : Gl X x := by rfl)
    (hdb : (x == ("__debug__" : Str)) = false := by decide) (he : starEach [ef, e] X.env = (false, eval ef X.env) :: starEach [e] X.env := by rfl) (he2 : starEach [e] X.env = (false, eval e X.env) :: starEach [] X.env := by rfl) (hpl : (backTo pos (starEach [e] X.env)).any (·.1) = false := by rfl) : EVS S U (J n) (J (n1 + 1)) X (.Call (.Name x p) [ef, e] [] pos) Γ (VI.among Ps) := fun H0 H1 σ H f Q q => by
  obtain ⟨fa, fd, ds, G, mf, kp, bd, vd⟩ := F.ex
  refine wE_of (pe_call G hr hg mf kp bd vd pass0 (pa_cons pe_w (pa_cons pe_w pa_nil he2) he) hdb he hpl) (hf H0 H1 σ H f.f _ fun v H2 e2 r2 => hl H0 H1 σ H2 (f.mono (JF.ok n) e2) _ fun c xs H3 e3 j3 nc h3 k3 => ?_)
  obtain rfl : v = .ref a := r2
  have fa' := JF.get j3
  have ca : c ≠ a := fun z => nc (z ▸ JF.s)
  refine ⟨Ps, a, l, ns, n1, [.ref c], hide a H3, ⟨h1, h2⟩, rfl, .cons ⟨c, xs, rfl, by rw [hide_ne ca]; exact h3, k3.mono (exI_hide fa')⟩ .nil, hide_ex, hide_self, fa', by omega, hlen, fun v H4 e4 f4 r4 => q v H4 ?_ (JF.put j3 e4 f4) r4⟩
  exact (ES.of e2).trans (e3.trans (es_sub JF.s e4))
/-- a list of the entry, at a dealt place -/
theorem vs_ixE {J J1 : Hp → Prop} {Ps : List VI} (i : Nat) {y : Str} {p1 : Pos} (jo : JOk S U J) (hΓ : Γ[i]? = some (.e (.lst Ps))) (hb : EVS S U J J1 X b Γ (VI.below Ps.length)) (hN : X.N[i]? = some y := by rfl) (hv : Vis X.env.scope y := by first | exact Or.inl rfl | exact Or.inr (Or.inl rfl) | exact Or.inr (Or.inr rfl)) (hd : (y == ("__debug__" : Str)) = false := by decide) (hcd : (y == ("__classdict__" : Str)) = false := by decide) (hs : PlainIx b := by exact fun _ _ => rfl) : EVS S U J J1 X (.Subscript (.Name y p1) b pos) Γ (VI.among Ps) := fun H0 H1 σ H f Q q => by
  obtain ⟨v, s1, c, xs, rfl, h1, k1⟩ := f.f.get hΓ (by simp)
  refine wE_of (pe_ix ix_list (pe_var hN hv hd hcd) pe_w hs) ⟨_, s1, hb H0 H1 σ H f _ fun w H2 e2 j2 ⟨ix, r2⟩ => ?_⟩
  have g := f.es jo e2 j2
  have h2 := (f.f.b.trans g.f.ex) _ _ h1
  have k2 := k1.mono (.of (f.f.b.trans g.f.ex))
  have hl : ix.1 < Ps.length := ix.2
  obtain ⟨P, hP⟩ : ∃ P, Ps[ix.1]? = some P := ⟨_, List.getElem?_eq_getElem hl⟩
  obtain ⟨u, hu, ku⟩ := oks_get k2 hP
  refine ⟨c, xs, ((ix.1 : Nat) : Int), u, rfl, r2, .of h2, ?_, q u H2 e2 j2 ⟨P, List.mem_of_getElem? hP, ku⟩⟩
  unfold atI ixN
  rw [if_pos (by omega), if_pos (by have := k2.len; omega), Int.toNat_natCast]
  exact hu
end
section
variable {P : Program} {w : World} {K : PySem.W.Frag} {mg : Str → Option Value} {base : Heap} (T : Tx K mg)
include T
theorem ok_law_one_of : Fq P w K mg base "_law_one_of" 2 ["_law_fair_here", "_law_some"] [] (spF (fun _ : List VI => 1) (fun Ps => 1 ≤ Ps.length ∧ Ps.length ≤ 1000) (fun Ps => [.lst Ps]) VI.among) :=
  fq_F T.x_law_one_of sc_law_one_of (fun _ _ _ _ _ _ us hl => match us, hl with | [_, _], _ => rfl) (fun _ => rfl) fun cdv A outer s H E hr Ps a l ns n ⟨h1, h2⟩ hn hlen => by
    have h1 : 1 ≤ Ps.length := h1
    have h2 : Ps.length ≤ 1000 := h2
    exact s_one (s_ret fairAt_ok (vs_ixE 1 fairAt_ok rfl (vs_fair fairFam (ok_law_deal T) hr hlen (vI 0) (is_cons fairAt_ok fairAt_ok (EV.s fairAt_ok (P := VI.int (Ps.length : Int)) (e_lenL T.bl (vE 1))) is_nil) (fun ws H k => by
      cases k with
      | cons r t =>
        cases t
        exact ⟨Ps.length, ⟨by omega, Nat.lt_of_le_of_lt h2 (by decide)⟩, Nat.le_refl _, .cons r .nil, fun _ _ z => z⟩) hn)) fun v H j q => ⟨j, q⟩)
end
end K8
end
section
set_option Elab.async false
set_option linter.all false
set_option maxRecDepth 100000
set_option maxHeartbeats 1000000
set_option autoImplicit false
namespace K8
open PySem L2
open Evl (Ex)
/-! Drawn mixes and days. -/
def VI.small (k : Nat) : VI := VI.below k
/-- a dealt number of a day -/
def Dn (r : Rat) : Prop := Sz 4 r ∧ 0 ≤ r.num
def VI.dn : VI := VI.ex (α := { r : Rat // Dn r }) fun r => VI.num r.1
theorem dn_int {n : Nat} (h : n < 16) {H : Hp} {v : V} (q : (VI.int (n : Int)).ok H v) : VI.dn.ok H v := ⟨⟨((n : Int) : Rat), szi (k := 4) h (by decide), by simp⟩, num_of_int rfl q⟩
theorem oks_open {k : Nat} {H : Hp} : ∀ {m : Nat} {xs : List V}, Oks (List.replicate m (VI.below k)) H xs → ∃ cs : List Nat, cs.length = m ∧ (∀ c ∈ cs, c < k) ∧ Oks (natz cs) H xs
  | 0, _, .nil => ⟨[], rfl, fun _ h => (nomatch h), .nil⟩
  | m + 1, _, .cons ⟨i, r⟩ t => by
    obtain ⟨cs, h1, h2, h3⟩ := oks_open t
    refine ⟨i.1 :: cs, by simp [h1], fun c hc => ?_, .cons r h3⟩
    rcases List.mem_cons.mp hc with rfl | hc
    · exact i.2
    · exact h2 c hc
theorem oks_openD {H : Hp} : ∀ {m : Nat} {xs : List V}, Oks (List.replicate m VI.dn) H xs → ∃ rs : List Rat, rs.length = m ∧ (∀ r ∈ rs, Dn r) ∧ Oks (nums rs) H xs
  | 0, _, .nil => ⟨[], rfl, fun _ h => (nomatch h), .nil⟩
  | m + 1, _, .cons ⟨i, r⟩ t => by
    obtain ⟨cs, h1, h2, h3⟩ := oks_openD t
    refine ⟨i.1 :: cs, by simp [h1], fun c hc => ?_, .cons r h3⟩
    rcases List.mem_cons.mp hc with rfl | hc
    · exact i.2
    · exact h2 c hc
theorem map_rep {α β : Type} (xs : List α) (b : β) : xs.map (fun _ => b) = List.replicate xs.length b := by
  induction xs with
  | nil => rfl
  | cons x xs ih => rw [List.map_cons, ih]; rfl
section
variable {S U : Addr → Prop} {J J1 : Hp → Prop} {X : Cx} {Γ Γ' : Ctx} {pos p : Pos} {e b c : Expr} {st : Stmt} {sts : List Stmt} {N : NK} {R : RK} {H0 H1 H : Hp} {σ : St}
/-- an own list of dealt numbers is opened -/
theorem s_openO {k m : Nat} (i : Nat) (hΓ : Γ[i]? = some (.o (List.replicate m (VI.below k)))) (h : ∀ cs : List Nat, cs.length = m → (∀ c ∈ cs, c < k) → GSS S U J X sts (Γ.set i (.o (natz cs))) N R) : GSS S U J X sts Γ N R := fun H0 H1 σ H f D hn hr => by
  have il : i < Γ.length := (List.getElem?_eq_some_iff.mp hΓ).1
  obtain ⟨v, s1, p, xs, rfl, n, h1, kk⟩ := f.f.get hΓ (by simp)
  obtain ⟨cs, c1, c2, c3⟩ := oks_open kk
  have on : ∀ {j : Nat} {Ps : List VI}, (Γ.set i (.o (natz cs)))[j]? = some (.o Ps) → ∃ Qs, Γ[j]? = some (.o Qs) := fun {j Ps} hj => by
    by_cases z : j = i
    · subst z
      exact ⟨_, hΓ⟩
    · rw [List.getElem?_set_ne (Ne.symm z)] at hj
      exact ⟨_, hj⟩
  refine h cs c1 c2 H0 H1 σ H ⟨⟨f.f.b, f.f.ex, by simp [f.f.len], fun j T hj => ?_, fun j m Ps Qs v hjm hj hm sj sm => ?_⟩, f.nx, fun a u ⟨j, Ps, hj, sj⟩ => ?_, f.j⟩ D hn hr
  · by_cases z : j = i
    · subst z
      rw [List.getElem?_set_self il] at hj
      cases hj
      exact .inr ⟨_, s1, p, xs, rfl, n, h1, c3⟩
    · rw [List.getElem?_set_ne (Ne.symm z)] at hj
      exact f.f.ok j T hj
  · obtain ⟨_, q1⟩ := on hj
    obtain ⟨_, q2⟩ := on hm
    exact f.f.ap j m _ _ v hjm q1 q2 sj sm
  · obtain ⟨Qs, q⟩ := on hj
    exact f.no a u ⟨j, Qs, q, sj⟩
theorem Fit.up {B : Hp} (f : Fit H0 B Γ σ H) : Fit B B Γ σ H := ⟨Ex.r, f.ex, f.len, fun i T h => (f.ok i T h).imp id fun ⟨v, h1, h2⟩ => ⟨v, h1, by
  cases T with
  | u => trivial
  | i P => exact h2
  | e P => exact P.mono f.b h2
  | f P => exact h2
  | o Ps => exact h2⟩, f.ap⟩
/-- a block that changes nothing of all that, to its end -/
theorem s_liftR {P : VI} (jo : JOk S U J) (h : GS X sts Γ noN (.i P)) (k : ∀ v H, J H → P.ok H v → R v H) : GSS S U J X sts Γ N R := fun H0 H1 σ H f D hn hr => by
  obtain ⟨fb, hB⟩ := f.base jo
  refine h _ _ σ H fb.up D (fun _ _ z => z.elim) fun v H' e' r => hr v H' (fb.b.trans e') (k v H' (jo.mono' (hB.1.trans (.of e')) (fun b o u z => ?_) f.j) r)
  obtain ⟨o', z1, z2⟩ := hB.2 b u
  rw [z2] at z
  cases z
  exact e' b _ z1
/-- x = x if c else a new list -/
theorem g_keepIf (i : Nat) {x : Str} {p1 p2 pi : Pos} {Ps Qs : List VI} {k : Bool} {R : Ty} (hN : X.N.Nodup) (hΓ : Γ[i]? = some (.o Ps)) (hc : ET X c Γ k) (hb : k = false → EF X b Γ Qs) (hi : X.N[i]? = some x := by rfl) (hx : Loc X.env.scope x := by first | exact Or.inl rfl | exact Or.inr rfl) (hv : Vis X.env.scope x := by first | exact Or.inl rfl | exact Or.inr (Or.inl rfl) | exact Or.inr (Or.inr rfl)) (hd : (x == ("__debug__" : Str)) = false := by decide) (hcd : (x == ("__classdict__" : Str)) = false := by decide) (hs : swapsWith (.IfExp c (.Name x p1) b pi) (some (.Name x p2)) pos.line X.env = pure false := by rfl)
    (hf : X.fn x = true ∨ X.env.scope.names.lookup x = some .local := by first | exact .inl rfl | exact .inr rfl) : GT X (.Assign [.Name x p2] (.IfExp c (.Name x p1) b pi) pos) Γ (fitN (Γ.set i (.o (if k then Ps else Qs)))) R := fun H0 H1 σ H f D hn hr => by
  refine wS_of (ps_set hN hi hx (pe_ifExp pt_w (pe_var hi hv hd hcd) pe_w) hs hf) (hc H0 H1 σ H f _ fun H2 e2 => ?_)
  cases k with
  | true =>
    rw [if_pos rfl]
    obtain ⟨v, s1, q⟩ := (f.mono e2).get hΓ (by simp)
    refine ⟨v, s1, hn _ H2 ?_⟩
    rw [set_same s1, if_pos rfl]
    have e : Γ.set i (.o Ps) = Γ := by
      apply List.ext_getElem?
      intro m
      by_cases z : i = m
      · subst z
        rw [List.getElem?_set_self (List.getElem?_eq_some_iff.mp hΓ).1, hΓ]
      · rw [List.getElem?_set_ne z]
    rw [e]
    exact f.mono e2
  | false =>
    rw [if_neg Bool.false_ne_true]
    refine hb rfl H0 H1 σ H2 (f.mono e2) _ fun c us H3 e3 n r k3 => hn _ H3 ?_
    rw [if_neg Bool.false_ne_true]
    exact (f.mono e2).setO e3 i n r k3
end
theorem it0_rangeS {X : Cx} {Γ : Ctx} {tg e : Expr} {pos p : Pos} {S U : Addr → Prop} {J : Hp → Prop} (jo : JOk S U J) (M : Bl X.mg) {k : Nat} (h : EV X e Γ (ei (k : Int))) (hk : k ≤ 100000) (hg : Gl X "range" := by rfl) (he : starEach [e] X.env = (false, eval e X.env) :: starEach [] X.env := by rfl) (hs : starEach [e] X.env = [(false, eval e X.env)] := by rfl) : ITS S U J J X tg (.Call (.Name "range" p) [e] [] pos) Γ (List.range k) (fun i => VI.int (i : Int)) := IT0.s jo (it0_range M h hk hg he hs)
theorem below_le {j k : Nat} (h : j ≤ k) {H : Hp} {v : V} (q : (VI.below j).ok H v) : (VI.below k).ok H v := by
  obtain ⟨i, r⟩ := q
  exact ⟨⟨i.1, Nat.lt_of_lt_of_le i.2 h⟩, r⟩
theorem deal_of {m : Nat} (h0 : 0 < m) (h1 : m < 2 ^ 60) (ws : List V) (H : Hp) (k : Oks [VI.int (m : Int)] H ws) : ∃ i : Nat, (0 < i ∧ i < 2 ^ 60) ∧ 1 ≤ 1 ∧ Pks [ei (i : Int)] H ws ∧ ∀ v H', (VI.below i).ok H' v → (VI.below m).ok H' v := by
  cases k with
  | cons r t =>
    cases t
    exact ⟨m, ⟨h0, h1⟩, Nat.le_refl _, .cons r .nil, fun _ _ z => z⟩
theorem cut_drop1 (cs : List Nat) : cut (natz cs) (some 1) none = natz (cs.drop 1) := by
  cases cs with
  | nil => rfl
  | cons c cs =>
    have e : HT.sIx (natz (c :: cs)).length 0 (some 1) = 1 := by
      unfold HT.sIx
      rw [List.length_map, List.length_cons]
      show (if (1 : Int) < 0 then _ else min (1 : Int).toNat (cs.length + 1)) = 1
      rw [if_neg (by decide)]
      show min 1 _ = 1
      omega
    unfold cut
    rw [e]
    show ((natz cs).take ((natz (c :: cs)).length - 1)) = natz cs
    rw [List.take_of_length_le]
    rw [List.length_map, List.length_map, List.length_cons]
    omega
/-- parts as law_mix has them, of a sum above 0 -/
def fixP (cs : List Nat) : List Nat := if 0 < cs.sum then cs else 1 :: cs.drop 1
theorem fixP_len {cs : List Nat} (h : 1 ≤ cs.length) : (fixP cs).length = cs.length := by
  unfold fixP
  split
  · rfl
  · rw [List.length_cons, List.length_drop]
    omega
theorem fixP_pos (cs : List Nat) : 0 < (fixP cs).sum := by
  unfold fixP
  split
  · assumption
  · rw [List.sum_cons]
    omega
theorem fixP_lt {cs : List Nat} (h : ∀ c ∈ cs, c < 10) : ∀ c ∈ fixP cs, c < 10 := by
  unfold fixP
  split
  · exact h
  · intro c hc
    rcases List.mem_cons.mp hc with rfl | hc
    · decide
    · exact h c (List.mem_of_mem_drop hc)
/-- a drawn mix -/
structure Mx (g : Nat) (ss : List Rat) : Prop where
  l : ss.length = g
  sz : ∀ r ∈ ss, Sz 8 r
  nn : ∀ r ∈ ss, 0 ≤ r.num
  one : rsum ss = 1
def VI.mx (g : Nat) : VI := VI.ex (α := { ss : List Rat // Mx g ss }) fun ss => VI.tup (nums ss.1)
theorem share_sum (cs : List Nat) (m : Nat) (hm : 0 < m) : rsum (cs.map fun c : Nat => Rat.divInt (c : Int) (m : Int)) = Rat.divInt (cs.sum : Int) (m : Int) := by
  have hne : ((m : Int) : Rat) ≠ 0 := fun z => by
    have := Rat.intCast_eq_zero_iff.mp z
    omega
  induction cs with
  | nil => rw [Rat.divInt_eq_div]; show (0 : Rat) = 0 / _; rw [Rat.div_def, Rat.zero_mul]
  | cons c cs ih =>
    rw [List.map_cons, rsum_cons, ih, List.sum_cons, Rat.divInt_eq_div, Rat.divInt_eq_div, Rat.divInt_eq_div, show (((c + cs.sum : Nat) : Int) : Rat) = ((c : Int) : Rat) + ((cs.sum : Int) : Rat) by rw [← Rat.intCast_add]; rfl, Rat.div_def, Rat.div_def, Rat.div_def]
    grind
theorem mx_of {cs : List Nat} (h : ∀ c ∈ cs, c < 10) (h5 : cs.length ≤ 5) (hp : 0 < cs.sum) : Mx cs.length (cs.map fun c : Nat => Rat.divInt (c : Int) (cs.sum : Int)) where
  l := by rw [List.length_map]
  sz := fun r hr => by
    obtain ⟨c, hc, rfl⟩ := List.mem_map.mp hr
    have h1 := h c hc
    have h2 := sum_le (b := 10) (cs := cs) fun c hc => by have := h c hc; omega
    exact Sz.div (by rw [Int.natAbs_natCast]; exact Nat.lt_trans h1 (by decide)) (by omega) (by rw [Int.natAbs_natCast]; omega)
  nn := fun r hr => by
    obtain ⟨c, hc, rfl⟩ := List.mem_map.mp hr
    rw [dnum (by omega)]
    exact Int.ediv_nonneg (by omega) (by omega)
  one := by
    rw [share_sum cs _ hp, Rat.divInt_eq_div, Rat.div_def, Rat.mul_inv_cancel]
    intro z
    have := Rat.intCast_eq_zero_iff.mp z
    omega
section
variable {P : Program} {w : World} {K : PySem.W.Frag} {mg : Str → Option Value} {base : Heap} (T : Tx K mg)
include T
theorem ok_law_mix : Fq P w K mg base "_law_mix" 3 ["_law_fair_here", "_law_goods"] [] (spF (fun g : Nat => 3 * g) (fun g => 1 ≤ g ∧ g ≤ 5) (fun g => [ei (g : Int)]) VI.mx) :=
  fq_F T.x_law_mix sc_law_mix (fun _ _ _ _ _ _ us hl => match us, hl with | [_, _], _ => rfl) (fun _ => rfl) fun cdv A outer s H E hr g a l ns n ⟨h0, h1⟩ hn hlen => by
    have h0 : 1 ≤ g := h0
    have h1 : g ≤ 5 := h1
    have hn : n + 3 * g ≤ 100000 := hn
    have JF : JFam (Sa a) (Ua a l) a l ns (FairAt a l ns) := fairFam
    have jo : ∀ n, JOk (Sa a) (Ua a l) (FairAt a l ns n) := fun _ => fairAt_ok
    refine s_cons (s_setF (Ps := (List.range g).map fun _ => VI.below 10) (J1 := FairAt a l ns (n + 3 * (List.range g).length)) (jo n) (jo _) 2 sc_law_mix.nd (fs_lc (own := [("_law_good", 3)]) (Jn := fun k => FairAt a l ns (n + 3 * k)) (xs := List.range g) (F := fun i : Nat => VI.int (i : Int)) (G := fun _ => VI.below 10) (Γe := fun i => [.i (VI.is (.ref a)), .e (ei g), .u, .i (VI.int (i : Int)), .u]) (jo n) (fun k => jo _) rfl sc_law_mix.nd (blkOk_by (N := nm_law_mix) (sc := defScope st_law_mix) (by decide +kernel))
      (it0_rangeS (jo _) T.bl (vE 1) (by omega)) (by simp; omega) (fun _ _ => rfl) (fun s h C cl fp i hi => tg_name 3 sc_law_mix.nd) (fun k hk s h C cl fp i hi => ?_))) ?_
    · have hk : k < g := by rw [List.length_range] at hk; exact hk
      refine (vs_oneof (Ps := [VI.below 10, VI.below 10, VI.below 10, VI.below 10]) (n := n + 3 * k) (n1 := n + 3 * k + 1 + 1) JF (ok_law_one_of T) hr hlen (vI 0) (EFS.l (jo _) (fs_lst (jo _) (jo _) (is_cons (jo _) (jo _) (EVS.imp (P := VI.below 7) (vs_fair (n := n + 3 * k) (n1 := n + 3 * k) (c := 1) JF (ok_law_deal T) (hr.mono (by decide)) hlen (vI 0) (is_cons (jo _) (jo _) (EV.s (jo _) (P := VI.int 7) e_int) is_nil) (deal_of (by decide) (by decide)) (by omega)) (fun H v q => below_le (by decide) q)) (is_cons (jo _) (jo _) (EVS.imp (vs_add (F := fun _ : Unit => 1) (G := fun i : Fin 9 => ((i : Nat) : Int)) (jo _) (jo _) (EV.s (jo _) (e_int.imp fun H v q => ⟨(), q⟩)) (vs_fair (P := VI.below 9) (n := n + 3 * k + 1) (n1 := n + 3 * k + 1) (c := 1) JF (ok_law_deal T) (hr.mono (by decide)) hlen (vI 0) (is_cons (jo _) (jo _) (EV.s (jo _) (P := VI.int 9) e_int) is_nil) (deal_of (by decide) (by decide)) (by omega))) (fun H v ⟨z, q⟩ => ⟨⟨1 + z.2.1, by have := z.2.2; omega⟩, by rw [show v = V.int (1 + ((z.2.1 : Nat) : Int)) from q]; show V.int _ = V.int _; congr 1⟩)) (is_cons (jo _) (jo _) (EV.s (jo _) (EV.imp (P := ei 0) e_int fun H v q => ⟨⟨0, by decide⟩, q⟩)) (is_cons (jo _) (jo _) (EV.s (jo _) (EV.imp (P := ei 1) e_int fun H v q => ⟨⟨1, by decide⟩, q⟩)) is_nil)))))) (by decide) (by decide) (by omega)).imp fun H v ⟨Q, hQ, q⟩ => ?_
      simp only [List.mem_cons, List.not_mem_nil, or_false] at hQ
      rcases hQ with rfl | rfl | rfl | rfl <;> exact q
    · rw [map_rep, List.length_range]
      refine s_openO 2 rfl fun cs c1 c2 => ?_
      have hp := fixP_pos cs
      have hl := fixP_len (cs := cs) (by omega)
      have h10 := fixP_lt c2
      have hm := mx_of h10 (by omega) hp
      refine s_cons (GTS.to (Γ2 := [.i (VI.is (.ref a)), .e (ei g), .o (natz (fixP cs)), .u, .u]) (s_lift (jo _) (g_keepIf 2 sc_law_mix.nd rfl (t_gt (e_sumLn T.bl rfl (vO 2)) e_int) fun hk => ef_cat (Ps := natz [1]) (Qs := natz (cs.drop 1)) (EF.v (ef_lst (ei_cons e_int ei_nil))) (EF.v ((ef_sl (vO 2) (ep_some e_int) ep_none).to (cut_drop1 cs))) (by rw [List.length_map, List.length_map, List.length_drop]; show 1 + _ ≤ _; omega))) ?_) ?_
      · unfold fixP
        by_cases z : 0 < cs.sum
        · rw [if_pos z, decide_eq_true (show (0 : Int) < (cs.sum : Int) by omega)]
          rfl
        · rw [if_neg z, decide_eq_false (show ¬ (0 : Int) < (cs.sum : Int) by omega)]
          rfl
      · refine s_liftR (P := VI.mx g) (jo _) (g_freezeR 2 rfl (g_one (g_ret ((e_tupL T.bl (Ps := nums ((fixP cs).map fun c : Nat => Rat.divInt (c : Int) ((fixP cs).sum : Int))) (EF.v ((ef_lc (own := [("_law_part", 4)]) (xs := fixP cs) (F := fun c : Nat => VI.int (c : Int)) (G := fun c : Nat => VI.num (Rat.divInt (c : Int) ((fixP cs).sum : Int))) (Γe := fun c => [.i (VI.is (.ref a)), .e (ei g), .f (.lst (natz (fixP cs))), .u, .i (VI.int (c : Int))]) rfl sc_law_mix.nd (blkOk_by (N := nm_law_mix) (sc := defScope st_law_mix) (by decide +kernel))
          (it_list (lF 2) rfl) (by omega) (fun s h C cl fp c hc => tg_name 4 sc_law_mix.nd) (fun s h C cl fp c hc => ev_call (ok_law_number T) (hr.mono (by decide)) ((c : Int), ((fixP cs).sum : Int)) ⟨by show 0 < ((fixP cs).sum : Int); omega, ?_, ?_⟩ (ea_cons (vI 4) (ea_cons (e_sumLn T.bl rfl (vF 2)) ea_nil)))).to (by rw [nums, List.map_map]; rfl)))).imp fun H v q => ⟨⟨_, by have := hm; rw [hl, c1] at this; exact this⟩, q⟩)))) fun v H j q => ⟨j, q⟩
        · show ((fixP cs).sum : Int).natAbs < _
          rw [Int.natAbs_natCast]
          have h2 := sum_le (b := 10) (cs := fixP cs) fun c hc => by have := h10 c hc; omega
          exact Nat.lt_of_lt_of_le (show (fixP cs).sum < 2 ^ 6 by omega) (pow_le (by decide))
        · show ((c : Nat) : Int).natAbs < _
          rw [Int.natAbs_natCast]
          exact Nat.lt_of_lt_of_le (show c < 2 ^ 4 by have := h10 c hc; omega) (pow_le (by decide))
theorem ok_law_day : Fq P w K mg base "_law_day" 3 ["_law_fair_here", "_law_goods"] [] (spF (fun g : Nat => 3 + g) (fun g => g ≤ 5) (fun g => [ei (g : Int)]) (fun g => VI.tup (List.replicate g VI.dn))) :=
  fq_F T.x_law_day sc_law_day (fun _ _ _ _ _ _ us hl => match us, hl with | [_, _], _ => rfl) (fun _ => rfl) fun cdv A outer s H E hr g a l ns n h1 hn hlen => by
    have h1 : g ≤ 5 := h1
    have hn : n + (3 + g) ≤ 100000 := hn
    have JF : JFam (Sa a) (Ua a l) a l ns (FairAt a l ns) := fairFam
    have jo : ∀ n, JOk (Sa a) (Ua a l) (FairAt a l ns n) := fun _ => fairAt_ok
    have ci : ∀ {X : Cx} {Γ : Ctx} {e : Expr} (m : Nat), m < 16 → EV X e Γ (ei (m : Int)) → ∀ n, EVS (Sa a) (Ua a l) (FairAt a l ns n) (FairAt a l ns n) X e Γ VI.dn := fun m hm h n => EV.s (jo n) (h.imp fun H v q => dn_int hm q)
    have one : ∀ {X : Cx} {Γ : Ctx} {e : Expr} {pos : Pos} {n : Nat} (k : Nat), k ≤ 9 → EVS (Sa a) (Ua a l) (FairAt a l ns n) (FairAt a l ns (n + 1)) X e Γ (VI.below k) → ∀ {j : Nat} {p1 : Pos}, EVS (Sa a) (Ua a l) (FairAt a l ns n) (FairAt a l ns (n + 1)) X (.BinOp (.Constant (.int 1) j p1) .Add e pos) Γ (VI.ex fun i : Fin k => VI.int (1 + ((i : Nat) : Int))) := fun {X Γ e pos n} k hk h {j p1} => (vs_add (F := fun _ : Unit => 1) (G := fun i : Fin k => ((i : Nat) : Int)) (jo n) (jo n) (EV.s (jo n) (EV.imp (P := ei 1) e_int fun H v q => ⟨(), q⟩)) h).imp fun H v ⟨z, q⟩ => ⟨z.2, q⟩
    have deal : ∀ {X : Cx} {Γ : Ctx} {e b : Expr} {pos p : Pos} {n : Nat} (m : Nat), 0 < m → m < 2 ^ 60 → True := fun _ _ _ => trivial
    refine s_cons (s_setF (Ps := List.replicate 7 VI.dn) (J1 := FairAt a l ns (n + 3)) (jo n) (jo _) 2 sc_law_day.nd (fs_lst (jo _) (jo _) (is_cons (jo _) (jo _) (ci 0 (by decide) e_int n) (is_cons (jo _) (jo _) (ci 1 (by decide) e_int n) (is_cons (jo _) (jo _) (ci 2 (by decide) e_int n) (is_cons (jo _) (jo _) (EV.s (jo n) (EV.imp (ev_call (ok_law_number T) (hr.mono (by decide)) (1, 2) ⟨by decide, Nat.lt_of_lt_of_le (show ((2 : Int).natAbs) < 2 ^ 2 by decide) (pow_le (by decide)), Nat.lt_of_lt_of_le (show ((1 : Int).natAbs) < 2 ^ 2 by decide) (pow_le (by decide))⟩ (ea_cons e_int (ea_cons e_int ea_nil))) fun H v q => ⟨⟨Rat.divInt 1 2, Sz.div (by decide) (by decide) (by decide), by decide +kernel⟩, q⟩)) (is_cons (jo _) (jo _) (ci 3 (by decide) e_int n) (is_cons (J1 := FairAt a l ns (n + 1 + 1)) (jo _) (jo _) ?_ (is_cons (jo _) (jo _) (EVS.imp (P := VI.below 12) (vs_fair (n := n + 1 + 1) (n1 := n + 1 + 1) (c := 1) JF (ok_law_deal T) (hr.mono (by decide)) hlen (vI 0) (is_cons (jo _) (jo _) (EV.s (jo _) (P := VI.int 12) e_int) is_nil) (deal_of (by decide) (by decide)) (by omega)) fun H v ⟨i, q⟩ => dn_int (by have := i.2; omega) q) is_nil))))))))) ?_
    · refine vs_callV (ok_law_number T) (hr.mono (by decide)) (jo _) (jo _) (is_cons (jo _) (jo _) (one 9 (by decide) (vs_fair (P := VI.below 9) (n := n) (n1 := n) (c := 1) JF (ok_law_deal T) (hr.mono (by decide)) hlen (vI 0) (is_cons (jo _) (jo _) (EV.s (jo _) (P := VI.int 9) e_int) is_nil) (deal_of (by decide) (by decide)) (by omega))) (is_cons (jo _) (jo _) (one 7 (by decide) (vs_fair (P := VI.below 7) (n := n + 1) (n1 := n + 1) (c := 1) JF (ok_law_deal T) (hr.mono (by decide)) hlen (vI 0) (is_cons (jo _) (jo _) (EV.s (jo _) (P := VI.int 7) e_int) is_nil) (deal_of (by decide) (by decide)) (by omega))) is_nil)) (fun vs H2 k => ?_)
      cases k with
      | cons r1 t =>
        cases t with
        | cons r2 t =>
          cases t
          obtain ⟨i, r1⟩ := r1
          obtain ⟨j, r2⟩ := r2
          have hi := i.2
          have hj := j.2
          refine ⟨(1 + ((i : Nat) : Int), 1 + ((j : Nat) : Int)), ⟨by show (0 : Int) < 1 + _; omega, Nat.lt_of_lt_of_le (show (1 + ((j : Nat) : Int)).natAbs < 2 ^ 4 by omega) (pow_le (by decide)), Nat.lt_of_lt_of_le (show (1 + ((i : Nat) : Int)).natAbs < 2 ^ 4 by omega) (pow_le (by decide))⟩, .cons r1 (.cons r2 .nil), fun v H3 q => ⟨⟨_, Sz.div (show (1 + ((i : Nat) : Int)).natAbs < 2 ^ 4 by omega) (by omega) (show (1 + ((j : Nat) : Int)).natAbs < 2 ^ 4 by omega), ?_⟩, q⟩⟩
          rw [dnum (by omega)]
          exact Int.ediv_nonneg (by omega) (by omega)
    · refine s_one (s_ret (J1 := FairAt a l ns (n + 3 + (List.range g).length)) (P := VI.tup ((List.range g).map fun _ => VI.dn)) (jo _) (vs_tupL T.bl (jo _) (jo _) (fs_lc (own := [("_law_good", 3)]) (Jn := fun k => FairAt a l ns (n + 3 + k)) (xs := List.range g) (F := fun i : Nat => VI.int (i : Int)) (G := fun _ => VI.dn) (Γe := fun i => [.i (VI.is (.ref a)), .e (ei g), .o (List.replicate 7 VI.dn), .i (VI.int (i : Int))]) (jo _) (fun k => jo _) rfl sc_law_day.nd (blkOk_by (N := nm_law_day) (sc := defScope st_law_day) (by decide +kernel))
        (it0_rangeS (jo _) T.bl (vE 1) (by omega)) (by simp; omega) (fun _ _ => rfl) (fun s h C cl fp i hi => tg_name 3 sc_law_day.nd) (fun k hk s h C cl fp i hi => ?_))) fun v H j q => ?_)
      · have hk : k < g := by rw [List.length_range] at hk; exact hk
        refine (vs_oneof (Ps := List.replicate 7 VI.dn) (n := n + 3 + k) (n1 := n + 3 + k) JF (ok_law_one_of T) hr hlen (vI 0) (ls_own (jo _) 2) (by decide) (by decide) (by omega)).imp fun H v ⟨Q, hQ, q⟩ => ?_
        rw [List.eq_of_mem_replicate hQ] at q
        exact q
      · rw [List.length_range] at j
        rw [map_rep, List.length_range] at q
        exact ⟨by rw [show n + (3 + g) = n + 3 + g by omega]; exact j, q⟩
end
end K8
end
section
set_option Elab.async false
set_option linter.all false
set_option maxRecDepth 100000
set_option maxHeartbeats 1000000
set_option autoImplicit false
namespace K8
open PySem L2
open Evl (Ex)
/-! Counts and words: one sum. -/
/-- lists of length n and sum e -/
def Ls : Nat → Nat → List (List Nat)
  | 0, e => if e = 0 then [[]] else []
  | n + 1, e => (List.range (e + 1)).flatMap fun m => (Ls n (e - m)).map fun c => c ++ [m]
theorem Ls_mem : ∀ {n e : Nat} {c : List Nat}, c ∈ Ls n e → c.length = n ∧ c.sum = e
  | 0, e, c, h => by
    unfold Ls at h
    split at h
    · rename_i z
      rw [List.mem_singleton.mp h]
      exact ⟨rfl, z.symm⟩
    · cases h
  | n + 1, e, c, h => by
    obtain ⟨m, hm, h⟩ := List.mem_flatMap.mp h
    obtain ⟨u, hu, rfl⟩ := List.mem_map.mp h
    obtain ⟨h1, h2⟩ := Ls_mem hu
    have hm := List.mem_range.mp hm
    exact ⟨by simp [h1], by simp; omega⟩
/-- the sum by counts -/
def cSum (f : List Nat → Int) (n e : Nat) : Int := ((Ls n e).map fun c => (ways c).1 * f c).sum
theorem isum_append (a b : List Int) : (a ++ b).sum = a.sum + b.sum := by rw [List.sum_append]
theorem isum_flat {α : Type} (l : List α) (f : α → List Int) : (l.flatMap f).sum = (l.map fun a => (f a).sum).sum := by
  induction l with
  | nil => rfl
  | cons a l ih => rw [List.flatMap_cons, List.sum_append, ih, List.map_cons, List.sum_cons]
theorem isum_mul {α : Type} (l : List α) (f : α → Int) (k : Int) : (l.map fun a => f a * k).sum = (l.map f).sum * k := by
  induction l with
  | nil => simp
  | cons a l ih => rw [List.map_cons, List.sum_cons, ih, List.map_cons, List.sum_cons, Int.add_mul]
theorem isum_congr {α : Type} {l : List α} {f g : α → Int} (h : ∀ a ∈ l, f a = g a) : (l.map f).sum = (l.map g).sum := by rw [List.map_congr_left h]
theorem cSum_succ (f g : List Nat → Int) (t : Nat → Int) (n e : Nat) (h : ∀ c m, c.length = n → m ≤ e → f (c ++ [m]) = g c * t m) : cSum f (n + 1) e = ((List.range (e + 1)).map fun m => chs (e : Int) (List.range m) * cSum g n (e - m) * t m).sum := by
  unfold cSum
  show (((List.range (e + 1)).flatMap fun m => (Ls n (e - m)).map fun c => c ++ [m]).map fun c => (ways c).1 * f c).sum = _
  rw [List.map_flatMap, isum_flat]
  refine isum_congr fun m hm => ?_
  have hm := List.mem_range.mp hm
  rw [List.map_map]
  have e1 : ((Ls n (e - m)).map ((fun c => (ways c).1 * f c) ∘ fun c => c ++ [m])).sum = ((Ls n (e - m)).map fun c => ((ways c).1 * g c) * (chs (e : Int) (List.range m) * t m)).sum := by
    refine isum_congr fun c hc => ?_
    obtain ⟨h1, h2⟩ := Ls_mem hc
    show (ways (c ++ [m])).1 * f (c ++ [m]) = _
    rw [ways_snoc, h c m h1 (by omega), ways_two, show c.sum + m = e by omega]
    show (ways c).1 * chs (e : Int) (List.range m) * (g c * t m) = _
    grind
  rw [e1, isum_mul]
  grind
theorem jsum_eq (row ts : List Int) (d : Nat) : ∀ pre : List Nat, jsum row ts d pre = (pre.map fun m => chs (d : Int) (List.range m) * row.getD (d - m) 0 * ts.getD m 0).sum := by
  intro pre
  induction pre using rev_ind with
  | h0 => rfl
  | h1 l a ih => rw [jsum_snoc, ih, List.map_append, List.sum_append]; simp
theorem addL_snoc {a b : List Nat} {x y : Nat} (h : a.length = b.length) : addL (a ++ [x]) (b ++ [y]) = addL a b ++ [x + y] := by
  unfold addL
  rw [List.zipWith_append h]
  rfl
theorem getD_range {f : Nat → Int} {n j : Nat} (h : j < n) : ((List.range n).map f).getD j 0 = f j := by
  simp [h]
/-- rest_by's row tells the sum by counts -/
theorem rbrow_eq (d : Nat) (cs : List Nat) : ∀ e, e ≤ d → (rbrow d cs).getD e 0 = cSum (fun c => tw (addL cs c)) cs.length e := by
  induction cs using rev_ind with
  | h0 =>
    intro e he
    cases e with
    | zero => rfl
    | succ e =>
      have h1 : (rbrow d []).getD (e + 1) 0 = 0 := by
        show ((1 : Int) :: List.replicate d 0).getD (e + 1) 0 = 0
        rw [List.getD_cons_succ, List.getD_eq_getElem?_getD, List.getElem?_replicate]
        split <;> rfl
      rw [h1]
      rfl
  | h1 cs c ih =>
    intro e he
    rw [rbrow_snoc, getD_range (by omega), List.length_append, List.length_singleton, cSum_succ _ (fun c => tw (addL cs c)) (fun m => ((c + m : Nat) : Int) ^ (c + m)) cs.length e fun u m hu hm => by rw [addL_snoc hu.symm, tw_snoc]]
    unfold jn
    rw [jsum_eq]
    refine isum_congr fun m hm => ?_
    have hm := List.mem_range.mp hm
    rw [ih (e - m) (by omega)]
    unfold tws
    rw [getD_range (by omega)]
/-! words -/
/-- how the words count -/
def okPair (g d : Nat) : Bool := ((wds g d).map (cnt g)).isPerm ((Ls g d).flatMap fun c => List.replicate (ways c).1.toNat c) && (coa (g - 1) d).isPerm (Ls g d) && (Ls g d).all fun c => decide (0 ≤ (ways c).1)
/-- goods and days as the law has them -/
def Gd (g d : Nat) : Prop := 1 ≤ g ∧ g ≤ 5 ∧ d ≤ 4 ∧ g ^ d ≤ 27
theorem pairs_ok : ∀ g ∈ List.range 6, ∀ d ∈ List.range 5, 1 ≤ g → g ^ d ≤ 27 → okPair g d = true := by decide +kernel
theorem isum_perm {a b : List Int} (h : a.Perm b) : a.sum = b.sum := by
  induction h with
  | nil => rfl
  | cons x _ ih => rw [List.sum_cons, List.sum_cons, ih]
  | swap x y l => rw [List.sum_cons, List.sum_cons, List.sum_cons, List.sum_cons]; omega
  | trans _ _ i1 i2 => rw [i1, i2]
theorem isum_rep (n : Nat) (k : Int) : (List.replicate n k).sum = (n : Int) * k := by
  induction n with
  | zero => simp
  | succ n ih => rw [List.replicate_succ, List.sum_cons, ih]; grind
theorem words_sum {g d : Nat} (h : Gd g d) (f : List Nat → Int) : ((wds g d).map fun u => f (cnt g u)).sum = cSum f g d := by
  obtain ⟨h1, h5, h4, hp⟩ := h
  have ok := pairs_ok g (List.mem_range.mpr (by omega)) d (List.mem_range.mpr (by omega)) h1 hp
  unfold okPair at ok
  rw [Bool.and_eq_true, Bool.and_eq_true] at ok
  obtain ⟨⟨o1, _⟩, o3⟩ := ok
  have p := List.isPerm_iff.mp o1
  have e := isum_perm (p.map f)
  rw [List.map_map] at e
  rw [show ((wds g d).map fun u => f (cnt g u)) = (wds g d).map (f ∘ cnt g) from rfl, e, List.map_flatMap, isum_flat]
  refine isum_congr fun c hc => ?_
  rw [List.map_replicate, isum_rep]
  have := of_decide_eq_true (List.all_eq_true.mp o3 c hc)
  rw [show (((ways c).1.toNat : Nat) : Int) = (ways c).1 by omega]
theorem coa_sum {g d : Nat} (h : Gd g d) (f : List Nat → Int) : ((coa (g - 1) d).map fun c => (ways c).1 * f c).sum = cSum f g d := by
  obtain ⟨h1, h5, h4, hp⟩ := h
  have ok := pairs_ok g (List.mem_range.mpr (by omega)) d (List.mem_range.mpr (by omega)) h1 hp
  unfold okPair at ok
  rw [Bool.and_eq_true, Bool.and_eq_true] at ok
  exact isum_perm ((List.isPerm_iff.mp ok.1.2).map _)
end K8
end
section
set_option Elab.async false
set_option linter.all false
set_option maxRecDepth 100000
set_option maxHeartbeats 1000000
set_option autoImplicit false
namespace K8
open PySem L2
open Evl (Ex)
/-! The four ways tell one number. -/
theorem nat_ext {a b : List Nat} (h : a.length = b.length) (k : ∀ i, i < a.length → a.getD i 0 = b.getD i 0) : a = b := by
  apply List.ext_getElem h
  intro i h1 h2
  have := k i h1
  rw [List.getD_eq_getElem?_getD, List.getD_eq_getElem?_getD, List.getElem?_eq_getElem h1, List.getElem?_eq_getElem h2] at this
  exact this
/-- how often a good comes in a word -/
def occ (wd : List Nat) (i : Nat) : Nat := (wd.filter fun e => decide (e = i)).length
theorem occ_snoc (l : List Nat) (a i : Nat) : occ (l ++ [a]) i = occ l i + if a = i then 1 else 0 := by
  unfold occ
  rw [List.filter_append, List.length_append]
  by_cases z : a = i
  · subst z; simp
  · simp [z]
theorem cnt_get {m i : Nat} (h : i < m) (wd : List Nat) : (cnt m wd).getD i 0 = occ wd i := by
  simp [cnt, occ, h]
theorem cnt_len (m : Nat) (wd : List Nat) : (cnt m wd).length = m := by simp [cnt]
theorem withC_get {cs : List Nat} {i : Nat} (h : i < cs.length) (wd : List Nat) : (withC cs wd).getD i 0 = cs.getD i 0 + occ wd i := by
  induction wd using rev_ind with
  | h0 => rfl
  | h1 l a ih =>
    have hl : i < (withC cs l).length := by rw [withC_len]; exact h
    rw [withC_snoc, occ_snoc]
    unfold inc
    by_cases z : a = i
    · subst z
      rw [if_pos rfl, List.getD_eq_getElem?_getD, List.getElem?_set_self hl, Option.getD_some, ih]
      omega
    · rw [if_neg z, List.getD_eq_getElem?_getD, List.getElem?_set_ne z, ← List.getD_eq_getElem?_getD, ih]
      omega
theorem addL_get {a b : List Nat} {i : Nat} (h1 : i < a.length) (h2 : i < b.length) : (addL a b).getD i 0 = a.getD i 0 + b.getD i 0 := by
  simp [addL, List.getD_eq_getElem?_getD, List.getElem?_zipWith, List.getElem?_eq_getElem h1, List.getElem?_eq_getElem h2]
theorem withC_cnt (cs wd : List Nat) : withC cs wd = addL cs (cnt cs.length wd) := by
  apply nat_ext
  · rw [withC_len, addL_len, cnt_len]; omega
  · intro i h
    rw [withC_len] at h
    rw [withC_get h, addL_get h (by rw [cnt_len]; exact h), cnt_get h]
theorem light_sum {m i : Nat} (h : i < m) (wd : List Nat) : (wd.map fun g => (light m g).getD i 0).sum = occ wd i := by
  induction wd with
  | nil => rfl
  | cons a l ih =>
    rw [List.map_cons, List.sum_cons, ih, light_get h]
    unfold occ
    by_cases z : a = i
    · subst z; simp; omega
    · rw [List.filter_cons, if_neg (by simpa using Ne.symm z), if_neg (by simpa using z)]; omega
theorem atW_eq (cs wd : List Nat) : atW cs cs.length wd = withC cs wd := by
  apply nat_ext
  · rw [withC_len]; simp [atW]
  · intro i h
    have h : i < cs.length := by simpa [atW] using h
    rw [withC_get h]
    have e : (atW cs cs.length wd).getD i 0 = cs.getD i 0 + (wd.map fun g => (light cs.length g).getD i 0).sum := by
      simp [atW, List.getD_eq_getElem?_getD, h]
    rw [e, light_sum h]
theorem lrn_eq {cs : List Nat} {d : Nat} (h : Gd cs.length d) : lrn cs d = cSum (fun c => tw (addL cs c)) cs.length d := by
  rw [← words_sum h]
  unfold lrn
  refine isum_congr fun w hw => ?_
  rw [withC_cnt]
/-- the rest by rows of counts -/
theorem rst_eq {cs : List Nat} {d : Nat} (h : Gd cs.length d) : rst cs d = lrest cs d := by
  unfold rst lrest
  rw [rbrow_eq d cs d (Nat.le_refl _), lrn_eq h]
theorem dadd (a b : Int) {n : Int} (hn : n ≠ 0) : Rat.divInt (a + b) n = Rat.divInt a n + Rat.divInt b n := by
  rw [Rat.divInt_eq_div, Rat.divInt_eq_div, Rat.divInt_eq_div, Rat.intCast_add, Rat.div_def, Rat.div_def, Rat.div_def, Rat.add_mul]
theorem dzero (n : Int) : Rat.divInt 0 n = 0 := by simp
theorem dmul (a b n : Int) : (a : Rat) * Rat.divInt b n = Rat.divInt (a * b) n := by
  rw [Rat.divInt_eq_div, Rat.divInt_eq_div, Rat.intCast_mul, Rat.div_def, Rat.div_def, Rat.mul_assoc]
theorem rsum_div {α : Type} (l : List α) (f : α → Int) {n : Int} (hn : n ≠ 0) : rsum (l.map fun a => Rat.divInt (f a) n) = Rat.divInt (l.map f).sum n := by
  induction l with
  | nil => rw [List.map_nil, List.map_nil, List.sum_nil, dzero]; rfl
  | cons a l ih => rw [List.map_cons, rsum_cons, ih, List.map_cons, List.sum_cons, dadd _ _ hn]
theorem addL_comm (a b : List Nat) : addL a b = addL b a := by
  unfold addL
  rw [List.zipWith_comm]
  congr
  funext x y
  exact Nat.add_comm ..
theorem addL_assoc (a b c : List Nat) : addL (addL a b) c = addL a (addL b c) := by
  apply nat_ext
  · simp only [addL_len]; omega
  · intro i h
    simp only [addL_len] at h
    rw [addL_get (by rw [addL_len]; omega) (by omega), addL_get (by omega) (by omega), addL_get (by omega) (by rw [addL_len]; omega), addL_get (by omega) (by omega)]
    omega
theorem addL_sum : ∀ {a b : List Nat}, a.length = b.length → (addL a b).sum = a.sum + b.sum
  | [], [], _ => rfl
  | x :: a, y :: b, h => by
    have := addL_sum (a := a) (b := b) (by simpa using h)
    show (x + y) + (addL a b).sum = _
    rw [this, List.sum_cons, List.sum_cons]
    omega
theorem powne (n : Nat) : ((n : Int) ^ n) ≠ 0 := fun z => by
  have := self_pos n
  omega
/-- the price as counts tell it -/
theorem pric_eq {cs wd : List Nat} {d : Nat} (h : Gd cs.length d) (hw : ∀ x ∈ wd, x < cs.length) : pric cs (cnt cs.length wd) d = lrest (withC cs wd) d := by
  have hl : Gd (withC cs wd).length d := by rw [withC_len]; exact h
  unfold pric lrest
  rw [lrn_eq hl, withC_len, ← coa_sum h, ← rsum_div _ _ (powne _)]
  congr 1
  refine List.map_congr_left fun c hc => ?_
  obtain ⟨c1, c2⟩ := coa_mem hc
  have c1 : c.length = cs.length := by have := h.1; omega
  have e : addL (addL c (cnt cs.length wd)) cs = addL (withC cs wd) c := by
    rw [addL_assoc, addL_comm, addL_comm (cnt cs.length wd), ← withC_cnt]
  unfold pterm wt
  rw [dmul, e, addL_sum (by rw [withC_len, c1]), c2]
theorem bp_ok : ∀ g ∈ List.range 6, ∀ d ∈ List.range 5, 1 ≤ g → g ^ d ≤ 27 → (pfs d (g - 2)).getD (g - 1) 0 = lrn (List.replicate g 0) d := by decide +kernel
theorem bprice_eq {g d : Nat} (h : Gd g d) : bprice g d = lrest (List.replicate g 0) d := by
  obtain ⟨h1, h5, h4, hp⟩ := h
  unfold bprice lrest
  rw [bp_ok g (List.mem_range.mpr (by omega)) d (List.mem_range.mpr (by omega)) h1 hp, show (List.replicate g 0).sum + d = d by simp]
theorem zeros_of {cs : List Nat} (h : cs.sum = 0) : cs = List.replicate cs.length 0 := by
  refine List.eq_replicate_iff.mpr ⟨rfl, fun c hc => ?_⟩
  have : ∀ l : List Nat, l.sum = 0 → ∀ c ∈ l, c = 0 := by
    intro l
    induction l with
    | nil => intro _ c hc; cases hc
    | cons a l ih =>
      intro h c hc
      rw [List.sum_cons] at h
      rcases List.mem_cons.mp hc with rfl | hc
      · omega
      · exact ih (by omega) c hc
  exact this cs h c hc
end K8
end
section
set_option Elab.async false
set_option linter.all false
set_option maxRecDepth 100000
set_option maxHeartbeats 1000000
set_option autoImplicit false
namespace K8
open PySem L2
open Evl (Ex)
/-! Books, in plain words: what is held after some days. -/
theorem rsum_nil : rsum [] = 0 := rfl
theorem rsum_flat {α : Type} (l : List α) (f : α → List Rat) : rsum (l.flatMap f) = rsum (l.map fun a => rsum (f a)) := by
  induction l with
  | nil => rfl
  | cons a l ih => rw [List.flatMap_cons, rsum_append, ih, List.map_cons, rsum_cons]
theorem rsum_congr {α : Type} {l : List α} {f g : α → Rat} (h : ∀ a ∈ l, f a = g a) : rsum (l.map f) = rsum (l.map g) := by rw [List.map_congr_left h]
theorem rsum_addf {α : Type} (l : List α) (f g : α → Rat) : rsum (l.map fun a => f a + g a) = rsum (l.map f) + rsum (l.map g) := by
  induction l with
  | nil => rw [List.map_nil, List.map_nil, List.map_nil, rsum_nil, Rat.add_zero]
  | cons a l ih => rw [List.map_cons, List.map_cons, List.map_cons, rsum_cons, rsum_cons, rsum_cons, ih]; grind
theorem rsum_mulf {α : Type} (l : List α) (f : α → Rat) (k : Rat) : rsum (l.map fun a => k * f a) = k * rsum (l.map f) := by
  induction l with
  | nil => rw [List.map_nil, List.map_nil, rsum_nil, Rat.mul_zero]
  | cons a l ih => rw [List.map_cons, List.map_cons, rsum_cons, rsum_cons, ih, Rat.mul_add]
theorem rsum_zerof {α : Type} (l : List α) : rsum (l.map fun _ => (0 : Rat)) = 0 := by
  induction l with
  | nil => rfl
  | cons a l ih => rw [List.map_cons, rsum_cons, ih, Rat.add_zero]
theorem rsum_swap {α β : Type} (l : List α) (m : List β) (f : α → β → Rat) : rsum (l.map fun a => rsum (m.map fun b => f a b)) = rsum (m.map fun b => rsum (l.map fun a => f a b)) := by
  induction l with
  | nil => rw [List.map_nil, rsum_nil]; exact (rsum_zerof m).symm
  | cons a l ih =>
    rw [List.map_cons, rsum_cons, ih, ← rsum_addf]
    refine rsum_congr fun b _ => ?_
    rw [List.map_cons, rsum_cons]
/-- weights by counts -/
abbrev Hd := List (List Nat × Rat)
def addAt (c : List Nat) (q : Rat) : Hd → Hd
  | [] => [(c, 0 + q)]
  | z :: t => if z.1 = c then (z.1, z.2 + q) :: t else z :: addAt c q t
def wsum (f : List Nat → Rat) (l : Hd) : Rat := rsum (l.map fun z => z.2 * f z.1)
theorem wsum_addAt (f : List Nat → Rat) (c : List Nat) (q : Rat) : ∀ l : Hd, wsum f (addAt c q l) = wsum f l + q * f c
  | [] => by
    unfold addAt wsum
    rw [List.map_cons, List.map_nil, rsum_cons, rsum_nil]
    grind
  | z :: t => by
    have ih := wsum_addAt f c q t
    unfold wsum at ih ⊢
    unfold addAt
    split
    · rename_i e
      rw [List.map_cons, List.map_cons, rsum_cons, rsum_cons]
      show (z.2 + q) * f z.1 + _ = _
      rw [e]
      grind
    · rw [List.map_cons, List.map_cons, rsum_cons, rsum_cons, ih, Rat.add_assoc]
/-- the pairs that a day adds -/
def hpairs (g : Nat) (dy : List Rat) (l : Hd) : Hd := l.flatMap fun z => (List.range g).map fun x => (inc z.1 x, z.2 * dy.getD x 0)
def hadd (ps acc : Hd) : Hd := ps.foldl (fun acc z => addAt z.1 z.2 acc) acc
def hstep (g : Nat) (dy : List Rat) (l : Hd) : Hd := hadd (hpairs g dy l) []
def held (g : Nat) (mk : List (List Rat)) : Hd := mk.foldl (fun l dy => hstep g dy l) [(List.replicate g 0, 1)]
theorem held_snoc (g : Nat) (mk : List (List Rat)) (dy : List Rat) : held g (mk ++ [dy]) = hstep g dy (held g mk) := by unfold held; rw [List.foldl_append]; rfl
theorem wsum_hadd (f : List Nat → Rat) : ∀ ps acc : Hd, wsum f (hadd ps acc) = wsum f acc + wsum f ps
  | [], acc => by
    show wsum f acc = wsum f acc + 0
    rw [Rat.add_zero]
  | z :: ps, acc => by
    show wsum f (hadd ps (addAt z.1 z.2 acc)) = _
    rw [wsum_hadd f ps, wsum_addAt]
    show _ = wsum f acc + rsum (_ :: _)
    rw [rsum_cons]
    show wsum f acc + z.2 * f z.1 + wsum f ps = wsum f acc + (z.2 * f z.1 + wsum f ps)
    rw [Rat.add_assoc]
theorem wsum_pairs (f : List Nat → Rat) (g : Nat) (dy : List Rat) (l : Hd) : wsum f (hpairs g dy l) = wsum (fun c => rsum ((List.range g).map fun x => dy.getD x 0 * f (inc c x))) l := by
  unfold wsum hpairs
  rw [List.map_flatMap, rsum_flat]
  refine rsum_congr fun z _ => ?_
  rw [List.map_map, ← rsum_mulf]
  refine rsum_congr fun x _ => ?_
  show z.2 * dy.getD x 0 * f (inc z.1 x) = z.2 * (dy.getD x 0 * f (inc z.1 x))
  rw [Rat.mul_assoc]
theorem cnt_snoc {g x : Nat} (h : x < g) (w : List Nat) : cnt g (w ++ [x]) = inc (cnt g w) x := by
  apply nat_ext
  · rw [inc_len, cnt_len, cnt_len]
  · intro i hi
    rw [cnt_len] at hi
    rw [cnt_get hi, occ_snoc]
    unfold inc
    by_cases z : x = i
    · subst z
      rw [if_pos rfl, List.getD_eq_getElem?_getD, List.getElem?_set_self (by rw [cnt_len]; exact hi), Option.getD_some, cnt_get hi]
    · rw [if_neg z, List.getD_eq_getElem?_getD, List.getElem?_set_ne z, ← List.getD_eq_getElem?_getD, cnt_get hi]
      omega
theorem wg_snoc {mk : List (List Rat)} {w : List Nat} (h : w.length = mk.length) (dy : List Rat) (x : Nat) : wg (mk ++ [dy]) (w ++ [x]) = wg mk w * dy.getD x 0 := by
  unfold wg
  rw [List.zip_append h.symm, List.map_append, rprod_append]
  congr 1
  show rprod [dy.getD x 0] = dy.getD x 0
  rw [rprod_cons]
  show _ * (1 : Rat) = _
  rw [Rat.mul_one]
theorem cnt_nil (g : Nat) : cnt g [] = List.replicate g 0 := by
  apply nat_ext
  · rw [cnt_len, List.length_replicate]
  · intro i hi
    rw [cnt_len] at hi
    rw [cnt_get hi, List.getD_eq_getElem?_getD, List.getElem?_replicate, if_pos hi]
    rfl
/-- what is held, by words -/
theorem wsum_held (g : Nat) (mk : List (List Rat)) : ∀ f, wsum f (held g mk) = rsum ((wds g mk.length).map fun w => wg mk w * f (cnt g w)) := by
  induction mk using rev_ind with
  | h0 =>
    intro f
    show rsum [1 * f (List.replicate g 0)] = rsum [1 * f (cnt g [])]
    rw [cnt_nil]
  | h1 mk dy ih =>
    intro f
    rw [held_snoc]
    unfold hstep
    rw [wsum_hadd, wsum_pairs, ih, List.length_append, List.length_singleton]
    show (0 : Rat) + _ = rsum (((wds g mk.length).flatMap (ext g)).map _)
    rw [Rat.zero_add, List.map_flatMap, rsum_flat]
    refine rsum_congr fun w hw => ?_
    obtain ⟨w1, w2⟩ := wds_mem hw
    unfold ext
    rw [List.map_map, ← rsum_mulf]
    refine rsum_congr fun x hx => ?_
    show _ = wg (mk ++ [dy]) (w ++ [x]) * f (cnt g (w ++ [x]))
    rw [wg_snoc w1, cnt_snoc (List.mem_range.mp hx), Rat.mul_assoc]
theorem purse_eq (cs : List Nat) (d : Nat) (mk : List (List Rat)) : wsum (fun c => lrest (addL cs c) (d - mk.length)) (held cs.length mk) = lpurse cs d mk := by
  rw [wsum_held]
  unfold lpurse
  refine rsum_congr fun w _ => ?_
  rw [withC_cnt]
end K8
end
section
set_option Elab.async false
set_option linter.all false
set_option maxRecDepth 100000
set_option maxHeartbeats 1000000
set_option autoImplicit false
namespace K8
open PySem L2
open Evl (Ex)
/-! Layers of rests; how large weights grow. -/
theorem inc_get {cs : List Nat} {x i : Nat} (h : i < cs.length) : (inc cs x).getD i 0 = cs.getD i 0 + if x = i then 1 else 0 := by
  unfold inc
  by_cases z : x = i
  · subst z
    rw [if_pos rfl, List.getD_eq_getElem?_getD, List.getElem?_set_self h, Option.getD_some]
  · rw [if_neg z, List.getD_eq_getElem?_getD, List.getElem?_set_ne z, ← List.getD_eq_getElem?_getD, Nat.add_zero]
theorem inc_withC (cs w : List Nat) (x : Nat) : inc (withC cs w) x = withC (inc cs x) w := by
  apply nat_ext
  · rw [inc_len, withC_len, withC_len, inc_len]
  · intro i h
    rw [inc_len, withC_len] at h
    rw [inc_get (by rw [withC_len]; exact h), withC_get h, withC_get (by rw [inc_len]; exact h), inc_get h]
    omega
theorem inc_addL {cs c : List Nat} {x : Nat} (h : c.length = cs.length) : inc (addL cs c) x = addL cs (inc c x) := by
  apply nat_ext
  · rw [inc_len, addL_len, addL_len, inc_len]
  · intro i hi
    rw [inc_len, addL_len] at hi
    rw [inc_get (by rw [addL_len]; exact hi), addL_get (by omega) (by omega), addL_get (by omega) (by rw [inc_len]; omega), inc_get (by omega)]
    omega
theorem wds_len0 (g d : Nat) : ∀ w ∈ wds g d, w.length = d := fun w h => (wds_mem h).1
theorem isum_swap {α β : Type} (l : List α) (m : List β) (f : α → β → Int) : (l.map fun a => (m.map fun b => f a b).sum).sum = (m.map fun b => (l.map fun a => f a b).sum).sum := by
  induction l with
  | nil =>
    show (0 : Int) = (m.map fun _ => (0 : Int)).sum
    induction m with
    | nil => rfl
    | cons b m ih => rw [List.map_cons, List.sum_cons, ← ih]; rfl
  | cons a l ih =>
    rw [List.map_cons, List.sum_cons, ih]
    have key : ∀ (m : List β) (p q : β → Int), (m.map p).sum + (m.map q).sum = (m.map fun b => p b + q b).sum := by
      intro m p q
      induction m with
      | nil => rfl
      | cons b m ih => rw [List.map_cons, List.map_cons, List.map_cons, List.sum_cons, List.sum_cons, List.sum_cons, ← ih]; omega
    rw [key]
    rfl
theorem lrn_succ (c : List Nat) (e : Nat) : lrn c (e + 1) = ((List.range c.length).map fun x => lrn (inc c x) e).sum := by
  unfold lrn
  show (((wds c.length e).flatMap (ext c.length)).map _).sum = _
  rw [List.map_flatMap, isum_flat]
  have h1 : ((wds c.length e).map fun w => ((ext c.length w).map fun w => tw (withC c w)).sum).sum = ((wds c.length e).map fun w => ((List.range c.length).map fun x => tw (withC (inc c x) w)).sum).sum := by
    refine isum_congr fun w _ => ?_
    unfold ext
    rw [List.map_map]
    refine isum_congr fun x _ => ?_
    show tw (withC c (w ++ [x])) = _
    rw [withC_snoc, inc_withC]
  rw [h1, isum_swap]
  refine isum_congr fun x _ => ?_
  rw [inc_len]
theorem lrest_succ (c : List Nat) (e : Nat) : lrest c (e + 1) = rsum ((List.range c.length).map fun x => lrest (inc c x) e) := by
  have e1 : ((List.range c.length).map fun x => lrest (inc c x) e) = (List.range c.length).map fun x => Rat.divInt (lrn (inc c x) e) (((c.sum + (e + 1) : Nat) : Int) ^ (c.sum + (e + 1))) := by
    refine List.map_congr_left fun x hx => ?_
    unfold lrest
    rw [inc_sum (List.mem_range.mp hx), show c.sum + 1 + e = c.sum + (e + 1) by omega]
  rw [e1, rsum_div _ _ (powne _), ← lrn_succ]
  rfl
theorem lrest_zero (c : List Nat) : lrest c 0 = wt c := by
  unfold lrest lrn wt
  show Rat.divInt ([tw c].sum) ((c.sum : Int) ^ c.sum) = _
  rw [List.sum_cons, List.sum_nil, Int.add_zero]
/-- r is at most n parts of 1 / D -/
def Fr (D n : Nat) (r : Rat) : Prop := 0 < D ∧ ∃ k : Int, r * (((D : Nat) : Int) : Rat) = (k : Rat) ∧ k.natAbs ≤ n
theorem Fr.sz {D n k : Nat} {r : Rat} (h : Fr D n r) (hD : D < 2 ^ k) (hn : n < 2 ^ k) : Sz k r := by
  obtain ⟨h0, j, h1, h2⟩ := h
  have hne : (((D : Nat) : Int) : Rat) ≠ 0 := fun z => by
    have := Rat.intCast_eq_zero_iff.mp z
    omega
  have e : r = Rat.divInt j ((D : Nat) : Int) := by
    rw [Rat.divInt_eq_div, ← h1, Rat.div_def, Rat.mul_assoc, Rat.mul_inv_cancel _ hne, Rat.mul_one]
  rw [e]
  exact Sz.div (Nat.lt_of_le_of_lt h2 hn) (by omega) (by rw [Int.natAbs_natCast]; exact hD)
theorem Fr.mono {D n m : Nat} {r : Rat} (h : Fr D n r) (l : n ≤ m) : Fr D m r := ⟨h.1, h.2.imp fun _ q => ⟨q.1, Nat.le_trans q.2 l⟩⟩
theorem Fr.add {D n m : Nat} {r s : Rat} (h : Fr D n r) (k : Fr D m s) : Fr D (n + m) (r + s) := by
  obtain ⟨h0, i, h1, h2⟩ := h
  obtain ⟨_, j, k1, k2⟩ := k
  refine ⟨h0, i + j, ?_, by omega⟩
  rw [Rat.add_mul, h1, k1, Rat.intCast_add]
theorem Fr.mul {D E n m : Nat} {r s : Rat} (h : Fr D n r) (k : Fr E m s) : Fr (D * E) (n * m) (r * s) := by
  obtain ⟨h0, i, h1, h2⟩ := h
  obtain ⟨k0, j, k1, k2⟩ := k
  refine ⟨Nat.mul_pos h0 k0, i * j, ?_, by rw [Int.natAbs_mul]; exact Nat.mul_le_mul h2 k2⟩
  rw [Int.natCast_mul, Rat.intCast_mul, Rat.intCast_mul, ← h1, ← k1]
  grind
theorem Fr.zero {D : Nat} (h : 0 < D) : Fr D 0 0 := ⟨h, 0, by rw [Rat.zero_mul]; rfl, by decide⟩
theorem Fr.sum {D n : Nat} (h0 : 0 < D) : ∀ {rs : List Rat}, (∀ r ∈ rs, Fr D n r) → Fr D (rs.length * n) (rsum rs)
  | [], _ => by
    rw [show ([] : List Rat).length * n = 0 by simp]
    exact .zero h0
  | r :: rs, h => by
    have := (h r (by simp)).add (Fr.sum h0 (rs := rs) fun x hx => h x (by simp [hx]))
    rw [rsum_cons]
    exact this.mono (by rw [List.length_cons, Nat.add_mul]; omega)
theorem Fr.szs {D n k : Nat} {rs : List Rat} (h0 : 0 < D) (h : ∀ r ∈ rs, Fr D n r) (hD : D < 2 ^ k) (hn : rs.length * n < 2 ^ k) (hk : k ≤ 4000) (h1 : n < 2 ^ k) : SzS rs := ⟨fun r hr => ((h r hr).sz hD h1).mono hk, fun i => ((Fr.sum h0 fun r hr => h r (List.mem_of_mem_take hr)).sz hD (Nat.lt_of_le_of_lt (Nat.mul_le_mul_right _ (by rw [List.length_take]; omega)) hn)).mono hk⟩
/-- a day's dens, multiplied -/
def dens (dy : List Rat) : Nat := dy.foldl (fun a r => a * r.den) 1
theorem dens_snoc (l : List Rat) (r : Rat) : dens (l ++ [r]) = dens l * r.den := by unfold dens; rw [List.foldl_append]; rfl
theorem dens_pos (dy : List Rat) : 0 < dens dy := by
  induction dy using rev_ind with
  | h0 => decide
  | h1 l a ih => rw [dens_snoc]; exact Nat.mul_pos ih a.den_pos
theorem dens_lt {dy : List Rat} : (∀ r ∈ dy, Sz 4 r) → dens dy ≤ 2 ^ (4 * dy.length) := by
  induction dy using rev_ind with
  | h0 => intro _; decide
  | h1 l a ih =>
    intro h
    rw [dens_snoc, List.length_append, List.length_singleton, Nat.mul_add, Nat.pow_add]
    exact Nat.mul_le_mul (ih fun r hr => h r (by simp [hr])) (Nat.le_of_lt (h a (by simp)).2)
theorem dens_dvd {dy : List Rat} : ∀ r ∈ dy, r.den ∣ dens dy := by
  induction dy using rev_ind with
  | h0 => intro r hr; cases hr
  | h1 l a ih =>
    intro r hr
    rw [dens_snoc]
    rcases List.mem_append.mp hr with hr | hr
    · exact Nat.dvd_trans (ih r hr) (Nat.dvd_mul_right _ _)
    · rw [List.mem_singleton.mp hr]
      exact Nat.dvd_mul_left _ _
theorem rnum (r : Rat) : r * (((r.den : Nat) : Int) : Rat) = ((r.num : Int) : Rat) := by
  have hne : (((r.den : Nat) : Int) : Rat) ≠ 0 := fun z => by
    have := Rat.intCast_eq_zero_iff.mp z
    have := r.den_pos
    omega
  have e : r = Rat.divInt r.num r.den := (Rat.num_divInt_den r).symm
  rw [Rat.divInt_eq_div] at e
  have e2 : r * (((r.den : Nat) : Int) : Rat) = (((r.num : Int) : Rat) / (((r.den : Nat) : Int) : Rat)) * (((r.den : Nat) : Int) : Rat) := by rw [← e]
  rw [e2, Rat.div_def, Rat.mul_assoc, Rat.inv_mul_cancel _ hne, Rat.mul_one]
theorem day_fr {dy : List Rat} (h : ∀ r ∈ dy, Sz 4 r) (x : Nat) : Fr (dens dy) (16 * dens dy) (dy.getD x 0) := by
  by_cases z : x < dy.length
  · have hm := getD_mem z
    obtain ⟨m, hm2⟩ := dens_dvd _ hm
    refine ⟨dens_pos dy, (dy.getD x 0).num * (m : Int), ?_, ?_⟩
    · rw [hm2, Int.natCast_mul, Rat.intCast_mul, ← Rat.mul_assoc, rnum, Rat.intCast_mul]
    · rw [Int.natAbs_mul, Int.natAbs_natCast]
      refine Nat.mul_le_mul (Nat.le_of_lt (h _ hm).1) ?_
      rw [hm2]
      exact Nat.le_mul_of_pos_left _ (dy.getD x 0).den_pos
  · rw [List.getD_eq_getElem?_getD, List.getElem?_eq_none (by omega)]
    exact (Fr.zero (dens_pos dy)).mono (Nat.zero_le _)
def DD (mk : List (List Rat)) : Nat := mk.foldl (fun a dy => a * dens dy) 1
theorem DD_snoc (mk : List (List Rat)) (dy : List Rat) : DD (mk ++ [dy]) = DD mk * dens dy := by unfold DD; rw [List.foldl_append]; rfl
theorem DD_pos (mk : List (List Rat)) : 0 < DD mk := by
  induction mk using rev_ind with
  | h0 => decide
  | h1 l a ih => rw [DD_snoc]; exact Nat.mul_pos ih (dens_pos a)
theorem addAt_len (c : List Nat) (q : Rat) : ∀ l : Hd, (addAt c q l).length ≤ l.length + 1
  | [] => by simp [addAt]
  | z :: t => by
    unfold addAt
    split
    · simp
    · simp only [List.length_cons]
      have := addAt_len c q t
      omega
theorem addAt_fr {D n m : Nat} {c : List Nat} {q : Rat} (hq : Fr D m q) : ∀ {l : Hd}, (∀ z ∈ l, Fr D n z.2) → ∀ z ∈ addAt c q l, Fr D (n + m) z.2
  | [], _, z, hz => by
    unfold addAt at hz
    rw [List.mem_singleton.mp hz]
    exact ((Fr.zero hq.1).add hq).mono (by omega)
  | y :: t, h, z, hz => by
    unfold addAt at hz
    split at hz
    · rcases List.mem_cons.mp hz with rfl | hz
      · exact (h y (by simp)).add hq
      · exact (h z (by simp [hz])).mono (by omega)
    · rcases List.mem_cons.mp hz with rfl | hz
      · exact (h z (by simp)).mono (by omega)
      · exact addAt_fr hq (fun z hz => h z (by simp [hz])) z hz
theorem addAt_key {p : List Nat → Prop} {c : List Nat} {q : Rat} (hc : p c) : ∀ {l : Hd}, (∀ z ∈ l, p z.1) → ∀ z ∈ addAt c q l, p z.1
  | [], _, z, hz => by
    unfold addAt at hz
    rw [List.mem_singleton.mp hz]
    exact hc
  | y :: t, h, z, hz => by
    unfold addAt at hz
    split at hz
    · rcases List.mem_cons.mp hz with rfl | hz
      · exact h y (by simp)
      · exact h z (by simp [hz])
    · rcases List.mem_cons.mp hz with rfl | hz
      · exact h z (by simp)
      · exact addAt_key hc (fun z hz => h z (by simp [hz])) z hz
theorem addAt_keys (c : List Nat) (q : Rat) : ∀ l : Hd, (addAt c q l).map (·.1) = if c ∈ l.map (·.1) then l.map (·.1) else l.map (·.1) ++ [c]
  | [] => by simp [addAt]
  | z :: t => by
    have ih := addAt_keys c q t
    unfold addAt
    split
    · rename_i e
      rw [List.map_cons, List.map_cons, if_pos (by rw [e]; simp)]
    · rename_i e
      rw [List.map_cons, List.map_cons, ih]
      by_cases m : c ∈ t.map (·.1)
      · rw [if_pos m, if_pos (List.mem_cons_of_mem _ m)]
      · rw [if_neg m, if_neg (fun z => (List.mem_cons.mp z).elim (fun q => e q.symm) m)]
        rfl
theorem addAt_nodup {c : List Nat} {q : Rat} {l : Hd} (h : (l.map (·.1)).Nodup) : ((addAt c q l).map (·.1)).Nodup := by
  rw [addAt_keys]
  split
  · exact h
  · rename_i m
    rw [List.nodup_append]
    exact ⟨h, by simp, fun a ha b hb e => m (by rw [List.mem_singleton.mp hb] at e; rw [← e]; exact ha)⟩
theorem hadd_snoc (ps : Hd) (z : List Nat × Rat) (acc : Hd) : hadd (ps ++ [z]) acc = addAt z.1 z.2 (hadd ps acc) := by unfold hadd; rw [List.foldl_append]; rfl
/-- what is true of all that is being added -/
structure HOk (p : List Nat → Prop) (D n : Nat) (l : Hd) : Prop where
  nd : (l.map (·.1)).Nodup
  k : ∀ z ∈ l, p z.1
  f : ∀ z ∈ l, Fr D n z.2
theorem hadd_ok {p : List Nat → Prop} {D m : Nat} {ps : Hd} : (∀ z ∈ ps, p z.1) → (∀ z ∈ ps, Fr D m z.2) → HOk p D (ps.length * m) (hadd ps []) ∧ (hadd ps []).length ≤ ps.length := by
  induction ps using rev_ind with
  | h0 => intro _ _; exact ⟨⟨List.nodup_nil, fun z hz => (nomatch hz), fun z hz => (nomatch hz)⟩, Nat.le_refl _⟩
  | h1 ps z ih =>
    intro hk hf
    obtain ⟨i1, i2⟩ := ih (fun z hz => hk z (by simp [hz])) fun z hz => hf z (by simp [hz])
    rw [hadd_snoc]
    refine ⟨⟨addAt_nodup i1.nd, addAt_key (p := p) (hk z (by simp)) i1.k, fun y hy => ?_⟩, ?_⟩
    · exact (addAt_fr (hf z (by simp)) i1.f y hy).mono (by rw [List.length_append, List.length_singleton, Nat.add_mul, Nat.one_mul]; exact Nat.le_refl _)
    · have := addAt_len z.1 z.2 (hadd ps [])
      rw [List.length_append, List.length_singleton]
      omega
/-- what is held after some days -/
structure HB (g : Nat) (mk : List (List Rat)) (l : Hd) : Prop where
  ok : HOk (fun c => c.length = g ∧ c.sum = mk.length) (DD mk) (432 ^ mk.length * DD mk) l
  len : l.length ≤ g ^ mk.length
theorem pairs_len (g : Nat) (dy : List Rat) : ∀ l : Hd, (hpairs g dy l).length = l.length * g
  | [] => by simp [hpairs]
  | z :: t => by
    have ih := pairs_len g dy t
    unfold hpairs at ih ⊢
    rw [List.flatMap_cons, List.length_append, ih, List.length_map, List.length_range, List.length_cons, Nat.add_mul]
    omega
theorem pairs_mem {g : Nat} {dy : List Rat} {l : Hd} {z : List Nat × Rat} (h : z ∈ hpairs g dy l) : ∃ y ∈ l, ∃ x, x < g ∧ z = (inc y.1 x, y.2 * dy.getD x 0) := by
  obtain ⟨y, hy, h⟩ := List.mem_flatMap.mp h
  obtain ⟨x, hx, rfl⟩ := List.mem_map.mp h
  exact ⟨y, hy, x, List.mem_range.mp hx, rfl⟩
/-- all that a day adds: its keys, its sizes -/
theorem pairs_ok2 {g : Nat} {mk : List (List Rat)} {dy : List Rat} {l : Hd} (h : HB g mk l) (hd : ∀ r ∈ dy, Sz 4 r) : (∀ z ∈ hpairs g dy l, z.1.length = g ∧ z.1.sum = mk.length + 1) ∧ ∀ z ∈ hpairs g dy l, Fr (DD mk * dens dy) (432 ^ mk.length * DD mk * (16 * dens dy)) z.2 := by
  refine ⟨fun z hz => ?_, fun z hz => ?_⟩
  · obtain ⟨y, hy, x, hx, rfl⟩ := pairs_mem hz
    obtain ⟨k1, k2⟩ := h.ok.k y hy
    exact ⟨by rw [inc_len]; exact k1, by rw [inc_sum (by omega), k2]⟩
  · obtain ⟨y, hy, x, hx, rfl⟩ := pairs_mem hz
    exact (h.ok.f y hy).mul (day_fr hd x)
theorem hstep_ok {g : Nat} {mk : List (List Rat)} {dy : List Rat} {l : Hd} (h : HB g mk l) (hd : ∀ r ∈ dy, Sz 4 r) (hg : g ^ (mk.length + 1) ≤ 27) : HB g (mk ++ [dy]) (hstep g dy l) := by
  obtain ⟨p1, p2⟩ := pairs_ok2 h hd
  obtain ⟨o1, o2⟩ := hadd_ok (p := fun c => c.length = g ∧ c.sum = mk.length + 1) p1 p2
  have hl : (hpairs g dy l).length ≤ g ^ (mk.length + 1) := by
    rw [pairs_len, Nat.pow_succ]
    exact Nat.mul_le_mul_right _ h.len
  refine ⟨⟨o1.nd, fun z hz => ?_, fun z hz => ?_⟩, ?_⟩
  · rw [List.length_append, List.length_singleton]
    exact o1.k z hz
  · rw [List.length_append, List.length_singleton, DD_snoc]
    refine (o1.f z hz).mono ?_
    rw [Nat.pow_succ]
    calc (hpairs g dy l).length * (432 ^ mk.length * DD mk * (16 * dens dy)) ≤ 27 * (432 ^ mk.length * DD mk * (16 * dens dy)) := Nat.mul_le_mul_right _ (by omega)
      _ = 432 ^ mk.length * 432 * (DD mk * dens dy) := by grind
  · rw [List.length_append, List.length_singleton]
    exact Nat.le_trans o2 hl
theorem held_ok {g : Nat} {mk : List (List Rat)} : (∀ dy ∈ mk, ∀ r ∈ dy, Sz 4 r) → 1 ≤ g → g ^ mk.length ≤ 27 → HB g mk (held g mk) := by
  induction mk using rev_ind with
  | h0 =>
    intro _ _ _
    refine ⟨⟨by simp [held], fun z hz => ?_, fun z hz => ?_⟩, by simp [held]⟩
    · have hz : z ∈ [(List.replicate g 0, (1 : Rat))] := hz
      rw [List.mem_singleton.mp hz]
      simp
    · have hz : z ∈ [(List.replicate g 0, (1 : Rat))] := hz
      rw [List.mem_singleton.mp hz]
      exact ⟨by decide, 1, show (1 : Rat) * (((1 : Nat) : Int) : Rat) = ((1 : Int) : Rat) by decide +kernel, by decide⟩
  | h1 mk dy ih =>
    intro hd h1 hg
    rw [List.length_append, List.length_singleton] at hg
    rw [held_snoc]
    refine hstep_ok (ih (fun d hd' => hd d (by simp [hd'])) h1 ?_) (hd dy (by simp)) hg
    exact Nat.le_trans (Nat.pow_le_pow_right h1 (by omega)) hg
theorem DD_le {g : Nat} {mk : List (List Rat)} : (∀ dy ∈ mk, dy.length = g ∧ ∀ r ∈ dy, Sz 4 r) → DD mk ≤ 2 ^ (4 * g * mk.length) := by
  induction mk using rev_ind with
  | h0 => intro _; exact Nat.le_refl 1
  | h1 l a ih =>
    intro h
    rw [DD_snoc, List.length_append, List.length_singleton, Nat.mul_add, Nat.pow_add, Nat.mul_one]
    refine Nat.mul_le_mul (ih fun r hr => h r (by simp [hr])) ?_
    have := dens_lt (h a (by simp)).2
    rw [(h a (by simp)).1] at this
    exact this
theorem gd_le {g d : Nat} (h : Gd g d) : g * d ≤ 10 := by
  have key : ∀ g ∈ List.range 6, ∀ d ∈ List.range 5, 1 ≤ g → g ^ d ≤ 27 → g * d ≤ 10 := by decide +kernel
  exact key g (List.mem_range.mpr (by have := h.2.1; omega)) d (List.mem_range.mpr (by have := h.2.2.1; omega)) h.1 h.2.2.2
theorem DD_lt {g d : Nat} {mk : List (List Rat)} (h : Gd g d) (hl : mk.length ≤ d) (hm : ∀ dy ∈ mk, dy.length = g ∧ ∀ r ∈ dy, Sz 4 r) : DD mk < 2 ^ 41 := by
  have h1 := gd_le h
  have h2 : g * mk.length ≤ g * d := Nat.mul_le_mul_left _ hl
  exact Nat.lt_of_le_of_lt (Nat.le_trans (DD_le hm) (Nat.pow_le_pow_right (by decide) (show 4 * g * mk.length ≤ 40 by rw [Nat.mul_assoc]; omega))) (by decide)
theorem p432 {j : Nat} (h : j ≤ 4) : 432 ^ j ≤ 2 ^ 36 := Nat.le_trans (Nat.pow_le_pow_right (by decide) h) (by decide)
end K8
end
section
set_option Elab.async false
set_option linter.all false
set_option maxRecDepth 100000
set_option maxHeartbeats 1000000
set_option autoImplicit false
namespace K8
open PySem L2
open Evl (Ex)
/-! A best mix's worth is at least any mix's. -/
theorem mulpow (a b : Rat) : ∀ n : Nat, (a * b) ^ n = a ^ n * b ^ n
  | 0 => by rw [Rat.pow_zero, Rat.pow_zero, Rat.pow_zero, Rat.mul_one]
  | n + 1 => by rw [Rat.pow_succ, Rat.pow_succ, Rat.pow_succ, mulpow a b n]; grind
theorem bern {x y : Rat} (hx : 0 ≤ x) (hy : 0 ≤ y) : ∀ n : Nat, ((n : Rat) + 1) * x ^ n * y ≤ y ^ (n + 1) + (n : Rat) * x ^ (n + 1)
  | 0 => by
    rw [Rat.pow_zero, Rat.pow_one, Rat.pow_one]
    have : ((0 : Nat) : Rat) = 0 := rfl
    rw [this]
    grind
  | n + 1 => by
    have h := Rat.mul_le_mul_of_nonneg_right (bern hx hy n) hy
    have p : 0 ≤ x ^ n := Rat.pow_nonneg hx
    have q : (0 : Rat) ≤ (n : Rat) := Rat.natCast_nonneg
    have s : 0 ≤ (y - x) * (y - x) := by
      rcases Rat.le_total (a := x) (b := y) with z | z
      · exact Rat.mul_nonneg (by grind) (by grind)
      · have := Rat.mul_nonneg (a := x - y) (b := x - y) (by grind) (by grind)
        grind
    have r : 0 ≤ ((n : Rat) + 1) * x ^ n * ((y - x) * (y - x)) := Rat.mul_nonneg (Rat.mul_nonneg (by grind) p) s
    have e : ((n + 1 : Nat) : Rat) = (n : Rat) + 1 := by rw [Rat.natCast_add]; rfl
    rw [e, Rat.pow_succ y (n + 1), Rat.pow_succ x (n + 1)]
    rw [Rat.pow_succ x n] at *
    generalize y ^ (n + 1) = Y at *
    generalize x ^ n = A at *
    generalize (n : Rat) = N at *
    grind
theorem amgm : ∀ {l : List Rat}, (∀ r ∈ l, 0 ≤ r) → ((l.length : Nat) : Rat) ^ l.length * rprod l ≤ rsum l ^ l.length
  | [], _ => by
    rw [List.length_nil, Rat.pow_zero, Rat.pow_zero]
    show 1 * (1 : Rat) ≤ 1
    decide +kernel
  | y :: l, h => by
    have hy : 0 ≤ y := h y (by simp)
    have ih := amgm (l := l) fun r hr => h r (by simp [hr])
    have hs : 0 ≤ rsum l := by
      have : ∀ l : List Rat, (∀ r ∈ l, 0 ≤ r) → 0 ≤ rsum l := by
        intro l
        induction l with
        | nil => intro _; exact Rat.le_refl
        | cons a l ih => intro h; rw [rsum_cons]; exact Rat.add_nonneg (h a (by simp)) (ih fun r hr => h r (by simp [hr]))
      exact this l fun r hr => h r (by simp [hr])
    rw [rprod_cons, rsum_cons, List.length_cons]
    by_cases z : l.length = 0
    · have : l = [] := List.length_eq_zero_iff.mp z
      subst this
      show ((0 + 1 : Nat) : Rat) ^ (0 + 1) * (y * 1) ≤ (y + 0) ^ (0 + 1)
      have : ((0 + 1 : Nat) : Rat) = 1 := rfl
      rw [Rat.pow_one, Rat.pow_one, this]
      grind
    · have n0 : 0 < l.length := by omega
      generalize l.length = n at *
      generalize rsum l = S at *
      generalize rprod l = R at *
      have np : (0 : Rat) < (n : Rat) := Rat.natCast_pos.mpr n0
      have np1 : (0 : Rat) < ((n + 1 : Nat) : Rat) := Rat.natCast_pos.mpr (by omega)
      have e1 : ((n + 1 : Nat) : Rat) = (n : Rat) + 1 := by rw [Rat.natCast_add]; rfl
      obtain ⟨A, hA⟩ : ∃ A, S = (n : Rat) * A := ⟨S * (n : Rat)⁻¹, by rw [Rat.mul_comm, Rat.mul_assoc, Rat.inv_mul_cancel _ (by grind), Rat.mul_one]⟩
      obtain ⟨B, hB⟩ : ∃ B, y + S = ((n + 1 : Nat) : Rat) * B := ⟨(y + S) * ((n + 1 : Nat) : Rat)⁻¹, by rw [Rat.mul_comm, Rat.mul_assoc, Rat.inv_mul_cancel _ (by grind), Rat.mul_one]⟩
      have a0 : 0 ≤ A := by
        rcases Rat.le_total (a := 0) (b := A) with z | z
        · exact z
        · have := Rat.mul_le_mul_of_nonneg_left z (Rat.le_of_lt np)
          rw [← hA, Rat.mul_zero] at this
          have e : S = 0 := Rat.le_antisymm this hs
          rw [e] at hA
          have : A = 0 := by
            rcases Rat.mul_eq_zero.mp hA.symm with w | w
            · grind
            · exact w
          rw [this]
          exact Rat.le_refl
      have b0 : 0 ≤ B := by
        have t : 0 ≤ y + S := Rat.add_nonneg hy hs
        rcases Rat.le_total (a := 0) (b := B) with z | z
        · exact z
        · have := Rat.mul_le_mul_of_nonneg_left z (Rat.le_of_lt np1)
          rw [← hB, Rat.mul_zero] at this
          have e : y + S = 0 := Rat.le_antisymm this t
          rw [e] at hB
          rcases Rat.mul_eq_zero.mp hB.symm with w | w
          · grind
          · rw [w]; exact Rat.le_refl
      have rA : R ≤ A ^ n := by
        refine Rat.le_of_mul_le_mul_left (c := (n : Rat) ^ n) ?_ (Rat.pow_pos np)
        rw [← mulpow, ← hA]
        exact ih
      have bb := bern a0 b0 n
      have key : A ^ n * y ≤ B ^ (n + 1) := by
        have ey : y = ((n : Rat) + 1) * B - (n : Rat) * A := by rw [← e1, ← hB, ← hA]; grind
        rw [ey]
        rw [Rat.pow_succ A n] at bb
        grind
      rw [hB, mulpow]
      refine Rat.mul_le_mul_of_nonneg_left (Rat.le_trans ?_ key) (Rat.pow_nonneg (Rat.le_of_lt np1))
      have := Rat.mul_le_mul_of_nonneg_right rA hy
      grind
theorem rsum_nn : ∀ {l : List Rat}, (∀ r ∈ l, 0 ≤ r) → 0 ≤ rsum l
  | [], _ => Rat.le_refl
  | a :: l, h => by rw [rsum_cons]; exact Rat.add_nonneg (h a (by simp)) (rsum_nn fun r hr => h r (by simp [hr]))
theorem rprod_nn : ∀ {l : List Rat}, (∀ r ∈ l, 0 ≤ r) → 0 ≤ rprod l
  | [], _ => by show (0 : Rat) ≤ 1; decide +kernel
  | a :: l, h => by rw [rprod_cons]; exact Rat.mul_nonneg (h a (by simp)) (rprod_nn fun r hr => h r (by simp [hr]))
theorem rsum_rep (n : Nat) (a : Rat) : rsum (List.replicate n a) = (n : Rat) * a := by
  induction n with
  | zero => show (0 : Rat) = ((0 : Nat) : Rat) * a; have : ((0 : Nat) : Rat) = 0 := rfl; rw [this, Rat.zero_mul]
  | succ n ih =>
    have e1 : ((n + 1 : Nat) : Rat) = (n : Rat) + 1 := by rw [Rat.natCast_add]; rfl
    rw [List.replicate_succ, rsum_cons, ih, e1]; grind
theorem rprod_rep (n : Nat) (a : Rat) : rprod (List.replicate n a) = a ^ n := by
  induction n with
  | zero => rw [Rat.pow_zero]; rfl
  | succ n ih => rw [List.replicate_succ, rprod_cons, ih, Rat.pow_succ, Rat.mul_comm]
/-- each share over its count, as often as it counts -/
def gl (zs : List (Rat × Nat)) : List Rat := zs.flatMap fun z => List.replicate z.2 (z.1 / (z.2 : Rat))
theorem gl_cons (z : Rat × Nat) (zs : List (Rat × Nat)) : gl (z :: zs) = List.replicate z.2 (z.1 / (z.2 : Rat)) ++ gl zs := by unfold gl; rw [List.flatMap_cons]
theorem gl_nn {zs : List (Rat × Nat)} (h : ∀ z ∈ zs, 0 ≤ z.1) : ∀ r ∈ gl zs, 0 ≤ r := fun r hr => by
  obtain ⟨z, hz, hr⟩ := List.mem_flatMap.mp hr
  rw [List.eq_of_mem_replicate hr, Rat.div_def]
  by_cases e : z.2 = 0
  · rw [e]
    have : (((0 : Nat) : Rat))⁻¹ = 0 := by decide +kernel
    rw [this, Rat.mul_zero]
    exact Rat.le_refl
  · exact Rat.mul_nonneg (h z hz) (Rat.le_of_lt (Rat.inv_pos.mpr (Rat.natCast_pos.mpr (by omega))))
theorem gl_len : ∀ zs : List (Rat × Nat), (gl zs).length = (zs.map (·.2)).sum
  | [] => rfl
  | z :: zs => by rw [gl_cons, List.length_append, List.length_replicate, gl_len zs, List.map_cons, List.sum_cons]
theorem ndiv {n : Nat} (h : 0 < n) (s : Rat) : (n : Rat) * (s / (n : Rat)) = s := by
  have np : (0 : Rat) < (n : Rat) := Rat.natCast_pos.mpr h
  rw [Rat.div_def, Rat.mul_comm, Rat.mul_assoc, Rat.inv_mul_cancel _ (by grind), Rat.mul_one]
theorem gl_sum : ∀ {zs : List (Rat × Nat)}, (∀ z ∈ zs, 0 ≤ z.1) → rsum (gl zs) ≤ rsum (zs.map (·.1))
  | [], _ => Rat.le_refl
  | z :: zs, h => by
    have ih := gl_sum (zs := zs) fun y hy => h y (by simp [hy])
    have hz : 0 ≤ z.1 := h z (by simp)
    rw [gl_cons, rsum_append, rsum_rep, List.map_cons, rsum_cons]
    by_cases e : z.2 = 0
    · rw [e]
      have : ((0 : Nat) : Rat) = 0 := rfl
      rw [this, Rat.zero_mul]
      grind
    · rw [ndiv (by omega)]
      grind
theorem gl_prod : ∀ zs : List (Rat × Nat), rprod (gl zs) * rprod (zs.map fun z => ((z.2 : Nat) : Rat) ^ z.2) = rprod (zs.map fun z => z.1 ^ z.2)
  | [] => by show (1 : Rat) * 1 = 1; decide +kernel
  | z :: zs => by
    have ih := gl_prod zs
    rw [gl_cons, rprod_append, rprod_rep, List.map_cons, List.map_cons, rprod_cons, rprod_cons, ← ih]
    have e : (z.1 / (z.2 : Rat)) ^ z.2 * (z.2 : Rat) ^ z.2 = z.1 ^ z.2 := by
      by_cases e : z.2 = 0
      · rw [e, Rat.pow_zero, Rat.pow_zero, Rat.pow_zero, Rat.mul_one]
      · rw [← mulpow, Rat.mul_comm, ndiv (by omega)]
    rw [← e]
    grind
theorem rpow_le_one {s : Rat} (h0 : 0 ≤ s) (h1 : s ≤ 1) : ∀ n : Nat, s ^ n ≤ 1
  | 0 => by rw [Rat.pow_zero]; exact Rat.le_refl
  | n + 1 => by
    have := rpow_le_one h0 h1 n
    rw [Rat.pow_succ]
    have q := Rat.mul_le_mul_of_nonneg_left h1 (Rat.pow_nonneg (n := n) h0)
    grind
/-- no mix beats the counts' own -/
theorem gibbs {ss : List Rat} {c : List Nat} (hl : ss.length = c.length) (h0 : ∀ r ∈ ss, 0 ≤ r) (h1 : rsum ss = 1) : namedW ss c ≤ wt c := by
  have hz : ∀ z ∈ ss.zip c, 0 ≤ z.1 := fun z hz => h0 _ (List.of_mem_zip hz).1
  have f1 : (ss.zip c).map (·.1) = ss := by rw [List.map_fst_zip]; omega
  have f2 : (ss.zip c).map (·.2) = c := by rw [List.map_snd_zip]; omega
  have am := amgm (gl_nn hz)
  have gs := gl_sum hz
  rw [f1, h1] at gs
  rw [gl_len, f2] at am
  have s0 := rsum_nn (gl_nn hz)
  have am := Rat.le_trans am (rpow_le_one s0 gs c.sum)
  have gp := gl_prod (ss.zip c)
  have e2 : rprod ((ss.zip c).map fun z => ((z.2 : Nat) : Rat) ^ z.2) = ((tw c : Int) : Rat) := by
    rw [← tw_prod, show ((ss.zip c).map fun z => ((z.2 : Nat) : Rat) ^ z.2) = ((ss.zip c).map (·.2)).map fun c : Nat => (((c : Nat) : Int) : Rat) ^ c by rw [List.map_map]; rfl, f2]
  rw [e2] at gp
  have tp : (0 : Rat) < ((tw c : Int) : Rat) := Rat.intCast_pos.mpr (tw_pos c)
  have np : (0 : Rat) < ((c.sum : Nat) : Rat) ^ c.sum := by
    by_cases e : c.sum = 0
    · rw [e, Rat.pow_zero]; decide +kernel
    · exact Rat.pow_pos (Rat.natCast_pos.mpr (by omega))
  have g : namedW ss c = rprod (gl (ss.zip c)) * ((tw c : Int) : Rat) := gp.symm
  have w : ((c.sum : Nat) : Rat) ^ c.sum * wt c = ((tw c : Int) : Rat) := by
    unfold wt
    rw [Rat.divInt_eq_div, Rat.intCast_pow, Rat.div_def, Rat.mul_comm, Rat.mul_assoc]
    have : (((c.sum : Nat) : Int) : Rat) = ((c.sum : Nat) : Rat) := rfl
    rw [this, Rat.inv_mul_cancel _ (by grind), Rat.mul_one]
  refine Rat.le_of_mul_le_mul_left (c := ((c.sum : Nat) : Rat) ^ c.sum) ?_ np
  rw [w, g, ← Rat.mul_assoc]
  have := Rat.mul_le_mul_of_nonneg_right am (Rat.le_of_lt tp)
  rw [Rat.one_mul] at this
  exact this
end K8
end
section
set_option Elab.async false
set_option linter.all false
set_option maxRecDepth 100000
set_option maxHeartbeats 1000000
set_option autoImplicit false
namespace K8
open PySem L2
open Evl (Ex)
/-! At the end the book has at least what any mix makes. -/
theorem dot_range : ∀ {ss dy : List Rat}, ss.length = dy.length → dot ss dy = rsum ((List.range ss.length).map fun x => ss.getD x 0 * dy.getD x 0)
  | [], [], _ => rfl
  | s :: ss, r :: dy, h => by
    have ih := dot_range (ss := ss) (dy := dy) (by simpa using h)
    unfold dot at ih ⊢
    rw [List.zipWith_cons_cons, rsum_cons, ih, List.length_cons, List.range_succ_eq_map, List.map_cons, rsum_cons, List.map_map]
    rfl
theorem dots_words {ss : List Rat} (mk : List (List Rat)) : (∀ dy ∈ mk, dy.length = ss.length) → rprod (mk.map (dot ss)) = rsum ((wds ss.length mk.length).map fun w => wg mk w * rprod (w.map fun x => ss.getD x 0)) := by
  induction mk using rev_ind with
  | h0 => intro _; show (1 : Rat) = rsum [(1 : Rat) * 1]; decide +kernel
  | h1 mk dy ih =>
    intro h
    have ih := ih fun d hd => h d (by simp [hd])
    have hd := h dy (by simp)
    rw [List.map_append, rprod_append, ih, List.length_append, List.length_singleton]
    show _ * rprod [dot ss dy] = rsum (((wds ss.length mk.length).flatMap (ext ss.length)).map _)
    rw [List.map_flatMap, rsum_flat, rprod_cons]
    show _ * (_ * (1 : Rat)) = _
    rw [Rat.mul_one, Rat.mul_comm, ← rsum_mulf]
    refine rsum_congr fun w hw => ?_
    obtain ⟨w1, w2⟩ := wds_mem hw
    unfold ext
    rw [List.map_map, dot_range hd.symm, Rat.mul_comm, ← rsum_mulf]
    refine rsum_congr fun x hx => ?_
    show _ = wg (mk ++ [dy]) (w ++ [x]) * rprod ((w ++ [x]).map fun x => ss.getD x 0)
    rw [wg_snoc w1, List.map_append, rprod_append]
    show _ = _ * (_ * rprod [ss.getD x 0])
    rw [rprod_cons]
    show _ = _ * (_ * (_ * (1 : Rat)))
    rw [Rat.mul_one]
    grind
theorem namedW_inc : ∀ {ss : List Rat} {c : List Nat} {x : Nat}, ss.length = c.length → x < c.length → namedW ss (inc c x) = namedW ss c * ss.getD x 0
  | [], [], x, _, h => by cases h
  | s :: ss, a :: c, 0, _, _ => by
    show rprod (s ^ (a + 1) :: _) = rprod (s ^ a :: _) * s
    rw [rprod_cons, rprod_cons, Rat.pow_succ]
    show s ^ a * s * rprod ((ss.zip c).map fun z => z.1 ^ z.2) = s ^ a * rprod ((ss.zip c).map fun z => z.1 ^ z.2) * s
    grind
  | s :: ss, a :: c, x + 1, hl, h => by
    have ih := namedW_inc (ss := ss) (c := c) (x := x) (by simpa using hl) (by simpa using h)
    unfold namedW at ih ⊢
    show rprod (s ^ a :: ((ss.zip (inc c x)).map fun z => z.1 ^ z.2)) = rprod (s ^ a :: ((ss.zip c).map fun z => z.1 ^ z.2)) * ss.getD x 0
    rw [rprod_cons, rprod_cons, ih, Rat.mul_assoc]
theorem namedW_with {ss : List Rat} {cs : List Nat} (hl : ss.length = cs.length) (w : List Nat) : (∀ x ∈ w, x < cs.length) → namedW ss (withC cs w) = namedW ss cs * rprod (w.map fun x => ss.getD x 0) := by
  induction w using rev_ind with
  | h0 => intro _; show namedW ss cs = _ * (1 : Rat); rw [Rat.mul_one]
  | h1 w x ih =>
    intro h
    rw [withC_snoc, namedW_inc (by rw [withC_len]; exact hl) (by rw [withC_len]; exact h x (by simp)), ih fun y hy => h y (by simp [hy]), List.map_append, rprod_append]
    show _ = _ * (_ * rprod [ss.getD x 0])
    rw [rprod_cons]
    show _ = _ * (_ * (_ * (1 : Rat)))
    rw [Rat.mul_one, Rat.mul_assoc]
theorem mk0_prod (ss : List Rat) (mk : List (List Rat)) (pre : List (Rat × Nat)) : rprod (mk0 ss mk pre) = rprod (mk.map (dot ss)) * rprod (pre.map fun z => z.1 ^ z.2) := by
  induction pre using rev_ind with
  | h0 => show rprod (mk.map (dot ss)) = _ * (1 : Rat); rw [Rat.mul_one]
  | h1 l a ih =>
    rw [mk0_snoc, rprod_append, ih, rprod_rep, List.map_append, rprod_append]
    show _ = _ * (_ * rprod [a.1 ^ a.2])
    rw [rprod_cons]
    show _ = _ * (_ * (_ * (1 : Rat)))
    rw [Rat.mul_one, Rat.mul_assoc]
theorem mkl_prod (ss : List Rat) (cs : List Nat) (mk : List (List Rat)) : rprod (mkl ss cs mk) = rprod (mk.map (dot ss)) * namedW ss cs := mk0_prod ss mk (ss.zip cs)
theorem rsum_le {α : Type} : ∀ {l : List α} {f g : α → Rat}, (∀ a ∈ l, f a ≤ g a) → rsum (l.map f) ≤ rsum (l.map g)
  | [], _, _, _ => Rat.le_refl
  | a :: l, f, g, h => by
    have ih := rsum_le (l := l) (f := f) (g := g) fun b hb => h b (by simp [hb])
    have := h a (by simp)
    rw [List.map_cons, List.map_cons, rsum_cons, rsum_cons]
    grind
theorem wg_nn {g : Nat} {mk : List (List Rat)} (h : Mk g mk) {w : List Nat} (hw : ∀ x ∈ w, x < g) : 0 ≤ wg mk w := by
  refine rprod_nn fun r hr => ?_
  obtain ⟨z, hz, rfl⟩ := List.mem_map.mp hr
  have h1 := h.r z.1 (List.of_mem_zip hz).1
  have h2 := hw z.2 (List.of_mem_zip hz).2
  exact Rat.num_nonneg.mp (h1.2 _ (getD_mem (by omega))).2
/-- the law's last: what a mix makes is at most what the book has -/
theorem makes_le {ss : List Rat} {cs : List Nat} {mk : List (List Rat)} (hl : ss.length = cs.length) (hm : Mk cs.length mk) (h0 : ∀ r ∈ ss, 0 ≤ r) (h1 : rsum ss = 1) : rprod (mkl ss cs mk) ≤ lpurse cs mk.length mk := by
  rw [mkl_prod, dots_words mk fun dy hd => by rw [hl]; exact (hm.r dy hd).1, Rat.mul_comm, ← rsum_mulf]
  unfold lpurse
  rw [hl]
  refine rsum_le fun w hw => ?_
  obtain ⟨w1, w2⟩ := wds_mem hw
  rw [Nat.sub_self, lrest_zero]
  have gi := gibbs (ss := ss) (c := withC cs w) (by rw [withC_len]; exact hl) h0 h1
  rw [namedW_with hl w w2] at gi
  have := Rat.mul_le_mul_of_nonneg_left gi (wg_nn hm w2)
  grind
end K8
end
section
set_option Elab.async false
set_option linter.all false
set_option maxRecDepth 100000
set_option maxHeartbeats 1000000
set_option autoImplicit false
namespace K8
open PySem L2
open Evl (Ex)
/-! Dicts whose keys are ("counts", counts). -/
/-- such a key -/
def ck (cs : List Nat) : NestedKey := .tup [.text "counts", .tup (cs.map fun c : Nat => NestedKey.num (c : Int))]
theorem nums_inj : ∀ {a b : List Nat}, (a.map fun c : Nat => NestedKey.num (c : Int)) = b.map (fun c : Nat => NestedKey.num (c : Int)) → a = b
  | [], [], _ => rfl
  | [], _ :: _, h => by rw [List.map_nil, List.map_cons] at h; cases h
  | _ :: _, [], h => by rw [List.map_nil, List.map_cons] at h; cases h
  | x :: a, y :: b, h => by
    rw [List.map_cons, List.map_cons] at h
    injection h with h1 h2
    injection h1 with h1
    rw [nums_inj h2, show x = y by omega]
theorem ck_inj {a b : List Nat} (h : ck a = ck b) : a = b := by
  unfold ck at h
  injection h with h
  injection h with _ h
  injection h with h _
  injection h with h
  exact nums_inj h
theorem ck_depth (cs : List Nat) : (ck cs).depth ≤ 8 := by
  have key : ∀ l : List Nat, NestedKey.depthAll (l.map fun c : Nat => NestedKey.num (c : Int)) = 0 := by
    intro l
    induction l with
    | nil => rfl
    | cons c l ih =>
      show max (NestedKey.depth (.num (c : Int))) (NestedKey.depthAll (l.map fun c : Nat => NestedKey.num (c : Int))) = 0
      rw [ih]
      rfl
  show max (NestedKey.depth (.text "counts")) (max (NestedKey.depthAll (cs.map fun c : Nat => NestedKey.num (c : Int)) + 1) 0) + 1 ≤ 8
  rw [key]
  decide
abbrev VI.ck (cs : List Nat) : VI := VI.tup [VI.str "counts", VI.tup (natz cs)]
theorem ck_is {X : Cx} {pins : List (Addr × Obj)} {σ : St} {H : Hp} {s : Shared} {cs : List Nat} {q : Addr} (I : Inv X pins σ H s) (k : (VI.ck cs).ok H (.ref q)) : (nestedKind X.prog X.w).is s.heap (ck cs) q := by
  obtain ⟨a, xs, e, h1, k1⟩ := k
  cases e
  cases k1 with
  | @cons _ v1 _ _ r1 t =>
    cases t with
    | @cons _ v2 _ _ r2 t =>
      cases t
      obtain rfl : v1 = V.str "counts" := r1
      obtain ⟨p, ys, rfl, h2, k2⟩ := r2
      obtain ⟨_, its, vs, o, g1, g2, n, g3⟩ := (show ObjOk X.prog X.w H s.heap q (.tup [V.str "counts", V.ref p]) from I.hok q _ h1)
      obtain ⟨_, its2, vs2, o2, f1, f2, n2, f3⟩ := (show ObjOk X.prog X.w H s.heap p (.tup ys) from I.hok p _ h2)
      refine ⟨.tup g1 g2 g3 ?_, ck_depth cs⟩
      cases vs with
      | @cons _ u1 _ _ w1 t =>
        cases t with
        | @cons _ u2 _ _ w2 t =>
          cases t
          obtain ⟨t1, rfl⟩ := w1
          obtain rfl : u2 = Value.ref p := w2
          refine .cons (.text _ t1) (.cons (.tup f1 f2 f3 ?_) .nil)
          have key : ∀ {cs : List Nat} {ys : List V} {its : List Value}, Oks (natz cs) H ys → Vals ys its → NestedAll s.heap (cs.map fun c : Nat => NestedKey.num (c : Int)) its := by
            intro cs
            induction cs with
            | nil =>
              intro ys its k v
              cases k
              cases v
              exact .nil
            | cons c cs ih =>
              intro ys its k v
              cases k with
              | @cons _ y _ _ r t =>
                obtain rfl : y = V.int (c : Int) := r
                cases v with
                | @cons _ u _ _ w t2 =>
                  obtain ⟨tk, rfl⟩ := w
                  exact .cons (.int _ tk) (ih t t2)
          exact key k2 (by simpa using vs2)
/-- entries: counts, where the key stands, the value -/
abbrev NE := List (List Nat × Addr × V)
abbrev PairN (kvs : NE) (xs : List (NestedKey × Addr × Value)) : Prop := Paired (fun (p : List Nat × Addr × V) (q : NestedKey × Addr × Value) => q.1 = ck p.1 ∧ q.2.1 = p.2.1 ∧ RelV p.2.2 q.2.2) kvs xs
/-- the dict at d, by its own object -/
def ndP (P : Program) (w : World) (d : Addr) (kvs : NE) (h : Heap) : Prop := (d == sysModules) = false ∧ kvs.length ≤ 1000 ∧ ∃ xs, PairN kvs xs ∧ (xs.map (·.1)).Nodup ∧ ∃ o es ep, h.get? d = some o ∧ o.ExactDict ∧ o.data = .dict es ep ∧ es.toList = xs.map (entryOfKey (nestedKind P w))
def ndO (P : Program) (w : World) (d : Addr) (kvs : NE) : HO := .ext (ndP P w d kvs)
theorem ndP_stay {P : Program} {w : World} {d : Addr} {kvs : NE} {h1 h2 : Heap} (p : ndP P w d kvs h1) (e : ∀ o, h1.get? d = some o → h2.get? d = some o) : ndP P w d kvs h2 := by
  obtain ⟨a1, a2, xs, a3, a4, o, es, ep, a5, r⟩ := p
  exact ⟨a1, a2, xs, a3, a4, o, es, ep, e o a5, r⟩
theorem ndP_new {P : Program} {w : World} {H : Hp} {h : Heap} {d : Addr} {kvs : NE} (p : ndP P w d kvs h) : ObjOk P w H h d (ndO P w d kvs) := by
  obtain ⟨a1, a2, xs, a3, a4, o, es, ep, a5, r⟩ := id p
  exact ⟨p, ⟨o, a5⟩, fun h1 h2 => ndP_stay⟩
/-- all keys stand -/
def KOk (H : Hp) (kvs : NE) : Prop := ∀ p ∈ kvs, (VI.ck p.1).ok H (.ref p.2.1)
theorem nd_get {X : Cx} {pins : List (Addr × Obj)} {σ : St} {H : Hp} {s : Shared} {d : Addr} {kvs : NE} (I : Inv X pins σ H s) (hd : Rd H d (ndO X.prog X.w d kvs)) (hk : KOk H kvs) : (d == sysModules) = false ∧ kvs.length ≤ 1000 ∧ ∃ xs, PairN kvs xs ∧ s.heap.DictOfH (nestedKind X.prog X.w) d xs := by
  obtain ⟨⟨a1, a2, xs, a3, a4, o, es, ep, a5, a6, a7, a8⟩, _⟩ := (show ObjOk X.prog X.w H s.heap d (ndO X.prog X.w d kvs) from hd.ok I.hok)
  refine ⟨a1, a2, xs, a3, o, es, ep, a5, a6, a7, a8, fun y hy => ?_, a4⟩
  have key : ∀ {kvs : NE} {xs : List (NestedKey × Addr × Value)}, PairN kvs xs → KOk H kvs → ∀ y ∈ xs, (nestedKind X.prog X.w).is s.heap y.1 y.2.1 := by
    intro kvs xs k
    induction k with
    | nil => intro _ y hy; cases hy
    | @cons p q ps qs r t ih =>
      intro hk y hy
      rcases List.mem_cons.mp hy with rfl | hy
      · rw [r.1, r.2.1]
        exact ck_is I (hk p (by simp))
      · exact ih (fun p hp => hk p (by simp [hp])) y hy
  exact key a3 hk y hy
/-- what stands at some counts -/
def atN : NE → List Nat → Option V
  | [], _ => none
  | p :: t, cs => if p.1 = cs then some p.2.2 else atN t cs
def putN (kvs : NE) (cs : List Nat) (q : Addr) (v : V) : NE := if (atN kvs cs).isSome then kvs.map (fun p => if p.1 = cs then (p.1, p.2.1, v) else p) else kvs ++ [(cs, q, v)]
theorem atKey_cons (x : NestedKey × Addr × Value) (xs : List (NestedKey × Addr × Value)) (k : NestedKey) : atKey (x :: xs) k = if x.1 = k then some x.2 else atKey xs k := by
  unfold atKey
  rw [List.find?_cons]
  by_cases z : x.1 = k
  · rw [decide_eq_true z, if_pos z]; rfl
  · rw [decide_eq_false z, if_neg z]
theorem pn_at {kvs : NE} {xs : List (NestedKey × Addr × Value)} (k : PairN kvs xs) (cs : List Nat) : match atN kvs cs with
    | some v => ∃ p, atKey xs (ck cs) = some p ∧ RelV v p.2
    | none => atKey xs (ck cs) = none := by
  induction k with
  | nil => rfl
  | @cons p q ps qs r t ih =>
    unfold atN
    rw [atKey_cons, r.1]
    by_cases z : p.1 = cs
    · rw [if_pos z, z, if_pos rfl]
      exact ⟨_, rfl, r.2.2⟩
    · rw [if_neg z, if_neg fun e => z (ck_inj e)]
      exact ih
theorem pn_put {kvs : NE} {xs : List (NestedKey × Addr × Value)} (k : PairN kvs xs) {cs : List Nat} {q : Addr} {v : V} {u : Value} (r : RelV v u) : PairN (putN kvs cs q v) (storedH xs (ck cs) q u) := by
  have h := pn_at k cs
  unfold putN
  cases e : atN kvs cs with
  | none =>
    rw [e] at h
    rw [storedH_new h]
    exact pAppend k (.cons ⟨rfl, rfl, r⟩ .nil)
  | some w =>
    rw [e] at h
    obtain ⟨p, hp, _⟩ := h
    rw [storedH_old hp]
    clear e hp
    show PairN (kvs.map _) (xs.map _)
    induction k with
    | nil => exact .nil
    | @cons a b as bs rr t ih =>
      refine .cons ?_ (ih)
      show (putAt (ck cs) u b).1 = ck (if a.1 = cs then (a.1, a.2.1, v) else a).1 ∧ (putAt (ck cs) u b).2.1 = (if a.1 = cs then (a.1, a.2.1, v) else a).2.1 ∧ RelV (if a.1 = cs then (a.1, a.2.1, v) else a).2.2 (putAt (ck cs) u b).2.2
      unfold putAt
      rw [rr.1]
      by_cases z : a.1 = cs
      · rw [if_pos z, if_pos (by rw [z])]
        exact ⟨rfl, rr.2.1, r⟩
      · rw [if_neg z, if_neg fun e => z (ck_inj e)]
        exact ⟨rr.1, rr.2.1, rr.2.2⟩
theorem putN_len (kvs : NE) (cs : List Nat) (q : Addr) (v : V) : (putN kvs cs q v).length ≤ kvs.length + 1 := by
  unfold putN
  split
  · simp
  · simp
theorem putN_keys {H : Hp} {kvs : NE} {cs : List Nat} {q : Addr} {v : V} (h : KOk H kvs) (hq : (VI.ck cs).ok H (.ref q)) : KOk H (putN kvs cs q v) := fun p hp => by
  unfold putN at hp
  split at hp
  · obtain ⟨r, hr, rfl⟩ := List.mem_map.mp hp
    split
    · exact h r hr
    · exact h r hr
  · rcases List.mem_append.mp hp with hp | hp
    · exact h p hp
    · rw [List.mem_singleton.mp hp]
      exact hq
section
variable {X : Cx} {pins : List (Addr × Obj)} {σ : St} {H : Hp} {s : Shared} {d q : Addr} {kvs : NE} {cs : List Nat} {v : V} {u : Value}
theorem room_nd {A : Around} (hu : A.units + 9 < cLine) : (nestedKind X.prog X.w).room A.in1 := by
  show A.in1.units + 8 < cLine
  have : A.in1.units ≤ A.units + 1 := by
    unfold Around.units Around.in1
    simp
  omega
/-- d[k] -/
def rIxN (P : Program) (w : World) : R2 := fun x y H Q => ∃ d q kvs cs v, x = .ref d ∧ y = .ref q ∧ Rd H d (ndO P w d kvs) ∧ KOk H kvs ∧ (VI.ck cs).ok H (.ref q) ∧ atN kvs cs = some v ∧ Q v H
theorem ix_nd (hu : X.A.units + 9 < cLine) : IxR X (rIxN X.prog X.w) := by
  intro value slice pins s σ H x y v u Q I rx ry h hs
  obtain ⟨d, q, kvs, cs, z, rfl, rfl, hd, hk, kq, ha, hq⟩ := h
  obtain rfl : v = Value.ref d := rx
  obtain rfl : u = Value.ref q := ry
  obtain ⟨_, _, xs, pr, dd⟩ := nd_get I hd hk
  have g := pn_at pr cs
  rw [ha] at g
  obtain ⟨p, hp, rv⟩ := g
  exact PyProof.Rows.tail_any dd.typeIs PySem.F.slot_dict_getitem.lookup (wpAny_getItem_heap (room_nd hu) (ck_is I kq) dd hp ⟨z, H, I.tok _, rv, hq⟩) hs
/-- d[k] = v -/
def rSetN (P : Program) (w : World) : V → V → V → Hp → (Hp → Prop) → Prop := fun o i v H Q => ∃ d q kvs cs, o = .ref d ∧ i = .ref q ∧ H d = some (ndO P w d kvs) ∧ KOk H kvs ∧ (VI.ck cs).ok H (.ref q) ∧ kvs.length < 1000 ∧ Q (upd H d (ndO P w d (putN kvs cs q v)))
theorem nd_write (I : Inv X pins σ H s) (hd : H d = some (ndO X.prog X.w d kvs)) (hl : kvs.length < 1000) (hs : (d == sysModules) = false) {xs : List (NestedKey × Addr × Value)} {h' : Heap} {t' : Nat} (pr : PairN kvs xs) (rv : RelV v u) (dd : h'.DictOfH (nestedKind X.prog X.w) d (storedH xs (ck cs) q u)) (sb : Heap.SameBut d s.heap h') : Inv X pins σ (upd H d (ndO X.prog X.w d (putN kvs cs q v))) { s with heap := h', toks := t' } := by
  obtain ⟨o, es, ep, a5, a6, a7, a8, _, a9⟩ := dd
  refine I.write (x := d) (e := d) (by rw [hd]; trivial) (.inl rfl) (fun b u hb z => (sb.2 b hb).trans z) ⟨o, a5⟩ (ndP_new ⟨hs, ?_, _, pn_put pr rv, a9, o, es, ep, a5, a6, a7, a8⟩)
  have := putN_len kvs cs q v
  omega
theorem set_nd (hu : X.A.units + 9 < cLine) : PSet X (rSetN X.prog X.w) := by
  intro pins s σ H o i v ov iv u Q I ro ri rv h
  obtain ⟨d, q, kvs, cs, rfl, rfl, hd, hk, kq, hl, hq⟩ := h
  obtain rfl : ov = Value.ref d := ro
  obtain rfl : iv = Value.ref q := ri
  obtain ⟨hs, _, xs, pr, dd⟩ := nd_get I (.of hd) hk
  have hz : xs.length ≤ sizeLine := by rw [← pr.length]; exact Nat.le_trans (Nat.le_of_lt hl) (by decide)
  exact wpAny_setItem_heap (hsz := hz) (room_nd hu) (ck_is I kq) dd fun h' dd' sb => ⟨_, nd_write I hd hl hs pr rv dd' sb, hq⟩
/-- .. by a comprehension -/
theorem dictSet_nd {A : Around} {E : Value → Shared → Prop} {Q : Unit → Shared → Prop} (hu : A.units + 8 < cLine) (I : Inv X pins σ H s) (hd : H d = some (ndO X.prog X.w d kvs)) (hk : KOk H kvs) (kq : (VI.ck cs).ok H (.ref q)) (hl : kvs.length < 1000) (rv : RelV v u) (h : ∀ s', Inv X pins σ (upd H d (ndO X.prog X.w d (putN kvs cs q v))) s' → Q () s') : wpAny (model X.prog X.w) A (dictSet d (.ref q) u) Q E s := by
  obtain ⟨hs, _, xs, pr, dd⟩ := nd_get I (.of hd) hk
  have hz : xs.length ≤ sizeLine := by rw [← pr.length]; exact Nat.le_trans (Nat.le_of_lt hl) (by decide)
  exact wpAny_dictSet_heap (hsz := hz) (show (nestedKind X.prog X.w).room A from hu) (ck_is I kq) dd fun h' dd' sb => h _ (nd_write I hd hl hs pr rv dd' sb)
/-- a new one -/
theorem nd_fresh (I : Inv X pins σ H s) {t' : Nat} : Inv X pins σ (upd H s.heap.objs.size (ndO X.prog X.w s.heap.objs.size [])) { s with heap := s.heap.push { cls := .type "dict", data := .dict #[] }, toks := t' } :=
  I.laid (t' := t') (fun b o e => Heap.get?_push_of_some _ e) (Nat.le_refl _) (ndP_new ⟨beq_eq_false_iff_ne.mpr (Ne.symm (Nat.ne_of_lt I.big)), by decide, [], .nil, List.nodup_nil, _, #[], 0, Heap.get?_push_size _ rfl, ⟨rfl, rfl, rfl⟩, rfl, rfl⟩)
/-- d.get(k, x) -/
def tGetN (P : Program) (w : World) (td ty tx : TE) : TE := fun σ H Q => td σ H fun x H1 => ∃ d kvs0, x = .ref d ∧ Rd H1 d (ndO P w d kvs0) ∧ KOk H1 kvs0 ∧ ty σ H1 fun y H2 => tx σ H2 fun z H3 => ∃ q kvs cs, y = .ref q ∧ Rd H3 d (ndO P w d kvs) ∧ KOk H3 kvs ∧ (VI.ck cs).ok H3 (.ref q) ∧ Q ((atN kvs cs).getD z) H3
theorem pe_getN {o e f : Expr} {apos cpos : Pos} {td ty tx : TE} (hu : X.A.units + 9 < cLine) (ho : PE X o td) (he : PE X e ty) (hf : PE X f tx) (m : M2 X o "get" apos e f cpos) : PE X (.Call (.Attribute o "get" apos) [e, f] [] cpos) (tGetN X.prog X.w td ty tx) := by
  refine ⟨fun pins s σ H Q I h => wpAny_Call_method m.base m.few m.line PySem.F.plainAttrs_dict PySem.F.slot_dict_get PySem.F.type_dict_get (thn (ho.run pins s σ H _ I h) fun u s1 ⟨x, H1, I1, rx, d, kvs0, ex, hd0, hk0, q1⟩ => ?_)⟩
  subst ex
  obtain rfl : u = Value.ref d := rx
  obtain ⟨_, _, xs0, _, dd0⟩ := nd_get I1 hd0 hk0
  refine ⟨dd0.typeIs, fun b z => ?_, ?_⟩
  · cases z
    obtain ⟨ob, _, _, g1, g2, _⟩ := dd0
    exact ⟨ob, g1, g2.2.1⟩
  rw [m.trees]
  refine Calls.callWith_builtin rfl (Calls.evalArgs_plain (Calls.spliced_cons (thn (he.run pins s1 σ H1 _ I1 q1) fun iv s2 ⟨y, H2, I2, ry, q2⟩ => Calls.spliced_cons (thn (hf.run pins s2 σ H2 _ I2 q2) fun fv s3 ⟨z, H3, I3, rz, q, kvs, cs, ey, hd, hk, kq, q3⟩ => Calls.spliced_nil ?_))))
  subst ey
  obtain rfl : iv = Value.ref q := ry
  obtain ⟨hs, _, xs, pr, dd⟩ := nd_get I3 hd hk
  refine getOr_keyed (room_nd hu) (ck_is I3 kq) hs ⟨xs, dd, rfl⟩ ⟨_, H3, I3.tok _, ?_, q3⟩
  rw [valueAt_pairsH]
  have g := pn_at pr cs
  cases e : atN kvs cs with
  | none =>
    rw [e] at g
    rw [g]
    exact rz
  | some v =>
    rw [e] at g
    obtain ⟨p, hp, rv⟩ := g
    rw [hp]
    exact rv
end
end K8
end
section
set_option Elab.async false
set_option linter.all false
set_option maxRecDepth 100000
set_option maxHeartbeats 1000000
set_option autoImplicit false
namespace K8
open PySem L2
open Evl (Ex)
/-! A frozen dict of nested keys, walked by items. -/
section
variable {X : Cx} {pins : List (Addr × Obj)} {σ : St} {H : Hp} {s : Shared} {d : Addr} {o : Obj} {kvs : NE}
theorem frz_nd (I : Inv X pins σ H s) (h : H d = some (.frz o (ndO X.prog X.w d kvs))) : (d == sysModules) = false ∧ s.heap.get? d = some o ∧ o.ExactDict ∧ ∃ (es : Array DictEntry) (ep : Nat), o.data = .dict es ep ∧ es.size = kvs.length ∧
    ∀ (i : Nat) (p : List Nat × Addr × V), kvs[i]? = some p → ∃ en : DictEntry, es[i]? = some en ∧ en.key = .ref p.2.1 ∧ RelV p.2.2 en.val := by
  obtain ⟨g, ⟨a1, a2, xs, a3, a4, o', es, ep, a5, a6, a7, a8⟩, _⟩ := (show ObjOk X.prog X.w H s.heap d (.frz o (ndO X.prog X.w d kvs)) from I.hok d _ h)
  rw [g] at a5
  cases a5
  refine ⟨a1, g, a6, es, ep, a7, ?_, fun i p hp => ?_⟩
  · have l1 := size_of_entries a8
    have l2 := a3.length
    omega
  · have key : ∀ {kvs : NE} {xs : List (NestedKey × Addr × Value)}, PairN kvs xs → ∀ {i : Nat} {p : List Nat × Addr × V}, kvs[i]? = some p → ∃ q, xs[i]? = some q ∧ q.2.1 = p.2.1 ∧ RelV p.2.2 q.2.2 := by
      intro kvs xs k
      induction k with
      | nil => intro i p h; simp at h
      | @cons a b as bs r t ih =>
        intro i p h
        cases i with
        | zero =>
          have e : a = p := Option.some.inj h
          subst e
          exact ⟨b, rfl, r.2⟩
        | succ i => exact ih h
    obtain ⟨q, hq, e1, e2⟩ := key a3 hp
    have z := entry_at a8 i
    rw [hq] at z
    exact ⟨_, z, by show Value.ref q.2.1 = _; rw [e1], e2⟩
end
/-- its pairs, each a new tuple -/
def ItD (P : Program) (w : World) (d : Addr) (o : Obj) (kvs : NE) : It :=
  ⟨fun i H => H d = some (.frz o (ndO P w d kvs)) ∧ i < kvs.length, fun i H x H' => ∃ t p, kvs[i]? = some p ∧ x = .ref t ∧ H t = none ∧ H' = upd H t (.tup [.ref p.2.1, p.2.2]), fun i H => H d = some (.frz o (ndO P w d kvs)) ∧ kvs.length ≤ i⟩
theorem turn_nd {P : Program} {w : World} {K : PySem.W.Frag} {d : Addr} {o : Obj} {es : Array DictEntry} {ep : Nat} {kvs : NE} {elts : List Expr} {kk : Nat} {tpos : Pos} (it : Addr) (hod : o.data = .dict es ep) :
    Turn P w K (.Tuple elts kk tpos) (ItD P w d o kvs) [it] it (fun i h => ∃ ok ov, IsItemIter h it d i kvs.length ep ok ov) where
  mem := by simp
  obj := fun i h st b hb => by
    obtain ⟨ok, ov, e⟩ := st
    rw [List.mem_singleton.mp hb]
    exact ⟨_, e, fun v z => nomatch z⟩
  keep := fun i h h' st k => by
    obtain ⟨ok, ov, e⟩ := st
    exact ⟨ok, ov, k it (by simp) _ e⟩
  item := by
    intro X h1 h2 h3 hc i pins s σ H E I hf st hg
    subst h1
    subst h2
    subst h3
    obtain ⟨hd, hi⟩ := hg
    obtain ⟨hs, gd, hx, es', ep', hdt, hsz, ent⟩ := frz_nd I hd
    obtain ⟨rfl, rfl⟩ := dict_ep hod hdt
    obtain ⟨p, hp⟩ : ∃ p, kvs[i]? = some p := ⟨kvs[i], List.getElem?_eq_getElem hi⟩
    obtain ⟨en, he, ek, rv⟩ := ent i p hp
    have hie : i < es'.size := by omega
    obtain rfl : es'[i] = en := by rw [Array.getElem?_eq_getElem hie] at he; exact Option.some.inj he
    obtain ⟨ok, ov, hit⟩ := st
    rw [← hsz] at hit
    have hlt : it < s.heap.objs.size := Heap.lt_size hit
    refine wpAny_pyNext_items_item_raw hit ⟨o, gd, hx, hdt⟩ hie fun h' ho hT hz hk => ⟨_, rfl, wpAny_letOwnedTupleGo_items (s := { s with heap := h' }) ho fun g he' sb => ?_⟩
    have hT2 := (sb.2 _ (Nat.ne_of_gt hlt)).trans hT
    have new : ObjOk X.prog X.w (upd H s.heap.objs.size (.tup [.ref p.2.1, p.2.2])) g s.heap.objs.size (.tup [.ref p.2.1, p.2.2]) :=
      ⟨by show 2 ≤ sizeLine; decide, [es'[i].key, es'[i].val], .cons ek (.cons rv .nil), ⟨_, hT2, rfl, _, rfl⟩⟩
    have J := I.turnedNew (t' := s.toks) (ch := [it]) (fun b ob hb e => (sb.2 b (by simpa using hb)).trans (hk b ob (by simpa using hb) e)) hf (Nat.le_refl _) new
    refine ⟨.ref s.heap.objs.size, _, J, rfl, ⟨_, p, hp, rfl, I.hok.fresh (Nat.le_refl _), rfl⟩, ⟨_, _, by rw [← hsz]; exact he'⟩, fun b hb => ?_⟩
    rw [List.mem_singleton.mp hb, upd_ne (Nat.ne_of_lt hlt)]
    exact (hf it (by simp)).1
  done := by
    intro X h1 h2 h3 hc i pins s σ H E I hf st hg
    subst h1
    subst h2
    subst h3
    obtain ⟨hd, hi⟩ := hg
    obtain ⟨f0, f1, f2, f3, f4, f5⟩ := hf it (by simp)
    obtain ⟨hs, gd, hx, es', ep', hdt, hsz, ent⟩ := frz_nd I hd
    obtain ⟨rfl, rfl⟩ := dict_ep hod hdt
    obtain ⟨ok, ov, hit⟩ := st
    rw [← hsz] at hit
    exact wpAny_pyNext_items_end_raw (I.ok.hd hc) hit ⟨o, gd, hx, hdt⟩ (by omega) fun h' eb => ⟨rfl, I.turned (t' := s.toks) (fun b ob hb e => eb b ob hb e) f0 f1 f3 f4 f5⟩
  self := fun A i s Q E st h => by
    obtain ⟨ok, ov, e⟩ := st
    exact PySem.W.kcp_self e h
def iItemsN (P : Program) (w : World) (td : TE) : TI := fun σ H R => td σ H fun x H1 => ∃ d o kvs, x = .ref d ∧ H1 d = some (.frz o (ndO P w d kvs)) ∧ R (ItD P w d o kvs) H1
theorem pi_itemsN {X : Cx} {e : Expr} {td : TE} {apos cpos : Pos} {elts : List Expr} {kk : Nat} {tpos : Pos} (he : PE X e td) (hbase : attributeBase e "items" X.env (eval e X.env) = eval e X.env := by rfl) (hline : (apos.endLine == cpos.line) = true := by rfl) :
    PI X (.Tuple elts kk tpos) (.Call (.Attribute e "items" apos) [] [] cpos) (iItemsN X.prog X.w td) := by
  refine ⟨fun pins s σ H R I h => wpAny_Call_method (T := "dict") (id := "dict.items") hbase rfl hline PySem.F.plainAttrs_dict PySem.F.slot_dict_items PySem.F.type_dict_items (thn (he.run pins s σ H _ I h) fun u s1 ⟨x, H1, I1, rx, d, o, kvs, ex, hd, q⟩ => ?_)⟩
  subst ex
  obtain rfl : u = Value.ref d := rx
  obtain ⟨hs, gd, hx, es, ep, hdt, hsz, ent⟩ := frz_nd I1 hd
  have raw : s1.heap.DictRaw d es ep := ⟨o, gd, hx, hdt⟩
  refine ⟨raw.typeIs, fun b z => ?_, ?_⟩
  · cases z
    exact ⟨o, gd, hx.2.1⟩
  have I2 : Inv X pins σ H1 { s1 with heap := s1.heap.push { cls := .type "dict_items", data := .fields #[.ref d] } } := I1.kept (t' := s1.toks) fun b ob q => Heap.get?_push_of_some _ q
  have fin : wpAny (model X.prog X.w) X.A (pyIter (.ref s1.heap.objs.size)) (PIE X pins σ (.Tuple elts kk tpos) R) X.xe { s1 with heap := s1.heap.push { cls := .type "dict_items", data := .fields #[.ref d] } } := by
    refine wpAny_pyIter_items_raw (d := d) ⟨_, Heap.get?_push_size _ rfl, rfl, rfl⟩ (raw.at fun ob z => Heap.get?_push_of_some _ z) (pi_one (tk := s1.toks) I2 _ (turn_nd _ hdt) ⟨.none, .none, ?_⟩ q)
    rw [← hsz]
    exact Heap.get?_push_size _ rfl
  show wpAny _ _ (callWith cpos (.builtin "dict.items") [.ref d] [] []) _ X.xe s1
  exact method_meetsIn PySem.F.slot_dict_items PySem.F.entry_dict_items rfl (PySem.evalArgs_none ⟨rfl, raw.typeIs, PySem.F.args_dict_items_1 _, _, meets_dict_items_raw d hs, ⟨es, ep, raw⟩, fin⟩)
end K8
end
section
set_option Elab.async false
set_option linter.all false
set_option maxRecDepth 100000
set_option maxHeartbeats 1000000
set_option autoImplicit false
namespace K8
open PySem L2
open Evl (Ex)
/-! {key: value for target in iter}, the keys ("counts", counts). -/
def tDcN (P : Program) (w : World) (wi : TI) (g : TG) (tk tv : TE) (vs : List Nat) : TE := fun σ H Q => wi σ H fun Jt H1 => ∀ D, H1 D = none → ∃ W : Nat → Nat → Hp → Prop, (∃ m, W 0 m (upd H1 D (ndO P w D []))) ∧ ∀ i m H, W i m H →
  (Jt.stop i H ∧ Q (.ref D) H) ∨ (Jt.go i H ∧ ∃ Nx : Hp → Prop, (∀ H', Nx H' → ∃ m', m' < m ∧ W (i + 1) m' H') ∧ ∀ x H', Jt.yld i H x H' → g x (L2.wipe σ vs) H' fun σ2 H2 => L2.wipe σ2 vs = L2.wipe σ vs ∧
    tk σ2 H2 fun y H4 => tv σ2 H4 fun z H5 => ∃ kvs q cs, y = .ref q ∧ H5 D = some (ndO P w D kvs) ∧ KOk H5 kvs ∧ (VI.ck cs).ok H5 (.ref q) ∧ kvs.length < 1000 ∧ Nx (upd H5 D (ndO P w D (putN kvs cs q z))))
section
variable {X : Cx}
theorem dcN_core {pins : List (Addr × Obj)} {s : Shared} {σ : St} {H : Hp} {Q : VK} {kx vx tg iter : Expr} {scope : Scope} {own : List (Str × Nat)} {pos pos' : Pos} {wi : TI} {g : TG} {tk tv : TE} {use : Option (Value → Sem Unit)} {Qf : Value → Shared → Prop}
    (hu : X.A.units + 8 < cLine) (hc : X.calm = true) (hN : X.N.Nodup) (I : Inv X pins σ H s) (hi : PI X tg iter wi) (ok : BlkOk X.N X.env.scope scope own)
    (hg : ∀ s H C cl fp, PG (bk X scope s H C cl fp) tg g) (hk : ∀ s H C cl fp, PE (bk X scope s H C cl fp) kx tk) (he : ∀ s H C cl fp, PE (bk X scope s H C cl fp) vx tv) (hs : ∀ x, foldedSetIterable iter X.env x = pure x)
    (h : tDcN X.prog X.w wi g tk tv (own.map (·.2)) σ H Q)
    (fin : ∀ D C s' m H', Inv X pins σ H' s' → Q (.ref D) H' → s'.heap.Ns C m → FpOk X pins H' C → compPost (model X.prog X.w) X.A X.xe use Qf (.ref D) C (.ok .next) s') :
    wpAny (model X.prog X.w) X.A (comprehension (.DictComp kx vx [⟨tg, iter, [], 0⟩] scope pos) scope X.env pos' newDict false (eval iter X.env) use) Qf X.xe s := by
  have hfree : ∀ y ∈ scope.names, y.2 = .free → ∃ c, X.env.cells.lookup y.1 = some c := fun y hy e => (ok.free y hy e).elim (fun k => I.ok.has _ (.inl k)) fun k => I.ok.has _ (.inr k)
  refine wpAny_comprehension_free (use := use) rfl hs (closure_ok hfree) ok.kind (fun y hy e => by rw [ok.uniq y hy, e]) (thn (hi.run pins s σ H _ I h) fun xv sa ha => thn ha fun itv sb hb => ?_)
  obtain ⟨it, fp, tn, Jt, Hb, rfl, Ib, Tu, stb, fb, q⟩ := hb
  refine wpAny_newObj_type (newEnv_comp ?_)
  generalize hD : sb.heap.objs.size = D
  have nD : Hb D = none := Ib.hok.fresh (Nat.le_of_eq hD)
  obtain ⟨W, ⟨m0, w0⟩, turn⟩ := q D nD
  generalize hsc : ({ sb with heap := sb.heap.push { cls := .type "dict", data := .dict #[] } } : Shared) = sc
  have Ic : Inv X pins σ (upd Hb D (ndO X.prog X.w D [])) sc := by
    rw [← hsc, ← hD]
    exact nd_fresh (t' := sb.toks) Ib
  have eqc : sc.heap = sb.heap.push { cls := .type "dict", data := .dict #[] } := by rw [← hsc]
  have lt_b : ∀ b ∈ fp, b < sb.heap.objs.size := fun b hb => let ⟨o, e, _⟩ := Tu.obj _ _ stb b hb; Heap.lt_size e
  have fc : ∀ b ∈ fp, FpOk X pins (upd Hb D (ndO X.prog X.w D [])) b ∧ b < sc.heap.objs.size := fun b hb => by
    have l := lt_b b hb
    exact ⟨⟨by rw [upd_ne (by rw [← hD]; exact Nat.ne_of_lt l)]; exact (fb b hb).1, (fb b hb).2⟩, by rw [eqc, Heap.size_push]; exact Nat.lt_succ_of_lt l⟩
  have stc : tn 0 sc.heap := Tu.keep _ _ _ stb fun b _ o e => by rw [eqc]; exact Heap.get?_push_of_some _ e
  have Id := block_start Ic ok hN fc
  have pg := hg sc (upd Hb D (ndO X.prog X.w D [])) sc.heap.objs.size (cellsFrom (sc.heap.objs.size + 1) scope.names (cloFrom X.env.cells scope.names [])) fp
  have pk := hk sc (upd Hb D (ndO X.prog X.w D [])) sc.heap.objs.size (cellsFrom (sc.heap.objs.size + 1) scope.names (cloFrom X.env.cells scope.names [])) fp
  have pv := he sc (upd Hb D (ndO X.prog X.w D [])) sc.heap.objs.size (cellsFrom (sc.heap.objs.size + 1) scope.names (cloFrom X.env.cells scope.names [])) fp
  unfold bk at pg pk pv
  show codeAny _ _ (.compStart (.DictComp kx vx [⟨tg, iter, [], 0⟩] scope pos) 0 (.ref it) (.ref D) (compEnvC scope (cellsFrom (sc.heap.objs.size + 1) scope.names (cloFrom X.env.cells scope.names [])) sc.heap.objs.size X.env)) (compPost (model X.prog X.w) X.A X.xe use Qf (.ref D) sc.heap.objs.size) { sc with heap := pushCells (sc.heap.push { cls := .type "dict", data := .dict #[] }) scope.names }
  have nfp : ∀ b ∈ fp, (upd Hb D (ndO X.prog X.w D [])) b = none := fun b hb => (fc b hb).1.1
  generalize hce : compEnvC scope (cellsFrom (sc.heap.objs.size + 1) scope.names (cloFrom X.env.cells scope.names [])) sc.heap.objs.size X.env = ce at Id pg pk pv ⊢
  have cL : ce.locals = sc.heap.objs.size := by rw [← hce]; rfl
  generalize hHc : upd Hb D (ndO X.prog X.w D []) = Hc at Ic Id pg pk pv w0 nfp fc
  generalize hsd : ({ sc with heap := pushCells (sc.heap.push { cls := .type "dict", data := .dict #[] }) scope.names } : Shared) = sd at Id ⊢
  have std : tn 0 sd.heap := Tu.keep _ _ _ stc fun b _ o e => by rw [← hsd]; exact pushCells_keeps _ _ _ _ (Heap.get?_push_of_some _ e)
  have stat : ∀ {σ' : St} {H' : Hp} {s' : Shared}, Inv (X.blk sc Hc scope ce fp) [] σ' H' s' → (∀ b ∈ fp, H' b = none) → ∀ b ∈ fp, FpOk (X.blk sc Hc scope ce fp) [] H' b := fun {σ' H' s'} I' hn b hb =>
    ⟨hn b hb, (I'.ok.exf b hb).1, I'.ok.exfs b hb, .inl hb, fun x c e => (I'.ok.exf b hb).2 x c e, fun p hp => absurd (show p ∈ ([] : List (Addr × Obj)) ++ [] from hp) (by simp)⟩
  have loop : codeAny (model X.prog X.w) X.A (.compLoop (.DictComp kx vx [⟨tg, iter, [], 0⟩] scope pos) 0 (.ref it) (.ref D) ce) (compPost (model X.prog X.w) X.A X.xe use Qf (.ref D) sc.heap.objs.size) sd := by
    refine compLoop_anyD (fun n s' => ∃ i H', Inv (X.blk sc Hc scope ce fp) [] (L2.wipe σ (own.map (·.2))) H' s' ∧ tn i s'.heap ∧ (∀ b ∈ fp, H' b = none) ∧ W i n H') ?_ m0 ⟨0, Hc, Id, std, nfp, w0⟩
    rintro n se ⟨i, He, Ie, ste, ne, we⟩
    rcases turn i n He we with ⟨stop, qq⟩ | ⟨go, Nx, hNx, step⟩
    · refine thnF (Tu.done (X.blk sc Hc scope ce fp) rfl rfl rfl hc i [] se _ He (fun _ _ => False) Ie (stat Ie ne) ste stop) fun r sf ⟨hr, If⟩ => ?_
      subst hr
      have Ig : Inv X pins σ He sf := Ic.call' (ch := fp) If.os If.base If.hok If.bare fun b hb => let z := (fc b hb).1.2; ⟨z.2.2.1, z.1, z.2.2.2.1, z.2.2.2.2⟩
      have nC : He sc.heap.objs.size = none := by rw [← cL]; exact If.free
      obtain ⟨m, hn, _⟩ := If.loc
      have hn : sf.heap.Ns ce.locals m := hn
      rw [cL] at hn
      exact fin D _ sf m He Ig qq hn (Ic.fpOk (Nat.le_refl _) nC)
    · refine thnF (Tu.item (X.blk sc Hc scope ce fp) rfl rfl rfl hc i [] se _ He (fun _ _ => False) Ie (stat Ie ne) ste go) fun r sf ⟨u, hr, hf⟩ => ?_
      subst hr
      refine thnF hf fun _ sg ⟨x, Hg, Ig, rg, yg, stg, ng⟩ => ?_
      refine thnF (pg.run _ sg _ Hg x u _ (Ig.pinned (stat Ig ng) (Tu.obj _ _ stg)) rg (step x Hg yg)) fun _ sh ⟨σ8, Hh, Ih, wh, qh⟩ => ?_
      refine wpAny_pure ?_
      rw [if_pos rfl]
      refine thnF (pk.run _ sh σ8 Hh _ Ih qh) fun z si ⟨yk, Hi, Ii, ri, qi⟩ => ?_
      refine thnF (pv.run _ si σ8 Hi _ Ii qi) fun z2 sj ⟨yv, Hj, Ij, rj, kvs, kq, cs, ek, hDj, hkj, kqj, lj, nx⟩ => ?_
      subst ek
      obtain rfl : z = Value.ref kq := ri
      refine dictSet_nd (X := X.blk sc Hc scope ce fp) hu Ij hDj hkj kqj lj rj fun sk Ik => ?_
      obtain ⟨m', hm, w'⟩ := hNx _ nx
      have pin' : ∀ b ∈ fp, ∀ o, sg.heap.get? b = some o → sk.heap.get? b = some o ∧ _ := fun b hb o e =>
        let z := Ik.pin (b, o) (List.mem_append_right _ (List.mem_append_right _ (mem_pinsAt hb e)))
        ⟨z.1, z.2.1⟩
      refine ⟨m', hm, i + 1, _, (Ik.unpinned (pins := [])).weak (by rw [← wh, wipe_length]) (fun j v e => ?_), Tu.keep _ _ _ stg fun b hb o e => (pin' b hb o e).1, fun b hb => ?_, w'⟩
      · rw [← wh] at e
        exact (wipe_some e).1
      · obtain ⟨o, e, _⟩ := Tu.obj _ _ stg b hb
        exact (pin' b hb o e).2
  exact codeAny_compStart_dict loop (Tu.self X.A 0 _ _ _ std loop)
theorem pe_dcN {kx vx tg iter : Expr} {scope : Scope} {own : List (Str × Nat)} {pos : Pos} {wi : TI} {g : TG} {tk tv : TE} (hu : X.A.units + 8 < cLine) (hc : X.calm = true) (hN : X.N.Nodup) (hi : PI X tg iter wi) (ok : BlkOk X.N X.env.scope scope own)
    (hg : ∀ s H C cl fp, PG (bk X scope s H C cl fp) tg g) (hk : ∀ s H C cl fp, PE (bk X scope s H C cl fp) kx tk) (he : ∀ s H C cl fp, PE (bk X scope s H C cl fp) vx tv) (hs : ∀ x, foldedSetIterable iter X.env x = pure x := by intro _; rfl) :
    PE X (.DictComp kx vx [⟨tg, iter, [], 0⟩] scope pos) (tDcN X.prog X.w wi g tk tv (own.map (·.2))) := by
  refine ⟨fun pins s σ H Q I h => ?_⟩
  rw [arm_eval_DictComp]
  refine dcN_core hu hc hN I hi ok hg hk he hs h fun D C s' m H' I' q hn f => ⟨m, hn, fun h'' sb => ⟨.ref D, H', I'.turned (t' := s'.toks) (fun b o hb e => (sb.2 b hb).trans e) f.1 f.2.1 f.2.2.2.1 f.2.2.2.2.1 f.2.2.2.2.2, rfl, q⟩⟩
end
end K8
end
section
set_option Elab.async false
set_option linter.all false
set_option maxRecDepth 100000
set_option maxHeartbeats 1000000
set_option autoImplicit false
namespace K8
open PySem L2
open Evl (Ex)
/-! Frozen lists and dicts: things that stay. -/
section
variable {X : Cx} {σ : St} {H : Hp} {e : Expr}
theorem wE_lock {Q : VK} (h : wE X e σ H fun v H2 => ∃ a u, v = .ref a ∧ H2 a = some u ∧ Mut (some u) ∧ ∀ o, Q v (upd H2 a (.frz o u))) : wE X e σ H Q := fun pins s I => thn (h pins s I) fun u' s' ⟨v, H2, I2, r, a, u, ev, hu, mu, q⟩ => by
  obtain ⟨od, I3⟩ := I2.lock hu mu
  exact ⟨v, _, I3, r, q od⟩
end
def VI.fl (Ps : List VI) : VI := ⟨fun H v => ∃ a o xs, v = .ref a ∧ H a = some (.frz o (.lst xs)) ∧ Oks Ps H xs, fun e ⟨a, o, xs, h1, h2, h3⟩ => ⟨a, o, xs, h1, e a _ h2 trivial, h3.mono e⟩⟩
abbrev RowsOk (rows : Hd) (H : Hp) (kvs : NE) : Prop := Paired (fun (z : List Nat × Rat) (p : List Nat × Addr × V) => p.1 = z.1 ∧ (VI.num z.2).ok H p.2.2) rows kvs
theorem RowsOk.mono {rows : Hd} {H H' : Hp} {kvs : NE} (e : ExI H H') (h : RowsOk rows H kvs) : RowsOk rows H' kvs := Paired.mapP h fun z _ q => ⟨q.1, (VI.num z.2).mono e q.2⟩
theorem KOk.mono {H H' : Hp} {kvs : NE} (e : ExI H H') (h : KOk H kvs) : KOk H' kvs := fun p hp => (VI.ck p.1).mono e (h p hp)
/-- a finished dict, counts to numbers -/
def VI.nd (P : Program) (w : World) (rows : Hd) : VI := ⟨fun H v => ∃ d o kvs, v = .ref d ∧ H d = some (.frz o (ndO P w d kvs)) ∧ KOk H kvs ∧ RowsOk rows H kvs, fun e ⟨d, o, kvs, h1, h2, h3, h4⟩ => ⟨d, o, kvs, h1, e d _ h2 trivial, h3.mono e, h4.mono e⟩⟩
def atR : Hd → List Nat → Option Rat
  | [], _ => none
  | z :: t, cs => if z.1 = cs then some z.2 else atR t cs
theorem rows_at {rows : Hd} {H : Hp} {kvs : NE} (k : RowsOk rows H kvs) (cs : List Nat) : match atR rows cs with
    | some r => ∃ v, atN kvs cs = some v ∧ (VI.num r).ok H v
    | none => atN kvs cs = none := by
  induction k with
  | nil => rfl
  | @cons z p zs ps r t ih =>
    unfold atR atN
    by_cases e : z.1 = cs
    · rw [if_pos e, if_pos (r.1.trans e)]
      exact ⟨_, rfl, r.2⟩
    · rw [if_neg e, if_neg fun x => e (r.1.symm.trans x)]
      exact ih
def setR (rows : Hd) (cs : List Nat) (r : Rat) : Hd := if (atR rows cs).isSome then rows.map (fun z => if z.1 = cs then (z.1, r) else z) else rows ++ [(cs, r)]
theorem rows_put {rows : Hd} {H : Hp} {kvs : NE} (k : RowsOk rows H kvs) {cs : List Nat} {q : Addr} {v : V} {r : Rat} (hv : (VI.num r).ok H v) : RowsOk (setR rows cs r) H (putN kvs cs q v) := by
  have h := rows_at k cs
  unfold setR putN
  cases e : atR rows cs with
  | none =>
    rw [e] at h
    have h : atN kvs cs = none := h
    rw [h]
    exact pAppend k (.cons ⟨rfl, hv⟩ .nil)
  | some x =>
    rw [e] at h
    obtain ⟨w, hw, _⟩ := h
    rw [hw]
    clear e hw
    show RowsOk (rows.map _) H (kvs.map _)
    induction k with
    | nil => exact .nil
    | @cons z p zs ps rr t ih =>
      refine .cons ?_ ih
      dsimp only
      by_cases e : z.1 = cs
      · rw [if_pos e, if_pos (rr.1.trans e)]
        exact ⟨rr.1, hv⟩
      · rw [if_neg e, if_neg fun x => e (rr.1.symm.trans x)]
        exact rr
theorem atR_none {cs : List Nat} : ∀ {rows : Hd}, cs ∉ rows.map (·.1) → atR rows cs = none
  | [], _ => rfl
  | z :: t, h => by
    rw [List.map_cons, List.mem_cons, not_or] at h
    unfold atR
    rw [if_neg fun e => h.1 e.symm]
    exact atR_none h.2
theorem atR_mem {cs : List Nat} {r : Rat} : ∀ {rows : Hd}, (rows.map (·.1)).Nodup → (cs, r) ∈ rows → atR rows cs = some r
  | [], _, h => nomatch h
  | z :: t, nd, h => by
    rw [List.map_cons, List.nodup_cons] at nd
    unfold atR
    rcases List.mem_cons.mp h with h | h
    · subst h
      rw [if_pos rfl]
    · rw [if_neg fun e => nd.1 (by rw [e]; exact List.mem_map.mpr ⟨_, h, rfl⟩)]
      exact atR_mem nd.2 h
theorem map_id_of {cs : List Nat} {r : Rat} : ∀ {rows : Hd}, cs ∉ rows.map (·.1) → rows.map (fun z => if z.1 = cs then (z.1, r) else z) = rows
  | [], _ => rfl
  | z :: t, h => by
    rw [List.map_cons, List.mem_cons, not_or] at h
    rw [List.map_cons, if_neg fun e => h.1 e.symm, map_id_of h.2]
theorem setR_add {cs : List Nat} {q : Rat} : ∀ {rows : Hd}, (rows.map (·.1)).Nodup → setR rows cs ((atR rows cs).getD 0 + q) = addAt cs q rows
  | [], _ => rfl
  | z :: t, nd => by
    rw [List.map_cons, List.nodup_cons] at nd
    have ih := setR_add (cs := cs) (q := q) nd.2
    have ea : addAt cs q (z :: t) = if z.1 = cs then (z.1, z.2 + q) :: t else z :: addAt cs q t := rfl
    have er : atR (z :: t) cs = if z.1 = cs then some z.2 else atR t cs := rfl
    rw [ea, er]
    unfold setR at *
    rw [er]
    by_cases e : z.1 = cs
    · rw [if_pos e, if_pos e, Option.isSome_some, if_pos rfl, List.map_cons, if_pos e, map_id_of (by rw [← e]; exact nd.1)]
      rfl
    · rw [if_neg e, if_neg e, ← ih]
      by_cases s : (atR t cs).isSome = true
      · rw [if_pos s, if_pos s, List.map_cons, if_neg e]
      · rw [if_neg s, if_neg s]
        rfl
section
variable {X : Cx} {Γ : Ctx} {pos p : Pos} {e a b : Expr} {rows : Hd} {cs : List Nat} {r : Rat} {n : Int}
theorem ev_fl {Ps : List VI} (h : EF X e Γ Ps) : EV X e Γ (VI.fl Ps).p := fun H0 H1 σ H f Q q => wE_lock (h H0 H1 σ H f _ fun p xs H2 e2 n h2 k => ⟨p, _, rfl, h2, trivial, fun o => q _ _ (Evl.Ex.mut e2 n) ⟨p, o, xs, rfl, upd_same, k.mono (.upd h2 fun z => z)⟩⟩)
theorem e_ixFl {Ps : List VI} {P : VI} (ha : EV X a Γ (VI.fl Ps).p) (hb : EV X b Γ (ei n)) (h : atI Ps n = some P) (hs : PlainIx b := by exact fun _ _ => rfl) : EV X (.Subscript a b pos) Γ P.p := fun H0 H1 σ H f Q q =>
  wE_of (pe_ix ix_list pe_w pe_w hs) (ha H0 H1 σ H f _ fun x H2 e2 ⟨p, o, xs, e1, h1, k⟩ => hb H0 H1 σ H2 (f.mono e2) _ fun y H3 e3 r3 => by
    obtain ⟨v, h2, h3⟩ := atI_oks (k.mono (.of e3)) h
    exact ⟨p, xs, n, v, e1, r3, .inl (.inr ⟨o, e3 _ _ h1⟩), h2, q v H3 (e2.trans e3) h3⟩)
theorem ef_slFl {Ps : List VI} {lo hi : Option Expr} {l u : Option Int} {p2 : Pos} (ha : EV X a Γ (VI.fl Ps).p) (hl : EP' X lo Γ l) (hu : EP' X hi Γ u) : EF X (.Subscript a (.Slice lo hi none p2) pos) Γ (cut Ps l u) := fun H0 H1 σ H f Q q => by
  obtain ⟨tl, pl, kl⟩ := hl
  obtain ⟨tu, pu, ku⟩ := hu
  exact wE_of (pe_slice sl_list pe_w pl pu) (ha H0 H1 σ H f _ fun x H2 e2 ⟨p, o, xs, e1, h1, k⟩ => kl H0 H1 σ H2 (f.mono e2) _ fun H3 e3 => ku H0 H1 σ H3 (f.mono (e2.trans e3)) _ fun H4 e4 =>
    ⟨p, xs, e1, .inl (.inr ⟨o, (e3.trans e4) _ _ h1⟩), fun l hl => q l _ _ (((e2.trans e3).trans e4).trans (Evl.Ex.new hl)) (Evl.fresh_back ((e2.trans e3).trans e4) hl) upd_same ((oks_cut k _ _).mono (.of ((e3.trans e4).trans (Evl.Ex.new hl))))⟩)
theorem e_ixNd (hu : X.A.units + 9 < cLine) (ha : EV X a Γ (VI.nd X.prog X.w rows).p) (hb : EV X b Γ (VI.ck cs).p) (h : atR rows cs = some r) (hs : PlainIx b := by exact fun _ _ => rfl) : EV X (.Subscript a b pos) Γ (VI.num r).p := fun H0 H1 σ H f Q q =>
  wE_of (pe_ix (ix_nd hu) pe_w pe_w hs) (ha H0 H1 σ H f _ fun x H2 e2 ⟨d, o, kvs, ex, hd, hk, hr⟩ => hb H0 H1 σ H2 (f.mono e2) _ fun y H3 e3 r3 => by
    have g := rows_at (hr.mono (.of e3)) cs
    rw [h] at g
    obtain ⟨v, g1, g2⟩ := g
    obtain ⟨p, ys, rfl, z⟩ := r3
    exact ⟨d, p, kvs, cs, v, ex, rfl, .inr ⟨o, e3 _ _ hd⟩, hk.mono (.of e3), ⟨p, ys, rfl, z⟩, g1, q v H3 (e2.trans e3) g2⟩)
/-- (x,) * n -/
theorem tuple_mul1 (l : Addr) (items : Array Value) (n : Nat) (dd : Option Addr) (sl : Array (Option Value)) (u : Tok) :
    Meets (Builtin.«tuple.__mul__» ⟨[.ref l, .int 1 u], []⟩) (fun _ R s => s.heap.get? l = some { cls := .type "tuple", dict := dd, data := .seq items n, slots := sl } ∧ R (.ok (.ret (Value.ref l))) s) :=
  .of_wp fun prog w A R s h => by
    obtain ⟨hp, g, d, tk, os⟩ := s
    obtain ⟨hl, h⟩ := h
    have f1 := AutoSeq1.idx_int
    have c1 : (items.isEmpty || (1 : Int) == 1) = true := by simp
    wp_walk using wpAny_loadPart' hl
    repeat (first
      | (refine wpAny_ite_false (decide_eq_false (by decide)) ?_; wp_walk using wpAny_loadPart' hl)
      | (refine wpAny_ite_true (decide_eq_true (by rw [c1])) ?_; wp_walk using wpAny_loadPart' hl))
    exact ⟨_, rfl, h⟩
end
end K8
end
section
set_option Elab.async false
set_option linter.all false
set_option maxRecDepth 100000
set_option maxHeartbeats 1000000
set_option autoImplicit false
namespace K8
open PySem L2
open Evl (Ex)
/-! (x,) * n; walks of things that stay; dicts made. -/
section
variable {X : Cx}
theorem op_repT1 : OpR X (binaryOp .Mult) (fun x y H Q => ∃ l xs, x = .ref l ∧ y = .int 1 ∧ SqT X.K H l xs ∧ Q (.ref l) H) := by
  intro pins s σ H x y v u Q I rx ry h
  obtain ⟨l, xs, rfl, rfl, hT, q⟩ := h
  cases rx
  obtain ⟨t, rfl⟩ := ry
  obtain ⟨its, r, ⟨⟨cls, dd, data, sl⟩, ho, hc, n, hd⟩, hs⟩ := I.tuple hT
  simp only at hc hd
  subst hc hd
  exact wpAny_binaryOp_repeat_ref (T := "tuple") (U := "int") (by decide) ⟨_, ho, rfl⟩ (fun s' => PySem.typeIs_int s' 1 t) noFill_tuple_mul F.fills_int_mul F.slot_int_rmul repeat_tuple F.slot_int_index.lookup
    (call_meets F.slot_int_rmul (PySem.typeIs_int s 1 t) F.entry_int_rmul (F.args_int_rmul_2 _ _) (int_rmul_tuple 1 t l its.toArray n dd sl)
      ⟨ho, rfl, ⟨_, ho, rfl⟩, call_meets F.slot_tuple_mul ⟨_, ho, rfl⟩ F.entry_tuple_mul (F.args_tuple_mul_2 _ _) (tuple_mul1 l its.toArray n dd sl t) ⟨ho, ⟨.ref l, H, I, rfl, q⟩⟩⟩)
end
theorem flat_one {α : Type} (x : α) : ∀ k : Nat, (List.replicate k [x]).flatten = List.replicate k x
  | 0 => rfl
  | k + 1 => by rw [List.replicate_succ, List.replicate_succ, List.flatten_cons, flat_one x k]; rfl
section
variable {X : Cx} {Γ : Ctx} {pos p : Pos} {e a b : Expr} {rows : Hd} {cs : List Nat} {r : Rat} {n : Int}
theorem oks_rep1 {P : VI} {H : Hp} {v : V} (h : P.ok H v) : ∀ k : Nat, Oks (List.replicate k P) H (List.replicate k v)
  | 0 => .nil
  | k + 1 => .cons h (oks_rep1 h k)
theorem e_repT {P : VI} {k : Nat} (ha : EV X a Γ (VI.tup [P]).p) (hb : EV X b Γ (ei (k : Int))) (h0 : 1 ≤ k) (h1 : k ≤ 1000) : EV X (.BinOp a .Mult b pos) Γ (VI.tup (List.replicate k P)).p := by
  by_cases e1 : k = 1
  · subst e1
    exact e_op2 op_repT1 ha hb fun x y H ⟨l, xs, ex, h2, k2⟩ hy Q q => ⟨l, xs, ex, hy, .inl (.inl h2), q _ H Ex.r ⟨l, xs, rfl, h2, k2⟩⟩
  · refine e_op2 op_repT ha hb fun x y H ⟨l, xs, ex, h2, k2⟩ hy Q q => ?_
    cases k2 with
    | @cons _ v _ _ r t =>
      cases t
      refine ⟨l, (k : Int), [v], ex, hy, .inl (.inl h2), by simp, by omega, by omega, Nat.le_of_ble_eq_true rfl, fun p hp => q _ _ (Evl.Ex.new hp) ⟨p, _, rfl, upd_same, ?_⟩⟩
      rw [Int.toNat_natCast, flat_one]
      exact (oks_rep1 r k).mono (.of (Evl.Ex.new hp))
end
/-! what is walked, of things that stay -/
structure WkI {α : Type} (B : Hp) (J : It) (xs : List α) (F : α → VI) : Prop where
  go : ∀ i H3, i < xs.length → ExI B H3 → J.go i H3
  stop : ∀ H3, ExI B H3 → J.stop xs.length H3
  yld : ∀ i H3 x H', i < xs.length → ExI B H3 → J.yld i H3 x H' → Ex H3 H' ∧ ∃ a, xs[i]? = some a ∧ (F a).ok H' x
def ITI {α : Type} (X : Cx) (tg iter : Expr) (Γ : Ctx) (xs : List α) (F : α → VI) : Prop := ∀ (H0 H1 : Hp) (σ : St) (H : Hp), Fit H0 H1 Γ σ H → ∀ R : It → Hp → Prop, (∀ J H2, Ex H H2 → WkI H2 J xs F → R J H2) → wI X tg iter σ H R
theorem WkI.wk {α : Type} {B B' : Hp} {J : It} {xs : List α} {F : α → VI} (h : WkI B J xs F) (e : ExI B B') : Wk B' J xs F := ⟨fun i H3 hi e3 => h.go i H3 hi (e.trans (.of e3)), fun H3 e3 => h.stop H3 (e.trans (.of e3)), fun i H3 x H' hi e3 y => h.yld i H3 x H' hi (e.trans (.of e3)) y⟩
section
variable {α : Type} {X : Cx} {Γ : Ctx} {pos p p2 : Pos} {e a b tg iter : Expr} {xs : List α} {F : α → VI} {rows : Hd}
theorem ITI.it (h : ITI X tg iter Γ xs F) : IT X tg iter Γ xs F := fun H0 H1 σ H f R q => h H0 H1 σ H f R fun J H2 e2 wk => q J H2 e2 (wk.wk (exI_base (f.mono e2)))
theorem iti_fl {Ps : List VI} (h : EV X e Γ (VI.fl Ps).p) (hP : Ps = xs.map F) : ITI X tg e Γ xs F := fun H0 H1 σ H f R q =>
  wI_of (pi_list pe_w) (h H0 H1 σ H f _ fun v H2 e2 ⟨a, o, ys, ev, h2, k2⟩ => by
    subst hP ev
    have hl : xs.length = ys.length := by rw [← k2.len, List.length_map]
    refine ⟨a, rfl, ⟨ys, .inl (.inr ⟨o, h2⟩)⟩, q _ H2 e2 ⟨fun i H3 hi e3 => ?_, fun H3 e3 => ?_, fun i H3 x H' hi e3 y => ?_⟩⟩
    · exact ⟨ys, ys[i]'(by omega), .inl (.inr ⟨o, e3 _ _ h2 trivial⟩), by simp⟩
    · exact ⟨ys, .inl (.inr ⟨o, e3 _ _ h2 trivial⟩), by omega⟩
    · obtain ⟨rfl, y⟩ := y
      obtain ⟨P, hP, hk⟩ := oks_get' k2 (y ys (.inl (.inr ⟨o, e3 _ _ h2 trivial⟩)))
      obtain ⟨a, ha, rfl⟩ := list_map_get hP
      exact ⟨Ex.r, a, ha, (F a).mono e3 hk⟩)
theorem iti_range (M : Bl X.mg) {k : Nat} (h : EV X e Γ (ei (k : Int))) (hk : k ≤ 100000) (hg : Gl X "range" := by rfl) (he : starEach [e] X.env = (false, eval e X.env) :: starEach [] X.env := by rfl) (hs : starEach [e] X.env = [(false, eval e X.env)] := by rfl) :
    ITI X tg (.Call (.Name "range" p) [e] [] pos) Γ (List.range k) (fun i => VI.int (i : Int)) := fun H0 H1 σ H f R q =>
  wI_of (pi_range1 hg M.range pa_w hs) (ea_cons h ea_nil he H0 H1 σ H f _ fun vs H2 e2 r2 => by
    obtain ⟨v, rfl, r⟩ := pk1 r2
    have r : v = .int (k : Int) := r
    subst r
    refine ⟨(k : Int), rfl, by omega, by omega, q _ H2 e2 ⟨fun i H3 hi e3 => ?_, fun H3 e3 => ?_, fun i H3 x H' hi e3 y => ?_⟩⟩
    · rw [List.length_range] at hi
      show i < (k : Int).toNat
      omega
    · rw [List.length_range]
      show (k : Int).toNat ≤ k
      omega
    · obtain ⟨rfl, rfl⟩ := y
      rw [List.length_range] at hi
      refine ⟨Ex.r, i, by simp [hi], ?_⟩
      show V.int (0 + (i : Int)) = V.int i
      rw [Int.zero_add])
/-- .items() of a finished dict -/
theorem iti_items {elts : List Expr} {kk : Nat} {tpos apos cpos : Pos} (h : EV X e Γ (VI.nd X.prog X.w rows).p) (hbase : attributeBase e "items" X.env (eval e X.env) = eval e X.env := by rfl) (hline : (apos.endLine == cpos.line) = true := by rfl) :
    ITI X (.Tuple elts kk tpos) (.Call (.Attribute e "items" apos) [] [] cpos) Γ rows (fun z => VI.tup [VI.ck z.1, VI.num z.2]) := fun H0 H1 σ H f R q =>
  wI_of (pi_itemsN pe_w hbase hline) (h H0 H1 σ H f _ fun v H2 e2 ⟨d, o, kvs, ev, hd, hk, hr⟩ => by
    have hl : rows.length = kvs.length := Paired.length hr
    refine ⟨d, o, kvs, ev, hd, q _ H2 e2 ⟨fun i H3 hi e3 => ?_, fun H3 e3 => ?_, fun i H3 x H' hi e3 y => ?_⟩⟩
    · exact ⟨e3 _ _ hd trivial, by omega⟩
    · exact ⟨e3 _ _ hd trivial, by omega⟩
    · obtain ⟨t, p, hp, rfl, hn, rfl⟩ := y
      have key : ∀ {rows : Hd} {kvs : NE}, RowsOk rows H2 kvs → ∀ {i : Nat} {p : List Nat × Addr × V}, kvs[i]? = some p → ∃ z, rows[i]? = some z ∧ p.1 = z.1 ∧ (VI.num z.2).ok H2 p.2.2 := by
        intro rows kvs k
        induction k with
        | nil => intro i p h; simp at h
        | @cons a b as bs r t ih =>
          intro i p h
          cases i with
          | zero =>
            have e : b = p := Option.some.inj h
            subst e
            exact ⟨a, rfl, r⟩
          | succ i => exact ih h
      obtain ⟨z, hz, e1, r2⟩ := key hr hp
      have ee : ExI H2 (upd H3 t (.tup [.ref p.2.1, p.2.2])) := e3.trans (.of (Evl.Ex.new hn))
      have kk := hk p (List.mem_of_getElem? hp)
      rw [e1] at kk
      exact ⟨Evl.Ex.new hn, z, hz, t, _, rfl, upd_same, .cons ((VI.ck z.1).mono ee kk) (.cons ((VI.num z.2).mono ee r2) .nil)⟩)
end
/-! dicts made -/
section
variable {X : Cx} {Γ : Ctx} {pos p p2 : Pos} {e a b tg iter kx vx : Expr} {rows : Hd} {cs : List Nat} {r : Rat}
theorem pe_dnewN : PE X (.Dict [] [] pos) (fun _ H Q => ∀ p, H p = none → Q (.ref p) (upd H p (ndO X.prog X.w p []))) := ⟨fun pins s σ H Q I h =>
  wpAny_Dict_empty ⟨.ref s.heap.objs.size, _, nd_fresh (t' := s.toks) I, rfl, h _ (I.hok.fresh (Nat.le_refl _))⟩⟩
/-- {k: v} -/
theorem pe_dispN {tk tv : TE} (hu : X.A.units + 8 < cLine) (hk : PE X a tk) (hv : PE X b tv) : PE X (.Dict [some a] [b] pos) (fun σ H Q => ∀ p, H p = none → tk σ (upd H p (ndO X.prog X.w p [])) fun y H1 => tv σ H1 fun z H2 => ∃ q cs, y = .ref q ∧ H2 p = some (ndO X.prog X.w p []) ∧ (VI.ck cs).ok H2 (.ref q) ∧ Q (.ref p) (upd H2 p (ndO X.prog X.w p (putN [] cs q z)))) := by
  refine ⟨fun pins s σ H Q I h => ?_⟩
  have I1 := nd_fresh (t' := s.toks) I
  have h := h _ (I.hok.fresh (Nat.le_refl _))
  generalize hD : s.heap.objs.size = D at I1 h
  have hn := PySem.pairTrees_length [some a] [b] X.env pos rfl rfl
  rw [arm_eval_Dict, PySem.zip_pairTrees [some a] [b] X.env pos rfl rfl, PySem.dictDisplay_pairs _ (by intro z; rw [z] at hn; cases hn) (by rw [hn]; exact Nat.le_of_ble_eq_true rfl)]
  refine wpAny_bind (wpAny_standAt (wpAny_bind ?_))
  unfold subDict
  refine wpAny_bind (wpAny_alloc ?_)
  refine wpAny_bind (wpAny_holding ?_)
  rw [if_pos (by rw [hn]; exact Nat.le_of_ble_eq_true rfl)]
  rw [hD]
  refine wpAny_bind (PySem.pairTrees_cons_walk (thn (hk.run pins _ σ _ _ I1 h) fun u s1 ⟨y, H1, Ia, ry, q1⟩ => thn (hv.run pins s1 σ H1 _ Ia q1) fun w2 s2 ⟨z, H2, Ib, rz, q, cs, ey, hp, kq, q2⟩ => PySem.pairTrees_nil_walk ?_))
  subst ey
  obtain rfl : u = Value.ref q := ry
  refine wpAny_holding ?_
  rw [List.forIn_cons]
  refine wpAny_bind (wpAny_bind (wpAny_bind (dictSet_nd hu Ib hp (fun _ h => nomatch h) kq (by decide) rz fun s' I' => wpAny_pure ?_)))
  dsimp only
  rw [List.forIn_nil]
  exact wpAny_pure (wpAny_pure (wpAny_pure (wpAny_pure ⟨.ref D, _, I', rfl, q2⟩)))
theorem ev_disp1 (hu : X.A.units + 8 < cLine) (hk : EV X a Γ (VI.ck cs).p) (hv : EV X b Γ (VI.num r).p) : EV X (.Dict [some a] [b] pos) Γ (VI.nd X.prog X.w [(cs, r)]).p := fun H0 H1 σ H f Q q =>
  wE_lock (wE_of (pe_dispN hu pe_w pe_w) fun p hp => hk H0 H1 σ _ (f.mono (Evl.Ex.new hp)) _ fun y H2 e2 r2 => hv H0 H1 σ H2 (f.mono ((Evl.Ex.new hp).trans e2)) _ fun z H3 e3 r3 => by
    obtain ⟨t, ys, rfl, k⟩ := r2
    have r2 : (VI.ck cs).ok H2 (.ref t) := ⟨t, ys, rfl, k⟩
    have h3 := e3 _ _ (e2 _ _ (show upd H p (ndO X.prog X.w p []) p = _ from upd_same))
    have ns : ∀ u, ExI H3 (upd H3 p u) := fun u => .upd h3 fun z => z
    refine ⟨t, cs, rfl, h3, (VI.ck cs).mono (.of e3) r2, p, _, rfl, upd_same, trivial, fun o => ?_⟩
    rw [upd_upd]
    refine q _ _ (Evl.Ex.mut ((Evl.Ex.new hp).trans (e2.trans e3)) hp) ⟨p, o, _, rfl, upd_same, fun y hy => ?_, .cons ⟨rfl, (VI.num r).mono (ns _) r3⟩ .nil⟩
    rcases List.mem_singleton.mp hy with rfl
    exact (VI.ck cs).mono ((ExI.of e3).trans (ns _)) r2)
end
end K8
end
section
set_option Elab.async false
set_option linter.all false
set_option maxRecDepth 100000
set_option maxHeartbeats 1000000
set_option autoImplicit false
namespace K8
open PySem L2
open Evl (Ex)
/-! {key: value for ..}, typed; behind, keys_of, worth_of_key. -/
section
variable {α : Type} {X : Cx} {Γ : Ctx} {xs : List α} {F : α → VI} {pos : Pos} {kx vx tg iter : Expr} {scope : Scope} {own : List (Str × Nat)} {Γe : α → Ctx} {key : α → List Nat} {val : α → Rat}
theorem ev_dcN (hu : X.A.units + 8 < cLine) (hc : X.calm = true) (hN : X.N.Nodup) (ok : BlkOk X.N X.env.scope scope own) (hi : IT X tg iter Γ xs F) (hl : xs.length < 1000) (nd : (xs.map key).Nodup)
    (hg : ∀ s h C cl fp, ∀ a ∈ xs, TGT (bk X scope s h C cl fp) tg (wipeC Γ (own.map (·.2))) (F a) (Γe a) (own.map (·.2)))
    (hk : ∀ s h C cl fp, ∀ a ∈ xs, EV (bk X scope s h C cl fp) kx (Γe a) (VI.ck (key a)).p) (hv : ∀ s h C cl fp, ∀ a ∈ xs, EV (bk X scope s h C cl fp) vx (Γe a) (VI.num (val a)).p) (hs : ∀ x, foldedSetIterable iter X.env x = pure x := by intro _; rfl) :
    EV X (.DictComp kx vx [⟨tg, iter, [], 0⟩] scope pos) Γ (VI.nd X.prog X.w (xs.map fun a => (key a, val a))).p := fun H0 H1 σ H f Q q =>
  wE_lock (wE_of (pe_dcN hu hc hN pi_w ok (fun _ _ _ _ _ => pg_wb) (fun _ _ _ _ _ => pe_wb) (fun _ _ _ _ _ => pe_wb) hs) (hi H0 H1 σ H f _ fun J H2 e2 wk D hD => by
    let vs := own.map (·.2)
    let Pv : Nat → Hp → Prop := fun i H => Ex H2 H ∧ ∃ kvs, H D = some (ndO X.prog X.w D kvs) ∧ KOk H kvs ∧ RowsOk ((xs.take i).map fun a => (key a, val a)) H kvs
    refine ⟨fun i m H => m = xs.length - i ∧ i ≤ xs.length ∧ Pv i H, ⟨_, rfl, Nat.zero_le _, Evl.Ex.new hD, [], upd_same, (fun _ h => nomatch h), .nil⟩, ?_⟩
    rintro i m H3 ⟨rfl, hi', e, kvs, h1, hk1, hr1⟩
    have f2 := f.mono e2
    have eb : Ex (base Γ σ H2) H3 := base_ex.trans e
    have hkl : kvs.length = (xs.take i).length := by have := Paired.length hr1; rw [List.length_map] at this; exact this.symm
    by_cases hlt : i < xs.length
    · refine .inr ⟨wk.go i H3 hlt eb, Pv (i + 1), fun H' p => ⟨xs.length - (i + 1), by omega, rfl, hlt, p⟩, fun x H' y => ?_⟩
      obtain ⟨e3, a, ha, hka⟩ := wk.yld i H3 x H' hlt eb y
      have hm : a ∈ xs := List.mem_of_getElem? ha
      have ts : xs.take (i + 1) = xs.take i ++ [a] := take_snoc ha
      have f3 : Fit H0 H1 (wipeC Γ vs) (L2.wipe σ vs) H' := (f2.mono (e.trans e3)).wipe vs
      show wGb X scope tg x (L2.wipe σ vs) H' _
      intro s h C cl fp
      refine hg s h C cl fp a hm H0 H1 _ H' x f3 hka _ fun σ2 H4 e4 f4 l4 g4 => ⟨wipe_same (l4.trans (wipe_length _ _)) g4, ?_⟩
      intro s h C cl fp
      refine hk s h C cl fp a hm H0 H1 σ2 H4 f4 _ fun y H5 e5 r5 => ?_
      intro s h C cl fp
      refine hv s h C cl fp a hm H0 H1 σ2 H5 (f4.mono e5) _ fun z H6 e6 r6 => ?_
      obtain ⟨q1, ys, rfl, k⟩ := r5
      have r5 : (VI.ck (key a)).ok H5 (.ref q1) := ⟨q1, ys, rfl, k⟩
      have ea : Ex H3 H6 := ((e3.trans e4).trans e5).trans e6
      have h6 := ea _ _ h1
      have kq := (VI.ck (key a)).mono (.of e6) r5
      have hk6 := hk1.mono (.of ea)
      have hr6 := hr1.mono (.of ea)
      have xx : ∀ u, ExI H6 (upd H6 D u) := fun u => .upd h6 fun z => z
      have nk : key a ∉ ((xs.take i).map fun a => (key a, val a)).map (·.1) := fun hmem => by
        rw [List.map_map] at hmem
        have h9 : (xs.map key).take (i + 1) = (xs.take i).map key ++ [key a] := by rw [← List.map_take, ts, List.map_append]; rfl
        have h8 := nd.sublist (List.take_sublist (i + 1) _)
        rw [h9, List.nodup_append] at h8
        obtain ⟨b, hb, eb⟩ := List.mem_map.mp hmem
        exact h8.2.2 _ (List.mem_map.mpr ⟨b, hb, rfl⟩) _ (by simp) eb
      refine ⟨kvs, q1, key a, rfl, h6, hk6, kq, by rw [hkl, List.length_take]; omega, Evl.Ex.mut (e.trans ea) hD, _, upd_same, (putN_keys hk6 kq).mono (xx _), ?_⟩
      have hp := (rows_put (q := q1) hr6 (cs := key a) r6).mono (xx (ndO X.prog X.w D (putN kvs (key a) q1 z)))
      unfold setR at hp
      rw [atR_none nk] at hp
      rw [ts, List.map_append]
      exact hp
    · have ei : i = xs.length := by omega
      subst ei
      rw [List.take_length] at hr1
      refine .inl ⟨wk.stop H3 eb, D, _, rfl, h1, trivial, fun o => q _ _ (Evl.Ex.mut (e2.trans e) (Evl.fresh_back e2 hD)) ⟨D, o, kvs, rfl, upd_same, hk1.mono (.upd h1 fun z => z), hr1.mono (.upd h1 fun z => z)⟩⟩))
end
theorem atI_natz {c : List Nat} {x : Nat} (h : x < c.length) : atI (natz c) (x : Int) = some (VI.int ((c.getD x 0 : Nat) : Int)) := by
  unfold atI ixN
  rw [List.length_map, if_pos (by omega), if_pos (by omega)]
  simp [h]
theorem ef_ifF {X : Cx} {Γ : Ctx} {a b c : Expr} {pos : Pos} {Ps : List VI} (hc : ET X c Γ false) (h : EF X b Γ Ps) : EF X (.IfExp c a b pos) Γ Ps := fun H0 H1 σ H f Q q =>
  wE_of (pe_ifExp pt_w pe_w pe_w) (hc H0 H1 σ H f _ fun H2 e2 => by
    rw [if_neg Bool.false_ne_true]
    exact h H0 H1 σ H2 (f.mono e2) Q fun p xs H3 e3 n r k => q p xs H3 (e2.trans e3) (Evl.fresh_back e2 n) r k)
theorem cut_lo (c : List Nat) {x : Nat} (h : x ≤ c.length) : cut (natz c) none (some (x : Int)) = natz (c.take x) := by
  unfold cut
  have e1 : HT.sIx (natz c).length 0 none = 0 := rfl
  have e2 : HT.sIx (natz c).length (natz c).length (some (x : Int)) = x := by
    unfold HT.sIx
    rw [List.length_map]
    show (if (x : Int) < 0 then _ else min (x : Int).toNat c.length) = x
    rw [if_neg (by omega)]
    omega
  rw [e1, e2, List.drop_zero, Nat.sub_zero, natz, natz, List.map_take]
theorem cut_hi (c : List Nat) {x : Nat} (h : x ≤ c.length) : cut (natz c) (some (x : Int)) none = natz (c.drop x) := by
  unfold cut
  have e1 : HT.sIx (natz c).length 0 (some (x : Int)) = x := by
    unfold HT.sIx
    rw [List.length_map]
    show (if (x : Int) < 0 then _ else min (x : Int).toNat c.length) = x
    rw [if_neg (by omega)]
    omega
  have e2 : HT.sIx (natz c).length (natz c).length none = (natz c).length := rfl
  rw [e1, e2, natz, natz, List.map_drop, List.take_of_length_le]
  rw [List.length_drop]
  omega
theorem inc_cut {c : List Nat} {x : Nat} (h : x < c.length) : c.take x ++ [c.getD x 0 + 1] ++ c.drop (x + 1) = inc c x := by
  unfold inc
  rw [List.set_eq_take_append_cons_drop, if_pos h, List.append_assoc]
  rfl
theorem hu9 {k : Nat} {A : Around} (hr : Room k A) : A.units + 9 < cLine := by have := hr.un; omega
theorem hu8 {k : Nat} {A : Around} (hr : Room k A) : A.units + 8 < cLine := by have := hr.un; omega
section
variable {P : Program} {w : World} {K : PySem.W.Frag} {mg : Str → Option Value} {base : Heap}
variable (T : Tx K mg) (O : To K mg) (M : Tm P K mg)
include T
theorem ok_behind : Fq P w K mg base "behind" 1 ["key", "good"] [] (spV (fun z : List Nat × Nat => z.2 < z.1.length ∧ z.1.length ≤ 5) (fun z => [(VI.ck z.1).p, ei (z.2 : Int)]) (fun z => VI.ck (inc z.1 z.2))) :=
  fq_V T.x_behind sc_behind (fun _ _ _ _ _ _ us hl => match us, hl with | [_, _], _ => rfl) (fun _ => rfl) fun cdv A outer s H E hr ⟨c, x⟩ ⟨h0, h1⟩ => by
    have h0 : x < c.length := h0
    have h1 : c.length ≤ 5 := h1
    refine g_cons (g_asg (vs := [2, 3]) (vE (P := (VI.ck c).p) 0) (tg_tup rfl (tgs_cons (tg_name 2 sc_behind.nd) (tgs_cons (tg_name 3 sc_behind.nd) tgs_nil)))) ?_
    refine g_ifR (k := false) (t_eq (x := .str "counts") (y := .str "word") (vI 2) e_str (by decide +kernel)) (fun h => nomatch h) fun _ => ?_
    refine g_one (g_ret (EV.to (e_tup (ei_cons (vI 2) (ei_cons (P := VI.tup (natz (inc c x))) ((e_catT (Ps := natz (c.take x) ++ [VI.int (((c.getD x 0 : Nat) : Int) + 1)]) (Qs := natz (c.drop (x + 1))) (e_catT (Ps := natz (c.take x)) (Qs := [VI.int (((c.getD x 0 : Nat) : Int) + 1)]) ((e_slT (vI 3) ep_none (ep_some (vE 1))).to (by rw [cut_lo c (by omega)])) (e_tup (ei_cons (e_add (e_ixT (vI 3) (vE 1) (atI_natz h0)) e_int) ei_nil)) (by rw [List.length_map, List.length_take]; show _ + 1 ≤ _; omega)) ((e_slT (vI 3) (ep_some (n := ((x + 1 : Nat) : Int)) ((e_add (vE 1) e_int).to (congrArg ei (by omega)))) ep_none).to (by rw [cut_hi c (by omega)])) (by rw [List.length_append, List.length_map, List.length_map, List.length_take, List.length_drop]; show _ + 1 + _ ≤ _; omega)).to (by rw [← inc_cut h0, natz, natz, natz, List.map_append, List.map_append]; rfl)) ei_nil))) rfl))
theorem ok_keys_of : Fq P w K mg base "keys_of" 2 ["kind", "goods", "days"] [] (spL (fun z : Nat × Nat => z.1 ≤ 4 ∧ z.2 ≤ 4 ∧ (z.1 + 1) ^ z.2 ≤ 27) (fun z => [(VI.str "counts").p, ei ((z.1 + 1 : Nat) : Int), ei (z.2 : Int)]) (fun z => (coa z.1 z.2).map VI.ck)) :=
  fq_L T.x_keys_of sc_keys_of (fun _ _ _ _ _ _ us hl => match us, hl with | [_, _, _], _ => rfl) (fun _ => rfl) fun cdv A outer s H E hr ⟨g, d⟩ ⟨h0, h1, h2⟩ => by
    have h0 : g ≤ 4 := h0
    have h1 : d ≤ 4 := h1
    have hl := coa_b g (List.mem_range.mpr (by omega)) d (List.mem_range.mpr (by omega)) h2
    refine g_cons (g_setF 3 (Ps := (coa g d).map fun cs => VI.tup (natz cs)) sc_keys_of.nd (ef_ifF (t_eq (x := .str "counts") (y := .str "word") (vE 0) e_str (by decide +kernel)) (ef_call (ok_counts_of_all T) hr (g, d) ⟨h0, h1⟩ (ea_cons (vE 1) (ea_cons (vE 2) ea_nil))))) ?_
    exact g_freezeR 3 rfl (g_one (g_retF (ef_lc (own := [("told", 4)]) (xs := coa g d) (F := fun cs => VI.tup (natz cs)) (G := VI.ck) (Γe := fun cs => [.e (VI.str "counts").p, .e (ei ((g + 1 : Nat) : Int)), .e (ei (d : Int)), .f (.lst ((coa g d).map fun cs => VI.tup (natz cs))), .i (VI.tup (natz cs))]) rfl sc_keys_of.nd (blkOk_by (N := nm_keys_of) (sc := defScope st_keys_of) (by decide +kernel))
      (it_list (lF 3) rfl) (by omega) (fun s h C cl fp z hz => tg_name 4 sc_keys_of.nd) (fun s h C cl fp z hz => e_tup (ei_cons (vE 0) (ei_cons (vI 4) ei_nil))))))
include O M
theorem ok_worth_of_key : Fq P w K mg base "worth_of_key" 7 ["promise", "key"] [] (spV (fun z : List Nat × List Nat => z.2.length = z.1.length ∧ Cs (addL z.2 z.1)) (fun z => [(VI.pr K (.best z.1)).p, (VI.ck z.2).p]) (fun z => VI.num (wt (addL z.2 z.1)))) :=
  fq_V T.x_worth_of_key sc_worth_of_key (fun _ _ _ _ _ _ us hl => match us, hl with | [_, _], _ => rfl) (fun _ => rfl) fun cdv A outer s H E hr ⟨cs, c⟩ h => by
    refine g_cons (g_asg (vs := [2, 3]) (vE (P := (VI.ck c).p) 1) (tg_tup rfl (tgs_cons (tg_name 2 sc_worth_of_key.nd) (tgs_cons (tg_name 3 sc_worth_of_key.nd) tgs_nil)))) ?_
    exact g_one (g_ret (e_ifF (t_eq (x := .str "counts") (y := .str "word") (vI 2) e_str (by decide +kernel)) (ev_call (ok_worth_by_T T O M) hr (cs, c) h (ea_cons (vE 0) (ea_cons (vI 3) ea_nil)))))
end
end K8
end
section
set_option Elab.async false
set_option linter.all false
set_option maxRecDepth 100000
set_option maxHeartbeats 1000000
set_option autoImplicit false
namespace K8
open PySem L2
open Evl (Ex)
/-! Changing things: views, loops. -/
/-- slots of changing things, seen as they stand -/
def Vw (J : Hp → Prop) (Γ Γ2 : Ctx) : Prop := Γ2.length = Γ.length ∧ ∀ (i : Nat) (T : Ty), Γ2[i]? = some T → Γ[i]? = some T ∨ ∃ v W, T = .f W ∧ Γ[i]? = some (.i (VI.is v)) ∧ ∀ H, J H → W.ok H v
theorem Vw.refl {J : Hp → Prop} {Γ : Ctx} : Vw J Γ Γ := ⟨rfl, fun _ _ h => .inl h⟩
theorem Vw.set {J : Hp → Prop} {Γ Γ2 : Ctx} {v : V} {W : VP} (h : Vw J Γ Γ2) (i : Nat) (hΓ : Γ[i]? = some (.i (VI.is v))) (hW : ∀ H, J H → W.ok H v) : Vw J Γ (Γ2.set i (.f W)) := ⟨by rw [List.length_set]; exact h.1, fun k T hk => by
  by_cases z : k = i
  · subst z
    have il : k < Γ2.length := by
      have := (List.getElem?_eq_some_iff.mp hk).1
      simpa using this
    rw [List.getElem?_set_self il] at hk
    cases hk
    exact .inr ⟨v, W, rfl, hΓ, hW⟩
  · rw [List.getElem?_set_ne (Ne.symm z)] at hk
    exact h.2 k T hk⟩
theorem Vw.one {J : Hp → Prop} {Γ : Ctx} {v : V} {W : VP} (i : Nat) (hΓ : Γ[i]? = some (.i (VI.is v))) (hW : ∀ H, J H → W.ok H v) : Vw J Γ (Γ.set i (.f W)) := Vw.refl.set i hΓ hW
/-- back from a view -/
def Uv (Γ2 Γ : Ctx) : Prop := Γ.length = Γ2.length ∧ ∀ (i : Nat) (T : Ty), Γ[i]? = some T → T = .u ∨ (Γ2[i]? = some T ∧ T.dem = T) ∨ ∃ v W, T = .i (VI.is v) ∧ Γ2[i]? = some (.f W) ∧ ∀ H w, W.ok H w → w = v
theorem Uv.dem {Γ : Ctx} : Uv Γ (Γ.map Ty.dem) := ⟨by simp, fun i T h => by
  rw [List.getElem?_map] at h
  cases q : Γ[i]? with
  | none =>
    rw [q] at h
    cases h
  | some U =>
    rw [q] at h
    cases h
    cases U with
    | f P => exact .inl rfl
    | _ => exact .inr (.inl ⟨rfl, rfl⟩)⟩
theorem Uv.set {Γ2 Γ : Ctx} {v : V} {W : VP} (h : Uv Γ2 Γ) (i : Nat) (h2 : Γ2[i]? = some (.f W)) (hW : ∀ H w, W.ok H w → w = v) : Uv Γ2 (Γ.set i (.i (VI.is v))) := ⟨by rw [List.length_set]; exact h.1, fun k T hk => by
  by_cases z : k = i
  · subst z
    have il : k < Γ.length := by
      have := (List.getElem?_eq_some_iff.mp hk).1
      simpa using this
    rw [List.getElem?_set_self il] at hk
    cases hk
    exact .inr (.inr ⟨v, W, rfl, h2, hW⟩)
  · rw [List.getElem?_set_ne (Ne.symm z)] at hk
    exact h.2 k T hk⟩
section
variable {S U : Addr → Prop} {J J1 : Hp → Prop} {X : Cx} {Γ Γ' Γ2 : Ctx} {pos p : Pos} {e b c : Expr} {st : Stmt} {sts A B : List Stmt} {N : NK} {R : RK} {H0 H1 H H2 B0 : Hp} {σ : St} {v : V} {W : VP}
theorem FS.vw (jo : JOk S U J) (w : Vw J Γ Γ2) (h : FS S U J Γ H0 H1 σ H) : Fit H0 (K8.base Γ σ H) Γ2 σ H := by
  obtain ⟨f, hB⟩ := h.base jo
  have jb : J (K8.base Γ σ H) := jo.mono' hB.1 (fun b o u z => by
    obtain ⟨o', z1, z2⟩ := hB.2 b u
    rw [z2] at z
    cases z
    exact z1) h.j
  have nk : ∀ {m : Nat} {Ss : List VI}, Γ2[m]? = some (.o Ss) → Γ[m]? = some (.o Ss) := fun {m Ss} q => by
    rcases w.2 m _ q with z | ⟨_, _, z, _⟩
    · exact z
    · cases z
  refine ⟨f.b, f.ex, f.len.trans w.1.symm, fun k T hk => ?_, fun k m Ps Qs v hkm hk hm sk sm => f.ap k m Ps Qs v hkm (nk hk) (nk hm) sk sm⟩
  rcases w.2 k T hk with z | ⟨v, W, rfl, z, hW⟩
  · exact f.ok k T z
  · obtain ⟨u, s1, eu⟩ := f.get z (by simp)
    obtain rfl : u = v := eu
    exact .inr ⟨u, s1, hW _ jb⟩
theorem Fit.uv (f : Fit H0 B0 Γ2 σ H) (u : Uv Γ2 Γ) (b : Ex H0 H1) (e : Ex H1 B0) : Fit H0 H1 Γ σ H := by
  refine ⟨b, e.trans f.ex, f.len.trans u.1.symm, fun i T h => ?_, fun i j Ps Qs v hij hi hj si sj => ?_⟩
  · rcases u.2 i T h with z | ⟨z, d⟩ | ⟨v, W, rfl, z, hW⟩
    · exact .inl z
    · rcases f.ok i T z with q | ⟨v, q1, q2⟩
      · exact .inl q
      · refine .inr ⟨v, q1, ?_⟩
        cases T with
        | u => trivial
        | i P => exact q2
        | e P => exact q2
        | f P => cases d
        | o Rs =>
          obtain ⟨q, zs, rfl, h3, h4, h5⟩ := q2
          exact ⟨q, zs, rfl, Evl.fresh_back e h3, h4, h5⟩
    · obtain ⟨w, s1, k⟩ := f.get z (by simp)
      exact .inr ⟨w, s1, hW _ w k⟩
  · have nk : ∀ {m : Nat} {Ss : List VI}, Γ[m]? = some (.o Ss) → Γ2[m]? = some (.o Ss) := fun {m Ss} q => by
      rcases u.2 m _ q with z | ⟨z, _⟩ | ⟨_, _, z, _⟩
      · cases z
      · exact z
      · cases z
    exact f.ap i j Ps Qs v hij (nk hi) (nk hj) si sj
theorem Own.uv {a : Addr} (u : Uv Γ2 Γ) (h : Own Γ σ a) : Own Γ2 σ a := by
  obtain ⟨i, Ps, h1, h2⟩ := h
  rcases u.2 i _ h1 with z | ⟨z, _⟩ | ⟨_, _, z, _⟩
  · cases z
  · exact ⟨i, Ps, z, h2⟩
  · cases z
theorem FS.uv (jo : JOk S U J) {σ' : St} {H' : Hp} (h : FS S U J Γ H0 H1 σ H) (u : Uv Γ2 Γ') (f : Fit H0 (K8.base Γ σ H) Γ2 σ' H') : FS S U J Γ' H0 H1 σ' H' := by
  obtain ⟨_, hB⟩ := h.base jo
  have g := h.back jo hB h.f.toBase f
  exact ⟨f.uv u h.f.b h.f.toBase, h.nx, fun a ua o => by
    obtain ⟨i, Ps, h1, h2⟩ := o.uv u
    exact g.no a ua ⟨i, Ps, by rw [List.getElem?_map, h1]; rfl, h2⟩, g.j⟩
theorem EV.sv {P : VI} (jo : JOk S U J) (w : Vw J Γ Γ2) (h : EV X e Γ2 P.p) : EVS S U J J X e Γ P := fun H0 H1 σ H f Q q => h H0 _ σ H (f.vw jo w) Q fun v H2 e2 r => q v H2 (.of e2) (jo.mono e2 f.j) r
theorem EF.sv {Ps : List VI} (jo : JOk S U J) (w : Vw J Γ Γ2) (h : EF X e Γ2 Ps) : EFS S U J J X e Γ Ps := fun H0 H1 σ H f Q q => h H0 _ σ H (f.vw jo w) Q fun p xs H2 e2 n h2 k => q p xs H2 (.of e2) (jo.mono e2 f.j) n h2 k
theorem EF.s {Ps : List VI} (jo : JOk S U J) (h : EF X e Γ Ps) : EFS S U J J X e Γ Ps := fun H0 H1 σ H f Q q => h H0 H1 σ H f.f Q fun p xs H2 e2 n h2 k => q p xs H2 (.of e2) (jo.mono e2 f.j) n h2 k
/-- a statement that changes nothing of all that, in a view -/
theorem s_liftW (jo : JOk S U J) (w : Vw J Γ Γ2) (h : GT X st Γ2 (fitN Γ') (.i VI.never)) {Γ3 : Ctx} (u : Uv Γ' Γ3) : GTS S U J X st Γ (nextS S U J Γ3) R := fun H0 H1 σ H f D hn hr =>
  h H0 _ σ H (f.vw jo w) D (fun σ' H' n => hn σ' H' (f.uv jo u n)) fun v H' _ r => r.elim
theorem s_ifW {k : Bool} (jo : JOk S U J) (w : Vw J Γ Γ2) (hc : ET X c Γ2 k) (h1 : k = true → GSS S U J X A Γ N R) (h2 : k = false → GSS S U J X B Γ N R) : GTS S U J X (.If c A B pos) Γ N R := fun H0 H1 σ H f D hn hr =>
  wS_of (ps_if pt_w pss_w pss_w) (hc H0 _ σ H (f.vw jo w) _ fun H2 e2 => by
    cases k with
    | true =>
      rw [if_pos rfl]
      exact h1 rfl H0 H1 σ H2 (f.mono jo e2) D hn hr
    | false =>
      rw [if_neg Bool.false_ne_true]
      exact h2 rfl H0 H1 σ H2 (f.mono jo e2) D hn hr)
theorem s_notW {A : List Stmt} (jo : JOk S U J) (w : Vw J Γ Γ2) (hc : ET X c Γ2 false) : GTS S U J X (.If c A [] pos) Γ (nextS S U J Γ) R := s_ifW jo w hc (fun h => nomatch h) fun _ => s_nil
/-- an expression, for what it does -/
theorem s_expr {P : VI} (jo : JOk S U J) (h : EVS S U J J1 X e Γ P) (hs : swapsWith e none pos.line X.env = pure false := by rfl) : GTS S U J X (.Expr e pos) Γ (nextS S U J1 Γ) R := fun H0 H1 σ H f D hn hr => wS_of (ps_expr pe_w hs) (h H0 H1 σ H f _ fun v H2 e2 j2 _ => hn σ H2 (f.es jo e2 j2))
/-! ### another base: without the changing things -/
noncomputable def baseS (S : Addr → Prop) (Γ : Ctx) (σ : St) (H : Hp) : Hp := open Classical in fun a => if S a then none else K8.base Γ σ H a
theorem baseS_in {a : Addr} (h : ¬ S a) : baseS S Γ σ H a = K8.base Γ σ H a := by unfold baseS; rw [if_neg h]
theorem baseS_s {a : Addr} (h : S a) : baseS S Γ σ H a = none := by unfold baseS; rw [if_pos h]
theorem baseS_ex : Ex (baseS S Γ σ H) H := fun a o h => by
  by_cases s : S a
  · rw [baseS_s s] at h
    cases h
  · rw [baseS_in s] at h
    exact base_ex a o h
theorem FS.rebase (jo : JOk S U J) (h : FS S U J Γ H0 H1 σ H) : FS S U J Γ H0 (baseS S Γ σ H) σ H ∧ Ex H1 (baseS S Γ σ H) ∧ ExI H (baseS S Γ σ H) := by
  have e1 : Ex H1 (baseS S Γ σ H) := fun a o z => by
    have s : ¬ S a := fun s => by rw [h.nx a s] at z; cases z
    rw [baseS_in s]
    exact h.f.toBase a o z
  refine ⟨⟨⟨h.f.b.trans e1, baseS_ex, h.f.len, fun j T hj => ?_, h.f.ap⟩, fun a s => baseS_s s, h.no, h.j⟩, e1, fun a o z st => ?_⟩
  · rcases h.f.ok j T hj with z | ⟨v, h1, h2⟩
    · exact .inl z
    · refine .inr ⟨v, h1, ?_⟩
      cases T with
      | u => trivial
      | i P => exact h2
      | e P => exact h2
      | f P => exact P.mono e1 h2
      | o Rs =>
        obtain ⟨q, zs, rfl, h3, h4, h5⟩ := h2
        refine ⟨q, zs, rfl, ?_, h4, h5⟩
        by_cases s : S q
        · exact baseS_s s
        · rw [baseS_in s]
          exact base_own ⟨j, Rs, hj, h1⟩
  · have s : ¬ S a := fun s => by
      obtain ⟨o', z', ns⟩ := jo.ns h.j a s
      rw [z] at z'
      cases z'
      exact ns st
    rw [baseS_in s]
    exact exI_base h.f a o z st
theorem Own.dem {a : Addr} (h : Own (Γ.map Ty.dem) σ a) : Own Γ σ a := h.uv Uv.dem
end
/-! ### loops -/
def ITIS {α : Type} (S U : Addr → Prop) (J J1 : Hp → Prop) (X : Cx) (tg iter : Expr) (Γ : Ctx) (xs : List α) (F : α → VI) : Prop := ∀ (H0 H1 : Hp) (σ : St) (H : Hp), FS S U J Γ H0 H1 σ H → ∀ R : It → Hp → Prop, (∀ Jt H2, ES S H H2 → J1 H2 → WkI H2 Jt xs F → R Jt H2) → wI X tg iter σ H R
section
variable {α β : Type} {S U : Addr → Prop} {J J1 : Hp → Prop} {X : Cx} {Γ Γ2 : Ctx} {pos : Pos} {tg iter : Expr} {body : List Stmt} {R : RK} {xs : List α} {F : α → VI}
theorem ITI.sv (jo : JOk S U J) (w : Vw J Γ Γ2) (h : ITI X tg iter Γ2 xs F) : ITIS S U J J X tg iter Γ xs F := fun H0 H1 σ H f R q => h H0 _ σ H (f.vw jo w) R fun Jt H2 e2 wk => q Jt H2 (.of e2) (jo.mono e2 f.j) wk
theorem ITI.s (jo : JOk S U J) (h : ITI X tg iter Γ xs F) : ITIS S U J J X tg iter Γ xs F := h.sv jo Vw.refl
/-- .. with some things b that are known from turn to turn -/
def nextE {β : Type} (S U : Addr → Prop) (I : β → Prop) (Js : β → Hp → Prop) (Γs : β → Ctx) : NK := fun H0 H1 σ H => ∃ b, I b ∧ FS S U (Js b) (Γs b) H0 H1 σ H
theorem s_forE {I : List α → β → Prop} {Js : List α → β → Hp → Prop} {vs : List Nat} (Γs : List α → β → Ctx) (Γm : List α → β → α → Ctx) (jo0 : JOk S U J) (jo : ∀ l b, JOk S U (Js l b)) (hp : PassesOwn (model X.prog X.w) X.A X.env X.xe) (hc : X.calm = true) (b0 : β) (h0 : I [] b0) (hi : ITIS S U J (Js [] b0) X tg iter (Γs [] b0) xs F)
    (hg : ∀ pre a post, xs = pre ++ a :: post → ∀ b, I pre b → TGT X tg (Γs pre b) (F a) (Γm pre b a) vs) (hd : ∀ pre a post, xs = pre ++ a :: post → ∀ b, I pre b → (Γm pre b a).map Ty.dem = Γm pre b a)
    (hb : ∀ pre a post, xs = pre ++ a :: post → ∀ b, I pre b → GSS S U (Js pre b) X body (Γm pre b a) (nextE S U (I (pre ++ [a])) (Js (pre ++ [a])) (Γs (pre ++ [a]))) R)
    (hs : ∀ x, foldedSetIterable iter X.env x = pure x := by intro _; rfl) : GTS S U J X (.For tg iter body [] pos) (Γs [] b0) (nextE S U (I xs) (Js xs) (fun b => (Γs xs b).map Ty.dem)) R := fun H0 H1 σ H f D hn hr =>
  wS_of (ps_for hp hc pi_w pg_w pss_w hs) (hi H0 H1 σ H f _ fun Jt H2 e2 j2 wk => by
    have f2 := f.es jo0 e2 j2
    obtain ⟨f3, eB, xB⟩ := f2.rebase (jo [] b0)
    have wk' := wk.wk xB
    clear wk
    generalize hB : baseS S (Γs [] b0) σ H2 = B at f3 eB xB wk'
    refine ⟨fun i m σ' H' => m = xs.length - i ∧ i ≤ xs.length ∧ ∃ b, I (xs.take i) b ∧ FS S U (Js (xs.take i) b) (Γs (xs.take i) b) H0 B σ' H', ⟨_, rfl, Nat.zero_le _, b0, h0, f3⟩, ?_⟩
    rintro i m σ' H' ⟨rfl, hil, b, hI, f'⟩
    by_cases hlt : i < xs.length
    · refine .inr ⟨wk'.go i H' hlt f'.f.ex, fun σ'' H'' => ∃ b, I (xs.take (i + 1)) b ∧ FS S U (Js (xs.take (i + 1)) b) (Γs (xs.take (i + 1)) b) H0 B σ'' H'', fun σ'' H'' q => ⟨_, by omega, rfl, hlt, q⟩, fun x H3 y => ?_⟩
      obtain ⟨e3, a, ha, hk⟩ := wk'.yld i H' x H3 hlt f'.f.ex y
      have ts : xs.take (i + 1) = xs.take i ++ [a] := take_snoc ha
      have sp : xs = xs.take i ++ a :: xs.drop (i + 1) := by
        have h1 := (List.take_append_drop (i + 1) xs).symm
        rw [ts, List.append_assoc] at h1
        exact h1
      have f4 := f'.mono (jo _ _) e3
      obtain ⟨fb, hBB⟩ := f4.base (jo _ _)
      refine hg _ a _ sp b hI H0 _ σ' H3 x fb hk _ fun σ4 H4 e4 f5 _ _ => ?_
      have f6 := f4.back (jo _ _) hBB f4.f.toBase f5
      rw [hd _ a _ sp b hI] at f6
      exact hb _ a _ sp b hI H0 B σ4 H4 f6 _ (fun σ5 H5 n => by rw [ts]; exact n) hr
    · have ei : i = xs.length := by omega
      subst ei
      rw [List.take_length] at hI f'
      exact .inl ⟨wk'.stop H' f'.f.ex, hn σ' H' ⟨b, hI, f'.f.unbase f.f.b eB, f.nx, fun a u o => f'.no a u o.dem, f'.j⟩⟩)
theorem s_forS {Js : List α → Hp → Prop} {vs : List Nat} (Γs : List α → Ctx) (Γm : List α → α → Ctx) (jo0 : JOk S U J) (jo : ∀ l, JOk S U (Js l)) (hp : PassesOwn (model X.prog X.w) X.A X.env X.xe) (hc : X.calm = true) (hi : ITIS S U J (Js []) X tg iter (Γs []) xs F)
    (hg : ∀ pre a post, xs = pre ++ a :: post → TGT X tg (Γs pre) (F a) (Γm pre a) vs) (hd : ∀ pre a post, xs = pre ++ a :: post → (Γm pre a).map Ty.dem = Γm pre a)
    (hb : ∀ pre a post, xs = pre ++ a :: post → GSS S U (Js pre) X body (Γm pre a) (nextS S U (Js (pre ++ [a])) (Γs (pre ++ [a]))) R)
    (hs : ∀ x, foldedSetIterable iter X.env x = pure x := by intro _; rfl) : GTS S U J X (.For tg iter body [] pos) (Γs []) (nextS S U (Js xs) ((Γs xs).map Ty.dem)) R :=
  GTS.weak (s_forE (β := Unit) (I := fun _ _ => True) (Js := fun l _ => Js l) (fun l _ => Γs l) (fun l _ a => Γm l a) jo0 (fun l _ => jo l) hp hc () trivial hi (fun pre a post e _ _ => hg pre a post e) (fun pre a post e _ _ => hd pre a post e) (fun pre a post e _ _ => (hb pre a post e).weak fun _ _ _ _ n => ⟨(), trivial, n⟩) hs) fun _ _ _ _ ⟨_, _, n⟩ => n
theorem s_consE {st : Stmt} {sts : List Stmt} {I : β → Prop} {Js : β → Hp → Prop} {Γs : β → Ctx} {N : NK} (h1 : GTS S U J X st Γ (nextE S U I Js Γs) R) (h2 : ∀ b, I b → GSS S U (Js b) X sts (Γs b) N R) : GSS S U J X (st :: sts) Γ N R := fun H0 H1 σ H f D hn hr => wSs_of (pss_cons ps_w pss_w) (h1 H0 H1 σ H f { D with nx := wSs X sts D } (fun σ' H' ⟨b, hI, n⟩ => h2 b hI H0 H1 σ' H' n D hn hr) hr)
end
end K8
end
section
set_option Elab.async false
set_option linter.all false
set_option maxRecDepth 100000
set_option maxHeartbeats 1000000
set_option autoImplicit false
namespace K8
open PySem L2
open Evl (Ex)
/-! Dicts in the making; objects that change, their methods; entries. -/
theorem JOk.and {S1 U1 S2 U2 : Addr → Prop} {J1 J2 : Hp → Prop} (a : JOk S1 U1 J1) (b : JOk S2 U2 J2) : JOk (fun x => S1 x ∨ S2 x) (fun x => U1 x ∨ U2 x) (fun H => J1 H ∧ J2 H) where
  su := fun x h => h.imp (a.su x) (b.su x)
  mono' := fun e h ⟨j1, j2⟩ => ⟨a.mono' e (fun c o u z => h c o (.inl u) z) j1, b.mono' e (fun c o u z => h c o (.inr u) z) j2⟩
  ex := fun {H} ⟨j1, j2⟩ c u => by
    have ns : ∀ o, H c = some o → (S1 c ∨ S2 c) → ¬ Stab o := fun o h s => by
      rcases s with s | s
      · obtain ⟨o', h', n⟩ := a.ns j1 c s
        rw [h] at h'
        cases h'
        exact n
      · obtain ⟨o', h', n⟩ := b.ns j2 c s
        rw [h] at h'
        cases h'
        exact n
    rcases u with u | u
    · obtain ⟨o, h, _⟩ := a.ex j1 c u
      exact ⟨o, h, ns o h⟩
    · obtain ⟨o, h, _⟩ := b.ex j2 c u
      exact ⟨o, h, ns o h⟩
abbrev S0 : Addr → Prop := fun _ => False
abbrev J0' : Hp → Prop := fun _ => True
theorem jo0 : JOk S0 S0 J0' := ⟨fun _ h => h, fun _ _ _ => trivial, fun _ _ h => h.elim⟩
theorem put_l {S1 U1 Sr Ur : Addr → Prop} {J1 J1' Jr : Hp → Prop} (j1 : JOk S1 U1 J1) (jr : JOk Sr Ur Jr) (dj : ∀ H, J1 H → Jr H → ∀ a, Ur a → ¬ S1 a) : ∀ H H2, (J1 H ∧ Jr H) → ES S1 H H2 → J1' H2 → J1' H2 ∧ Jr H2 := fun H H2 ⟨a, b⟩ e j => ⟨j, jr.mono' (exI_es j1 a e) (fun c o u h => e c o (dj H a b c u) h) b⟩
theorem put_r {S1 U1 Sr Ur : Addr → Prop} {J1 J1' Jr : Hp → Prop} (j1 : JOk S1 U1 J1) (jr : JOk Sr Ur Jr) (dj : ∀ H, J1 H → Jr H → ∀ a, Ur a → ¬ S1 a) : ∀ H H2, (Jr H ∧ J1 H) → ES S1 H H2 → J1' H2 → Jr H2 ∧ J1' H2 := fun H H2 ⟨b, a⟩ e j => ⟨jr.mono' (exI_es j1 a e) (fun c o u h => e c o (dj H a b c u) h) b, j⟩
theorem ES.sub {S S' : Addr → Prop} {H H' : Hp} (e : ES S H H') (k : ∀ a, S a → S' a) : ES S' H H' := fun b o n h => e b o (fun s => n (k b s)) h
/-- a dict of one's own, counts to numbers -/
def NdAt (P : Program) (w : World) (d : Addr) (rows : Hd) (H : Hp) : Prop := ∃ kvs, H d = some (ndO P w d kvs) ∧ KOk H kvs ∧ RowsOk rows H kvs
theorem ndAt_ok {P : Program} {w : World} {d : Addr} {rows : Hd} : JOk (Sa d) (Sa d) (NdAt P w d rows) where
  su := fun _ h => h
  mono' := fun e h ⟨kvs, h1, h2, h3⟩ => ⟨kvs, h d _ rfl h1, h2.mono e, h3.mono e⟩
  ex := fun ⟨kvs, h1, _⟩ c u => by
    obtain rfl : c = d := u
    exact ⟨_, h1, fun _ z => z⟩
def ndV (P : Program) (w : World) (d : Addr) (rows : Hd) : VP := ⟨fun H v => v = .ref d ∧ NdAt P w d rows H, fun e ⟨h, j⟩ => ⟨h, ndAt_ok.mono e j⟩⟩
/-! objects -/
def ObAt (C : Addr) (L : List Str) (fs : List (Str × VI)) (x : Addr) (H : Hp) : Prop := ∃ dx gs, H x = some (.ins C dx gs) ∧ (gs.map (·.1)).Nodup ∧ (∀ g ∈ gs.map (·.1), g ∈ L) ∧ FOk fs gs H
theorem lookup_out {L : List Str} {f : Str} : ∀ {gs : List (Str × V)}, (∀ g ∈ gs.map (·.1), g ∈ L) → f ∉ L → gs.lookup f = none
  | [], _, _ => rfl
  | (g, v) :: t, h, n => by
    rw [List.lookup_cons, beq_eq_false_iff_ne.mpr (fun z : f = g => n (z ▸ h g (by simp)))]
    exact lookup_out (fun y hy => h y (by rw [List.map_cons]; exact List.mem_cons_of_mem _ hy)) n
theorem not_fullL {L : List Str} {gs : List (Str × V)} (h : ∀ g ∈ gs.map (·.1), g ∈ L) (n : ("levels" : Str) ∉ L) : ¬ full gs = true := by
  unfold full
  rw [lookup_out h n]
  simp
theorem nodup_len : ∀ {l L : List Str}, l.Nodup → (∀ x ∈ l, x ∈ L) → l.length ≤ L.length
  | [], _, _, _ => Nat.zero_le _
  | x :: l, L, nd, h => by
    rw [List.nodup_cons] at nd
    have ih := nodup_len (L := L.erase x) nd.2 fun y hy => (List.mem_erase_of_ne (fun z : y = x => nd.1 (by rw [← z]; exact hy))).mpr (h y (by simp [hy]))
    have hx := List.length_erase_of_mem (h x (by simp))
    have hp := List.length_pos_of_mem (h x (by simp))
    rw [List.length_cons]
    omega
theorem putF_keys (f : Str) (v : V) : ∀ gs : List (Str × V), (putF f v gs).map (·.1) = if f ∈ gs.map (·.1) then gs.map (·.1) else gs.map (·.1) ++ [f]
  | [] => by simp [putF]
  | (g, x) :: t => by
    unfold putF
    by_cases e : g = f
    · subst e
      rw [if_pos rfl, if_pos (by simp)]
      rfl
    · rw [if_neg e, List.map_cons, putF_keys f v t, List.map_cons]
      by_cases m : f ∈ t.map (·.1)
      · rw [if_pos m, if_pos (List.mem_cons_of_mem _ m)]
      · rw [if_neg m, if_neg (by rw [List.mem_cons]; exact fun z => z.elim (fun z => e z.symm) m)]
        rfl
theorem obAt_ok {C : Addr} {L : List Str} {fs : List (Str × VI)} {x : Addr} (hL : ("levels" : Str) ∉ L) : JOk (Sa x) (Sa x) (ObAt C L fs x) where
  su := fun _ h => h
  mono' := fun e h ⟨dx, gs, h1, h2, h3, h4⟩ => ⟨dx, gs, h x _ rfl h1, h2, h3, h4.mono e⟩
  ex := fun ⟨dx, gs, h1, h2, h3, h4⟩ c u => by
    obtain rfl : c = x := u
    exact ⟨_, h1, fun _ z => not_fullL h3 hL z⟩
theorem ObAt.to {C : Addr} {L : List Str} {fs fs' : List (Str × VI)} {x : Addr} {H : Hp} (h : ObAt C L fs x H) (k : ∀ f P, fs'.lookup f = some P → fs.lookup f = some P) : ObAt C L fs' x H := by
  obtain ⟨dx, gs, h1, h2, h3, h4⟩ := h
  exact ⟨dx, gs, h1, h2, h3, fun f P l => h4 f P (k f P l)⟩
def obV (C : Addr) (L : List Str) (fs : List (Str × VI)) (hL : ("levels" : Str) ∉ L) (x : Addr) : VP := ⟨fun H v => v = .ref x ∧ ObAt C L fs x H, fun e ⟨h, j⟩ => ⟨h, (obAt_ok hL).mono e j⟩⟩
/-- what of the text a class of changing things has -/
structure BCl (K : PySem.W.Frag) (C : Addr) (L : List Str) : Prop where
  c : Cls K C
  na : ∀ f ∈ L, NoAttr K C f
  nl : ("levels" : Str) ∉ L
  few : L.length ≤ 20
theorem ObAt.put {C x : Addr} {L : List Str} {fs : List (Str × VI)} {f : Str} {P : VI} {v : V} {H : Hp} {dx : Addr} {gs : List (Str × V)} (hL : ("levels" : Str) ∉ L) (hf : f ∈ L) (h : ObAt C L fs x H) (k : P.ok H v) (hx : H x = some (.ins C dx gs)) : ObAt C L ((f, P) :: fs) x (upd H x (.ins C dx (putF f v gs))) := by
  obtain ⟨dx', gs', h1, h2, h3, h4⟩ := h
  rw [hx] at h1
  cases h1
  have ee : ExI H (upd H x (.ins C dx (putF f v gs))) := .upd hx fun z => not_fullL h3 hL z
  refine ⟨dx, _, upd_same, ?_, ?_, fun g Q hg => ?_⟩
  · rw [putF_keys]
    split
    · exact h2
    · rename_i n
      rw [List.nodup_append]
      exact ⟨h2, by simp, fun a ha b hb e => n (by rw [List.mem_singleton.mp hb] at e; exact e ▸ ha)⟩
  · rw [putF_keys]
    split
    · exact h3
    · intro g hg
      rcases List.mem_append.mp hg with hg | hg
      · exact h3 g hg
      · rw [List.mem_singleton.mp hg]
        exact hf
  · rw [lookup_putF]
    rw [List.lookup_cons] at hg
    by_cases z : g = f
    · subst z
      rw [beq_self_eq_true] at hg
      cases hg
      rw [if_pos rfl]
      exact ⟨v, rfl, P.mono ee k⟩
    · rw [beq_eq_false_iff_ne.mpr z] at hg
      rw [if_neg z]
      obtain ⟨w, l, r⟩ := h4 g Q hg
      exact ⟨w, l, Q.mono ee r⟩
section
variable {S U : Addr → Prop} {J J1 J' : Hp → Prop} {X : Cx} {Γ Γ' Γ2 : Ctx} {pos p p1 p2 dp apos : Pos} {e b c o : Expr} {es : List Expr} {st : Stmt} {sts A B : List Stmt} {N : NK} {R : RK} {H0 H1 H H2 B0 : Hp} {σ : St} {v : V} {W : VP} {rows : Hd} {cs : List Nat} {r : Rat} {d x C : Addr} {L : List Str} {fs : List (Str × VI)}
theorem e_obF {P : VI} {f : Str} {hL : ("levels" : Str) ∉ L} (h : EV X e Γ (obV C L fs hL x)) (c : BCl X.K C L) (hf : fs.lookup f = some P) (hn : f ∈ L := by decide)
    (hb : attributeBase e f X.env (eval e X.env) = eval e X.env := by rfl) : EV X (.Attribute e f pos) Γ P.p := fun H0 H1 σ H ft Q q =>
  wE_of (pe_fld pe_w hb) (h H0 H1 σ H ft _ fun v H2 e2 ⟨ev, dx, gs, h2, h3, h4, h5⟩ => by
    obtain ⟨w, l, k⟩ := h5 f P hf
    exact ⟨x, C, dx, gs, w, ev, h2, c.c, c.na f hn, l, q w H2 e2 k⟩)
theorem gs_S {Rt : Ty} (h : GSS S0 S0 J0' X sts Γ N (fun _ _ => False)) : GS X sts Γ N Rt := fun H0 H1 σ H f D hn hr => h H0 H1 σ H ⟨f, fun _ z => z.elim, fun _ z => z.elim, trivial⟩ D hn fun _ _ _ z => z.elim
/-- x = {} -/
theorem s_newD (jo : JOk S U J) (i : Nat) {y : Str} (hN : X.N.Nodup) (h : ∀ d, ¬ U d → GSS (fun a => S a ∨ Sa d a) (fun a => U a ∨ Sa d a) (fun H => J H ∧ NdAt X.prog X.w d [] H) X sts (Γ.set i (.i (VI.is (.ref d)))) N R) (hi : X.N[i]? = some y := by rfl) (hx : Loc X.env.scope y := by first | exact Or.inl rfl | exact Or.inr rfl)
    (hs : swapsWith (.Dict [] [] dp) (some (.Name y p)) pos.line X.env = pure false := by rfl) (hf : X.fn y = true ∨ X.env.scope.names.lookup y = some .local := by first | exact .inl rfl | exact .inr rfl) : GSS S U J X (.Assign [.Name y p] (.Dict [] [] dp) pos :: sts) Γ N R := fun H0 H1 σ H f D hn hr => by
  refine wSs_of (pss_cons (ps_set hN hi hx pe_dnewN hs hf) pss_w) fun d hd => ?_
  have nu : ¬ U d := fun u => by
    obtain ⟨o, z, _⟩ := jo.ex f.j d u
    rw [hd] at z
    cases z
  have g := (f.mono jo (Evl.Ex.new (o := ndO X.prog X.w d []) hd)).setI (P := VI.is (.ref d)) i rfl
  refine h d nu H0 H1 _ _ ⟨g.f, fun a s => s.elim (g.nx a) fun z => ?_, fun a u => u.elim (g.no a) fun z o => ?_, g.j, [], upd_same, (fun _ h => nomatch h), .nil⟩ D hn hr
  · obtain rfl : a = d := z
    exact Evl.fresh_back f.f.ex hd
  · obtain rfl : a = d := z
    obtain ⟨_, ys, q⟩ := g.f.own o
    rw [upd_same] at q
    cases q
/-- d[k] = e -/
theorem s_putN {J0 : Hp → Prop} {y : Str} {q1 : Pos} (jo0 : JOk S U J0) (jo : JOk S U J) (i : Nat) (hs : S d) (hJ : ∀ H, J H → NdAt X.prog X.w d rows H) (put : ∀ H H2, J H → ES (Sa d) H H2 → NdAt X.prog X.w d (setR rows cs r) H2 → J' H2) (hl : rows.length < 1000) (hΓ : Γ[i]? = some (.i (VI.is (.ref d)))) (h : EVS S U J0 J X e Γ (VI.num r)) (hb : EVS S U J J X b Γ (VI.ck cs))
    (hE : PS X (.Assign [.Subscript (.Name y p) b q1] e pos) (tAsg (wE X e) (gSub (tVar i) (wE X b) (rSetN X.prog X.w)))) : GTS S U J0 X (.Assign [.Subscript (.Name y p) b q1] e pos) Γ (nextS S U J' Γ) R := fun H0 H1 σ H f D hn hr => by
  obtain ⟨v, s1, ev⟩ := f.f.get hΓ (by simp)
  obtain rfl : v = .ref d := ev
  refine wS_of hE (h H0 H1 σ H f _ fun y H2 e2 j2 r2 => ⟨_, s1, hb H0 H1 σ H2 (f.es jo0 e2 j2) _ fun z H3 e3 j3 r3 => ?_⟩)
  obtain ⟨kvs, hd, hk, hrw⟩ := hJ H3 j3
  obtain ⟨t, ys, rfl, kk⟩ := r3
  have r3 : (VI.ck cs).ok H3 (.ref t) := ⟨t, ys, rfl, kk⟩
  have hkl : rows.length = kvs.length := Paired.length hrw
  refine ⟨d, t, kvs, cs, rfl, rfl, hd, hk, r3, by omega, ?_⟩
  have xx : ∀ u, ExI H3 (upd H3 d u) := fun u => .upd hd fun z => z
  have es : ∀ u, ES (Sa d) H3 (upd H3 d u) := fun u b o nb h => by rw [upd_ne nb]; exact h
  have ry := (VI.num r).mono (exI_es jo j2 e3) r2
  exact hn σ _ (((f.es jo0 e2 j2).es jo e3 j3).es jo ((es _).sub fun a z => by rw [show a = d from z]; exact hs) (put H3 _ j3 (es _) ⟨_, upd_same, (putN_keys hk r3).mono (xx _), (rows_put hrw ry).mono (xx _)⟩))
/-- a dict of one's own is finished -/
theorem s_frzD {Pg : Program} {w : World} (jo : JOk S U J) (i : Nat) (nu : ¬ U d) (hΓ : Γ[i]? = some (.i (VI.is (.ref d)))) (h : GSS S U J X sts (Γ.set i (.i (VI.nd Pg w rows))) N R) (hX : X.prog = Pg ∧ X.w = w := by exact ⟨rfl, rfl⟩) : GSS (fun a => S a ∨ Sa d a) (fun a => U a ∨ Sa d a) (fun H => J H ∧ NdAt Pg w d rows H) X sts Γ N R := fun H0 H1 σ H f D hn hr => by
  obtain ⟨rfl, rfl⟩ := hX
  intro pins s I
  obtain ⟨j, kvs, hd, hk, hrw⟩ := f.j
  obtain ⟨od, I2⟩ := I.lock hd trivial
  obtain ⟨v, s1, ev⟩ := f.f.get hΓ (by simp)
  obtain rfl : v = .ref d := ev
  have xx : ExI H (upd H d (.frz od (ndO X.prog X.w d kvs))) := .upd hd fun z => z
  have g : FS S U J Γ H0 H1 σ (upd H d (.frz od (ndO X.prog X.w d kvs))) := ⟨f.f.other (f.nx d (.inr rfl)) hd (fun z => z) (f.no d (.inr rfl)), fun a s => f.nx a (.inl s), fun a u => f.no a (.inl u), jo.mono' xx (fun b o u z => by rw [upd_ne (fun e : b = d => nu (by rw [← e]; exact u))]; exact z) j⟩
  have g2 := g.setI (P := VI.nd X.prog X.w rows) (v := .ref d) i ⟨d, od, kvs, rfl, upd_same, hk.mono xx, hrw.mono xx⟩
  rw [set_same s1] at g2
  exact h H0 H1 σ _ g2 D hn hr pins s I2
/-- x.f = e -/
theorem s_obW {J0 : Hp → Prop} {y f : Str} {P : VI} (jo0 : JOk S U J0) (jo : JOk S U J) (hs : S x) (hJ : ∀ H, J H → ObAt C L fs x H) (put : ∀ H H2, J H → ES (Sa x) H H2 → ObAt C L ((f, P) :: fs) x H2 → J' H2) (c : BCl X.K C L) (i : Nat) (hΓ : Γ[i]? = some (.i (VI.is (.ref x)))) (h : EVS S U J0 J X e Γ P) (hL : f ∈ L := by decide) (hj : X.N[i]? = some y := by rfl) (hv : Vis X.env.scope y := by first | exact Or.inl rfl | exact Or.inr (Or.inl rfl) | exact Or.inr (Or.inr rfl)) (hd : (y == ("__debug__" : Str)) = false := by decide) (hcd : (y == ("__classdict__" : Str)) = false := by decide)
    (hsw : swapsWith e (some (.Attribute (.Name y p1) f p2)) pos.line X.env = pure false := by rfl) : GTS S U J0 X (.Assign [.Attribute (.Name y p1) f p2] e pos) Γ (nextS S U J' Γ) R := fun H0 H1 σ H ft D hn hr => by
  obtain ⟨v, s1, ev⟩ := ft.f.get hΓ (by simp)
  obtain rfl : v = .ref x := ev
  refine wS_of (ps_fld (pe_var hj hv hd hcd) pe_w hsw) (h H0 H1 σ H ft _ fun w H2 e2 j2 r2 => ?_)
  have ob := hJ H2 j2
  obtain ⟨dx, gs, h1, h2, h3, h4⟩ := id ob
  have hlen := nodup_len h2 h3
  rw [List.length_map] at hlen
  refine ⟨_, s1, x, C, dx, gs, rfl, h1, c.c, c.na f hL, by have := c.few; omega, ?_⟩
  have es : ES (Sa x) H2 (upd H2 x (.ins C dx (putF f w gs))) := fun b o nb h => by rw [upd_ne nb]; exact h
  exact hn σ _ ((ft.es jo0 e2 j2).es jo (es.sub fun a z => by rw [show a = x from z]; exact hs) (put H2 _ j2 es (ob.put c.nl hL r2 h1)))
end
/-! ### promises of defs that change things -/
def spS {ι : Type} (pre : ι → Prop) (self : ι → V) (args : ι → List VI) (S : ι → Addr → Prop) (J J' : ι → Hp → Prop) (res : ι → VI) : Sp := fun vs H Q _ => ∃ (i : ι) (ws : List V), pre i ∧ vs = self i :: ws ∧ Oks (args i) H ws ∧ J i H ∧ ∀ v H2, ES (S i) H H2 → J' i H2 → (res i).ok H2 v → Q v H2
noncomputable def hideS (S : Addr → Prop) (H : Hp) : Hp := fun b => open Classical in if S b then none else H b
theorem hideS_s {S : Addr → Prop} {b : Addr} {H : Hp} (h : S b) : hideS S H b = none := by unfold hideS; rw [if_pos h]
theorem hideS_ne {S : Addr → Prop} {b : Addr} {H : Hp} (h : ¬ S b) : hideS S H b = H b := by unfold hideS; rw [if_neg h]
theorem hideS_ex {S : Addr → Prop} {H : Hp} : Ex (hideS S H) H := fun b o h => by
  by_cases z : S b
  · rw [hideS_s z] at h
    cases h
  · rw [hideS_ne z] at h
    exact h
theorem es_hide {S : Addr → Prop} {H H' : Hp} (e : Ex (hideS S H) H') : ES S H H' := fun b o n h => e b o (by rw [hideS_ne n]; exact h)
def ctxV (N : List Str) (v : V) (Ps : List VI) : Ctx := .i (VI.is v) :: (Ps.map Ty.i ++ List.replicate (N.length - (Ps.length + 1)) .u)
theorem ctxV_no {N : List Str} {v : V} {Ps : List VI} {j : Nat} {Qs : List VI} : (ctxV N v Ps)[j]? ≠ some (.o Qs) := fun h => by
  have hm := List.mem_of_getElem? h
  unfold ctxV at hm
  rcases List.mem_cons.mp hm with z | z
  · cases z
  · rcases List.mem_append.mp z with z | z
    · obtain ⟨_, _, z⟩ := List.mem_map.mp z
      cases z
    · cases List.eq_of_mem_replicate z
theorem fitV {N : List Str} {v : V} {Ps : List VI} {H1 H : Hp} {ws : List V} (e : Ex H1 H) (k : Oks Ps H ws) : Fit H1 H1 (ctxV N v Ps) (L2.start N (v :: ws)) H := by
  have lk := k.len
  refine ⟨Ex.r, e, by unfold ctxV L2.start; simp [lk], fun i T h => ?_, fun i j Qs Rs v _ hi _ _ _ => absurd hi ctxV_no⟩
  cases i with
  | zero =>
    unfold ctxV at h
    cases h
    exact .inr ⟨v, rfl, rfl⟩
  | succ i =>
    have h : (Ps.map Ty.i ++ List.replicate (N.length - (Ps.length + 1)) Ty.u)[i]? = some T := h
    by_cases hi : i < Ps.length
    · rw [List.getElem?_append_left (by simpa using hi), List.getElem?_map] at h
      cases q : Ps[i]? with
      | none =>
        rw [q] at h
        cases h
      | some P =>
        rw [q] at h
        cases h
        obtain ⟨u, h1, h2⟩ := oks_get k q
        refine .inr ⟨u, ?_, h2⟩
        unfold L2.start
        rw [List.getElem?_append_left (by simp; omega), List.getElem?_map, List.getElem?_cons_succ, h1]
        rfl
    · rw [List.getElem?_append_right (by simp; omega), List.getElem?_replicate] at h
      split at h
      · cases h
        exact .inl rfl
      · cases h
theorem fsV {N : List Str} {v : V} {Ps : List VI} {H : Hp} {ws : List V} {S U : Addr → Prop} {J : Hp → Prop} (k : Oks Ps H ws) (j : J H) : FS S U J (ctxV N v Ps) (hideS S H) (hideS S H) (L2.start N (v :: ws)) H := ⟨fitV hideS_ex k, fun a s => hideS_s s, fun a _ ⟨j, Ps, h1, _⟩ => ctxV_no h1, j⟩
section
variable {P : Program} {w : World} {K : PySem.W.Frag} {mg : Str → Option Value} {base : Heap} {name qual : Str} {params : Arguments} {body : List Stmt} {scope : Scope} {f : Addr} {fd : FuncData} {N ps : List Str} {k : Nat} {ι : Type} {pre : ι → Prop} {self : ι → V} {args : ι → List VI} {res : ι → VI} {S U : ι → Addr → Prop} {J J' : ι → Hp → Prop}
/-- the end of such a def without return -/
def endS (J' : Hp → Prop) (P : VI) : NK := fun H0 _ _ H => Ex H0 H ∧ J' H ∧ P.ok H .non
theorem endS_of {S U : Addr → Prop} {J' : Hp → Prop} {Γ : Ctx} {H0 H1 H : Hp} {σ : St} (h : nextS S U J' Γ H0 H1 σ H) : endS J' VI.non H0 H1 σ H := ⟨h.f.b.trans h.f.ex, h.j, rfl⟩
theorem fnS (F : FunD K name qual params body scope [] [] f fd) (Sc : FnScope N ps scope) (hl : ∀ i, (args i).length + 1 = ps.length)
    (hb : ∀ (cdv : Value) (A : Around) (outer : List Env) (s : Shared) (H : Hp) (E : XK), Room k (A.deeper (PyProof.Rows.envOfC qual scope s.heap.objs.size f cdv)) → ∀ i, pre i →
      GSS (S i) (U i) (J i) (cxOf CX0 P w K mg base N qual scope f cdv A outer s H E).nox body (ctxV N (self i) (args i)) (endS (J' i) (res i)) (fun v H => J' i H ∧ (res i).ok H v)) : FnOk P w K mg base CX0 (k + 1) f fd ps (spS pre self args S J J' res) := by
  refine F.ok Sc (fun vs H Q E h => ?_) (fun cdv A outer s H vs Q E hr h => ?_)
  · obtain ⟨i, ws, _, rfl, kk, _⟩ := h
    rw [List.length_cons, ← Oks.len kk, hl]
  · obtain ⟨i, ws, hp, rfl, kk, j, q⟩ := h
    exact ⟨_, PSs.nox pss_w, hb cdv A outer s H E hr i hp _ _ _ H (fsV kk j) { nx := fun _ H' => Q .non H', rt := Q } (fun _ H' n => q _ H' (es_hide n.1) n.2.1 n.2.2) fun v H' e r => q v H' (es_hide e) r.1 r.2⟩
end
section
variable {S U : Addr → Prop} {J J1 J' : Hp → Prop} {X : Cx} {Γ : Ctx} {pos p apos : Pos} {e o : Expr} {es : List Expr} {ι : Type} {pre : ι → Prop} {self : ι → V} {args : ι → List VI} {res : ι → VI} {S1 : ι → Addr → Prop} {Ja Jb : ι → Hp → Prop} {m : Str} {f C x : Addr} {fd : FuncData} {ps : List Str} {k : Nat} {L : List Str} {fs : List (Str × VI)}
/-- o.m(..) -/
theorem vs_meth {pl : Sem Bool} {P : VI} (jo : JOk S U J) (ho : EVS S U J J X o Γ (VI.is (.ref x))) (hJ : ∀ H, J H → ObAt C L fs x H) (c : BCl X.K C L) (hm : Meth X.K C m f) (hmL : m ∉ L) (F : FnOk X.prog X.w X.K X.mg X.base CX0 k f fd ps (spS pre self args S1 Ja Jb res)) (hb : Binds X.K fd ps []) (hr : Room k X.A) (i : ι) (hp : pre i) (hself : self i = .ref x) (ha : EIS S U J J X (e :: es) Γ (args i)) (sub : ∀ a, S1 i a → S a) (get : ∀ H, J H → Ja i H) (put : ∀ H H2, J H → ES (S1 i) H H2 → Jb i H2 → J' H2) (hres : ∀ H v, (res i).ok H v → P.ok H v := by exact fun _ _ h => h)
    (hst : starEach (e :: es) X.env = (false, eval e X.env) :: starEach es X.env := by rfl) (hpl : (backTo pos (starEach es X.env)).any (·.1) = false := by rfl)
    (ht : eval (.Call (.Attribute o m apos) (e :: es) [] pos) X.env = (do
      let ov ← eval o X.env
      standAt apos.atName
      let (f, first) ← holding [ov] (getMethod ov m pl)
      callWith pos f first (backTo pos (starEach (e :: es) X.env)) (backToKw pos (keywordEach [] X.env))) := by rfl) : EVS S U J J' X (.Call (.Attribute o m apos) (e :: es) [] pos) Γ P := fun H0 H1 σ H ft Q q =>
  wE_of (pe_meth (pl := pl) pe_w c.c hm F hr hb .nil pass0 pa_w hst hpl ht) (ho H0 H1 σ H ft _ fun v H2 e2 j2 r2 => by
    obtain rfl : v = .ref x := r2
    obtain ⟨dx, gs, h1, h2, h3, h4⟩ := hJ H2 j2
    refine ⟨x, dx, gs, rfl, h1, lookup_out h3 hmL, ha H0 H1 σ H2 (ft.es jo e2 j2) _ fun vs H3 e3 j3 r3 => ?_⟩
    exact ⟨i, vs, hp, by rw [hself, List.append_nil], r3, get H3 j3, fun u H4 e4 j4 r4 => q u H4 ((e2.trans e3).trans (e4.sub sub)) (put H3 H4 j3 e4 j4) (hres H4 u r4)⟩)
/-- o.m() -/
theorem vs_meth0 {pl : Sem Bool} {P : VI} (ho : EVS S U J J X o Γ (VI.is (.ref x))) (hJ : ∀ H, J H → ObAt C L fs x H) (c : BCl X.K C L) (hm : Meth X.K C m f) (hmL : m ∉ L) (F : FnOk X.prog X.w X.K X.mg X.base CX0 k f fd ps (spS pre self args S1 Ja Jb res)) (hb : Binds X.K fd ps []) (hr : Room k X.A) (i : ι) (hp : pre i) (hself : self i = .ref x) (hargs : args i = []) (sub : ∀ a, S1 i a → S a) (get : ∀ H, J H → Ja i H) (put : ∀ H H2, J H → ES (S1 i) H H2 → Jb i H2 → J' H2) (hres : ∀ H v, (res i).ok H v → P.ok H v := by exact fun _ _ h => h)
    (ht : eval (.Call (.Attribute o m apos) [] [] pos) X.env = (do
      let ov ← eval o X.env
      standAt apos.atName
      let (f, first) ← holding [ov] (getMethod ov m pl)
      callWith pos f first (backTo pos (starEach [] X.env)) (backToKw pos (keywordEach [] X.env))) := by rfl) : EVS S U J J' X (.Call (.Attribute o m apos) [] [] pos) Γ P := fun H0 H1 σ H ft Q q =>
  wE_of (pe_meth0 (pl := pl) pe_w c.c hm F hr hb .nil pass0 ht) (ho H0 H1 σ H ft _ fun v H2 e2 j2 r2 => by
    obtain rfl : v = .ref x := r2
    obtain ⟨dx, gs, h1, h2, h3, h4⟩ := hJ H2 j2
    refine ⟨x, dx, gs, rfl, h1, lookup_out h3 hmL, ?_⟩
    exact ⟨i, [], hp, by rw [hself]; rfl, by rw [hargs]; exact .nil, get H2 j2, fun u H4 e4 j4 r4 => q u H4 (e2.trans (e4.sub sub)) (put H2 H4 j2 e4 j4) (hres H4 u r4)⟩)
end
/-! ### expressions that make new things -/
/-- n: what is made; Sn: where; val: what is handed back -/
def EN {ν : Type} (X : Cx) (e : Expr) (Γ : Ctx) (Sn : ν → Addr → Prop) (val : ν → V) (JN : ν → Hp → Prop) : Prop := ∀ (H0 H1 : Hp) (σ : St) (H : Hp), Fit H0 H1 Γ σ H → ∀ Q : VK, (∀ n H2, Ex H H2 → (∀ a, Sn n a → H a = none) → JN n H2 → Q (val n) H2) → wE X e σ H Q
def spN {ι ν : Type} (pre : ι → Prop) (args : ι → List VP) (Sn : ν → Addr → Prop) (val : ν → V) (JN : ι → ν → Hp → Prop) : Sp := fun vs H Q _ => ∃ i, pre i ∧ Pks (args i) H vs ∧ ∀ n H2, Ex H H2 → (∀ a, Sn n a → H a = none) → JN i n H2 → Q (val n) H2
/-- a block that hands back such -/
def GN {ν : Type} (X : Cx) (sts : List Stmt) (Γ : Ctx) (Sn : ν → Addr → Prop) (val : ν → V) (JN : ν → Hp → Prop) : Prop := ∀ (H0 H1 : Hp) (σ : St) (H : Hp), Fit H0 H1 Γ σ H → ∀ D : Ends, (∀ n H', Ex H0 H' → (∀ a, Sn n a → H0 a = none) → JN n H' → D.rt (val n) H') → wSs X sts D σ H
section
variable {ι ν : Type} {pre : ι → Prop} {args : ι → List VP} {Sn : ν → Addr → Prop} {val : ν → V} {JN : ν → Hp → Prop} {JI : ι → ν → Hp → Prop} {X : Cx} {Γ Γ' : Ctx} {pos p : Pos} {e c : Expr} {es : List Expr} {st : Stmt} {sts A : List Stmt}
theorem gn_cons (h1 : GT X st Γ (fitN Γ') (.i VI.never)) (h2 : GN X sts Γ' Sn val JN) : GN X (st :: sts) Γ Sn val JN := fun H0 H1 σ H f D hr =>
  wSs_of (pss_cons ps_w pss_w) (h1 H0 H1 σ H f { D with nx := wSs X sts D } (fun σ' H' n => h2 H0 H1 σ' H' n D hr) fun _ _ _ r => r.elim)
theorem gn_ifT (hc : ET X c Γ true) (h : GN X A Γ Sn val JN) : GN X (.If c A [] pos :: sts) Γ Sn val JN := fun H0 H1 σ H f D hr =>
  wSs_of (pss_cons (ps_if pt_w pss_w pss_nil) pss_w) (hc H0 H1 σ H f _ fun H2 e2 => by
    rw [if_pos rfl]
    exact h H0 H1 σ H2 (f.mono e2) _ hr)
theorem gn_ifF (hc : ET X c Γ false) (h : GN X sts Γ Sn val JN) : GN X (.If c A [] pos :: sts) Γ Sn val JN := fun H0 H1 σ H f D hr =>
  wSs_of (pss_cons (ps_if pt_w pss_w pss_nil) pss_w) (hc H0 H1 σ H f _ fun H2 e2 => by
    rw [if_neg Bool.false_ne_true]
    exact h H0 H1 σ H2 (f.mono e2) D hr)
theorem gn_ret (h : EN X e Γ Sn val JN) : GN X [.Return (some e) pos] Γ Sn val JN := fun H0 H1 σ H f D hr =>
  wSs_of (pss_one (ps_ret pe_w)) (h H0 H1 σ H f _ fun n H2 e2 fr j => hr n H2 ((f.b.trans f.ex).trans e2) (fun a s => Evl.fresh_back (f.b.trans f.ex) (fr a s)) j)
theorem en_call {Ps : List VP} {x : Str} {k : Nat} {ps : List Str} {dvs : List V} (F : Fq X.prog X.w X.K X.mg X.base x k ps dvs (spN pre args Sn val JI)) (hr : Room k X.A) (i : ι) (hp : pre i) (ha : EA X (e :: es) Γ Ps) (hA : Ps ++ (dvs.map fun v => (VI.is v).p) = args i := by rfl) (hg : Gl X x := by rfl)
    (hdb : (x == ("__debug__" : Str)) = false := by decide) (he : starEach (e :: es) X.env = (false, eval e X.env) :: starEach es X.env := by rfl) (hpl : (backTo pos (starEach es X.env)).any (·.1) = false := by rfl) :
    EN X (.Call (.Name x p) (e :: es) [] pos) Γ Sn val (JI i) := fun H0 H1 σ H f Q q => by
  obtain ⟨fa, fd, ds, G, mf, kp, bd, vd⟩ := F.ex
  refine wE_of (pe_call G hr hg mf kp bd vd pass0 pa_w hdb he hpl) (ha H0 H1 σ H f _ fun vs H2 e2 r2 => ⟨i, hp, ?_, fun n H3 e3 fr j => q n H3 (e2.trans e3) (fun a s => Evl.fresh_back e2 (fr a s)) j⟩)
  rw [← hA]
  exact pAppend r2 pks_dvs
end
section
variable {P : Program} {w : World} {K : PySem.W.Frag} {mg : Str → Option Value} {base : Heap} {x name qual : Str} {st : Stmt} {N ps : List Str} {k : Nat} {ι ν : Type} {pre : ι → Prop} {args : ι → List VP} {Sn : ν → Addr → Prop} {val : ν → V} {JI : ι → ν → Hp → Prop}
theorem fq_N (D : Df K mg x name qual st []) (S : FnScope N ps (defScope st)) (hbd : BindN name qual st ps) (hl : ∀ i, (args i).length = ps.length)
    (hb : ∀ (cdv : Value) (A : Around) (outer : List Env) (s : Shared) (H : Hp) (E : XK), Room k (A.deeper (PyProof.Rows.envOfC qual (defScope st) s.heap.objs.size (He.ga K x) cdv)) → ∀ i, pre i →
      GN (cxOf CX0 P w K mg base N qual (defScope st) (He.ga K x) cdv A outer s H E).nox (defBody st) (ctx0 N (args i)) Sn val (JI i)) : Fq P w K mg base x (k + 1) ps [] (spN pre args Sn val JI) := by
  obtain ⟨fd, F⟩ := D.fn
  refine ⟨_, fd, [], F.ok S (fun vs H Q E h => ?_) (fun cdv A outer s H vs Q E hr h => ?_), D.mg, F.kp, F.bindsN hbd, .nil⟩
  · obtain ⟨i, _, k, _⟩ := h
    rw [← k.len, hl]
  · obtain ⟨i, hp, kk, q⟩ := h
    exact ⟨_, PSs.nox pss_w, hb cdv A outer s H E hr i hp H H _ H (fit0 kk) { nx := fun _ H' => Q .non H', rt := Q } fun n H' e fr j => q n H' e fr j⟩
end
end K8
end
section
set_option Elab.async false
set_option linter.all false
set_option maxRecDepth 100000
set_option maxHeartbeats 1000000
set_option autoImplicit false
namespace K8
open PySem L2
open Evl (Ex)
/-! Books, in plain words: layers, sizes. -/
theorem Ls_all : ∀ {n e : Nat} {c : List Nat}, c.length = n → c.sum = e → c ∈ Ls n e
  | 0, e, c, h1, h2 => by
    obtain rfl := List.length_eq_zero_iff.mp h1
    have : e = 0 := h2.symm
    subst this
    exact List.mem_singleton.mpr rfl
  | n + 1, e, c, h1, h2 => by
    have ne : c ≠ [] := fun z => by rw [z] at h1; cases h1
    have hd := List.dropLast_concat_getLast ne
    generalize c.dropLast = u at hd
    generalize c.getLast ne = m at hd
    subst hd
    rw [List.length_append, List.length_singleton] at h1
    rw [List.sum_append] at h2
    have h2 : u.sum + (m + 0) = e := h2
    exact List.mem_flatMap.mpr ⟨m, List.mem_range.mpr (by omega), List.mem_map.mpr ⟨u, Ls_all (by omega) (by omega), rfl⟩⟩
theorem coa_perm {g d : Nat} (h : Gd g d) : (coa (g - 1) d).Perm (Ls g d) := by
  have z := pairs_ok g (List.mem_range.mpr (by have := h.2.1; omega)) d (List.mem_range.mpr (by have := h.2.2.1; omega)) h.1 h.2.2.2
  unfold okPair at z
  rw [Bool.and_eq_true, Bool.and_eq_true] at z
  exact List.isPerm_iff.mp z.1.2
theorem coa_all {g d : Nat} (h : Gd g d) {c : List Nat} (h1 : c.length = g) (h2 : c.sum = d) : c ∈ coa (g - 1) d := (coa_perm h).mem_iff.mpr (Ls_all h1 h2)
theorem coa_ls {g d : Nat} (h : Gd g d) {c : List Nat} (hc : c ∈ coa (g - 1) d) : c.length = g ∧ c.sum = d := Ls_mem ((coa_perm h).mem_iff.mp hc)
theorem coa_nd1 : ∀ g ∈ List.range 6, ∀ d ∈ List.range 5, 1 ≤ g → g ^ d ≤ 27 → (coa (g - 1) d).Nodup := by decide +kernel
theorem coa_nd {g d : Nat} (h : Gd g d) : (coa (g - 1) d).Nodup := coa_nd1 g (List.mem_range.mpr (by have := h.2.1; omega)) d (List.mem_range.mpr (by have := h.2.2.1; omega)) h.1 h.2.2.2
theorem coa_few {g d : Nat} (h : Gd g d) : (coa (g - 1) d).length ≤ 20 := coa_b (g - 1) (List.mem_range.mpr (by have := h.2.1; omega)) d (List.mem_range.mpr (by have := h.2.2.1; omega)) (by rw [Nat.sub_add_cancel h.1]; exact h.2.2.2)
theorem Gd.le {g d j : Nat} (h : Gd g d) (l : j ≤ d) : Gd g j := ⟨h.1, h.2.1, Nat.le_trans l h.2.2.1, Nat.le_trans (Nat.pow_le_pow_right h.1 l) h.2.2.2⟩
theorem Lw.gd {cs : List Nat} {d : Nat} (h : Lw cs d) : Gd cs.length d := ⟨h.l1, h.l5, h.d4, h.p⟩
/-- the layer of rests behind j days -/
def lay (cs : List Nat) (d j : Nat) : Hd := (coa (cs.length - 1) j).map fun c => (c, lrest (addL cs c) (d - j))
theorem lay_keys (cs : List Nat) (d j : Nat) : (lay cs d j).map (·.1) = coa (cs.length - 1) j := by
  unfold lay
  rw [List.map_map]
  exact List.map_id' _
theorem lay_at {cs c : List Nat} {d j : Nat} (h : Gd cs.length j) (h1 : c.length = cs.length) (h2 : c.sum = j) : atR (lay cs d j) c = some (lrest (addL cs c) (d - j)) :=
  atR_mem (by rw [lay_keys]; exact coa_nd h) (List.mem_map.mpr ⟨c, coa_all h h1 h2, rfl⟩)
/-- with counts added that leave so many days -/
theorem Lw.add {cs c : List Nat} {d j : Nat} (h : Lw cs d) (hj : j ≤ d) (h1 : c.length = cs.length) (h2 : c.sum = j) : Lw (addL cs c) (d - j) where
  l1 := by rw [addL_len, h1, Nat.min_self]; exact h.l1
  l5 := by rw [addL_len, h1, Nat.min_self]; exact h.l5
  le := fun x hx => by
    have key : ∀ {a b : List Nat} {x : Nat}, x ∈ addL a b → ∃ y ∈ a, ∃ z ∈ b, x = y + z := by
      intro a
      induction a with
      | nil => intro b x h; simp [addL] at h
      | cons y a ih =>
        intro b x h
        cases b with
        | nil => simp [addL] at h
        | cons z b =>
          have h : x ∈ (y + z) :: addL a b := h
          rcases List.mem_cons.mp h with rfl | h
          · exact ⟨y, by simp, z, by simp, rfl⟩
          · obtain ⟨y', hy, z', hz, e⟩ := ih h
            exact ⟨y', by simp [hy], z', by simp [hz], e⟩
    obtain ⟨y, hy, z, hz, rfl⟩ := key hx
    have h3 := h.le y hy
    have h4 : z ≤ c.sum := by
      clear h1 h2 hx h3
      induction c with
      | nil => cases hz
      | cons a c ih =>
        rw [List.sum_cons]
        rcases List.mem_cons.mp hz with rfl | hz
        · omega
        · have := ih hz
          omega
    omega
  s := by rw [addL_sum h1.symm]; have := h.s; omega
  p := by rw [addL_len, h1, Nat.min_self]; exact (h.gd.le (show d - j ≤ d by omega)).2.2.2
  d4 := by have := h.d4; omega
theorem lrest_fr (cs : List Nat) (d : Nat) {k : Nat} (h : (lrn cs d).natAbs ≤ k) : Fr ((cs.sum + d) ^ (cs.sum + d)) k (lrest cs d) := by
  refine ⟨?_, lrn cs d, ?_, h⟩
  · exact Nat.pos_of_ne_zero fun z => by
      rcases Nat.eq_zero_or_pos (cs.sum + d) with e | e
      · rw [e] at z
        cases z
      · have := Nat.pow_pos (n := cs.sum + d) e
        omega
  · unfold lrest
    have ne : (((cs.sum + d) ^ (cs.sum + d) : Nat) : Int) ≠ 0 := by
      rw [Int.natCast_pow]
      exact powne _
    rw [← Int.natCast_pow, Rat.divInt_eq_div, Rat.div_mul_cancel]
    intro z
    exact ne (Rat.intCast_eq_zero_iff.mp z)
/-- days as the law draws them, for so many goods -/
def Ms (g : Nat) (mk : List (List Rat)) : Prop := ∀ dy ∈ mk, dy.length = g ∧ ∀ r ∈ dy, Sz 4 r ∧ 0 ≤ r.num
theorem Ms.sz {g : Nat} {mk : List (List Rat)} (h : Ms g mk) : ∀ dy ∈ mk, dy.length = g ∧ ∀ r ∈ dy, Sz 4 r := fun dy hd => ⟨(h dy hd).1, fun r hr => ((h dy hd).2 r hr).1⟩
/-- a book's days -/
structure Bk (cs : List Nat) (d : Nat) (mk : List (List Rat)) : Prop where
  w : Lw cs d
  l : mk.length ≤ d
  m : Ms cs.length mk
theorem Bk.gd {cs : List Nat} {d : Nat} {mk : List (List Rat)} (h : Bk cs d mk) : Gd cs.length mk.length := h.w.gd.le h.l
theorem Bk.hb {cs : List Nat} {d : Nat} {mk : List (List Rat)} (h : Bk cs d mk) : HB cs.length mk (held cs.length mk) := held_ok (fun dy hd => (h.m.sz dy hd).2) h.w.l1 h.gd.2.2.2
theorem Bk.dd {cs : List Nat} {d : Nat} {mk : List (List Rat)} (h : Bk cs d mk) : DD mk < 2 ^ 41 := DD_lt h.w.gd h.l h.m.sz
theorem Bk.hfr {cs : List Nat} {d : Nat} {mk : List (List Rat)} (h : Bk cs d mk) : ∀ z ∈ held cs.length mk, Fr (DD mk) (2 ^ 77) z.2 := fun z hz => (h.hb.ok.f z hz).mono (by
  have h1 := p432 (Nat.le_trans h.l h.w.d4)
  have h2 := h.dd
  exact Nat.le_trans (Nat.mul_le_mul h1 (Nat.le_of_lt h2)) (by decide))
theorem Bk.hlen {cs : List Nat} {d : Nat} {mk : List (List Rat)} (h : Bk cs d mk) : (held cs.length mk).length ≤ 27 := Nat.le_trans h.hb.len h.gd.2.2.2
theorem Bk.hsz {cs : List Nat} {d : Nat} {mk : List (List Rat)} (h : Bk cs d mk) {z : List Nat × Rat} (hz : z ∈ held cs.length mk) : Sz 400 z.2 := ((h.hfr z hz).sz (k := 78) (Nat.lt_trans h.dd (by decide)) (by decide)).mono (by decide)
theorem Bk.hkey {cs : List Nat} {d : Nat} {mk : List (List Rat)} (h : Bk cs d mk) {z : List Nat × Rat} (hz : z ∈ held cs.length mk) : z.1.length = cs.length ∧ z.1.sum = mk.length := h.hb.ok.k z hz
/-- sums of weights times rests -/
theorem Bk.szs {cs : List Nat} {d : Nat} {mk : List (List Rat)} (h : Bk cs d mk) {f : List Nat → List Nat} {e : Nat} (hf : ∀ z ∈ held cs.length mk, Lw (f z.1) e ∧ (f z.1).sum + e = cs.sum + d) : SzS ((held cs.length mk).map fun z => z.2 * lrest (f z.1) e) := by
  have hN := h.w.s
  have hD : (cs.sum + d) ^ (cs.sum + d) < 2 ^ 151 := by
    have := Nat.lt_of_lt_of_le (self_lt (n := cs.sum + d) (k := 5) (by omega)) (pow_le (by omega : _ ≤ 151))
    rw [← Int.natCast_pow, Int.natAbs_natCast] at this
    exact this
  refine Fr.szs (D := DD mk * (cs.sum + d) ^ (cs.sum + d)) (n := 2 ^ 77 * 2 ^ 233) (k := 330) ?_ (fun r hr => ?_) ?_ ?_ (by decide) (by decide)
  · have := DD_pos mk
    exact Nat.mul_pos this (Nat.pos_of_ne_zero fun z => by
      have := powne (cs.sum + d)
      rw [← Int.natCast_pow, z] at this
      exact this rfl)
  · obtain ⟨z, hz, rfl⟩ := List.mem_map.mp hr
    obtain ⟨l1, l2⟩ := hf z hz
    have hl := lrest_fr (f z.1) e (Nat.le_of_lt (lrn_lt l1))
    rw [l2] at hl
    exact (h.hfr z hz).mul hl
  · exact Nat.lt_of_lt_of_le (Nat.mul_lt_mul'' h.dd hD) (by decide)
  · rw [List.length_map]
    exact Nat.lt_of_le_of_lt (Nat.mul_le_mul_right _ h.hlen) (by decide)
theorem Bk.szs1 {cs : List Nat} {d : Nat} {mk : List (List Rat)} (h : Bk cs d mk) : SzS ((held cs.length mk).map fun z => z.2 * lrest (addL cs z.1) (d - mk.length)) := h.szs fun z hz => by
  obtain ⟨k1, k2⟩ := h.hkey hz
  exact ⟨h.w.add h.l k1 k2, by rw [addL_sum k1.symm]; have := h.l; omega⟩
theorem Bk.szs2 {cs : List Nat} {d : Nat} {mk : List (List Rat)} (h : Bk cs d mk) (hl : mk.length < d) {x : Nat} (hx : x < cs.length) : SzS ((held cs.length mk).map fun z => z.2 * lrest (addL cs (inc z.1 x)) (d - (mk.length + 1))) := h.szs (f := fun c => addL cs (inc c x)) fun z hz => by
  obtain ⟨k1, k2⟩ := h.hkey hz
  have h1 : (inc z.1 x).length = cs.length := by rw [inc_len]; exact k1
  have h2 : (inc z.1 x).sum = mk.length + 1 := by rw [inc_sum (by omega), k2]
  exact ⟨h.w.add hl h1 h2, by rw [addL_sum h1.symm]; omega⟩
/-- the rests of a layer, of the next one -/
theorem lay_szs {cs c : List Nat} {d j : Nat} (h : Lw cs d) (hj : j < d) (h1 : c.length = cs.length) (h2 : c.sum = j) : SzS ((List.range cs.length).map fun x => lrest (addL cs (inc c x)) (d - (j + 1))) := by
  have hN := h.s
  have hD : (cs.sum + d) ^ (cs.sum + d) < 2 ^ 151 := by
    have := Nat.lt_of_lt_of_le (self_lt (n := cs.sum + d) (k := 5) (by omega)) (pow_le (by omega : _ ≤ 151))
    rw [← Int.natCast_pow, Int.natAbs_natCast] at this
    exact this
  refine Fr.szs (D := (cs.sum + d) ^ (cs.sum + d)) (n := 2 ^ 233) (k := 240) ?_ (fun r hr => ?_) ?_ ?_ (by decide) (by decide)
  · exact Nat.pos_of_ne_zero fun z => by
      have := powne (cs.sum + d)
      rw [← Int.natCast_pow, z] at this
      exact this rfl
  · obtain ⟨x, hx, rfl⟩ := List.mem_map.mp hr
    have hx := List.mem_range.mp hx
    have k1 : (inc c x).length = cs.length := by rw [inc_len]; exact h1
    have k2 : (inc c x).sum = j + 1 := by rw [inc_sum (by omega), h2]
    have hl := lrest_fr (addL cs (inc c x)) (d - (j + 1)) (Nat.le_of_lt (lrn_lt (h.add hj k1 k2)))
    rw [addL_sum k1.symm, k2, show cs.sum + (j + 1) + (d - (j + 1)) = cs.sum + d by omega] at hl
    exact hl
  · exact Nat.lt_of_lt_of_le hD (by decide)
  · rw [List.length_map, List.length_range]
    exact Nat.lt_of_le_of_lt (Nat.mul_le_mul_right _ h.l5) (by decide)
theorem lay_step {cs c : List Nat} {d j : Nat} (hj : j < d) (h1 : c.length = cs.length) : rsum ((List.range cs.length).map fun x => lrest (addL cs (inc c x)) (d - (j + 1))) = lrest (addL cs c) (d - j) := by
  rw [show d - j = d - (j + 1) + 1 by omega, lrest_succ, addL_len, h1, Nat.min_self]
  exact rsum_congr fun x hx => by rw [inc_addL h1]
end K8
end
section
set_option Elab.async false
set_option linter.all false
set_option maxRecDepth 100000
set_option maxHeartbeats 1000000
set_option autoImplicit false
namespace K8
open PySem L2
open Evl (Ex)
/-! Lists of layers, walked. -/
abbrev LBF : List Str := ["goods", "rests", "held"]
abbrev BkF : List Str := ["promise", "market", "left", "_inner", "purse", "amounts"]
/-- what the text has of the books' classes -/
structure Tb (P : Program) (K : PySem.W.Frag) (mg : Str → Option Value) : Prop where
  c_LB : BCl K (He.ga K "ListBook") LBF
  k_LB : L2.Mk K (He.ga K "ListBook") (He.ma K (He.ga K "ListBook") "__init__")
  g_LB : mg "ListBook" = some (.ref (He.ga K "ListBook"))
  m_LB_init : Dm K "ListBook" "__init__" "ListBook.__init__" st_ListBook_init []
  m_LB_purse : Dm K "ListBook" "purse" "ListBook.purse" st_ListBook_purse []
  m_LB_amounts : Dm K "ListBook" "amounts" "ListBook.amounts" st_ListBook_amounts []
  m_LB_amount : Dm K "ListBook" "amount" "ListBook.amount" st_ListBook_amount []
  m_LB_come : Dm K "ListBook" "come" "ListBook.come" st_ListBook_come []
  c_Bk : BCl K (He.ga K "Book") BkF
  k_Bk : L2.Mk K (He.ga K "Book") (He.ma K (He.ga K "Book") "__init__")
  g_Bk : mg "Book" = some (.ref (He.ga K "Book"))
  m_Bk_init : Dm K "Book" "__init__" "Book.__init__" st_Book_init []
  m_Bk_tell : Dm K "Book" "tell" "Book.tell" st_Book_tell []
  m_Bk_day : Dm K "Book" "day" "Book.day" st_Book_day []
/-- the layers found, the first of them behind d - k days -/
def fnd (P : Program) (w : World) (cs : List Nat) (d k : Nat) : List VI := (List.range (k + 1)).map fun i => VI.nd P w (lay cs d (d - k + i))
def rsts (P : Program) (w : World) (cs : List Nat) (d j : Nat) : List VI := (List.range (d - j + 1)).map fun i => VI.nd P w (lay cs d (j + i))
section
variable {P : Program} {w : World} {cs : List Nat} {d k j : Nat}
theorem fnd_cons (h : k < d) : VI.nd P w (lay cs d (d - (k + 1))) :: fnd P w cs d k = fnd P w cs d (k + 1) := by
  unfold fnd
  rw [List.range_succ_eq_map (n := k + 1), List.map_cons, List.map_map, Nat.add_zero]
  congr 1
  refine List.map_congr_left fun i _ => ?_
  show VI.nd P w (lay cs d (d - k + i)) = VI.nd P w (lay cs d (d - (k + 1) + (i + 1)))
  rw [show d - k + i = d - (k + 1) + (i + 1) by omega]
theorem atI_0 {P0 : VI} {Ps : List VI} : atI (P0 :: Ps) 0 = some P0 := by
  unfold atI ixN
  rw [if_pos (by decide), if_pos (by rw [List.length_cons]; omega)]
  rfl
theorem fnd_0 : atI (fnd P w cs d k) 0 = some (VI.nd P w (lay cs d (d - k))) := by
  unfold fnd
  rw [List.range_succ_eq_map, List.map_cons, atI_0, Nat.add_zero]
theorem fnd_all : fnd P w cs d d = rsts P w cs d 0 := by
  unfold fnd rsts
  rw [Nat.sub_self]
  rfl
theorem rsts_0 : atI (rsts P w cs d j) 0 = some (VI.nd P w (lay cs d j)) := by
  unfold rsts
  rw [List.range_succ_eq_map, List.map_cons, atI_0, Nat.add_zero]
theorem rsts_cons (h : j < d) : rsts P w cs d j = VI.nd P w (lay cs d j) :: rsts P w cs d (j + 1) := by
  unfold rsts
  rw [show d - j + 1 = (d - (j + 1) + 1) + 1 by omega, List.range_succ_eq_map (n := d - (j + 1) + 1), List.map_cons, List.map_map, Nat.add_zero]
  congr 1
  refine List.map_congr_left fun i _ => ?_
  show VI.nd P w (lay cs d (j + (i + 1))) = VI.nd P w (lay cs d (j + 1 + i))
  rw [show j + (i + 1) = j + 1 + i by omega]
theorem atI_1 {P0 P1 : VI} {Ps : List VI} : atI (P0 :: P1 :: Ps) 1 = some P1 := by
  unfold atI ixN
  rw [if_pos (by decide), if_pos (by rw [List.length_cons, List.length_cons]; omega)]
  rfl
theorem rsts_1 (h : j < d) : atI (rsts P w cs d j) 1 = some (VI.nd P w (lay cs d (j + 1))) := by
  have e : ∃ Ps, rsts P w cs d (j + 1) = VI.nd P w (lay cs d (j + 1)) :: Ps := by
    unfold rsts
    rw [List.range_succ_eq_map, List.map_cons, Nat.add_zero]
    exact ⟨_, rfl⟩
  obtain ⟨Ps, e⟩ := e
  rw [rsts_cons h, e]
  exact atI_1
theorem cut_1 {P0 : VI} {Ps : List VI} : cut (P0 :: Ps) (some 1) none = Ps := by
  have e : HT.sIx (P0 :: Ps).length 0 (some 1) = 1 := by
    unfold HT.sIx
    rw [List.length_cons]
    show (if (1 : Int) < 0 then _ else min (1 : Int).toNat (Ps.length + 1)) = 1
    rw [if_neg (by decide)]
    show min 1 _ = 1
    omega
  unfold cut
  rw [e]
  show Ps.take ((P0 :: Ps).length - 1) = Ps
  rw [List.take_of_length_le]
  rw [List.length_cons]
  omega
theorem rsts_cut (h : j < d) : cut (rsts P w cs d j) (some 1) none = rsts P w cs d (j + 1) := by rw [rsts_cons h, cut_1]
end
section
variable {X : Cx} {Γ : Ctx} {pos apos : Pos} {e b o : Expr} {st : Stmt} {R : Ty}
/-- d.get(k, x) of a dict in the making -/
theorem e_getN {rows : Hd} {cs : List Nat} {r0 : Rat} {d : Addr} (hu : X.A.units + 9 < cLine) (ho : EV X o Γ (ndV X.prog X.w d rows)) (he : EV X e Γ (VI.ck cs).p) (hf : EV X b Γ (VI.num r0).p) (m : M2 X o "get" apos e b pos) : EV X (.Call (.Attribute o "get" apos) [e, b] [] pos) Γ (VI.num ((atR rows cs).getD r0)).p := fun H0 H1 σ H f Q q =>
  wE_of (pe_getN hu pe_w pe_w pe_w m) (ho H0 H1 σ H f _ fun v H2 e2 ⟨ev, kvs, hd, hk, hr⟩ => ⟨d, kvs, ev, .inl hd, hk, he H0 H1 σ H2 (f.mono e2) _ fun y H3 e3 r3 => hf H0 H1 σ H3 (f.mono (e2.trans e3)) _ fun z H4 e4 r4 => by
    obtain ⟨t, ys, rfl, kk⟩ := r3
    have r3 : (VI.ck cs).ok H4 (.ref t) := (VI.ck cs).mono (.of e4) ⟨t, ys, rfl, kk⟩
    have hr4 := hr.mono (.of (e3.trans e4))
    refine ⟨t, kvs, cs, rfl, .inl ((e3.trans e4) _ _ hd), hk.mono (.of (e3.trans e4)), r3, q _ H4 ((e2.trans e3).trans e4) ?_⟩
    have g := rows_at hr4 cs
    cases h : atR rows cs with
    | none =>
      rw [h] at g
      have g : atN kvs cs = none := g
      rw [g]
      exact r4
    | some r =>
      rw [h] at g
      obtain ⟨u, g1, g2⟩ := g
      rw [g1]
      exact g2⟩)
/-- x.insert(0, e) -/
theorem g_insert0 (i : Nat) {x : Str} {p q1 q2 : Pos} {Ps : List VI} {P : VI} (hΓ : Γ[i]? = some (.o Ps)) (h0 : EV X b Γ (ei 0)) (h : EV X e Γ P.p) (hl : Ps.length ≤ 100000)
    (hE : PE X (.Call (.Attribute (.Name x p) "insert" q1) [b, e] [] q2) (tBM X.K "list" (fun x vs H Q => ∃ (l : Addr) (xs : List V) (i : Int) (y : V), x = .ref l ∧ vs = [.int i, y] ∧ H l = some (.lst xs) ∧ xs.length < sizeLine ∧ 0 ≤ i ∧ i < 2 ^ 63 ∧ Q .non (upd H l (.lst (xs.take i.toNat ++ [y] ++ xs.drop i.toNat)))) (tVar i) (tCons (wE X b) (tCons (wE X e) tNil))))
    (hs : swapsWith (.Call (.Attribute (.Name x p) "insert" q1) [b, e] [] q2) none pos.line X.env = pure false := by rfl) :
    GT X (.Expr (.Call (.Attribute (.Name x p) "insert" q1) [b, e] [] q2) pos) Γ (fitN (Γ.set i (.o (P :: Ps)))) R := fun H0 H1 σ H f D hn hr => by
  obtain ⟨v, s1, a, xs, rfl, n, h1, k⟩ := f.get hΓ (by simp)
  refine wS_of (ps_expr hE hs) ⟨_, s1, .inl ⟨rfl, xs, .of h1⟩, h0 H0 H1 σ H f _ fun z H2 e2 rz => h H0 H1 σ H2 (f.mono e2) _ fun w H3 e3 r => ?_⟩
  obtain rfl : z = .int 0 := rz
  have h3 := (e2.trans e3) _ _ h1
  refine ⟨a, xs, 0, w, rfl, rfl, h3, ?_, by decide, by decide, ?_⟩
  · rw [← k.len]
    exact sizeL hl
  · exact hn σ _ ((f.mono (e2.trans e3)).wr hΓ s1 h3 (.cons r (k.mono (.of (e2.trans e3)))))
end
section
variable {P : Program} {w : World} {K : PySem.W.Frag} {mg : Str → Option Value} {base : Heap}
variable (T : Tx K mg) (O : To K mg) (M : Tm P K mg)
include T O M
theorem ok_rests_of : Fq P w K mg base "rests_of" 8 ["promise", "kind", "days"] [] (spL (fun z : List Nat × Nat => Lw z.1 z.2) (fun z => [(VI.pr K (.best z.1)).p, (VI.str "counts").p, ei (z.2 : Int)]) (fun z => rsts P w z.1 z.2 0)) :=
  fq_L T.x_rests_of sc_rests_of (fun _ _ _ _ _ _ us hl => match us, hl with | [_, _, _], _ => rfl) (fun _ => rfl) fun cdv A outer s H E hr ⟨cs, d⟩ h => by
    have h : Lw cs d := h
    have h1 := h.l1
    have h5 := h.l5
    have h4 := h.d4
    have hg : (cs.length : Int) = ((cs.length - 1 + 1 : Nat) : Int) := by omega
    have vp : ∀ {X : Cx} {Γ : Ctx} {e : Expr}, EV X e Γ (VI.pr K (.best cs)).p → EV X e Γ (VI.ob (He.ga K "BestMix") (bestF cs)).p := fun h => h
    let G0 : Ctx := [.e (VI.pr K (.best cs)).p, .e (VI.str "counts").p, .e (ei (d : Int)), .i (VI.int (cs.length : Int))]
    refine g_cons (g_set 3 sc_rests_of.nd (e_fld (vp (vE 0)) O.p_BestMix rfl)) ?_
    refine g_cons (g_setF 4 (Ps := fnd P w cs d 0) sc_rests_of.nd ((ef_lst (ei_cons (P := VI.nd P w (lay cs d d)) ((ev_dcN (own := [("key", 8)]) (xs := coa (cs.length - 1) d) (F := VI.ck) (key := fun c => c) (val := fun c => wt (addL c cs)) (Γe := fun c => [.e (VI.pr K (.best cs)).p, .e (VI.str "counts").p, .e (ei (d : Int)), .i (VI.int (cs.length : Int)), .u, .u, .u, .u, .i (VI.ck c), .u]) (hu8 hr) rfl sc_rests_of.nd (blkOk_by (N := nm_rests_of) (sc := defScope st_rests_of) (by decide +kernel))
      (it_list (EF.l (ef_call (ok_keys_of T) (hr.mono (by decide)) (cs.length - 1, d) ⟨by show cs.length - 1 ≤ 4; omega, h4, by show (cs.length - 1 + 1) ^ d ≤ 27; rw [Nat.sub_add_cancel h1]; exact h.p⟩ (ea_cons (vE 1) (ea_cons ((vI 3).to (congrArg ei hg)) (ea_cons (vE 2) ea_nil))))) rfl) (by have := coa_few h.gd; omega) (by rw [List.map_id']; exact coa_nd h.gd) (fun s h C cl fp z hz => tg_name 8 sc_rests_of.nd) (fun s h C cl fp z hz => vI 8) (fun s' h' C cl fp z hz => ev_call (ok_worth_of_key T O M) hr (cs, z) ⟨(coa_ls h.gd hz).1, by rw [addL_comm]; exact (h.add (Nat.le_refl d) (coa_ls h.gd hz).1 (coa_ls h.gd hz).2).cs⟩ (ea_cons (vE 0) (ea_cons (vI 8) ea_nil)))).to (by
        unfold lay
        rw [Nat.sub_self]
        congr 2
        refine List.map_congr_left fun c hc => ?_
        rw [lrest_zero, addL_comm])) ei_nil)).to (by unfold fnd; rw [Nat.sub_zero]; rfl))) ?_
    refine g_cons (g_for (xs := List.range (d + 1 - 1)) (F := fun i : Nat => VI.int (((1 : Nat) : Int) + (i : Int))) (vs := [5]) PassesOwn.never rfl (fun pre => [.e (VI.pr K (.best cs)).p, .e (VI.str "counts").p, .e (ei (d : Int)), .i (VI.int (cs.length : Int)), .o (fnd P w cs d pre.length), .u, .u, .u, .u, .u]) (fun pre a => [.e (VI.pr K (.best cs)).p, .e (VI.str "counts").p, .e (ei (d : Int)), .i (VI.int (cs.length : Int)), .o (fnd P w cs d pre.length), .i (VI.int (((1 : Nat) : Int) + (a : Int))), .u, .u, .u, .u])
      (it_range2 T.bl (l := 1) (k := d + 1) e_int ((e_add (vE 2) e_int).to (congrArg ei (by omega))) (by omega) (by omega)) (fun pre a post e => tg_name 5 sc_rests_of.nd) (fun pre a post e => ?_)) ?_
    · obtain ⟨ea, ep, lt⟩ := idx_mid e
      subst ea
      generalize hk : pre.length = k at *
      have hkd : k < d := by omega
      obtain ⟨j, hj⟩ : ∃ j, d = k + 1 + j := ⟨d - (k + 1), by omega⟩
      have ej : d - k = j + 1 := by omega
      have gj : Gd cs.length j := h.gd.le (by omega)
      have gj1 : Gd cs.length (j + 1) := h.gd.le (by omega)
      refine g_cons (g_set 6 sc_rests_of.nd (e_ixL (vO 4) e_int fnd_0)) (gs_S ?_)
      refine s_newD jo0 7 sc_rests_of.nd fun dd nu => ?_
      have jo : ∀ rows, JOk (fun a => S0 a ∨ Sa dd a) (fun a => S0 a ∨ Sa dd a) (fun H => J0' H ∧ NdAt P w dd rows H) := fun rows => jo0.and ndAt_ok
      refine s_cons (s_forS (xs := coa (cs.length - 1) j) (F := VI.ck) (vs := [8]) (Js := fun pre H => J0' H ∧ NdAt P w dd (pre.map fun c => (c, lrest (addL cs c) (d - j))) H) (fun _ => [.e (VI.pr K (.best cs)).p, .e (VI.str "counts").p, .e (ei (d : Int)), .i (VI.int (cs.length : Int)), .o (fnd P w cs d k), .i (VI.int (((1 : Nat) : Int) + (k : Int))), .i (VI.nd P w (lay cs d (d - k))), .i (VI.is (.ref dd)), .u, .u]) (fun _ c => [.e (VI.pr K (.best cs)).p, .e (VI.str "counts").p, .e (ei (d : Int)), .i (VI.int (cs.length : Int)), .o (fnd P w cs d k), .i (VI.int (((1 : Nat) : Int) + (k : Int))), .i (VI.nd P w (lay cs d (d - k))), .i (VI.is (.ref dd)), .i (VI.ck c), .u]) (jo _) (fun l => jo _) PassesOwn.never rfl
        (ITI.s (jo _) (iti_fl (ev_fl (ef_call (ok_keys_of T) (hr.mono (by decide)) (cs.length - 1, j) ⟨by show cs.length - 1 ≤ 4; omega, by show j ≤ 4; omega, by show (cs.length - 1 + 1) ^ j ≤ 27; rw [Nat.sub_add_cancel h1]; exact gj.2.2.2⟩ (ea_cons (vE 1) (ea_cons ((vI 3).to (congrArg ei hg)) (ea_cons ((e_sub (vE 2) (vI 5)).to (congrArg ei (by omega : (d : Int) - (((1 : Nat) : Int) + (k : Int)) = (j : Int)))) ea_nil))))) rfl)) (fun pre' c post' e' => tg_name 8 sc_rests_of.nd) (fun pre' c post' e' => rfl) (fun pre' c post' e' => ?_)) ?_
      · have hc : c ∈ coa (cs.length - 1) j := mem_mid e'
        obtain ⟨c1, c2⟩ := coa_ls gj hc
        have nk : c ∉ (pre'.map fun c => (c, lrest (addL cs c) (d - j))).map (·.1) := fun m => by
          have nd := coa_nd gj
          rw [e', List.nodup_append] at nd
          rw [List.map_map, List.map_id''] at m
          · exact nd.2.2 c m c (by simp) rfl
          · intro _; rfl
        refine s_one (GTS.toLe (s_putN (r := lrest (addL cs c) (d - j)) (cs := c) (jo _) (jo _) 7 (.inr rfl) (fun H h => h.2) (fun H H2 _ _ n => ⟨trivial, ?_⟩) ?_ rfl (EV.s (jo _) ((ev_call (ok_total T) (hr.mono (by decide)) ((List.range cs.length).map fun x => lrest (addL cs (inc c x)) (d - (j + 1))) (lay_szs h (by omega) c1 c2) (ea_cons (EF.v ((ef_lc (own := [("good", 9)]) (xs := List.range cs.length) (F := fun i : Nat => VI.int (i : Int)) (G := fun x => VI.num (lrest (addL cs (inc c x)) (d - (j + 1)))) (Γe := fun x => [.e (VI.pr K (.best cs)).p, .e (VI.str "counts").p, .e (ei (d : Int)), .i (VI.int (cs.length : Int)), .o (fnd P w cs d k), .i (VI.int (((1 : Nat) : Int) + (k : Int))), .i (VI.nd P w (lay cs d (d - k))), .i (VI.is (.ref dd)), .i (VI.ck c), .i (VI.int (x : Int))]) rfl sc_rests_of.nd (blkOk_by (N := nm_rests_of) (sc := defScope st_rests_of) (by decide +kernel))
          (it_range T.bl (vI 3) (by omega)) (by simp; omega) (fun s h C cl fp z hz => tg_name 9 sc_rests_of.nd) (fun s' h' C cl fp z hz => e_ixNd (hu9 hr) (vI 6) (ev_call (ok_behind T) (hr.mono (by decide)) (c, z) ⟨by show z < c.length; rw [c1]; exact List.mem_range.mp hz, by show c.length ≤ 5; omega⟩ (ea_cons (vI 8) (ea_cons (vI 9) ea_nil))) ?_)).to (Ps' := nums ((List.range cs.length).map fun x => lrest (addL cs (inc c x)) (d - (j + 1)))) (by rw [nums, List.map_map]; rfl))) ea_nil)).to (by rw [lay_step (by omega) c1]))) (EV.s (jo _) (vI 8)) (ps_asg pe_w (pg_sub (pe_var rfl (.inl rfl) (by decide) (by decide)) pe_w (set_nd (hu9 hr))))) ?_)
        · show NdAt P w dd _ H2
          have e1 : setR (pre'.map fun c => (c, lrest (addL cs c) (d - j))) c (lrest (addL cs c) (d - j)) = (pre' ++ [c]).map fun c => (c, lrest (addL cs c) (d - j)) := by
            unfold setR
            rw [atR_none nk, List.map_append]
            rfl
          rw [← e1]
          exact n
        · rw [List.length_map]
          have := congrArg List.length e'
          have := coa_few gj
          simp only [List.length_append, List.length_cons] at *
          omega
        · have hz := List.mem_range.mp hz
          rw [ej]
          exact lay_at gj1 (by rw [inc_len]; exact c1) (by rw [inc_sum (by rw [c1]; exact hz), c2])
        · refine ⟨rfl, fun i U hi => ?_⟩
          match i, hi with
          | 0, hi => exact .inr hi
          | 1, hi => exact .inr hi
          | 2, hi => exact .inr hi
          | 3, hi => exact .inr hi
          | 4, hi => exact .inr hi
          | 5, hi => exact .inr hi
          | 6, hi => exact .inr hi
          | 7, hi => exact .inr hi
          | 8, hi => exact .inl (Option.some.inj hi).symm
          | 9, hi => exact .inl (Option.some.inj hi).symm
      · refine s_frzD jo0 7 nu rfl ?_
        refine (s_one (GTS.weak (s_lift jo0 (g_insert0 4 rfl e_int (vI 7) ?_ (pe_bm PySem.F.plainAttrs_list PySem.F.slot_list_insert PySem.F.type_list_insert mt_insert (pe_var rfl (.inl rfl) (by decide) (by decide)) (pa_cons pe_w (pa_cons pe_w pa_nil))))) fun _ _ _ _ n => n.f.le ⟨rfl, fun i U hi => ?_⟩))
        · unfold fnd
          rw [List.length_map, List.length_range]
          omega
        · have e1 : (VI.nd P w ((coa (cs.length - 1) j).map fun c => (c, lrest (addL cs c) (d - j)))) :: fnd P w cs d k = fnd P w cs d (k + 1) := by
            rw [← fnd_cons hkd, show d - (k + 1) = j by omega]
            rfl
          match i, hi with
          | 0, hi => exact .inr hi
          | 1, hi => exact .inr hi
          | 2, hi => exact .inr hi
          | 3, hi => exact .inr hi
          | 4, hi =>
            refine .inr (Eq.trans ?_ hi)
            show some (Ty.o _) = some (Ty.o _)
            rw [e1, List.length_append, hk]
            rfl
          | 5, hi => exact .inl (Option.some.inj hi).symm
          | 6, hi => exact .inl (Option.some.inj hi).symm
          | 7, hi => exact .inl (Option.some.inj hi).symm
          | 8, hi => exact .inl (Option.some.inj hi).symm
          | 9, hi => exact .inl (Option.some.inj hi).symm
    · have e1 : fnd P w cs d (List.range (d + 1 - 1)).length = rsts P w cs d 0 := by
        rw [List.length_range, Nat.add_sub_cancel, fnd_all]
      rw [e1]
      exact g_one (g_retO 4)
end
end K8
end
section
set_option Elab.async false
set_option linter.all false
set_option maxRecDepth 100000
set_option maxHeartbeats 1000000
set_option autoImplicit false
namespace K8
open PySem L2
open Evl (Ex)
/-! ListBook: made, asked. -/
/-- what a book by lists holds behind some days -/
abbrev lbF (P : Program) (w : World) (cs : List Nat) (d : Nat) (mk : List (List Rat)) : List (Str × VI) := [("held", VI.nd P w (held cs.length mk)), ("rests", VI.fl (rsts P w cs d mk.length)), ("goods", VI.int (cs.length : Int))]
abbrev LBAt (P : Program) (w : World) (K : PySem.W.Frag) (cs : List Nat) (d : Nat) (mk : List (List Rat)) (x : Addr) (H : Hp) : Prop := ObAt (He.ga K "ListBook") LBF (lbF P w cs d mk) x H
abbrev LI := Addr × List Nat × Nat × List (List Rat)
theorem nlLB : ("levels" : Str) ∉ LBF := by decide +kernel
theorem lb_ok {P : Program} {w : World} {K : PySem.W.Frag} {cs : List Nat} {d : Nat} {mk : List (List Rat)} {x : Addr} : JOk (Sa x) (Sa x) (LBAt P w K cs d mk x) := obAt_ok nlLB
theorem lb_vw {P : Program} {w : World} {K : PySem.W.Frag} {cs : List Nat} {d : Nat} {mk : List (List Rat)} {x : Addr} {Γ : Ctx} (i : Nat) (hΓ : Γ[i]? = some (.i (VI.is (.ref x)))) : Vw (LBAt P w K cs d mk x) Γ (Γ.set i (.f (obV (He.ga K "ListBook") LBF (lbF P w cs d mk) nlLB x))) := Vw.one i hΓ fun H h => ⟨rfl, h⟩
section
variable {α : Type} {S U : Addr → Prop} {J J1 : Hp → Prop} {X : Cx} {Γ Γ2 : Ctx} {pos p : Pos} {e c a b tg iter : Expr} {es : List Expr} {xs : List α} {F : α → VI}
theorem IT0.sv (jo : JOk S U J) (w : Vw J Γ Γ2) (h : IT0 X tg iter Γ2 xs F) : ITS S U J J X tg iter Γ xs F := fun H0 H1 σ H f R q => h H0 _ σ H (f.vw jo w) R fun Jt H2 e2 wk => q Jt H2 (.of e2) (jo.mono e2 f.j) wk
theorem vs_if {k : Bool} {P : VI} (jo : JOk S U J) (w : Vw J Γ Γ2) (hc : ET X c Γ2 k) (h1 : k = true → EVS S U J J1 X a Γ P) (h2 : k = false → EVS S U J J1 X b Γ P) : EVS S U J J1 X (.IfExp c a b pos) Γ P := fun H0 H1 σ H f Q q =>
  wE_of (pe_ifExp pt_w pe_w pe_w) (hc H0 _ σ H (f.vw jo w) _ fun H2 e2 => by
    cases k with
    | true =>
      rw [if_pos rfl]
      exact h1 rfl H0 H1 σ H2 (f.mono jo e2) Q fun v H3 e3 j3 r3 => q v H3 ((ES.of e2).trans e3) j3 r3
    | false =>
      rw [if_neg Bool.false_ne_true]
      exact h2 rfl H0 H1 σ H2 (f.mono jo e2) Q fun v H3 e3 j3 r3 => q v H3 ((ES.of e2).trans e3) j3 r3)
/-- a new thing of a class of changing things -/
theorem en_makeS {ι : Type} {JN : Addr → Hp → Prop} {pre : ι → Prop} {self : ι → V} {args : ι → List VI} {S1 : ι → Addr → Prop} {Ja Jb : ι → Hp → Prop} {C f : Addr} {L : List Str} {k : Nat} {fd : FuncData} {ps : List Str} {x : Str} {Ps : List VI} (M : L2.Mk X.K C f) (F : FnOk X.prog X.w X.K X.mg X.base CX0 k f fd ps (spS pre self args S1 Ja Jb (fun _ => VI.non))) (hb : Binds X.K fd ps []) (hm : X.mg x = some (.ref C)) (hr : Room (k + 1) X.A) (mkI : Addr → ι) (hp : ∀ a, pre (mkI a)) (hself : ∀ a, self (mkI a) = .ref a) (hS : ∀ a b, S1 (mkI a) b → b = a) (ha : EI X (e :: es) Γ Ps) (hA : ∀ a, args (mkI a) = Ps) (get : ∀ a H, ObAt C L [] a H → Ja (mkI a) H) (hJ : ∀ a H, Jb (mkI a) H → JN a H := by exact fun _ _ h => h) (hg : Gl X x := by rfl)
    (hdb : (x == ("__debug__" : Str)) = false := by decide) (he : starEach (e :: es) X.env = (false, eval e X.env) :: starEach es X.env := by rfl) (hpl : (backTo pos (starEach es X.env)).any (·.1) = false := by rfl) : EN X (.Call (.Name x p) (e :: es) [] pos) Γ Sa V.ref JN := fun H0 H1 σ H ft Q q =>
  wE_of (pe_make M F hr hg hm hb .nil pass0 pa_w hdb he hpl) (ha H0 H1 σ H ft _ fun vs H2 e2 r2 => fun y dy n1 n2 ne => by
    have b1 : upd H2 dy (.own y) y = none := by rw [upd_ne (Ne.symm ne)]; exact n1
    have e3 : Ex H2 (upd (upd H2 dy (.own y)) y (.ins C dy [])) := (Evl.Ex.new n2).trans (Evl.Ex.new b1)
    refine ⟨mkI y, vs, hp y, by rw [hself, List.append_nil], by rw [hA]; exact r2.mono (.of e3), get y _ ⟨dy, [], upd_same, List.nodup_nil, (fun _ h => nomatch h), FOk.nil⟩, fun v H4 e4 j4 r4 => ⟨r4, q y H4 (e2.trans fun b o hb => e4 b o (fun s => ?_) (e3 b o hb)) (fun a s => ?_) (hJ y H4 j4)⟩⟩
    · rw [hS y b s, n1] at hb
      cases hb
    · rw [show a = y from s]
      exact Evl.fresh_back e2 n1)
end
section
variable {P : Program} {w : World} {K : PySem.W.Frag} {mg : Str → Option Value} {base : Heap}
variable (T : Tx K mg) (O : To K mg) (M : Tm P K mg) (B : Tb P K mg)
include B
theorem ok_LB_init : ∃ fd, FnOk P w K mg base CX0 1 (He.ma K (He.ga K "ListBook") "__init__") fd ["self", "goods", "rests", "held"] (spS (fun _ : Addr × List Nat × Nat => True) (fun z => .ref z.1) (fun z => [VI.int (z.2.1.length : Int), VI.fl (rsts P w z.2.1 z.2.2 0), VI.nd P w [(List.replicate z.2.1.length 0, 1)]]) (fun z => Sa z.1) (fun z => ObAt (He.ga K "ListBook") LBF [] z.1) (fun z => LBAt P w K z.2.1 z.2.2 [] z.1) (fun _ => VI.non)) ∧ Binds K fd ["self", "goods", "rests", "held"] [] := by
  obtain ⟨fd, F⟩ := B.m_LB_init.fn
  refine ⟨fd, fnS (U := fun z => Sa z.1) F sc_ListBook_init (fun _ => rfl) (fun cdv A outer s H E hr ⟨x, cs, d⟩ _ => ?_), F.bindsN (fun _ _ _ _ _ _ us hl => match us, hl with | [_, _, _, _], _ => rfl)⟩
  have jo : ∀ fs, JOk (Sa x) (Sa x) (ObAt (He.ga K "ListBook") LBF fs x) := fun fs => obAt_ok nlLB
  refine s_cons (s_obW (J' := ObAt (He.ga K "ListBook") LBF [("goods", VI.int (cs.length : Int))] x) (P := VI.int (cs.length : Int)) (jo _) (jo _) rfl (fun _ h => h) (fun _ _ _ _ h => h) B.c_LB 0 rfl (EV.s (jo _) (vI 1))) ?_
  refine s_cons (s_obW (J' := ObAt (He.ga K "ListBook") LBF [("rests", VI.fl (rsts P w cs d 0)), ("goods", VI.int (cs.length : Int))] x) (P := VI.fl (rsts P w cs d 0)) (jo _) (jo _) rfl (fun _ h => h) (fun _ _ _ _ h => h) B.c_LB 0 rfl (EV.s (jo _) (vI 2))) ?_
  exact s_one (GTS.weak (s_obW (J' := LBAt P w K cs d [] x) (P := VI.nd P w [(List.replicate cs.length 0, 1)]) (jo _) (jo _) rfl (fun _ h => h) (fun _ _ _ _ h => h) B.c_LB 0 rfl (EV.s (jo _) (vI 3))) fun _ _ _ _ n => endS_of n)
include T
theorem ok_LB_purse : ∃ fd, FnOk P w K mg base CX0 5 (He.ma K (He.ga K "ListBook") "purse") fd ["self"] (spS (fun z : LI => Bk z.2.1 z.2.2.1 z.2.2.2) (fun z => .ref z.1) (fun _ => []) (fun z => Sa z.1) (fun z => LBAt P w K z.2.1 z.2.2.1 z.2.2.2 z.1) (fun z => LBAt P w K z.2.1 z.2.2.1 z.2.2.2 z.1) (fun z => VI.num (lpurse z.2.1 z.2.2.1 z.2.2.2))) ∧ Binds K fd ["self"] [] := by
  obtain ⟨fd, F⟩ := B.m_LB_purse.fn
  refine ⟨fd, fnS (U := fun z => Sa z.1) F sc_ListBook_purse (fun _ => rfl) (fun cdv A outer s H E hr ⟨x, cs, d, mk⟩ h => ?_), F.bindsN (fun _ _ _ _ _ _ us hl => match us, hl with | [_], _ => rfl)⟩
  have h : Bk cs d mk := h
  refine s_one (s_ret lb_ok (EV.sv lb_ok (lb_vw 0 rfl) ((ev_call (ok_total T) hr ((held cs.length mk).map fun z => z.2 * lrest (addL cs z.1) (d - mk.length)) h.szs1 (ea_cons (EF.v ((ef_lc (own := [("key", 1), ("weight", 2)]) (xs := held cs.length mk) (F := fun z => VI.tup [VI.ck z.1, VI.num z.2]) (G := fun z => VI.num (z.2 * lrest (addL cs z.1) (d - mk.length))) (Γe := fun z => [.f (obV (He.ga K "ListBook") LBF (lbF P w cs d mk) nlLB x), .i (VI.ck z.1), .i (VI.num z.2)]) rfl sc_ListBook_purse.nd (blkOk_by (N := nm_ListBook_purse) (sc := defScope st_ListBook_purse) (by decide +kernel))
    (ITI.it (iti_items (e_obF (vF 0) B.c_LB rfl))) (by have := h.hlen; omega) (fun s h C cl fp z hz => tg_tup rfl (tgs_cons (tg_name 1 sc_ListBook_purse.nd) (tgs_cons (tg_name 2 sc_ListBook_purse.nd) tgs_nil))) (fun s' h' C cl fp z hz => ev_call (ok_product T) (hr.mono (by decide)) (z.2, lrest (addL cs z.1) (d - mk.length)) ⟨(h.hsz hz).mono (by decide), (lrest_sz (h.w.add h.l (h.hkey hz).1 (h.hkey hz).2)).mono (by decide)⟩ (ea_cons (vI 2) (ea_cons (e_ixNd (hu9 hr) (e_ixFl (e_obF (vF 0) B.c_LB rfl) e_int rsts_0) (vI 1) (lay_at h.gd (h.hkey hz).1 (h.hkey hz).2)) ea_nil)))).to (Ps' := nums ((held cs.length mk).map fun z => z.2 * lrest (addL cs z.1) (d - mk.length))) (by rw [nums, List.map_map]; rfl))) ea_nil)).to (by
      rw [← purse_eq]
      rfl))) fun v H j q => ⟨j, q⟩)
theorem ok_LB_amount : ∃ fd, FnOk P w K mg base CX0 5 (He.ma K (He.ga K "ListBook") "amount") fd ["self", "good"] (spS (fun z : Nat × LI => Bk z.2.2.1 z.2.2.2.1 z.2.2.2.2 ∧ z.2.2.2.2.length < z.2.2.2.1 ∧ z.1 < z.2.2.1.length) (fun z => .ref z.2.1) (fun z => [VI.int (z.1 : Int)]) (fun z => Sa z.2.1) (fun z => LBAt P w K z.2.2.1 z.2.2.2.1 z.2.2.2.2 z.2.1) (fun z => LBAt P w K z.2.2.1 z.2.2.2.1 z.2.2.2.2 z.2.1) (fun _ => VI.any)) ∧ Binds K fd ["self", "good"] [] := by
  obtain ⟨fd, F⟩ := B.m_LB_amount.fn
  refine ⟨fd, fnS (U := fun z => Sa z.2.1) F sc_ListBook_amount (fun _ => rfl) (fun cdv A outer s H E hr ⟨gd, x, cs, d, mk⟩ h => ?_), F.bindsN (fun _ _ _ _ _ _ us hl => match us, hl with | [_, _], _ => rfl)⟩
  obtain ⟨h, hl, hg⟩ : Bk cs d mk ∧ mk.length < d ∧ gd < cs.length := h
  have gj : Gd cs.length (mk.length + 1) := h.w.gd.le hl
  have k1 : ∀ z ∈ held cs.length mk, (inc z.1 gd).length = cs.length ∧ (inc z.1 gd).sum = mk.length + 1 := fun z hz => by
    obtain ⟨a, b⟩ := h.hkey hz
    exact ⟨by rw [inc_len]; exact a, by rw [inc_sum (by omega), b]⟩
  exact s_one (s_ret (P := VI.any) lb_ok (EV.sv lb_ok (lb_vw 0 rfl) (EV.any (ev_call (ok_total T) hr ((held cs.length mk).map fun z => z.2 * lrest (addL cs (inc z.1 gd)) (d - (mk.length + 1))) (h.szs2 hl hg) (ea_cons (EF.v ((ef_lc (own := [("key", 2), ("weight", 3)]) (xs := held cs.length mk) (F := fun z => VI.tup [VI.ck z.1, VI.num z.2]) (G := fun z => VI.num (z.2 * lrest (addL cs (inc z.1 gd)) (d - (mk.length + 1)))) (Γe := fun z => [.f (obV (He.ga K "ListBook") LBF (lbF P w cs d mk) nlLB x), .i (VI.int (gd : Int)), .i (VI.ck z.1), .i (VI.num z.2)]) rfl sc_ListBook_amount.nd (blkOk_by (N := nm_ListBook_amount) (sc := defScope st_ListBook_amount) (by decide +kernel))
    (ITI.it (iti_items (e_obF (vF 0) B.c_LB rfl))) (by have := h.hlen; omega) (fun s h C cl fp z hz => tg_tup rfl (tgs_cons (tg_name 2 sc_ListBook_amount.nd) (tgs_cons (tg_name 3 sc_ListBook_amount.nd) tgs_nil))) (fun s' h' C cl fp z hz => ev_call (ok_product T) (hr.mono (by decide)) (z.2, lrest (addL cs (inc z.1 gd)) (d - (mk.length + 1))) ⟨(h.hsz hz).mono (by decide), (lrest_sz (h.w.add hl (k1 z hz).1 (k1 z hz).2)).mono (by decide)⟩ (ea_cons (vI 3) (ea_cons (e_ixNd (hu9 hr) (e_ixFl (e_obF (vF 0) B.c_LB rfl) e_int (rsts_1 hl)) (ev_call (ok_behind T) (hr.mono (by decide)) (z.1, gd) ⟨by show gd < z.1.length; rw [(h.hkey hz).1]; exact hg, by show z.1.length ≤ 5; rw [(h.hkey hz).1]; exact h.w.l5⟩ (ea_cons (vI 2) (ea_cons (vI 1) ea_nil))) (lay_at gj (k1 z hz).1 (k1 z hz).2)) ea_nil)))).to (Ps' := nums ((held cs.length mk).map fun z => z.2 * lrest (addL cs (inc z.1 gd)) (d - (mk.length + 1)))) (by rw [nums, List.map_map]; rfl))) ea_nil)))) fun v H j q => ⟨j, q⟩)
theorem ok_LB_amounts : ∃ fd, FnOk P w K mg base CX0 6 (He.ma K (He.ga K "ListBook") "amounts") fd ["self"] (spS (fun z : LI => Bk z.2.1 z.2.2.1 z.2.2.2 ∧ z.2.2.2.length < z.2.2.1) (fun z => .ref z.1) (fun _ => []) (fun z => Sa z.1) (fun z => LBAt P w K z.2.1 z.2.2.1 z.2.2.2 z.1) (fun z => LBAt P w K z.2.1 z.2.2.1 z.2.2.2 z.1) (fun _ => VI.any)) ∧ Binds K fd ["self"] [] := by
  obtain ⟨fd, F⟩ := B.m_LB_amounts.fn
  obtain ⟨fd2, F2, B2⟩ := ok_LB_amount (P := P) (w := w) (base := base) T B
  refine ⟨fd, fnS (U := fun z => Sa z.1) F sc_ListBook_amounts (fun _ => rfl) (fun cdv A outer s H E hr ⟨x, cs, d, mk⟩ h => ?_), F.bindsN (fun _ _ _ _ _ _ us hl => match us, hl with | [_], _ => rfl)⟩
  obtain ⟨h, hl⟩ : Bk cs d mk ∧ mk.length < d := h
  refine s_one (s_ret (P := VI.any) lb_ok (EVS.imp (vs_tupL T.bl lb_ok lb_ok (fs_lc (own := [("good", 1)]) (Jn := fun _ => LBAt P w K cs d mk x) (xs := List.range cs.length) (F := fun i : Nat => VI.int (i : Int)) (G := fun _ => VI.any) (Γe := fun i => [.i (VI.is (.ref x)), .i (VI.int (i : Int))]) lb_ok (fun _ => lb_ok) rfl sc_ListBook_amounts.nd (blkOk_by (N := nm_ListBook_amounts) (sc := defScope st_ListBook_amounts) (by decide +kernel))
    (IT0.sv lb_ok (lb_vw 0 rfl) (it0_range T.bl (e_obF (vF 0) B.c_LB rfl) (by have := h.w.l5; omega))) (by have := h.w.l5; simp; omega) (fun _ _ => rfl) (fun s h C cl fp i hi => tg_name 1 sc_ListBook_amounts.nd) (fun k hk s' h' C cl fp i hi => ?_))) fun _ _ _ => trivial) fun v H j q => ⟨j, q⟩)
  exact vs_meth (J' := LBAt P w K cs d mk x) lb_ok (EV.s lb_ok (vI 0)) (fun _ h => h) B.c_LB B.m_LB_amount.me (by decide +kernel) F2 B2 hr (i, x, cs, d, mk) ⟨h, hl, List.mem_range.mp hi⟩ rfl (is_cons lb_ok lb_ok (EV.s lb_ok (vI 1)) is_nil) (fun _ h => h) (fun _ h => h) (fun _ _ _ _ h => h)
end
end K8
end
section
set_option Elab.async false
set_option linter.all false
set_option maxRecDepth 100000
set_option maxHeartbeats 1000000
set_option autoImplicit false
namespace K8
open PySem L2
open Evl (Ex)
/-! A day comes to a book by lists. -/
abbrev CI := Addr × List Nat × Nat × List (List Rat) × List Rat
theorem hadd_app (a b acc : Hd) : hadd (a ++ b) acc = hadd b (hadd a acc) := by unfold hadd; rw [List.foldl_append]
theorem hpairs_snoc (g : Nat) (dy : List Rat) (pre : Hd) (z : List Nat × Rat) : hpairs g dy (pre ++ [z]) = hpairs g dy pre ++ (List.range g).map fun x => (inc z.1 x, z.2 * dy.getD x 0) := by
  unfold hpairs
  rw [List.flatMap_append, List.flatMap_cons, List.flatMap_nil, List.append_nil]
/-- what is true of a beginning of all that a day adds -/
theorem Bk.part {cs : List Nat} {d : Nat} {mk : List (List Rat)} {dy : List Rat} (h : Bk cs d mk) (hl : mk.length < d) (hd : dy.length = cs.length ∧ ∀ r ∈ dy, Sz 4 r ∧ 0 ≤ r.num) {ps : Hd} (hp : ps <+: hpairs cs.length dy (held cs.length mk)) :
    ((hadd ps []).map (·.1)).Nodup ∧ (hadd ps []).length ≤ 135 ∧ ∀ c, Sz 4000 ((atR (hadd ps []) c).getD 0) := by
  have hsz : ∀ r ∈ dy, Sz 4 r := fun r hr => (hd.2 r hr).1
  obtain ⟨p1, p2⟩ := pairs_ok2 h.hb hsz
  have hm : ∀ z ∈ ps, z ∈ hpairs cs.length dy (held cs.length mk) := fun z hz => hp.subset hz
  obtain ⟨o1, o2⟩ := hadd_ok (ps := ps) (p := fun _ => True) (fun _ _ => trivial) fun z hz => p2 z (hm z hz)
  have hlen : ps.length ≤ 135 := by
    have h1 := hp.length_le
    rw [pairs_len] at h1
    have h2 := h.hlen
    have h3 := h.w.l5
    exact Nat.le_trans h1 (Nat.le_trans (Nat.mul_le_mul h2 h3) (by decide))
  refine ⟨o1.nd, Nat.le_trans o2 hlen, fun c => ?_⟩
  have hD : DD mk * dens dy < 2 ^ 61 := by
    have h1 := h.dd
    have h2 := dens_lt hsz
    rw [hd.1] at h2
    have h3 : dens dy ≤ 2 ^ 20 := Nat.le_trans h2 (Nat.pow_le_pow_right (by decide) (by have := h.w.l5; omega))
    exact Nat.lt_of_le_of_lt (Nat.mul_le_mul_left _ h3) (by
      have := Nat.mul_lt_mul_of_pos_right h1 (show 0 < 2 ^ 20 by decide)
      exact Nat.lt_of_lt_of_le this (by decide))
  cases e : atR (hadd ps []) c with
  | none =>
    show Sz 4000 0
    exact Sz.mono (b := 4000) (Sz.int (k := 4) (n := 0) (by decide) (by decide)) (by decide)
  | some r =>
    have mem : ∀ {l : Hd} {r : Rat}, atR l c = some r → ∃ z ∈ l, z.2 = r := by
      intro l
      induction l with
      | nil => intro r h; cases h
      | cons z t ih =>
        intro r h
        unfold atR at h
        split at h
        · exact ⟨z, by simp, Option.some.inj h⟩
        · obtain ⟨y, hy, e⟩ := ih h
          exact ⟨y, by simp [hy], e⟩
    obtain ⟨z, hz, rfl⟩ := mem e
    show Sz 4000 z.2
    refine ((o1.f z hz).sz (k := 200) (Nat.lt_trans hD (by decide)) ?_).mono (by decide)
    have h1 := p432 (Nat.le_trans h.l h.w.d4)
    calc ps.length * (432 ^ mk.length * DD mk * (16 * dens dy)) ≤ 135 * (2 ^ 36 * DD mk * (16 * dens dy)) := Nat.mul_le_mul hlen (Nat.mul_le_mul_right _ (Nat.mul_le_mul_right _ h1))
      _ = 135 * 2 ^ 36 * 16 * (DD mk * dens dy) := by grind
      _ ≤ 135 * 2 ^ 36 * 16 * 2 ^ 61 := Nat.mul_le_mul_left _ (Nat.le_of_lt hD)
      _ < 2 ^ 200 := by decide
theorem pfx_of {g : Nat} {dy : List Rat} {l pre post : Hd} {z : List Nat × Rat} {xs ys : List Nat} {x : Nat} (e : l = pre ++ z :: post) (ex : List.range g = xs ++ x :: ys) : (hpairs g dy pre ++ xs.map fun x => (inc z.1 x, z.2 * dy.getD x 0)) <+: hpairs g dy l := by
  rw [e]
  have e1 : hpairs g dy (pre ++ z :: post) = hpairs g dy pre ++ ((List.range g).map (fun x => (inc z.1 x, z.2 * dy.getD x 0)) ++ hpairs g dy post) := by
    unfold hpairs
    rw [List.flatMap_append, List.flatMap_cons]
  rw [e1, ex, List.map_append, ← List.append_assoc, ← List.append_assoc, List.append_assoc _ _ (hpairs g dy post)]
  exact List.prefix_append _ _
section
variable {P : Program} {w : World} {K : PySem.W.Frag} {mg : Str → Option Value} {base : Heap}
variable (T : Tx K mg) (B : Tb P K mg)
include T B
theorem ok_LB_come : ∃ fd, FnOk P w K mg base CX0 4 (He.ma K (He.ga K "ListBook") "come") fd ["self", "day"] (spS (fun z : CI => Bk z.2.1 z.2.2.1 z.2.2.2.1 ∧ z.2.2.2.1.length < z.2.2.1 ∧ z.2.2.2.2.length = z.2.1.length ∧ ∀ r ∈ z.2.2.2.2, Sz 4 r ∧ 0 ≤ r.num) (fun z => .ref z.1) (fun z => [VI.tup (nums z.2.2.2.2)]) (fun z => Sa z.1) (fun z => LBAt P w K z.2.1 z.2.2.1 z.2.2.2.1 z.1) (fun z => LBAt P w K z.2.1 z.2.2.1 (z.2.2.2.1 ++ [z.2.2.2.2]) z.1) (fun _ => VI.non)) ∧ Binds K fd ["self", "day"] [] := by
  obtain ⟨fd, F⟩ := B.m_LB_come.fn
  refine ⟨fd, fnS (U := fun z => Sa z.1) F sc_ListBook_come (fun _ => rfl) (fun cdv A outer s H E hr ⟨x, cs, d, mk, dy⟩ h => ?_), F.bindsN (fun _ _ _ _ _ _ us hl => match us, hl with | [_, _], _ => rfl)⟩
  obtain ⟨h, hl, hd⟩ : Bk cs d mk ∧ mk.length < d ∧ dy.length = cs.length ∧ ∀ r ∈ dy, Sz 4 r ∧ 0 ≤ r.num := h
  have h5 := h.w.l5
  refine s_newD lb_ok 2 sc_ListBook_come.nd fun dd nu => ?_
  have jo : ∀ rows, JOk (fun a => Sa x a ∨ Sa dd a) (fun a => Sa x a ∨ Sa dd a) (fun H => LBAt P w K cs d mk x H ∧ NdAt P w dd rows H) := fun rows => lb_ok.and ndAt_ok
  have hne : ∀ {a : Addr}, Sa x a → ¬ Sa dd a := fun {a} h1 h2 => nu (by rw [← (show a = dd from h2)]; exact h1)
  have vw0 : ∀ {rows : Hd} {Γ : Ctx}, Γ[0]? = some (.i (VI.is (.ref x))) → Vw (fun H => LBAt P w K cs d mk x H ∧ NdAt P w dd rows H) Γ (Γ.set 0 (.f (obV (He.ga K "ListBook") LBF (lbF P w cs d mk) nlLB x))) := fun h => Vw.one 0 h fun H j => ⟨rfl, j.1⟩
  have vw2 : ∀ {rows : Hd} {Γ : Ctx}, Γ[2]? = some (.i (VI.is (.ref dd))) → Vw (fun H => LBAt P w K cs d mk x H ∧ NdAt P w dd rows H) Γ (Γ.set 2 (.f (ndV P w dd rows))) := fun h => Vw.one 2 h fun H j => ⟨rfl, j.2⟩
  refine s_cons (s_forS (xs := held cs.length mk) (F := fun z => VI.tup [VI.ck z.1, VI.num z.2]) (vs := [3, 4]) (Js := fun pre H => LBAt P w K cs d mk x H ∧ NdAt P w dd (hadd (hpairs cs.length dy pre) []) H) (fun _ => [.i (VI.is (.ref x)), .i (VI.tup (nums dy)), .i (VI.is (.ref dd)), .u, .u, .u, .u]) (fun _ z => [.i (VI.is (.ref x)), .i (VI.tup (nums dy)), .i (VI.is (.ref dd)), .i (VI.ck z.1), .i (VI.num z.2), .u, .u]) (jo _) (fun l => jo _) PassesOwn.never rfl
    (ITI.sv (jo _) (vw0 rfl) (iti_items (e_obF (vF 0) B.c_LB rfl))) (fun pre z post e => tg_tup rfl (tgs_cons (tg_name 3 sc_ListBook_come.nd) (tgs_cons (tg_name 4 sc_ListBook_come.nd) tgs_nil))) (fun pre z post e => rfl) (fun pre z post e => ?_)) ?_
  · have hz : z ∈ held cs.length mk := mem_mid e
    obtain ⟨k1, k2⟩ := h.hkey hz
    refine s_one (GTS.weak (s_forS (xs := List.range cs.length) (F := fun i : Nat => VI.int (i : Int)) (vs := [5]) (Js := fun pre' H => LBAt P w K cs d mk x H ∧ NdAt P w dd (hadd (hpairs cs.length dy pre ++ pre'.map fun x => (inc z.1 x, z.2 * dy.getD x 0)) []) H) (fun _ => [.i (VI.is (.ref x)), .i (VI.tup (nums dy)), .i (VI.is (.ref dd)), .i (VI.ck z.1), .i (VI.num z.2), .u, .u]) (fun _ a => [.i (VI.is (.ref x)), .i (VI.tup (nums dy)), .i (VI.is (.ref dd)), .i (VI.ck z.1), .i (VI.num z.2), .i (VI.int (a : Int)), .u]) (jo _) (fun l => jo _) PassesOwn.never rfl
      ?_ (fun pre' a post' e' => tg_name 5 sc_ListBook_come.nd) (fun pre' a post' e' => rfl) (fun pre' a post' e' => ?_)) fun _ _ _ _ n => ?_)
    · rw [List.map_nil, List.append_nil]
      exact ITI.sv (jo _) (vw0 rfl) (iti_range T.bl (e_obF (vF 0) B.c_LB rfl) (by omega))
    · obtain ⟨ea, ep, lt⟩ := idx_mid e'
      obtain ⟨q1, q2, q3⟩ := h.part hl hd (pfx_of (dy := dy) e e')
      have hdg : Sz 4 (dy.getD a 0) := (hd.2 _ (getD_mem (by rw [hd.1]; exact lt))).1
      generalize hrw : hadd (hpairs cs.length dy pre ++ pre'.map fun x => (inc z.1 x, z.2 * dy.getD x 0)) [] = rows at q1 q2 q3
      refine s_cons (Γ' := [.i (VI.is (.ref x)), .i (VI.tup (nums dy)), .i (VI.is (.ref dd)), .i (VI.ck z.1), .i (VI.num z.2), .i (VI.int (a : Int)), .i (VI.ck (inc z.1 a))]) (s_lift (jo _) (g_set 6 sc_ListBook_come.nd (ev_call (ok_behind T) (hr.mono (by decide)) (z.1, a) ⟨by show a < z.1.length; omega, by show z.1.length ≤ 5; omega⟩ (ea_cons (vI 3) (ea_cons (vI 5) ea_nil))))) ?_
      refine s_one (GTS.toLe (s_putN (rows := rows) (r := (atR rows (inc z.1 a)).getD 0 + z.2 * dy.getD a 0) (cs := inc z.1 a) (jo _) (jo _) 2 (.inr rfl) (fun H h => h.2) ?_ (by omega) rfl (EV.sv (jo _) (vw2 rfl) (ev_call (ok_added T) hr ((atR rows (inc z.1 a)).getD 0, z.2 * dy.getD a 0) ⟨q3 _, ((h.hsz hz).mul hdg).mono (by decide)⟩ (ea_cons (e_getN (hu9 hr) (vF 2) (vI 6) (e_int.imp fun H v q => num_of_int rfl q) ⟨rfl, rfl, rfl, rfl⟩) (ea_cons (ev_call (ok_product T) hr (z.2, dy.getD a 0) ⟨(h.hsz hz).mono (by decide), hdg.mono (by decide)⟩ (ea_cons (vI 4) (ea_cons (e_ixT (vI 1) (vI 5) (atI_num (by rw [hd.1]; exact lt))) ea_nil))) ea_nil)))) (EV.s (jo _) (vI 6)) (ps_asg pe_w (pg_sub (pe_var rfl (.inl rfl) (by decide) (by decide)) pe_w (set_nd (hu9 hr))))) ?_)
      · intro H H2 j es n
        have e1 : setR rows (inc z.1 a) ((atR rows (inc z.1 a)).getD 0 + z.2 * dy.getD a 0) = hadd (hpairs cs.length dy pre ++ (pre' ++ [a]).map fun x => (inc z.1 x, z.2 * dy.getD x 0)) [] := by
          rw [setR_add q1, List.map_append, ← List.append_assoc, List.map_cons, List.map_nil, hadd_snoc, hrw]
        rw [← e1]
        exact put_r ndAt_ok lb_ok (fun _ _ _ a ua sa => hne ua sa) H H2 j es n
      · refine ⟨rfl, fun i U hi => ?_⟩
        match i, hi with
        | 0, hi => exact .inr hi
        | 1, hi => exact .inr hi
        | 2, hi => exact .inr hi
        | 3, hi => exact .inr hi
        | 4, hi => exact .inr hi
        | 5, hi => exact .inl (Option.some.inj hi).symm
        | 6, hi => exact .inl (Option.some.inj hi).symm
    · rw [hpairs_snoc]
      refine FS.le n ⟨rfl, fun i U hi => ?_⟩
      match i, hi with
      | 0, hi => exact .inr hi
      | 1, hi => exact .inr hi
      | 2, hi => exact .inr hi
      | 3, hi => exact .inl (Option.some.inj hi).symm
      | 4, hi => exact .inl (Option.some.inj hi).symm
      | 5, hi => exact .inl (Option.some.inj hi).symm
      | 6, hi => exact .inl (Option.some.inj hi).symm
  · refine s_frzD lb_ok 2 nu rfl ?_
    have jn : ∀ fs, JOk (Sa x) (Sa x) (ObAt (He.ga K "ListBook") LBF fs x) := fun fs => obAt_ok nlLB
    have eh : hadd (hpairs cs.length dy (held cs.length mk)) [] = held cs.length (mk ++ [dy]) := by
      rw [held_snoc]
      rfl
    rw [eh]
    refine s_cons (s_obW (J' := ObAt (He.ga K "ListBook") LBF (("held", VI.nd P w (held cs.length (mk ++ [dy]))) :: lbF P w cs d mk) x) (P := VI.nd P w (held cs.length (mk ++ [dy]))) lb_ok lb_ok rfl (fun _ h => h) (fun _ _ _ _ h => h) B.c_LB 0 rfl (EV.s lb_ok (vI 2))) ?_
    refine s_one (GTS.weak (s_obW (J' := LBAt P w K cs d (mk ++ [dy]) x) (P := VI.fl (rsts P w cs d (mk.length + 1))) (jn _) (jn _) rfl (fun _ h => h) (fun _ _ _ _ h => ?_) B.c_LB 0 rfl (EV.sv (jn _) (Vw.one (W := obV (He.ga K "ListBook") LBF (("held", VI.nd P w (held cs.length (mk ++ [dy]))) :: lbF P w cs d mk) nlLB x) 0 rfl fun H h => ⟨rfl, h⟩) (ev_fl ((ef_slFl (e_obF (vF 0) B.c_LB rfl) (ep_some e_int) ep_none).to (rsts_cut hl))))) fun _ _ _ _ n => endS_of n)
    obtain ⟨dx, gs, h1, h2, h3, fk⟩ := h
    refine ⟨dx, gs, h1, h2, h3, FOk.cons (fk _ _ rfl) (FOk.cons ?_ (FOk.cons (fk _ _ rfl) FOk.nil))⟩
    rw [List.length_append, List.length_singleton]
    exact fk _ _ rfl
end
end K8
end
section
set_option Elab.async false
set_option linter.all false
set_option maxRecDepth 100000
set_option maxHeartbeats 1000000
set_option autoImplicit false
namespace K8
open PySem L2
open Evl (Ex)
/-! Books, made. -/
/-- .. closed (Lean looks into no structure) -/
structure EVb (X : Cx) (e : Expr) (Γ : Ctx) (P : VP) : Prop where
  run : EV X e Γ P
structure EIb (X : Cx) (es : List Expr) (Γ : Ctx) (Ps : List VI) : Prop where
  run : EI X es Γ Ps
theorem eib_one {X : Cx} {Γ : Ctx} {ks : List (Option Expr)} {vs : List Expr} {p : Pos} {P : VI} (h : ∀ e, e = .Dict ks vs p → EVb X e Γ P.p) : EIb X [.Dict ks vs p] Γ [P] := ⟨ei_cons (h _ rfl).run ei_nil rfl⟩
theorem eib_three {X : Cx} {Γ : Ctx} {x : Str} {np cp : Pos} {f c : Expr} {as : List Expr} {ks : List Keyword} {P1 P2 P3 : VI} (h1 : EV X (.Name x np) Γ P1.p) (h2 : EV X (.Call f as ks cp) Γ P2.p) (h3 : EIb X [c] Γ [P3]) : EIb X [.Name x np, .Call f as ks cp, c] Γ [P1, P2, P3] := ⟨ei_cons h1 (ei_cons h2 h3.run rfl) rfl⟩
theorem ev_disp1E {X : Cx} {Γ : Ctx} {pos : Pos} {e a b : Expr} {cs : List Nat} {r : Rat} (he : e = .Dict [some a] [b] pos) (hu : X.A.units + 8 < cLine) (hk : EV X a Γ (VI.ck cs).p) (hv : EV X b Γ (VI.num r).p) : EVb X e Γ (VI.nd X.prog X.w [(cs, r)]).p := by
  subst he
  exact ⟨ev_disp1 hu hk hv⟩
theorem eib_start {X : Cx} {Γ : Ctx} {g : Expr} {k1 k2 : Nat} {p1 p2 p3 p4 p5 p6 p7 : Pos} {m : Nat} {i1 i2 i3 : _} (hu : X.A.units + 8 < cLine) (hm : 1 ≤ m) (hm2 : m ≤ 1000) (hg : EV X g Γ (ei (m : Int))) : EIb X [.Dict [some (.Tuple [.Constant (.str "counts") i1 p1, .BinOp (.Tuple [.Constant (.int 0) i2 p2] k2 p3) .Mult g p4] k1 p5)] [.Constant (.int 1) i3 p6] p7] Γ [VI.nd X.prog X.w [(List.replicate m 0, 1)]] :=
  eib_one fun e he => ev_disp1E he hu (e_tup (ei_cons e_str (ei_cons (P := VI.tup (natz (List.replicate m 0))) ((e_repT (P := VI.int ((0 : Nat) : Int)) (e_tup (ei_cons e_int ei_nil)) hg hm hm2).to (by rw [natz, List.map_replicate])) ei_nil))) (e_int.imp fun H v q => num_of_int (by decide +kernel) q)
theorem en_makeSb {X : Cx} {Γ : Ctx} {pos p : Pos} {e : Expr} {es : List Expr} {ι : Type} {JN : Addr → Hp → Prop} {pre : ι → Prop} {self : ι → V} {args : ι → List VI} {S1 : ι → Addr → Prop} {Ja Jb : ι → Hp → Prop} {C f : Addr} {L : List Str} {k : Nat} {fd : FuncData} {ps : List Str} {x : Str} {Ps : List VI} (M : L2.Mk X.K C f) (F : FnOk X.prog X.w X.K X.mg X.base CX0 k f fd ps (spS pre self args S1 Ja Jb (fun _ => VI.non))) (hb : Binds X.K fd ps []) (hm : X.mg x = some (.ref C)) (hr : Room (k + 1) X.A) (mkI : Addr → ι) (hp : ∀ a, pre (mkI a)) (hself : ∀ a, self (mkI a) = .ref a) (hS : ∀ a b, S1 (mkI a) b → b = a) (ha : EIb X (e :: es) Γ Ps) (hA : ∀ a, args (mkI a) = Ps) (get : ∀ a H, ObAt C L [] a H → Ja (mkI a) H) (hJ : ∀ a H, Jb (mkI a) H → JN a H := by exact fun _ _ h => h) (hg : Gl X x := by rfl)
    (hdb : (x == ("__debug__" : Str)) = false := by decide) (he : starEach (e :: es) X.env = (false, eval e X.env) :: starEach es X.env := by rfl) (hpl : (backTo pos (starEach es X.env)).any (·.1) = false := by rfl) : EN X (.Call (.Name x p) (e :: es) [] pos) Γ Sa V.ref JN :=
  en_makeS M F hb hm hr mkI hp hself hS ha.run hA get hJ hg hdb he hpl
section
variable {P : Program} {w : World} {K : PySem.W.Frag} {mg : Str → Option Value} {base : Heap}
variable (T : Tx K mg) (O : To K mg) (M : Tm P K mg) (B : Tb P K mg)
include T O M B
theorem ok_list_book : Fq P w K mg base "list_book" 9 ["promise", "days"] [] (spN (fun z : List Nat × Nat => Lw z.1 z.2) (fun z => [(VI.pr K (.best z.1)).p, ei (z.2 : Int)]) Sa V.ref (fun z a => LBAt P w K z.1 z.2 [] a)) :=
  fq_N T.x_list_book sc_list_book (fun _ _ _ _ _ _ us hl => match us, hl with | [_, _], _ => rfl) (fun _ => rfl) fun cdv A outer s H E hr ⟨cs, d⟩ h => by
    have h : Lw cs d := h
    have h1 := h.l1
    have h5 := h.l5
    have h4 := h.d4
    have hg : (cs.length : Int) = ((cs.length - 1 + 1 : Nat) : Int) := by omega
    have vp : ∀ {X : Cx} {Γ : Ctx} {e : Expr}, EV X e Γ (VI.pr K (.best cs)).p → EV X e Γ (VI.ob (He.ga K "BestMix") (bestF cs)).p := fun h => h
    obtain ⟨fd, F, Bi⟩ := ok_LB_init (P := P) (w := w) (mg := mg) (base := base) B
    refine gn_cons (g_set 2 sc_list_book.nd (e_fld (vp (vE 0)) O.p_BestMix rfl)) (gn_ifT (t_val (ev_call (ok_orderless_in T O) (hr.mono (by decide)) (.best cs) trivial (ea_cons (vE 0) ea_nil))) ?_)
    refine gn_cons (g_drop (ev_call (ok_need_few_counts T) (hr.mono (by decide)) (cs.length - 1, d) ⟨by show cs.length - 1 ≤ 100; omega, by show d ≤ 100; omega, few_b _ (List.mem_range.mpr (by omega)) _ (List.mem_range.mpr (by omega))⟩ (ea_cons ((vI 2).to (congrArg ei hg)) (ea_cons (vE 1) ea_nil)))) ?_
    refine gn_ret (en_makeSb (Ps := [VI.int (cs.length : Int), VI.fl (rsts P w cs d 0), VI.nd P w [(List.replicate cs.length 0, 1)]]) B.k_LB F Bi B.g_LB (hr.mono (by decide)) (fun a => (a, cs, d)) (fun _ => trivial) (fun _ => rfl) (fun _ _ s => s) ?_ (fun _ => rfl) fun a H h => h)
    exact eib_three (vI 2) (ev_fl (ef_call (ok_rests_of T O M) hr (cs, d) h (ea_cons (vE 0) (ea_cons e_str (ea_cons (vE 1) ea_nil))))) (eib_start (hu8 hr) h1 (by omega) (vI 2))
theorem ok_inner_book : Fq P w K mg base "inner_book" 10 ["promise", "days"] [] (spN (fun z : List Nat × Nat => Lw z.1 z.2) (fun z => [(VI.pr K (.best z.1)).p, ei (z.2 : Int)]) Sa V.ref (fun z a => LBAt P w K z.1 z.2 [] a)) :=
  fq_N T.x_inner_book sc_inner_book (fun _ _ _ _ _ _ us hl => match us, hl with | [_, _], _ => rfl) (fun _ => rfl) fun cdv A outer s H E hr ⟨cs, d⟩ h => by
    have vp : ∀ {X : Cx} {Γ : Ctx} {e : Expr}, EV X e Γ (VI.pr K (.best cs)).p → EV X e Γ (VI.ob (He.ga K "BestMix") (bestF cs)).p := fun h => h
    refine gn_ifF (t_eq (x := .str "best") (y := .str "hold") (e_fld (vp (vE 0)) O.p_BestMix rfl) e_str (by decide +kernel)) ?_
    refine gn_ifF (t_eq (x := .str "best") (y := .str "mix") (e_fld (vp (vE 0)) O.p_BestMix rfl) e_str (by decide +kernel)) ?_
    refine gn_ifF (t_eq (x := .str "best") (y := .str "times") (e_fld (vp (vE 0)) O.p_BestMix rfl) e_str (by decide +kernel)) ?_
    refine gn_ifF (t_eq (x := .str "best") (y := .str "sum") (e_fld (vp (vE 0)) O.p_BestMix rfl) e_str (by decide +kernel)) ?_
    refine gn_ifF (t_eq (x := .str "best") (y := .str "then") (e_fld (vp (vE 0)) O.p_BestMix rfl) e_str (by decide +kernel)) ?_
    exact gn_ret (en_call (ok_list_book T O M B) hr (cs, d) h (ea_cons (vE 0) (ea_cons (vE 1) ea_nil)))
end
/-! Book -/
theorem nlBk : ("levels" : Str) ∉ BkF := by decide +kernel
/-- a book's fields ahead of its purse -/
abbrev bk0 (K : PySem.W.Frag) (cs : List Nat) (d : Nat) (mk : List (List Rat)) (lb : Addr) : List (Str × VI) := [("promise", VI.pr K (.best cs)), ("market", VI.tup (rows mk)), ("left", VI.int ((d - mk.length : Nat) : Int)), ("_inner", VI.is (.ref lb))]
abbrev bk1 (K : PySem.W.Frag) (cs : List Nat) (d : Nat) (mk : List (List Rat)) (lb : Addr) : List (Str × VI) := ("purse", VI.num (lpurse cs d mk)) :: bk0 K cs d mk lb
abbrev BA (K : PySem.W.Frag) (fs : List (Str × VI)) (b : Addr) (H : Hp) : Prop := ObAt (He.ga K "Book") BkF fs b H
theorem ba_ok {K : PySem.W.Frag} {fs : List (Str × VI)} {b : Addr} : JOk (Sa b) (Sa b) (BA K fs b) := obAt_ok nlBk
/-- a book and its inner one -/
abbrev BkAt (P : Program) (w : World) (K : PySem.W.Frag) (fs : List (Str × VI)) (cs : List Nat) (d : Nat) (mk : List (List Rat)) (b lb : Addr) (H : Hp) : Prop := BA K fs b H ∧ LBAt P w K cs d mk lb H
abbrev S2 (b lb : Addr) : Addr → Prop := fun a => Sa b a ∨ Sa lb a
theorem bk_ok {P : Program} {w : World} {K : PySem.W.Frag} {fs : List (Str × VI)} {cs : List Nat} {d : Nat} {mk : List (List Rat)} {b lb : Addr} : JOk (S2 b lb) (S2 b lb) (BkAt P w K fs cs d mk b lb) := ba_ok.and lb_ok
theorem Tb.ne {P : Program} {K : PySem.W.Frag} {mg : Str → Option Value} (B : Tb P K mg) : He.ga K "Book" ≠ He.ga K "ListBook" := fun e => by
  have h1 := B.c_Bk.na "purse" (by decide +kernel)
  have h2 := B.m_LB_purse.me.at_
  rw [e] at h1
  have h1 : PySem.W.findIn K (.ref (He.ga K "ListBook")) "purse" = some none := h1
  rw [h1] at h2
  cases h2
section
variable {P : Program} {w : World} {K : PySem.W.Frag} {mg : Str → Option Value} {base : Heap} {fs fs' : List (Str × VI)} {cs : List Nat} {d : Nat} {mk mk' : List (List Rat)} {b lb : Addr}
variable (B : Tb P K mg)
include B
theorem bk_ne {H : Hp} (h : BkAt P w K fs cs d mk b lb H) : b ≠ lb := fun e => by
  obtain ⟨⟨dx, gs, h1, _⟩, ⟨dx2, gs2, h2, _⟩⟩ := h
  rw [e, h2] at h1
  have h3 := Option.some.inj h1
  injection h3 with hC _ _
  exact B.ne hC.symm
theorem bk_putB : ∀ H H2, BkAt P w K fs cs d mk b lb H → ES (Sa b) H H2 → BA K fs' b H2 → BkAt P w K fs' cs d mk b lb H2 := fun H H2 h e j => put_l ba_ok lb_ok (fun H1 x y a ua sa => bk_ne B ⟨x, y⟩ ((show a = b from sa).symm.trans ua)) H H2 h e j
theorem bk_putL : ∀ H H2, BkAt P w K fs cs d mk b lb H → ES (Sa lb) H H2 → LBAt P w K cs d mk' lb H2 → BkAt P w K fs cs d mk' b lb H2 := fun H H2 h e j => put_r lb_ok ba_ok (fun H1 x y a ua sa => bk_ne B ⟨y, x⟩ ((show a = b from ua).symm.trans sa)) H H2 h e j
end
theorem bk_vw {P : Program} {w : World} {K : PySem.W.Frag} {fs : List (Str × VI)} {cs : List Nat} {d : Nat} {mk : List (List Rat)} {b lb : Addr} {Γ : Ctx} (i : Nat) (hΓ : Γ[i]? = some (.i (VI.is (.ref b)))) : Vw (BkAt P w K fs cs d mk b lb) Γ (Γ.set i (.f (obV (He.ga K "Book") BkF fs nlBk b))) := Vw.one i hΓ fun H h => ⟨rfl, h.1⟩
abbrev BI := Addr × Addr × List Nat × Nat × List (List Rat)
section
variable {P : Program} {w : World} {K : PySem.W.Frag} {mg : Str → Option Value} {base : Heap}
variable (T : Tx K mg) (O : To K mg) (M : Tm P K mg) (B : Tb P K mg)
include T B
theorem ok_Bk_tell : ∃ fd, FnOk P w K mg base CX0 7 (He.ma K (He.ga K "Book") "tell") fd ["self"] (spS (fun z : BI => Bk z.2.2.1 z.2.2.2.1 z.2.2.2.2) (fun z => .ref z.1) (fun _ => []) (fun z => S2 z.1 z.2.1) (fun z => BkAt P w K (bk0 K z.2.2.1 z.2.2.2.1 z.2.2.2.2 z.2.1) z.2.2.1 z.2.2.2.1 z.2.2.2.2 z.1 z.2.1) (fun z => BkAt P w K (bk1 K z.2.2.1 z.2.2.2.1 z.2.2.2.2 z.2.1) z.2.2.1 z.2.2.2.1 z.2.2.2.2 z.1 z.2.1) (fun _ => VI.non)) ∧ Binds K fd ["self"] [] := by
  obtain ⟨fd, F⟩ := B.m_Bk_tell.fn
  obtain ⟨fd1, F1, B1⟩ := ok_LB_purse (P := P) (w := w) (base := base) T B
  obtain ⟨fd2, F2, B2⟩ := ok_LB_amounts (P := P) (w := w) (base := base) T B
  refine ⟨fd, fnS (U := fun z => S2 z.1 z.2.1) F sc_Book_tell (fun _ => rfl) (fun cdv A outer s H E hr ⟨b, lb, cs, d, mk⟩ h => ?_), F.bindsN (fun _ _ _ _ _ _ us hl => match us, hl with | [_], _ => rfl)⟩
  have h : Bk cs d mk := h
  refine s_cons (s_obW (J' := BkAt P w K (bk1 K cs d mk lb) cs d mk b lb) (P := VI.num (lpurse cs d mk)) bk_ok bk_ok (.inl rfl) (fun _ h => h.1) (bk_putB B) B.c_Bk 0 rfl (vs_meth0 (J' := BkAt P w K (bk0 K cs d mk lb) cs d mk b lb) (EV.sv bk_ok (bk_vw 0 rfl) (e_obF (vF 0) B.c_Bk rfl)) (fun _ h => h.2) B.c_LB B.m_LB_purse.me (by decide +kernel) F1 B1 (hr.mono (by decide)) (lb, cs, d, mk) h rfl rfl (fun _ h => .inr h) (fun _ h => h.2) (bk_putL B))) ?_
  refine s_one (GTS.weak (s_obW (J' := BkAt P w K (("amounts", VI.any) :: bk1 K cs d mk lb) cs d mk b lb) (P := VI.any) bk_ok bk_ok (.inl rfl) (fun _ h => h.1) (bk_putB B) B.c_Bk 0 rfl (vs_if (k := decide (0 < d - mk.length)) bk_ok (bk_vw 0 rfl) ((t_gt (e_obF (vF 0) B.c_Bk rfl) e_int).to (decide_eq_decide.mpr (by omega))) (fun hk => ?_) (fun _ => EV.s bk_ok (EV.any (e_tup ei_nil))))) fun _ _ _ _ n => endS_of ⟨n.f, n.nx, n.no, n.j.1.to (fun f P0 hf => ?_), n.j.2⟩)
  · have hl : mk.length < d := by have := of_decide_eq_true hk; omega
    exact vs_meth0 (J' := BkAt P w K (bk1 K cs d mk lb) cs d mk b lb) (EV.sv bk_ok (bk_vw 0 rfl) (e_obF (vF 0) B.c_Bk rfl)) (fun _ h => h.2) B.c_LB B.m_LB_amounts.me (by decide +kernel) F2 B2 (hr.mono (by decide)) (lb, cs, d, mk) ⟨h, hl⟩ rfl rfl (fun _ h => .inr h) (fun _ h => h.2) (bk_putL B)
  · rw [List.lookup_cons]
    by_cases e : f = "amounts"
    · subst e
      cases hf
    · rw [beq_eq_false_iff_ne.mpr e]
      exact hf
include O
theorem ok_Bk_day : ∃ fd, FnOk P w K mg base CX0 8 (He.ma K (He.ga K "Book") "day") fd ["self", "day"] (spS (fun z : List Rat × BI => Bk z.2.2.2.1 z.2.2.2.2.1 z.2.2.2.2.2 ∧ z.2.2.2.2.2.length < z.2.2.2.2.1 ∧ z.1.length = z.2.2.2.1.length ∧ ∀ r ∈ z.1, Sz 4 r ∧ 0 ≤ r.num) (fun z => .ref z.2.1) (fun z => [VI.tup (nums z.1)]) (fun z => S2 z.2.1 z.2.2.1) (fun z => BkAt P w K (bk1 K z.2.2.2.1 z.2.2.2.2.1 z.2.2.2.2.2 z.2.2.1) z.2.2.2.1 z.2.2.2.2.1 z.2.2.2.2.2 z.2.1 z.2.2.1) (fun z => BkAt P w K (bk1 K z.2.2.2.1 z.2.2.2.2.1 (z.2.2.2.2.2 ++ [z.1]) z.2.2.1) z.2.2.2.1 z.2.2.2.2.1 (z.2.2.2.2.2 ++ [z.1]) z.2.1 z.2.2.1) (fun z => VI.num (lpurse z.2.2.2.1 z.2.2.2.2.1 (z.2.2.2.2.2 ++ [z.1])))) ∧ Binds K fd ["self", "day"] [] := by
  obtain ⟨fd, F⟩ := B.m_Bk_day.fn
  obtain ⟨fd1, F1, B1⟩ := ok_LB_come (P := P) (w := w) (base := base) T B
  obtain ⟨fd2, F2, B2⟩ := ok_Bk_tell (P := P) (w := w) (base := base) T B
  refine ⟨fd, fnS (U := fun z => S2 z.2.1 z.2.2.1) F sc_Book_day (fun _ => rfl) (fun cdv A outer s H E hr ⟨dy, b, lb, cs, d, mk⟩ h => ?_), F.bindsN (fun _ _ _ _ _ _ us hl => match us, hl with | [_, _], _ => rfl)⟩
  obtain ⟨h, hl, hd⟩ : Bk cs d mk ∧ mk.length < d ∧ dy.length = cs.length ∧ ∀ r ∈ dy, Sz 4 r ∧ 0 ≤ r.num := h
  have h5 := h.w.l5
  have vp : ∀ {X : Cx} {Γ : Ctx} {e : Expr}, EV X e Γ (VI.pr K (.best cs)).p → EV X e Γ (VI.ob (He.ga K "BestMix") (bestF cs)).p := fun h => h
  have hrow : rowB dy (cs.length : Int) = true := by
    rw [rowB, decide_eq_true (by rw [hd.1]), List.all_eq_true.mpr fun r hr => decide_eq_true (hd.2 r hr).2]
    rfl
  have h2 : Bk cs d (mk ++ [dy]) := ⟨h.w, by rw [List.length_append, List.length_singleton]; omega, fun y hy => by
    rcases List.mem_append.mp hy with hy | hy
    · exact h.m y hy
    · rw [List.mem_singleton.mp hy]
      exact hd⟩
  refine s_cons (s_set bk_ok 2 (P := VI.tup (nums dy)) sc_Book_day.nd (EV.sv bk_ok (bk_vw 0 rfl) (ev_call (ok_need_day T) (hr.mono (by decide)) (dy, (cs.length : Int)) ⟨by show dy.length ≤ 1000; omega, hrow⟩ (ea_cons (vI 1) (ea_cons (e_fld (vp (e_obF (vF 0) B.c_Bk rfl)) O.p_BestMix rfl) ea_nil))))) ?_
  refine s_cons (s_notW bk_ok (bk_vw 0 rfl) ((t_eqI (e_obF (vF 0) B.c_Bk rfl) e_int).to (decide_eq_false (show ((d - mk.length : Nat) : Int) ≠ 0 by omega)))) ?_
  refine s_cons (s_expr (J1 := BkAt P w K (bk1 K cs d mk lb) cs d (mk ++ [dy]) b lb) (P := VI.non) bk_ok (vs_meth bk_ok (EV.sv bk_ok (bk_vw 0 rfl) (e_obF (vF 0) B.c_Bk rfl)) (fun _ h => h.2) B.c_LB B.m_LB_come.me (by decide +kernel) F1 B1 (hr.mono (by decide)) (lb, cs, d, mk, dy) ⟨h, hl, hd⟩ rfl (is_cons bk_ok bk_ok (EV.s bk_ok (vI 2)) is_nil) (fun _ h => .inr h) (fun _ h => h.2) (bk_putL B))) ?_
  refine s_cons (s_obW (J' := BkAt P w K [("promise", VI.pr K (.best cs)), ("market", VI.tup (rows (mk ++ [dy]))), ("left", VI.int ((d - mk.length : Nat) : Int)), ("_inner", VI.is (.ref lb))] cs d (mk ++ [dy]) b lb) (P := VI.tup (rows (mk ++ [dy]))) bk_ok bk_ok (.inl rfl) (fun _ h => h.1) (fun H H2 j e n => bk_putB B H H2 j e ?_) B.c_Bk 0 rfl (EV.sv bk_ok (bk_vw 0 rfl) ((e_tup (ei_starT (e_obF (vF 0) B.c_Bk rfl) (ei_cons (vI 2) ei_nil)) (by rw [List.length_append, List.length_map]; have := h.w.d4; show _ + 1 ≤ _; omega)).to (by rw [rows, rows, List.map_append]; rfl)))) ?_
  · obtain ⟨dx, gs, h1, h2, h3, fk⟩ := n
    exact ⟨dx, gs, h1, h2, h3, FOk.cons (fk _ _ rfl) (FOk.cons (fk _ _ rfl) (FOk.cons (fk _ _ rfl) (FOk.cons (fk _ _ rfl) FOk.nil)))⟩
  refine s_cons (s_obW (J' := BkAt P w K (bk0 K cs d (mk ++ [dy]) lb) cs d (mk ++ [dy]) b lb) (P := VI.int ((d - (mk.length + 1) : Nat) : Int)) bk_ok bk_ok (.inl rfl) (fun _ h => h.1) (fun H H2 j e n => bk_putB B H H2 j e ?_) B.c_Bk 0 rfl (EV.sv bk_ok (bk_vw 0 rfl) ((e_sub (e_obF (vF 0) B.c_Bk rfl) e_int).to (congrArg ei (by omega))))) ?_
  · obtain ⟨dx, gs, h1, h2, h3, fk⟩ := n
    refine ⟨dx, gs, h1, h2, h3, FOk.cons (fk _ _ rfl) (FOk.cons (fk _ _ rfl) (FOk.cons ?_ (FOk.cons (fk _ _ rfl) FOk.nil)))⟩
    rw [List.length_append, List.length_singleton]
    exact fk _ _ rfl
  refine s_cons (s_expr (J1 := BkAt P w K (bk1 K cs d (mk ++ [dy]) lb) cs d (mk ++ [dy]) b lb) (P := VI.non) bk_ok (vs_meth0 (EV.s bk_ok (vI 0)) (fun _ h => h.1) B.c_Bk B.m_Bk_tell.me (by decide +kernel) F2 B2 hr (b, lb, cs, d, mk ++ [dy]) h2 rfl rfl (fun _ h => h) (fun _ h => h) (fun _ _ _ _ h => h))) ?_
  exact s_one (s_ret bk_ok (EV.sv bk_ok (bk_vw 0 rfl) (e_obF (vF 0) B.c_Bk rfl)) fun v H j q => ⟨j, q⟩)
end
end K8
end
section
set_option Elab.async false
set_option linter.all false
set_option maxRecDepth 100000
set_option maxHeartbeats 1000000
set_option autoImplicit false
namespace K8
open PySem L2
open Evl (Ex)
/-! A book, made. -/
section
variable {S U : Addr → Prop} {J : Hp → Prop} {J' : Addr → Hp → Prop} {X : Cx} {Γ : Ctx} {pos p1 p2 : Pos} {e : Expr} {sts : List Stmt} {N : NK} {R : RK} {x C : Addr} {L : List Str} {fs : List (Str × VI)} {JN : Addr → Hp → Prop}
/-- x.f = e, e a new thing -/
theorem s_obNew {y f : Str} (jn : ∀ a, JOk (Sa a) (Sa a) (JN a)) (jo : JOk S U J) (hs : S x) (hJ : ∀ H, J H → ObAt C L fs x H) (put : ∀ a H H2, J H → ES (Sa x) H H2 → ObAt C L ((f, VI.is (.ref a)) :: fs) x H2 → J' a H2) (c : BCl X.K C L) (i : Nat) (hΓ : Γ[i]? = some (.i (VI.is (.ref x)))) (h : EN X e Γ Sa V.ref JN)
    (hrest : ∀ a, GSS (fun b => S b ∨ Sa a b) (fun b => U b ∨ Sa a b) (fun H => J' a H ∧ JN a H) X sts Γ N R) (hL : f ∈ L := by decide) (hj : X.N[i]? = some y := by rfl) (hv : Vis X.env.scope y := by first | exact Or.inl rfl | exact Or.inr (Or.inl rfl) | exact Or.inr (Or.inr rfl)) (hd : (y == ("__debug__" : Str)) = false := by decide) (hcd : (y == ("__classdict__" : Str)) = false := by decide)
    (hsw : swapsWith e (some (.Attribute (.Name y p1) f p2)) pos.line X.env = pure false := by rfl) : GSS S U J X (.Assign [.Attribute (.Name y p1) f p2] e pos :: sts) Γ N R := fun H0 H1 σ H ft D hn hr => by
  obtain ⟨v, s1, ev⟩ := ft.f.get hΓ (by simp)
  obtain rfl : v = .ref x := ev
  refine wSs_of (pss_cons (ps_fld (pe_var hj hv hd hcd) pe_w hsw) pss_w) (h H0 H1 σ H ft.f _ fun a H2 e2 fr j2 => ?_)
  have fa : H a = none := fr a rfl
  have f2 := ft.mono jo e2
  have ob := hJ H2 f2.j
  obtain ⟨dx, gs, h1, h2, h3, h4⟩ := id ob
  have hlen := nodup_len h2 h3
  rw [List.length_map] at hlen
  have ax : a ≠ x := fun z => by
    obtain ⟨dx', gs', h1', _⟩ := hJ H ft.j
    rw [z, h1'] at fa
    cases fa
  refine ⟨_, s1, x, C, dx, gs, rfl, h1, c.c, c.na f hL, by have := c.few; omega, ?_⟩
  have xx : ExI H2 (upd H2 x (.ins C dx (putF f (.ref a) gs))) := .upd h1 fun z => not_fullL h3 c.nl z
  have es : ES (Sa x) H2 (upd H2 x (.ins C dx (putF f (.ref a) gs))) := fun b o nb h => by rw [upd_ne nb]; exact h
  refine hrest a H0 H1 σ _ ⟨f2.f.es (S := Sa x) (fun b s => by rw [show b = x from s]; exact ft.nx x hs) (fun b s => by rw [show b = x from s]; exact ft.no x (jo.su x hs)) xx es, fun b s => s.elim (ft.nx b) fun z => ?_, fun b u => u.elim (ft.no b) fun z o => ?_, put a H2 _ f2.j es (ob.put c.nl hL rfl h1), (jn a).mono' xx (fun b o u h => by rw [upd_ne (by rw [show b = a from u]; exact ax)]; exact h) j2⟩ D hn hr
  · rw [show b = a from z]
    exact Evl.fresh_back ft.f.ex fa
  · obtain ⟨_, ys, q⟩ := ft.f.own o
    rw [show b = a from z, fa] at q
    cases q
end
/-- what Book's __init__ promises -/
def spB (P : Program) (w : World) (K : PySem.W.Frag) : Sp := fun vs H Q _ => ∃ (cs : List Nat) (d : Nat) (b : Addr) (ws : List V), Lw cs d ∧ vs = .ref b :: ws ∧ Oks [VI.pr K (.best cs), VI.int (d : Int)] H ws ∧ BA K [] b H ∧ ∀ lb H2, ES (Sa b) H H2 → H lb = none → BkAt P w K (bk1 K cs d [] lb) cs d [] b lb H2 → Q .non H2
section
variable {P : Program} {w : World} {K : PySem.W.Frag} {mg : Str → Option Value} {base : Heap}
variable (T : Tx K mg) (O : To K mg) (M : Tm P K mg) (B : Tb P K mg)
include T O M B
theorem ok_Bk_init : ∃ fd, FnOk P w K mg base CX0 11 (He.ma K (He.ga K "Book") "__init__") fd ["self", "promise", "days"] (spB P w K) ∧ Binds K fd ["self", "promise", "days"] [] := by
  obtain ⟨fd, F⟩ := B.m_Bk_init.fn
  obtain ⟨fd2, F2, B2⟩ := ok_Bk_tell (P := P) (w := w) (base := base) T B
  refine ⟨fd, F.ok sc_Book_init (fun vs H Q E h => ?_) (fun cdv A outer s H vs Q E hr h => ?_), F.bindsN (fun _ _ _ _ _ _ us hl => match us, hl with | [_, _, _], _ => rfl)⟩
  · obtain ⟨cs, d, b, ws, _, rfl, kk, _⟩ := h
    rw [List.length_cons, ← Oks.len kk]
    rfl
  · obtain ⟨cs, d, b, ws, hw, rfl, kk, j, q⟩ := h
    have h4 := hw.d4
    refine ⟨_, PSs.nox pss_w, ?_⟩
    have body : GSS (Sa b) (Sa b) (BA K [] b) (cxOf CX0 P w K mg base nm_Book_init "Book.__init__" (defScope st_Book_init) (He.ma K (He.ga K "Book") "__init__") cdv A outer s H E).nox (defBody st_Book_init) (ctxV nm_Book_init (.ref b) [VI.pr K (.best cs), VI.int (d : Int)]) (fun H0 _ _ H' => ∃ lb, H0 lb = none ∧ Ex H0 H' ∧ BkAt P w K (bk1 K cs d [] lb) cs d [] b lb H') (fun _ _ => False) := by
      have bp : Bk cs d [] := ⟨hw, Nat.zero_le _, fun _ h => nomatch h⟩
      refine s_cons (s_expr (P := VI.non) ba_ok (EV.s ba_ok (ev_call (ok_need_promise T O) (hr.mono (by decide)) (.best cs) trivial (ea_cons (vI 1) ea_nil)))) ?_
      refine s_cons (s_expr (P := VI.non) ba_ok (EV.s ba_ok ((ev_call (ok_need_days T) (hr.mono (by decide)) (d : Int) (by show (0 : Int) ≤ d ∧ (d : Int) ≤ 1000; omega) (ea_cons (vI 2) ea_nil)).imp fun _ _ h => h))) ?_
      refine s_cons (s_obW (J' := BA K [("promise", VI.pr K (.best cs))] b) (P := VI.pr K (.best cs)) ba_ok ba_ok rfl (fun _ h => h) (fun _ _ _ _ h => h) B.c_Bk 0 rfl (EV.s ba_ok (vI 1))) ?_
      refine s_cons (s_obW (J' := BA K [("market", VI.tup (rows [])), ("promise", VI.pr K (.best cs))] b) (P := VI.tup (rows [])) ba_ok ba_ok rfl (fun _ h => h) (fun _ _ _ _ h => h) B.c_Bk 0 rfl (EV.s ba_ok (e_tup ei_nil))) ?_
      refine s_cons (s_obW (J' := BA K [("left", VI.int (d : Int)), ("market", VI.tup (rows [])), ("promise", VI.pr K (.best cs))] b) (P := VI.int (d : Int)) ba_ok ba_ok rfl (fun _ h => h) (fun _ _ _ _ h => h) B.c_Bk 0 rfl (EV.s ba_ok (vI 2))) ?_
      refine s_obNew (J' := fun lb => BA K (bk0 K cs d [] lb) b) (JN := fun lb => LBAt P w K cs d [] lb) (fun _ => lb_ok) ba_ok rfl (fun _ h => h) (fun lb H H2 _ _ h => ?_) B.c_Bk 0 rfl (en_call (ok_inner_book T O M B) hr (cs, d) hw (ea_cons (vI 1) (ea_cons (vI 2) ea_nil))) fun lb => ?_
      · obtain ⟨dx, gs, h1, h2, h3, fk⟩ := h
        exact ⟨dx, gs, h1, h2, h3, FOk.cons (fk _ _ rfl) (FOk.cons (fk _ _ rfl) (FOk.cons (fk _ _ rfl) (FOk.cons (fk _ _ rfl) FOk.nil)))⟩
      exact s_one (GTS.weak (s_expr (J1 := BkAt P w K (bk1 K cs d [] lb) cs d [] b lb) (P := VI.non) bk_ok (vs_meth0 (EV.s bk_ok (vI 0)) (fun _ h => h.1) B.c_Bk B.m_Bk_tell.me (by decide +kernel) F2 B2 (hr.mono (by decide)) (b, lb, cs, d, []) bp rfl rfl (fun _ h => h) (fun _ h => h) (fun _ _ _ _ h => h))) fun H0 H1 σ H' n => ⟨lb, Evl.fresh_back n.f.b (n.nx lb (.inr rfl)), n.f.b.trans n.f.ex, n.j⟩)
    refine body _ _ _ H (fsV kk j) { nx := fun _ H' => Q .non H', rt := Q } (fun _ H' n => ?_) fun _ _ _ z => z.elim
    obtain ⟨lb, z, e, bk⟩ := n
    have ne := bk_ne B bk
    exact q lb H' (es_hide e) (by rw [hideS_ne (S := Sa b) (b := lb) (fun s => ne (Eq.symm s))] at z; exact z) bk
/-- Book(promise, days) -/
theorem en_book {X : Cx} {Γ : Ctx} {pos p : Pos} {e : Expr} {es : List Expr} {cs : List Nat} {d : Nat} (hX : X.prog = P ∧ X.w = w ∧ X.K = K ∧ X.mg = mg) (hr : Room 12 X.A) (hw : Lw cs d) (ha : EI X (e :: es) Γ [VI.pr K (.best cs), VI.int (d : Int)]) (hg : Gl X "Book" := by rfl)
    (he : starEach (e :: es) X.env = (false, eval e X.env) :: starEach es X.env := by rfl) (hpl : (backTo pos (starEach es X.env)).any (·.1) = false := by rfl) : EN X (.Call (.Name "Book" p) (e :: es) [] pos) Γ (fun n : Addr × Addr => S2 n.1 n.2) (fun n => .ref n.1) (fun n => BkAt P w K (bk1 K cs d [] n.2) cs d [] n.1 n.2) := fun H0 H1 σ H ft Q q => by
  obtain ⟨rfl, rfl, rfl, rfl⟩ := hX
  obtain ⟨fd, F, Bi⟩ := ok_Bk_init (base := X.base) T O M B
  refine wE_of (pe_make B.k_Bk F hr hg B.g_Bk Bi .nil pass0 pa_w (by decide) he hpl) (ha H0 H1 σ H ft _ fun vs H2 e2 r2 => fun y dy n1 n2 ne => ?_)
  have b1 : upd H2 dy (.own y) y = none := by rw [upd_ne (Ne.symm ne)]; exact n1
  have e3 : Ex H2 (upd (upd H2 dy (.own y)) y (.ins (He.ga X.K "Book") dy [])) := (Evl.Ex.new n2).trans (Evl.Ex.new b1)
  refine ⟨cs, d, y, vs, hw, by rw [List.append_nil], r2.mono (.of e3), ⟨dy, [], upd_same, List.nodup_nil, (fun _ h => nomatch h), FOk.nil⟩, fun lb H4 e4 fl j4 => ⟨rfl, q (y, lb) H4 (e2.trans fun b o hb => e4 b o (fun s => ?_) (e3 b o hb)) (fun a s => ?_) j4⟩⟩
  · rw [show b = y from s, n1] at hb
    cases hb
  · rcases s with s | s
    · rw [show a = y from s]
      exact Evl.fresh_back e2 n1
    · rw [show a = lb from s]
      exact Evl.fresh_back (e2.trans e3) fl
end
end K8
end
section
set_option Elab.async false
set_option linter.all false
set_option maxRecDepth 100000
set_option maxHeartbeats 1000000
set_option autoImplicit false
namespace K8
open PySem L2
open Evl (Ex)
/-! Defs that may rest on it that no repr is under way. -/
structure FnG (P : Program) (w : World) (K : PySem.W.Frag) (mg : Str → Option Value) (base : Heap) (k : Nat) (f : Addr) (fd : FuncData) (ps : List Str) (sp : Sp) : Prop where
  len : ∀ vs H Q E, sp vs H Q E → vs.length = ps.length
  go : ∀ (A : Around) (outer : List Env) (s : Shared) (H : Hp) (as : Args) (us : List Value) (vs : List V) (Q : VK) (E : XK), A.guards = some [] → Room k A → Env0 P w K mg base A outer s H → BindsTo s fd as (ps.zip us) → Vals vs us → sp vs H Q E → codeAny (model P w) A (.call (.ref f) as) (CR CX0 outer P w H s Q E) s
section
variable {P : Program} {w : World} {K : PySem.W.Frag} {mg : Str → Option Value} {base : Heap} {k : Nat} {name qual : Str} {params : Arguments} {body : List Stmt} {scope : Scope} {f : Addr} {fd : FuncData} {N ps : List Str} {sp : Sp}
theorem okG (F : FunD K name qual params body scope [] [] f fd) (S : FnScope N ps scope) (len : ∀ vs H Q E, sp vs H Q E → vs.length = ps.length)
    (hb : ∀ (cdv : Value) (A : Around) (outer : List Env) (s : Shared) (H : Hp) (vs : List V) (Q : VK) (E : XK), A.guards = some [] → Room k (A.deeper (PyProof.Rows.envOfC qual scope s.heap.objs.size f cdv)) → sp vs H Q E →
      wSs (cxOf CX0 P w K mg base N qual scope f cdv A outer s H E).nox body { nx := fun _ H' => Q .non H', rt := Q } (L2.start N vs) H) : FnG P w K mg base (k + 1) f fd ps sp := by
  obtain ⟨oc, od, dV, kV, doc, pm, an, cdv, ct, osl, rfl, lk, hcd, _⟩ := F.ex
  refine ⟨len, fun A outer s H as us vs Q E hg hr e0 bi r hsp => ?_⟩
  have inn : K.In s.heap := e0.mod.kin.keeps fun b o z => (e0.bs b o z).1
  refine codeAny_call_function hr.depth (inn _ _ lk) rfl S.co S.gen rfl (PySem.W.codeRec_of inn hcd) (bi _ _ _ _ ?_)
  refine wpAny_newFunctionEnv_cells S.kind (fun y hy => (S.par y.1 (List.of_mem_zip hy).1).imp id fun q => ⟨q, PySem.W.cellsFrom_some _ _ _ (.inl q)⟩) fun env he s1 x => ?_
  subst he
  refine ⟨(e0.mod.nolimit.keeps fun b o z => (e0.bs b o z).1).keeps x.toInCall.keep, codeAny_func ?_⟩
  have q0 := hb cdv A outer s H vs Q E hg (hr.deeper _) hsp
  have I := inv_start (CX := CX0) (E := E) S hr.hd e0 (len _ _ _ _ hsp) r x
  have run := (PSs.nox (X := cxOf CX0 P w K mg base N qual scope f cdv A outer s H E) (pss_w (X := (cxOf CX0 P w K mg base N qual scope f cdv A outer s H E).nox) (sts := body))).run [] s1 _ H _ I q0
  refine wpAny_mono run (fun fl s' hs => ?_) fun e s' z => z
  have fin : ∀ {σ' : St} {H' : Hp} {v : V} {u : Value}, L2.Inv (cxOf CX0 P w K mg base N qual scope f cdv A outer s H E) [] σ' H' s' → RelV v u → Q v H' → CE outer P w H s Q u s' := fun J rv q => ⟨_, _, J.os, J.bare, J.base, J.hok, rv, q⟩
  cases fl with
  | ret u =>
    obtain ⟨_, _, _, J, rv, q⟩ := hs
    exact fin J rv q
  | next =>
    obtain ⟨_, _, J, q⟩ := hs
    exact fin (v := .non) (u := .none) J rfl q
  | brk =>
    obtain ⟨_, _, _, q⟩ := hs
    exact q.elim
  | cont =>
    obtain ⟨_, _, _, q⟩ := hs
    exact q.elim
end
/-- such a def of the top, by its name -/
structure FqG (P : Program) (w : World) (K : PySem.W.Frag) (mg : Str → Option Value) (base : Heap) (x : Str) (k : Nat) (ps : List Str) (sp : Sp) : Prop where
  ex : ∃ (f : Addr) (fd : FuncData), FnG P w K mg base k f fd ps sp ∧ mg x = some (.ref f) ∧ PySem.W.keepIn K (.ref f) = true ∧ Binds K fd ps []
section
variable {X : Cx} {k : Nat} {x : Str} {ps : List Str} {sp : Sp} {p pos : Pos} {e : Expr} {es : List Expr} {t : TA}
theorem pe_callG (F : FqG X.prog X.w X.K X.mg X.base x k ps sp) (hgd : X.A.guards = some []) (hr : Room k X.A) (hg : Gl X x) (ha : PA X (e :: es) t) (hdb : (x == ("__debug__" : Str)) = false := by decide) (he : starEach (e :: es) X.env = (false, eval e X.env) :: starEach es X.env := by rfl) (hpl : (backTo pos (starEach es X.env)).any (·.1) = false := by rfl) :
    PE X (.Call (.Name x p) (e :: es) [] pos) (fun σ H Q => t σ H fun vs H1 => sp vs H1 Q E0) := by
  obtain ⟨f, fd, G, hm, hk, hb⟩ := F.ex
  refine ⟨fun pins s σ H Q I h => wpAny_Call_Name_kw (ld_glob I hg hm (PySem.W.callWith_K (h₀ := X.base) I.ok.mod.kin hk (thn (ha.run pos pins s σ H _ I h) fun us s1 ⟨vs, H1, I1, r, q⟩ => ⟨I1.kIn, ?_⟩) he hpl) hdb)⟩
  have hl : (us ++ []).length = ps.length := by rw [List.append_nil, ← r.length]; exact G.len _ _ _ _ q
  have bi := hb s1 us I1.kIn hl
  rw [List.append_nil] at bi
  refine wpAny_call (codeAny_mono (G.go X.A X.stack s1 H1 ⟨us, []⟩ us vs Q E0 hgd hr I1.env0 bi r q) fun rr s' hq => ?_)
  cases rr with
  | error e => exact hq.elim
  | ok fl =>
    cases fl with
    | ret u => exact I1.after hq
    | next => exact hq.elim
    | brk => exact hq.elim
    | cont => exact hq.elim
end
/-! repr of such lists -/
section
variable {X : Cx} {Γ : Ctx} {p pos : Pos} {e : Expr}
theorem call_reprG (hgd : X.A.guards = some []) (hu : X.A.units + 64 < cLine) : CallR X (.builtin "repr") (fun xs H Q => ∃ a d, xs = [.ref a] ∧ Dp X.K H (.ref a) d ∧ d.showable = true ∧ d.hasDict = false ∧ d.depth < 32 ∧ d.shown.length ≤ sizeLine ∧ Q (.str d.shown) H) := by
  intro pins s σ H xs us Q I r h
  obtain ⟨a, d, rfl, hd, h1, h2, h3, h4, q⟩ := h
  cases r with
  | @cons _ u _ _ ru t =>
    cases t
    obtain ⟨as, rd⟩ := Dp.reads I d (.ref a) u hd ru
    obtain rfl : u = Value.ref a := ru
    exact repr_of_reads' rd h1 (PyData.noDict_hsm h2) hgd (by omega) (fun _ _ z => z) (fun h' t tk kp => ⟨.str d.shown, H, I.kept (t' := tk) kp, ⟨t, rfl⟩, q⟩) h4
end
end K8
end
section
set_option Elab.async false
set_option linter.all false
set_option maxRecDepth 100000
set_option maxHeartbeats 1000000
set_option autoImplicit false
namespace K8
open PySem L2
open Evl (Ex)
/-! What is told rightly: repr of numbers; a drawn word; told_right. -/
theorem num_len {k : Nat} {i : Int} (h0 : 0 ≤ i) (h : i.natAbs < 2 ^ 400) : (PyData.shown (.int i)).length ≤ 130 := by
  refine PyProof.Rows.toString_length_le (v := i) h0 (by decide) ?_
  have h1 : (2 : Int) ^ 400 ≤ 10 ^ 130 := by decide +kernel
  have h2 : i < (2 : Int) ^ 400 := by
    have h3 : ((i.natAbs : Nat) : Int) < ((2 ^ 400 : Nat) : Int) := Int.ofNat_lt.mpr h
    rw [Int.natCast_pow] at h3
    have h4 : ((i.natAbs : Nat) : Int) = i := by omega
    rw [h4] at h3
    exact h3
  exact Int.lt_of_lt_of_le h2 h1
theorem log_lt {n : Nat} (h : n < 2 ^ 400) : n.log2 < 1920 := by
  by_cases z : n = 0
  · subst z
    decide
  · exact Nat.lt_of_lt_of_le ((Nat.log2_lt z).mpr h) (by decide)
theorem dN_say {r : Rat} (h : Sz 400 r) (h0 : 0 ≤ r.num) : (dN r).showable = true ∧ (dN r).hasDict = false ∧ (dN r).depth ≤ 1 ∧ (dN r).leavesShort 130 = true ∧ (dN r).bulk ≤ 2 := by
  have l1 := num_len (k := 0) h0 h.1
  have l2 := num_len (k := 0) (i := (r.den : Int)) (by omega) (by rw [Int.natAbs_natCast]; exact h.2)
  unfold dN
  split
  · exact ⟨decide_eq_true (log_lt h.1), rfl, Nat.zero_le _, decide_eq_true l1, Nat.zero_le _⟩
  · refine ⟨?_, rfl, Nat.le_refl 1, ?_, Nat.le_refl 2⟩
    · show (decide _ && (decide _ && true)) = true
      rw [decide_eq_true (log_lt h.1), decide_eq_true (log_lt (by rw [Int.natAbs_natCast]; exact h.2))]
      rfl
    · show (decide _ && (decide _ && true)) = true
      rw [decide_eq_true l1, decide_eq_true l2]
      rfl
section
variable {X : Cx} {Γ : Ctx} {p pos : Pos} {e : Expr}
/-- repr of a list of two numbers -/
theorem e_repr2 (M : Bl X.mg) {r : Rat} (hgd : X.A.guards = some []) (hu : X.A.units + 64 < cLine) (h : EV X e Γ (.lst [VI.num r, VI.num r])) (s1 : Sz 400 r) (h1 : 0 ≤ r.num) (hg : Gl X "repr" := by rfl) (he : starEach [e] X.env = (false, eval e X.env) :: starEach [] X.env := by rfl) : EV X (.Call (.Name "repr" p) [e] [] pos) Γ (VI.str (PyData.shown (.list [dN r, dN r]))).p :=
  e_cb (call_reprG hgd hu) hg M.repr (by decide +kernel) (ea_cons h ea_nil he) (fun vs H k Q q => by
    obtain ⟨v, rfl, a, xs, rfl, ha, k1⟩ := pk1 k
    cases k1 with
    | cons r1 t1 =>
      cases t1 with
      | cons r2 t2 =>
        cases t2
        obtain ⟨d1, d2, d3, d4, d5⟩ := dN_say s1 h1
        refine ⟨a, .list [dN r, dN r], rfl, .lst (.inl (.inl ha)) (.cons (dp_num r1) (.cons (dp_num r2) .nil)), ?_, ?_, ?_, ?_, q _ H Ex.r rfl⟩
        · show ((dN r).showable && ((dN r).showable && true)) = true
          rw [d1]
          rfl
        · show ((dN r).hasDict || ((dN r).hasDict || false)) = false
          rw [d2]
          rfl
        · simp only [PyData.depth, PyData.depthAll]
          omega
        · have z := PyData.shown_le_bulk 130 (by decide) (.list [dN r, dN r]) (by
            show ((dN r).leavesShort 130 && ((dN r).leavesShort 130 && true)) = true
            rw [d4]
            rfl)
          have zb : PyData.bulk (.list [dN r, dN r]) ≤ 6 := by
            show (dN r).bulk + 1 + ((dN r).bulk + 1 + 0) ≤ 6
            omega
          have z2 : (130 + 2) * PyData.bulk (.list [dN r, dN r]) + 130 ≤ 922 := by omega
          exact Nat.le_trans (Nat.le_trans z z2) (by decide)) (he := he)
end
/-! a source of so many turns, drawn -/
section
variable {ι : Type} {S U : Addr → Prop} {J J1 : Hp → Prop} {X : Cx} {Γ : Ctx} {p pos : Pos} {e tg elt iter : Expr}
def ITSx (S U : Addr → Prop) (J J1 : Hp → Prop) (X : Cx) (tg iter : Expr) (Γ : Ctx) (m : Nat) : Prop := ∀ (H0 H1 : Hp) (σ : St) (H : Hp), FS S U J Γ H0 H1 σ H → ∀ R : It → Hp → Prop, (∀ k, k < m → ∀ Jt H2, ES S H H2 → J1 H2 → (∀ B, Wk B Jt (List.range k) fun i => VI.int (i : Int)) → R Jt H2) → wI X tg iter σ H R
theorem itx_range (jo : JOk S U J) (jo1 : JOk S U J1) (M : Bl X.mg) {m : Nat} (hm : m ≤ 1000) (h : EVS S U J J1 X e Γ (VI.below m)) (hg : Gl X "range" := by rfl) (he : starEach [e] X.env = (false, eval e X.env) :: starEach [] X.env := by rfl) (hs : starEach [e] X.env = [(false, eval e X.env)] := by rfl) : ITSx S U J J1 X tg (.Call (.Name "range" p) [e] [] pos) Γ m := fun H0 H1 σ H f R q =>
  wI_of (pi_range1 hg M.range pa_w hs) (is_cons jo jo1 h (is_nil (J := J1)) he H0 H1 σ H f _ fun vs H2 e2 j2 r2 => by
    cases r2 with
    | cons r t =>
      cases t
      obtain ⟨⟨k, hk⟩, r⟩ := r
      obtain rfl : _ = V.int (k : Int) := r
      refine ⟨(k : Int), rfl, by omega, by omega, q k hk _ H2 e2 j2 fun B => ⟨fun i H3 hi e3 => ?_, fun H3 e3 => ?_, fun i H3 x H' hi e3 y => ?_⟩⟩
      · rw [List.length_range] at hi
        show i < (k : Int).toNat
        omega
      · rw [List.length_range]
        show (k : Int).toNat ≤ k
        omega
      · obtain ⟨rfl, rfl⟩ := y
        rw [List.length_range] at hi
        refine ⟨Ex.r, i, by simp [hi], ?_⟩
        show V.int (0 + (i : Int)) = V.int i
        rw [Int.zero_add])
/-- tuple([elt for _ in range(drawn)]), each item drawn -/
theorem vs_drawn {scope : Scope} {own : List (Str × Nat)} {Γe : Nat → Ctx} {Jn : Nat → Hp → Prop} {m b : Nat} {lp : Pos} (M : Bl X.mg) (jo0 : JOk S U J) (jo : ∀ k, JOk S U (Jn k)) (hc : X.calm = true) (hN : X.N.Nodup) (ok : BlkOk X.N X.env.scope scope own) (hm : m ≤ 1000) (hi : ITSx S U J (Jn 0) X tg iter Γ m) (hd : ∀ i, (Γe i).map Ty.dem = Γe i)
    (hg : ∀ s h C cl fp, ∀ i : Nat, TGT (bk X scope s h C cl fp) tg (wipeC Γ (own.map (·.2))) (VI.int (i : Int)) (Γe i) (own.map (·.2)))
    (he : ∀ k, k + 1 < m → ∀ s h C cl fp, ∀ i : Nat, EVS S U (Jn k) (Jn (k + 1)) (bk X scope s h C cl fp) elt (Γe i) (VI.below b)) (up : ∀ k, k < m → ∀ H, Jn k H → J1 H) (jo1 : JOk S U J1) (hs : ∀ x, foldedSetIterable iter X.env x = pure x := by intro _; rfl) (hgt : Gl X "tuple" := by rfl)
    (hst : starEach [.ListComp elt [⟨tg, iter, [], 0⟩] scope lp] X.env = (false, eval (.ListComp elt [⟨tg, iter, [], 0⟩] scope lp) X.env) :: starEach [] X.env := by rfl) (hpl : (backTo pos (starEach [] X.env)).any (·.1) = false := by rfl) :
    EVS S U J J1 X (.Call (.Name "tuple" p) [.ListComp elt [⟨tg, iter, [], 0⟩] scope lp] [] pos) Γ (VI.ex fun wd : { wd : List Nat // wd.length < m ∧ ∀ x ∈ wd, x < b } => VI.tup (natz wd.1)) := fun H0 H1 σ H f Q q => by
  refine wE_of (pe_callTy call_tuple_of hgt M.tuple (by decide +kernel) (pa_cons pe_w pa_nil hst) (by decide) (by decide) hst hpl) ?_
  refine wE_of (pe_lc hc hN pi_w ok (fun _ _ _ _ _ => pg_wb) (fun _ _ _ _ _ => pts_nil) (fun _ _ _ _ _ => pe_wb) hs) (hi H0 H1 σ H f _ fun k hk Jt H2 e2 j2 wk D hD => ?_)
  refine lcS_run (xs := List.range k) (Γe := Γe) (G := fun _ => VI.below b) jo (f.es jo0 e2 j2) wk (by rw [List.length_range]; omega) (fun a _ => hd a) (fun a ha H1' v H3 f3 r3 Q' q' s h C cl fp => hg s h C cl fp a H0 H1' _ H3 v f3 r3 Q' q') (fun j hj a ha σ' H' f' Q' q' s h C cl fp => he j (by rw [List.length_range] at hj; omega) s h C cl fp a H0 H1 σ' H' f' Q' q') D hD fun H' acc e' j' h' k' => ?_
  rw [List.length_range] at j'
  rw [map_rep, List.length_range] at k'
  obtain ⟨wd, w1, w2, w3⟩ := oks_open k'
  have jz := up k hk H' j'
  exact ⟨D, acc, rfl, .inl ⟨.of h', fun l hl => q _ _ ((e2.trans e').trans (.of (Evl.Ex.new hl))) (jo1.mono (Evl.Ex.new hl) jz) ⟨⟨wd, by omega, w2⟩, l, acc, rfl, upd_same, w3.mono (.of (Evl.Ex.new hl))⟩⟩⟩
end
/-- a body over the fair list, entered -/
theorem runF {X : Cx} {sts : List Stmt} {N : List Str} {Ps : List VP} {a l : Addr} {ns : List Int} {n : Nat} {R : RK} {H1 H : Hp} {ws : List V} {Q : VK} {nx : St → Hp → Prop} (e1 : Ex H1 H) (n1 : H1 a = none) (kk : Pks Ps H1 ws) (fa : FairAt a l ns n H) (hb : GSS (Sa a) (Ua a l) (FairAt a l ns n) X sts (ctxF N Ps a) noN R) (q : ∀ v H', ES (Sa a) H H' → R v H' → Q v H') : wSs X sts { nx := nx, rt := Q } (L2.start N (.ref a :: ws)) H := by
  have e2 : Ex H1 (hide a H) := fun b o z => by
    have nb : b ≠ a := fun y => by
      subst y
      rw [n1] at z
      cases z
    rw [hide_ne nb]
    exact e1 b o z
  have noo : ∀ {j : Nat} {Qs : List VI}, (ctxF N Ps a)[j]? ≠ some (.o Qs) := fun {j Qs} h => by
    have hm := List.mem_of_getElem? h
    unfold ctxF at hm
    rcases List.mem_cons.mp hm with z | z
    · cases z
    · rcases List.mem_append.mp z with z | z
      · obtain ⟨_, _, z⟩ := List.mem_map.mp z
        cases z
      · cases List.eq_of_mem_replicate z
  have key : ∀ {Ps : List VP} {ws : List V}, Pks Ps H1 ws → Paired (fun (T : Ty) (v : V) => T.ok (hide a H) (hide a H) H v) (Ps.map Ty.e) ws := by
    intro Ps ws k
    induction k with
    | nil => exact .nil
    | @cons P v _ _ r t ih => exact .cons (P.mono e2 r) ih
  have f1 := fitS (N := N) (Ts := Ps.map Ty.e) (H1 := hide a H) (H := H) (x := .ref a) (ws := ws) hide_ex (key kk) (fun T hT Qs e => by
    subst e
    obtain ⟨_, _, z⟩ := List.mem_map.mp hT
    cases z)
  have f2 : Fit (hide a H) (hide a H) (ctxF N Ps a) (L2.start N (.ref a :: ws)) H := by
    refine ⟨f1.b, f1.ex, ?_, fun j T hj => ?_, fun j m Qs Rs v _ hj _ _ _ => absurd hj noo⟩
    · rw [f1.len]
      unfold ctxS ctxF
      simp
    · cases j with
      | zero =>
        unfold ctxF at hj
        cases hj
        exact .inr ⟨.ref a, rfl, rfl⟩
      | succ j =>
        refine f1.ok (j + 1) T ?_
        unfold ctxF at hj
        unfold ctxS
        rw [List.getElem?_cons_succ] at hj ⊢
        rw [List.length_map]
        exact hj
  exact hb (hide a H) (hide a H) _ H ⟨f2, fun b z => by rw [show b = a from z]; exact hide_self, fun b _ ⟨j, Qs, h1, _⟩ => noo h1, fa⟩ _ (fun _ H' z => z.elim) fun v H' e' z => q v H' (fun b o nb h => e' b o (by rw [hide_ne nb]; exact h)) z
section
variable {P : Program} {w : World} {K : PySem.W.Frag} {mg : Str → Option Value} {base : Heap} {x name qual : Str} {st : Stmt} {N ps : List Str} {k : Nat} {ι : Type} {cost : ι → Nat} {pre : ι → Prop} {args : ι → List VP} {res : ι → VI}
/-- a def of the fair list, with guards -/
theorem fq_FG (D : Df K mg x name qual st []) (S : FnScope N ps (defScope st)) (hbd : BindN name qual st ps) (hl : ∀ i, (args i).length + 1 = ps.length)
    (hb : ∀ (cdv : Value) (A : Around) (outer : List Env) (s : Shared) (H : Hp) (E : XK), A.guards = some [] → Room k (A.deeper (PyProof.Rows.envOfC qual (defScope st) s.heap.objs.size (He.ga K x) cdv)) → ∀ i a l ns n, pre i → n + cost i ≤ 100000 → ns.length ≤ 60 →
      GSS (Sa a) (Ua a l) (FairAt a l ns n) (cxOf CX0 P w K mg base N qual (defScope st) (He.ga K x) cdv A outer s H E).nox (defBody st) (ctxF N (args i) a) noN (fun v H => FairAt a l ns (n + cost i) H ∧ (res i).ok H v)) : FqG P w K mg base x (k + 1) ps (spF cost pre args res) := by
  obtain ⟨fd, F⟩ := D.fn
  refine ⟨_, fd, okG F S (fun vs H Q E h => ?_) (fun cdv A outer s H vs Q E hgd hr h => ?_), D.mg, F.kp, F.bindsN hbd⟩
  · obtain ⟨i, a, l, ns, n, ws, H1, _, rfl, kk, _⟩ := h
    rw [List.length_cons, ← Pks.len kk, hl]
  · obtain ⟨i, a, l, ns, n, ws, H1, hp, rfl, kk, e1, n1, fa, hc, hlen, q⟩ := h
    exact runF e1 n1 kk fa (hb cdv A outer s H E hgd hr i a l ns n hp hc hlen) fun v H' e z => q v H' e z.1 z.2
end
end K8
end
section
set_option Elab.async false
set_option linter.all false
set_option maxRecDepth 100000
set_option maxHeartbeats 1000000
set_option autoImplicit false
namespace K8
open PySem L2
open Evl (Ex)
/-! told_right, walked. -/
theorem withC_nil (cs : List Nat) : withC cs [] = cs := rfl
theorem tw_nn (cs : List Nat) : 0 ≤ tw cs := by
  unfold tw
  have key : ∀ (cs : List Nat) (a : Int), 0 ≤ a → 0 ≤ cs.foldl (fun (a : Int) (c : Nat) => a * (c : Int) ^ c) a := by
    intro cs
    induction cs with
    | nil => intro a h; exact h
    | cons c cs ih =>
      intro a h
      rw [List.foldl_cons]
      exact ih _ (Int.mul_nonneg h (Int.pow_nonneg (by omega)))
  exact key cs 1 (by decide)
theorem lrest_nn (cs : List Nat) (d : Nat) : 0 ≤ (lrest cs d).num := by
  unfold lrest
  rw [dnum (self_pos _)]
  refine Int.ediv_nonneg ?_ (by omega)
  unfold lrn
  have key : ∀ l : List Int, (∀ x ∈ l, 0 ≤ x) → 0 ≤ l.sum := by
    intro l
    induction l with
    | nil => intro _; decide
    | cons x l ih =>
      intro h
      rw [List.sum_cons]
      have h1 := h x (by simp)
      have h2 := ih fun y hy => h y (by simp [hy])
      omega
  refine key _ fun x hx => ?_
  obtain ⟨w, _, rfl⟩ := List.mem_map.mp hx
  exact tw_nn _
theorem wt_nn (cs : List Nat) : 0 ≤ (wt cs).num := by rw [← lrest_zero]; exact lrest_nn cs 0
theorem Lw.pk {cs wd : List Nat} {d : Nat} (h : Lw cs d) (hw : ∀ x ∈ wd, x < cs.length) (hl : wd.length ≤ d) : Pk cs (cnt cs.length wd) (d - wd.length) where
  l1 := h.l1
  l5 := h.l5
  lk := cnt_len _ _
  d4 := by have := h.d4; omega
  p := (h.gd.le (show d - wd.length ≤ d by omega)).2.2.2
  c := fun c hc => by
    obtain ⟨c1, c2⟩ := coa_ls (h.gd.le (show d - wd.length ≤ d by omega)) hc
    have h2 := h.step hw hl
    have e : addL (addL c (cnt cs.length wd)) cs = addL (withC cs wd) c := by
      rw [withC_cnt, addL_comm, addL_comm c, addL_assoc]
    rw [e]
    exact (h2.add (Nat.le_refl _) (by rw [withC_len]; exact c1) c2).cs
theorem few_ok {g d : Nat} (h1 : 1 ≤ g) (h5 : g ≤ 5) (h4 : d ≤ 4) : chs ((d + (g - 1) : Nat) : Int) (List.range (g - 1)) ≤ 5000 := few_b _ (List.mem_range.mpr (by omega)) _ (List.mem_range.mpr (by omega))
section
variable {P : Program} {w : World} {K : PySem.W.Frag} {mg : Str → Option Value} {base : Heap}
variable (T : Tx K mg) (O : To K mg) (M : Tm P K mg)
include T O M
theorem ok_told_right : FqG P w K mg base "_law_told_right" 12 ["_law_fair_here", "_law_promise", "_law_counts", "_law_days"] (spF (fun z : List Nat × Nat => 1 + z.2) (fun z => Lw z.1 z.2) (fun z => [(VI.pr K (.best z.1)).p, .lst (natz z.1), ei (z.2 : Int)]) (fun _ => VI.bl true)) :=
  fq_FG T.x_law_told_right sc_law_told_right (fun _ _ _ _ _ _ us hl => match us, hl with | [_, _, _, _], _ => rfl) (fun _ => rfl) fun cdv A outer s H E hgd hr ⟨cs, d⟩ a l ns n h hn hlen => by
    have h : Lw cs d := h
    have h1 := h.l1
    have h5 := h.l5
    have h4 := h.d4
    have hn : n + (1 + d) ≤ 100000 := hn
    have JF : JFam (Sa a) (Ua a l) a l ns (FairAt a l ns) := fairFam
    have jo : ∀ n, JOk (Sa a) (Ua a l) (FairAt a l ns n) := fun _ => fairAt_ok
    refine s_cons (s_set (J1 := FairAt a l ns (n + 1 + d)) (jo n) 4 (P := VI.ex fun wd : { wd : List Nat // wd.length < d + 1 ∧ ∀ x ∈ wd, x < cs.length } => VI.tup (natz wd.1)) sc_law_told_right.nd (vs_drawn (own := [("_law_day_here", 10)]) (Jn := fun k => FairAt a l ns (n + 1 + k)) (Γe := fun i => [.i (VI.is (.ref a)), .e (VI.pr K (.best cs)).p, .e (.lst (natz cs)), .e (ei (d : Int)), .u, .u, .u, .u, .u, .u, .i (VI.int (i : Int))]) T.bl (jo n) (fun _ => jo _) rfl sc_law_told_right.nd (blkOk_by (N := nm_law_told_right) (sc := defScope st_law_told_right) (by decide +kernel)) (by omega)
      (itx_range (jo n) (jo _) T.bl (by omega) (vs_fair (n := n) (n1 := n) (c := 1) JF (ok_law_deal T) (hr.mono (by decide)) hlen (vI 0) (is_cons (jo _) (jo _) (EV.s (jo _) (P := VI.int ((d + 1 : Nat) : Int)) ((e_add (vE 3) e_int).to (congrArg ei (by omega)))) is_nil) (deal_of (by omega) (Nat.lt_of_le_of_lt (show d + 1 ≤ 5 by omega) (by decide))) (by omega)))
      (fun _ => rfl) (fun s h C cl fp i => tg_name 10 sc_law_told_right.nd) (fun k hk s' h' C cl fp i => vs_fair (n := n + 1 + k) (n1 := n + 1 + k) (c := 1) JF (ok_law_deal T) (hr.mono (by decide)) hlen (vI 0) (is_cons (jo _) (jo _) (EV.s (jo _) (P := VI.int (cs.length : Int)) ((e_lenL T.bl (vE 2)).to (by rw [List.length_map]))) is_nil) (deal_of (by omega) (Nat.lt_of_le_of_lt h5 (by decide))) (by omega)) (fun k hk H j => j.up (by omega)) (jo _))) ?_
    refine s_open 4 rfl fun ⟨wd, w1, w2⟩ => ?_
    have w1 : wd.length ≤ d := by omega
    have hs := h.step w2 w1
    have hgu : (A.deeper (PyProof.Rows.envOfC "_law_told_right" (defScope st_law_told_right) s.heap.objs.size (He.ga K "_law_told_right") cdv)).guards = some [] := hgd
    have z1 : Sz 400 (lrest cs d) := (lrest_sz h).mono (by decide)
    have z2 : Sz 400 (lrest (withC cs wd) (d - wd.length)) := (lrest_sz hs).mono (by decide)
    have z3 : Sz 400 (wt (withC cs wd)) := (wt_sz hs.cs).mono (by decide)
    refine s_liftR (P := VI.bl true) (jo _) ?_ fun v H j q => ⟨by rw [← Nat.add_assoc]; exact j, q⟩
    refine g_cons (g_setF 5 sc_law_told_right.nd (ef_call (ok_law_with T) (hr.mono (by decide)) (cs, wd) ⟨w2, by show cs.length ≤ 1000; omega⟩ (ea_cons (vE 2) (ea_cons (vI 4) ea_nil)))) ?_
    refine g_cons (g_par 6 7 (P := VI.num (lrest cs d)) (Q := VI.num (lrest (withC cs wd) (d - wd.length))) rfl sc_law_told_right.nd (ev_call (ok_law_rest T) (hr.mono (by decide)) (cs, d) h (ea_cons (vE 2) (ea_cons (vE 3) ea_nil))) (ev_call (ok_law_rest T) (hr.mono (by decide)) (withC cs wd, d - wd.length) hs (ea_cons (vO 5) (ea_cons ((e_sub (vE 3) (e_lenT T.bl (vI (P := VI.tup (natz wd)) 4))).to (congrArg ei (by rw [List.length_map]; omega : (d : Int) - ((natz wd).length : Int) = ((d - wd.length : Nat) : Int)))) ea_nil)))) ?_
    refine g_cons (g_not (t_or (k := false) (l := false) (t_ne (x := .str (PyData.shown (.list [dN (lrest cs d), dN (lrest cs d)]))) (y := .str (PyData.shown (.list [dN (lrest cs d), dN (lrest cs d)]))) (e_repr2 T.bl hgu (roomU hr) (EF.v (ef_lst (ei_cons ((ev_call (ok_price T O M) hr (cs, d) (h.pk (wd := []) (fun _ h => nomatch h) (Nat.zero_le _)) (ea_cons (vE 1) (ea_cons (vE 3) ea_nil))).to (by show (VI.num (pric cs (cnt cs.length []) d)).p = _; rw [pric_eq (wd := []) h.gd (fun _ h => nomatch h), withC_nil])) (ei_cons ((ev_call (ok_best_rest T) (hr.mono (by decide)) (cs, d) ⟨h.cs, h1, h4, few_ok h1 h5 h4⟩ (ea_cons (vE 2) (ea_cons (vE 3) ea_nil))).to (by show (VI.num (rst cs d)).p = _; rw [rst_eq h.gd])) ei_nil)))) z1 (lrest_nn _ _)) (e_repr2 T.bl hgu (roomU hr) (EF.v (ef_lst (ei_cons (vI 6) (ei_cons (vI 6) ei_nil)))) z1 (lrest_nn _ _)) (by simp)) fun _ => (t_and (k := decide ((cs.sum : Int) = 0)) (l := false) (t_eqI (e_sumLn T.bl rfl (vE 2)) e_int) fun hk => ?_).to (Bool.and_false _))) ?_
    · have h0 : cs.sum = 0 := by have := of_decide_eq_true hk; omega
      have e0 : bprice cs.length d = lrest cs d := by rw [bprice_eq h.gd, ← zeros_of h0]
      exact (t_neNum (roomU hr) (ev_call (ok_best_price T) (hr.mono (by decide)) (cs.length, d) ⟨h1, h5, h4⟩ (ea_cons ((e_lenL T.bl (vE 2)).to (by rw [List.length_map])) (ea_cons (vE 3) ea_nil))) (vI 6)).to (by show (!decide (bprice cs.length d = lrest cs d)) = false; rw [e0]; simp)
    have hlw : (d : Int) - ((natz wd).length : Int) = ((d - wd.length : Nat) : Int) := by rw [List.length_map]; omega
    refine g_cons (g_not (t_ne (x := .str (PyData.shown (.list [dN (lrest (withC cs wd) (d - wd.length)), dN (lrest (withC cs wd) (d - wd.length))]))) (y := .str (PyData.shown (.list [dN (lrest (withC cs wd) (d - wd.length)), dN (lrest (withC cs wd) (d - wd.length))]))) (e_repr2 T.bl hgu (roomU hr) (EF.v (ef_lst (ei_cons ((ev_call (ok_rest T O M) hr (cs, d, wd) ⟨h.pk w2 w1, w1, h4, w2⟩ (ea_cons (vE 1) (ea_cons (vE 3) (ea_cons (vI 4) ea_nil)))).to (by show (VI.num (pric cs (cnt cs.length wd) (d - wd.length))).p = _; rw [pric_eq (h.gd.le (by omega)) w2])) (ei_cons ((ev_call (ok_best_rest T) (hr.mono (by decide)) (withC cs wd, d - wd.length) ⟨hs.cs, hs.l1, hs.d4, few_ok hs.l1 hs.l5 hs.d4⟩ (ea_cons (vO 5) (ea_cons ((e_sub (vE 3) (e_lenT T.bl (vI (P := VI.tup (natz wd)) 4))).to (congrArg ei hlw)) ea_nil))).to (by show (VI.num (rst (withC cs wd) (d - wd.length))).p = _; rw [rst_eq hs.gd])) ei_nil)))) z2 (lrest_nn _ _)) (e_repr2 T.bl hgu (roomU hr) (EF.v (ef_lst (ei_cons (vI 7) (ei_cons (vI 7) ei_nil)))) z2 (lrest_nn _ _)) (by simp))) ?_
    refine g_cons (g_asg (vs := [8, 9]) (ev_call (ok_law_worth T) (hr.mono (by decide)) (withC cs wd) hs.cs (ea_cons (vO 5) ea_nil)) (tg_tup rfl (tgs_cons (tg_name 8 sc_law_told_right.nd) (tgs_cons (tg_name 9 sc_law_told_right.nd) tgs_nil)))) ?_
    refine g_one (g_ret (e_eq (k := true) (x := .str (PyData.shown (.list [dN (wt (withC cs wd)), dN (wt (withC cs wd))]))) (y := .str (PyData.shown (.list [dN (wt (withC cs wd)), dN (wt (withC cs wd))]))) (e_repr2 T.bl hgu (roomU hr) (EF.v (ef_lst (ei_cons ((ev_call (ok_worth_at T O M) (hr.mono (by decide)) (cs, wd) ⟨h5, by show wd.length ≤ 1000; omega, w2, by show Cs (atW cs cs.length wd); rw [atW_eq]; exact hs.cs⟩ (ea_cons (vE 1) (ea_cons (vI 4) ea_nil))).to (by show (VI.num (wt (atW cs cs.length wd))).p = _; rw [atW_eq])) (ei_cons (ev_call (ok_best_worth T) (hr.mono (by decide)) (withC cs wd) ⟨hs.cs, hs.l1⟩ (ea_cons (vO 5) ea_nil)) ei_nil)))) z3 (wt_nn _)) (e_repr2 T.bl hgu (roomU hr) (EF.v ((ef_rep (EF.v (ef_lst (ei_cons (P := VI.num (wt (withC cs wd))) (ev_call (ok_law_number T) (hr.mono (by decide)) (tw (withC cs wd), (((withC cs wd).sum : Nat) : Int) ^ (withC cs wd).sum) ⟨self_pos _, ?_, ?_⟩ (ea_cons (vI 8) (ea_cons (vI 9) ea_nil))) ei_nil))) (n := 2) e_int (by decide) (by decide)).to rfl)) z3 (wt_nn _)) (by simp)))
    · exact Nat.lt_of_lt_of_le (N_lt hs.cs) (pow_le (by decide))
    · exact Nat.lt_of_lt_of_le (tw_lt hs.cs) (pow_le (by have := hs.l5; omega))
end
end K8
end
section
set_option Elab.async false
set_option linter.all false
set_option maxRecDepth 100000
set_option maxHeartbeats 1000000
set_option autoImplicit false
namespace K8
open PySem L2
open Evl (Ex)
/-! The law's own rules; the fair list, made. -/
/-- fewer changing things, less known -/
theorem FS.drop {S U S' U' : Addr → Prop} {J J' : Hp → Prop} {Γ : Ctx} {H0 H1 H : Hp} {σ : St} (h : FS S U J Γ H0 H1 σ H) (hS : ∀ a, S' a → S a) (hU : ∀ a, U' a → U a) (hJ : ∀ H, J H → J' H) : FS S' U' J' Γ H0 H1 σ H := ⟨h.f, fun a s => h.nx a (hS a s), fun a u => h.no a (hU a u), hJ H h.j⟩
section
variable {S U S' U' : Addr → Prop} {J J' J1 J2 : Hp → Prop} {X : Cx} {Γ Γ' Γ2 : Ctx} {pos p : Pos} {e a b c : Expr} {st : Stmt} {sts A : List Stmt} {N : NK} {R : RK} {H0 H1 H : Hp} {σ : St}
theorem GSS.drop (h : GSS S' U' J' X sts Γ N R) (hS : ∀ a, S' a → S a) (hU : ∀ a, U' a → U a) (hJ : ∀ H, J H → J' H) : GSS S U J X sts Γ N R := fun H0 H1 σ H f D hn hr => h H0 H1 σ H (f.drop hS hU hJ) D hn hr
theorem own_set {i : Nat} {x : Addr} {P : VI} {v : V} (h : Own (Γ.set i (.i P)) (σ.set i (some v)) x) : Own Γ σ x := by
  obtain ⟨j, Ps, h1, h2⟩ := h
  have jl : j < Γ.length := by
    have := (List.getElem?_eq_some_iff.mp h1).1
    simpa using this
  by_cases z : j = i
  · subst z
    rw [List.getElem?_set_self jl] at h1
    cases h1
  · rw [List.getElem?_set_ne (Ne.symm z)] at h1 h2
    exact ⟨j, Ps, h1, h2⟩
/-- what is new joins the changing things -/
theorem FS.join {Sk Sn : Addr → Prop} {JN : Hp → Prop} {H2 : Hp} (jo : JOk S U J) (f : FS S U J Γ H0 H1 σ H) (e2 : Ex H H2) (ks : ∀ x, Sk x → Sn x) (fr : ∀ x, Sn x → H x = none) (j : JN H2) : FS (fun x => S x ∨ Sk x) (fun x => U x ∨ Sn x) (fun H => J H ∧ JN H) Γ H0 H1 σ H2 := by
  have g := f.mono jo e2
  exact ⟨g.f, fun x s => s.elim (f.nx x) fun z => Evl.fresh_back f.f.ex (fr x (ks x z)), fun x u => u.elim (f.no x) (fun z o => by
    obtain ⟨_, ys, q⟩ := f.f.own o
    rw [fr x z] at q
    cases q), g.j, j⟩
/-- x = e, e new things -/
theorem s_newV {ν : Type} {Sk Sn : ν → Addr → Prop} {val : ν → V} {JN : ν → Hp → Prop} {y : Str} (jo : JOk S U J) (ks : ∀ n x, Sk n x → Sn n x) (i : Nat) (hN : X.N.Nodup) (h : EN X e Γ Sn val JN) (hrest : ∀ n, GSS (fun x => S x ∨ Sk n x) (fun x => U x ∨ Sn n x) (fun H => J H ∧ JN n H) X sts (Γ.set i (.i (VI.is (val n)))) N R) (hi : X.N[i]? = some y := by rfl) (hx : Loc X.env.scope y := by first | exact Or.inl rfl | exact Or.inr rfl)
    (hs : swapsWith e (some (.Name y p)) pos.line X.env = pure false := by rfl) (hf : X.fn y = true ∨ X.env.scope.names.lookup y = some .local := by first | exact .inl rfl | exact .inr rfl) : GSS S U J X (.Assign [.Name y p] e pos :: sts) Γ N R := fun H0 H1 σ H f D hn hr =>
  wSs_of (pss_cons (ps_set hN hi hx pe_w hs hf) pss_w) (h H0 H1 σ H f.f _ fun n H2 e2 fr j2 => hrest n H0 H1 _ H2 ((f.join jo e2 (ks n) fr j2).setI (P := VI.is (val n)) i rfl) D hn hr)
/-- x, y = e, [] with e new things -/
theorem s_newPar {ν : Type} {Sn : ν → Addr → Prop} {val : ν → V} {JN : ν → Hp → Prop} {x y : Str} {px py pt lp : Pos} {kt k2 : Nat} {pt2 : Pos} (jo : JOk S U J) (jn : ∀ n, JOk (Sn n) (Sn n) (JN n)) (i j : Nat) (hc : X.calm = true) (hN : X.N.Nodup) (h : EN X e Γ Sn val JN) (hrest : ∀ n, GSS (fun x => S x ∨ Sn n x) (fun x => U x ∨ Sn n x) (fun H => J H ∧ JN n H) X sts ((Γ.set i (.i (VI.is (val n)))).set j (.o [])) N R) (hl : j < Γ.length) (hi : X.N[i]? = some x := by rfl) (hj : X.N[j]? = some y := by rfl) (hij : i ≠ j := by decide)
    (hx : X.env.scope.names.lookup x = some .local := by rfl) (hy : X.env.scope.names.lookup y = some .local := by rfl)
    (hw : swappedStores [.Tuple [.Name x px, .Name y py] kt pt] (.Tuple [e, .List [] lp] k2 pt2) X.env = pure (some [x, y]) := by rfl)
    (hs : swapsWithSole [.Tuple [.Name x px, .Name y py] kt pt] (.Tuple [e, .List [] lp] k2 pt2) pos.line X.env = pure false := by rfl) (he : starEach [e, .List [] lp] X.env = (false, eval e X.env) :: starEach [.List [] lp] X.env := by rfl) (he2 : starEach [.List [] lp] X.env = (false, eval (.List [] lp) X.env) :: starEach [] X.env := by rfl) :
    GSS S U J X (.Assign [.Tuple [.Name x px, .Name y py] kt pt] (.Tuple [e, .List [] lp] k2 pt2) pos :: sts) Γ N R := fun H0 H1 σ H f D hn hr =>
  wSs_of (pss_cons (ps_par hc hN hi hj hij hx hy (pa_cons pe_w (pa_cons pe_w pa_nil he2) he) hw hs) pss_w) (h H0 H1 σ H f.f _ fun n H2 e2 fr j2 => by
    have g := f.join jo e2 (fun _ z => z) fr j2
    refine ef_lst (pos := lp) ei_nil (Nat.zero_le _) H0 H1 σ H2 g.f _ fun l xs H3 e3 n3 h3 k3 => ⟨_, _, rfl, ?_⟩
    exact hrest n H0 H1 _ H3 (((g.setI (P := VI.is (val n)) i rfl).setO (jo.and (jn n)) (jo.and (jn n)) (.of e3) ((jo.and (jn n)).mono e3 g.j) j n3 h3 k3)) D hn hr)
/-- x, y = a, b -/
theorem s_par {P Q : VI} {x y : Str} {px py pt : Pos} {kt k2 : Nat} {pt2 : Pos} (jo : JOk S U J) (jo1 : JOk S U J1) (i j : Nat) (hc : X.calm = true) (hN : X.N.Nodup) (h : EIS S U J J1 X [a, b] Γ [P, Q]) (hi : X.N[i]? = some x := by rfl) (hj : X.N[j]? = some y := by rfl) (hij : i ≠ j := by decide)
    (hx : X.env.scope.names.lookup x = some .local := by rfl) (hy : X.env.scope.names.lookup y = some .local := by rfl)
    (hw : swappedStores [.Tuple [.Name x px, .Name y py] kt pt] (.Tuple [a, b] k2 pt2) X.env = pure (some [x, y]) := by rfl)
    (hs : swapsWithSole [.Tuple [.Name x px, .Name y py] kt pt] (.Tuple [a, b] k2 pt2) pos.line X.env = pure false := by rfl) :
    GTS S U J X (.Assign [.Tuple [.Name x px, .Name y py] kt pt] (.Tuple [a, b] k2 pt2) pos) Γ (nextS S U J1 ((Γ.set i (.i P)).set j (.i Q))) R := fun H0 H1 σ H f D hn hr =>
  wS_of (ps_par hc hN hi hj hij hx hy pa_w hw hs) (h H0 H1 σ H f _ fun vs H2 e2 j2 k => by
    cases k with
    | cons r t =>
      cases t with
      | cons r' t =>
        cases t
        exact ⟨_, _, rfl, hn _ H2 (((f.es jo e2 j2).setI i r).setI j r')⟩)
/-- x.append(e) -/
theorem s_append (i : Nat) {x : Str} {q1 q2 : Pos} {Ps : List VI} {P : VI} (jo : JOk S U J) (jo1 : JOk S U J1) (hΓ : Γ[i]? = some (.o Ps)) (h : EVS S U J J1 X e Γ P) (hl : Ps.length ≤ 100000)
    (hE : PE X (.Call (.Attribute (.Name x p) "append" q1) [e] [] q2) (tBM X.K "list" rAppend (tVar i) (tCons (wE X e) tNil)))
    (hs : swapsWith (.Call (.Attribute (.Name x p) "append" q1) [e] [] q2) none pos.line X.env = pure false := by rfl) :
    GTS S U J X (.Expr (.Call (.Attribute (.Name x p) "append" q1) [e] [] q2) pos) Γ (nextS S U J1 (Γ.set i (.o (Ps ++ [P])))) R := fun H0 H1 σ H f D hn hr => by
  obtain ⟨v, s1, l, xs, rfl, n, h1, k⟩ := f.f.get hΓ (by simp)
  have nu : ¬ U l := fun u => f.no l u ⟨i, Ps, hΓ, s1⟩
  refine wS_of (ps_expr hE hs) ⟨_, s1, .inl ⟨rfl, xs, .of h1⟩, h H0 H1 σ H f _ fun w H2 e2 j2 r => ?_⟩
  have g := f.es jo e2 j2
  have h2 := e2 l _ (fun s => nu (jo.su l s)) h1
  have xx : ∀ u, ExI H2 (upd H2 l u) := fun u => .upd h2 fun z => z
  refine ⟨l, xs, w, rfl, rfl, h2, by rw [← k.len]; exact sizeL hl, ?_⟩
  refine hn σ _ ⟨g.f.wr hΓ s1 h2 (oks_append1 (k.mono (exI_es jo f.j e2)) r), g.nx, fun x u o => ?_, jo1.mono' (xx _) (fun b o u z => by rw [upd_ne (fun y : b = l => nu (by rw [← y]; exact u))]; exact z) g.j⟩
  obtain ⟨m, Qs, z1, z2⟩ := o
  by_cases z : m = i
  · subst z
    exact g.no x u ⟨m, Ps, hΓ, z2⟩
  · rw [List.getElem?_set_ne (Ne.symm z)] at z1
    exact g.no x u ⟨m, Qs, z1, z2⟩
/-- the last of one's own list is opened -/
theorem s_openL {ι : Type} {F : ι → VI} {Ps : List VI} (i : Nat) (hΓ : Γ[i]? = some (.o (Ps ++ [VI.ex F]))) (h : ∀ z, GSS S U J X sts (Γ.set i (.o (Ps ++ [F z]))) N R) : GSS S U J X sts Γ N R := fun H0 H1 σ H f D hn hr => by
  have il : i < Γ.length := (List.getElem?_eq_some_iff.mp hΓ).1
  obtain ⟨v, s1, l, xs, rfl, n, h1, k⟩ := f.f.get hΓ (by simp)
  have key : ∀ {Ps : List VI} {xs : List V}, Oks (Ps ++ [VI.ex F]) H xs → ∃ z, Oks (Ps ++ [F z]) H xs := by
    intro Ps
    induction Ps with
    | nil =>
      intro xs k
      cases k with
      | cons r t =>
        cases t
        obtain ⟨z, r⟩ := r
        exact ⟨z, .cons r .nil⟩
    | cons P Ps ih =>
      intro xs k
      cases k with
      | cons r t =>
        obtain ⟨z, t⟩ := ih t
        exact ⟨z, .cons r t⟩
  obtain ⟨z, k⟩ := key k
  have on : ∀ {j : Nat} {Qs : List VI}, (Γ.set i (.o (Ps ++ [F z])))[j]? = some (.o Qs) → ∃ Rs, Γ[j]? = some (.o Rs) := fun {j Qs} hj => by
    by_cases y : j = i
    · subst y
      exact ⟨_, hΓ⟩
    · rw [List.getElem?_set_ne (Ne.symm y)] at hj
      exact ⟨_, hj⟩
  refine h z H0 H1 σ H ⟨⟨f.f.b, f.f.ex, by simp [f.f.len], fun j T hj => ?_, fun j m Qs Rs v hjm hj hm sj sm => ?_⟩, f.nx, fun x u ⟨j, Qs, hj, sj⟩ => ?_, f.j⟩ D hn hr
  · by_cases y : j = i
    · subst y
      rw [List.getElem?_set_self il] at hj
      cases hj
      exact .inr ⟨_, s1, l, xs, rfl, n, h1, k⟩
    · rw [List.getElem?_set_ne (Ne.symm y)] at hj
      exact f.f.ok j T hj
  · obtain ⟨_, q1⟩ := on hj
    obtain ⟨_, q2⟩ := on hm
    exact f.f.ap j m _ _ v hjm q1 q2 sj sm
  · obtain ⟨Rs, q⟩ := on hj
    exact f.no x u ⟨j, Rs, q, sj⟩
/-- if a != b: (never), a changing things -/
theorem s_notNe {r : Rat} (hu : X.A.units + 64 < cLine) (jo : JOk S U J) (jo1 : JOk S U J1) (ha : EVS S U J J1 X a Γ (VI.num r)) (hb : EVS S U J1 J1 X b Γ (VI.num r)) : GTS S U J X (.If (.Compare a [.NotEq] [b] p) A [] pos) Γ (nextS S U J1 Γ) R := fun H0 H1 σ H f D hn hr =>
  wS_of (ps_if (pt_cmpR (op_neD hu) pe_w pe_w (nomark _)) pss_w pss_nil) (ha H0 H1 σ H f _ fun x H2 e2 j2 r2 => hb H0 H1 σ H2 (f.es jo e2 j2) _ fun y H3 e3 j3 r3 => by
    refine ⟨dN r, dN r, dp_num ((VI.num r).mono (exI_es jo1 j2 e3) r2), dp_num r3, shp_num r, shp_num r, ?_⟩
    rw [eqv_num, decide_eq_true rfl]
    refine ⟨false, rfl, ?_⟩
    show if false = true then _ else _
    rw [if_neg Bool.false_ne_true]
    exact hn σ H3 ((f.es jo e2 j2).es jo1 e3 j3))
/-- a thing of some kind is opened, in a block -/
theorem g_open {ι : Type} {F : ι → VI} {Rt : Ty} (i : Nat) (hΓ : Γ[i]? = some (.i (VI.ex F))) (h : ∀ z, GS X sts (Γ.set i (.i (F z))) N Rt) : GS X sts Γ N Rt := fun H0 H1 σ H f D hn hr => by
  obtain ⟨v, s1, z, r⟩ := f.get hΓ (by simp)
  have g := f.setI i r
  rw [set_same s1] at g
  exact h z H0 H1 σ H g D hn hr
end
/-! the script, the fair list made -/
def scrV (K : PySem.W.Frag) (ns : List Int) : VP := ⟨fun H v => ∃ a, v = .ref a ∧ SqL K H a (ns.map V.int), fun e ⟨a, h1, h2⟩ => ⟨a, h1, h2.imp (fun z => z.imp (fun y => e a _ y) fun ⟨o, y⟩ => ⟨o, e a _ y⟩) id⟩⟩
theorem cut60 (ns : List Int) : cutV (ns.map V.int) none (some 60) = (ns.take 60).map V.int := by
  unfold cutV
  have e1 : HT.sIx (ns.map V.int).length 0 none = 0 := rfl
  have e2 : HT.sIx (ns.map V.int).length (ns.map V.int).length (some 60) = min 60 ns.length := by
    unfold HT.sIx
    rw [List.length_map]
    show (if (60 : Int) < 0 then _ else min (60 : Int).toNat ns.length) = _
    rw [if_neg (by decide)]
    rfl
  rw [e1, e2, List.drop_zero, Nat.sub_zero, ← List.map_take]
  refine congrArg (List.map V.int) ?_
  apply List.ext_getElem?
  intro i
  rw [List.getElem?_take, List.getElem?_take]
  by_cases h : i < ns.length
  · by_cases h2 : i < 60
    · rw [if_pos (by omega), if_pos h2]
    · rw [if_neg (by omega), if_neg h2]
  · rw [List.getElem?_eq_none (by omega)]
    split <;> split <;> rfl
section
variable {X : Cx} {Γ : Ctx} {pos p p2 : Pos} {e a b : Expr} {ns : List Int}
theorem ef_scr (h : EV X e Γ (scrV X.K ns)) {hi : Option Expr} (hu : EP' X hi Γ (some 60)) : EF X (.Subscript e (.Slice none hi none p2) pos) Γ (izs (ns.take 60)) := fun H0 H1 σ H f Q q => by
  obtain ⟨tu, pu, ku⟩ := hu
  exact wE_of (pe_slice sl_list pe_w po_none pu) (h H0 H1 σ H f _ fun x H2 e2 ⟨p, e1, h1⟩ => ku H0 H1 σ H2 (f.mono e2) _ fun H4 e4 =>
    ⟨p, _, e1, (h1.imp (fun z => z.imp (fun y => e4 _ _ y) fun ⟨o, y⟩ => ⟨o, e4 _ _ y⟩) id), fun l hl => q l _ _ ((e2.trans e4).trans (Evl.Ex.new hl)) (Evl.fresh_back (e2.trans e4) hl) (by rw [cut60]; exact upd_same) (oks_izs _)⟩)
theorem izs_eq {H : Hp} : ∀ {ns : List Int} {xs : List V}, Oks (izs ns) H xs → xs = ns.map V.int
  | [], _, .nil => rfl
  | n :: ns, _, .cons r t => by
    rw [List.map_cons, ← izs_eq t]
    exact congrArg (· :: _) r
/-- [e, 0, 0], e a new list of whole numbers -/
theorem en_fair {j1 j2 : _} {q1 q2 : Pos} (h : EF X e Γ (izs ns)) (he : starEach [e, .Constant (.int 0) j1 q1, .Constant (.int 0) j2 q2] X.env = (false, eval e X.env) :: starEach [.Constant (.int 0) j1 q1, .Constant (.int 0) j2 q2] X.env := by rfl) : EN X (.List [e, .Constant (.int 0) j1 q1, .Constant (.int 0) j2 q2] pos) Γ (fun n : Addr × Addr => Ua n.1 n.2) (fun n => .ref n.1) (fun n => FairX n.1 n.2 ns 0 0) := fun H0 H1 σ H f Q q =>
  wE_of (pe_lst (pa_cons pe_w (pa_cons pe_w (pa_cons pe_w pa_nil)) he)) (h H0 H1 σ H f _ fun l xs H2 e2 n2 h2 k2 => e_int H0 H1 σ H2 (f.mono e2) _ fun v3 H3 e3 r3 => e_int H0 H1 σ H3 (f.mono (e2.trans e3)) _ fun v4 H4 e4 r4 => ⟨Nat.le_of_ble_eq_true rfl, fun a ha => by
    obtain rfl : v3 = .int 0 := r3
    obtain rfl : v4 = .int 0 := r4
    have h4 := (e3.trans e4) _ _ h2
    have la : l ≠ a := fun z => by rw [z, ha] at h4; cases h4
    have ex : xs = ns.map V.int := izs_eq k2
    subst ex
    exact q (a, l) _ (((e2.trans e3).trans e4).trans (Evl.Ex.new ha)) (fun x s => by
      rcases s with rfl | rfl
      · exact Evl.fresh_back ((e2.trans e3).trans e4) ha
      · exact n2) ⟨upd_same, by rw [upd_ne la]; exact h4, la⟩⟩)
end
end K8
end
section
set_option Elab.async false
set_option linter.all false
set_option maxRecDepth 100000
set_option maxHeartbeats 1000000
set_option autoImplicit false
namespace K8
open PySem L2
open Evl (Ex)
/-! The law: its numbers; its fair list; the mixes at the end. -/
theorem Mx.shr {g : Nat} {ss : List Rat} (h : Mx g ss) : Shr g ss := ⟨h.l, h.sz⟩
theorem Mx.nn' {g : Nat} {ss : List Rat} (h : Mx g ss) : ∀ r ∈ ss, 0 ≤ r := fun r hr => Rat.num_nonneg.mp (h.nn r hr)
theorem Mx.nm {ss : List Rat} {cs : List Nat} (h : Mx cs.length ss) (h1 : 1 ≤ cs.length) (h5 : cs.length ≤ 5) (hc : ∀ c ∈ cs, c ≤ 10) : Nm ss cs := ⟨by rw [h.l]; exact h1, by rw [h.l]; exact h5, h.l.symm, h.sz, h.nn, h.one, hc⟩
theorem Ms.mk {g : Nat} {mk : List (List Rat)} (h : Ms g mk) (hl : mk.length ≤ 4) : Mk g mk := ⟨hl, fun rs hr => h rs hr⟩
theorem lpurse_sz {cs : List Nat} {d : Nat} {mk : List (List Rat)} (h : Bk cs d mk) : Sz 4000 (lpurse cs d mk) := by
  have z := h.szs1.2 ((held cs.length mk).map fun z => z.2 * lrest (addL cs z.1) (d - mk.length)).length
  rw [List.take_length] at z
  rw [← purse_eq]
  exact z
theorem named_sz {ss : List Rat} {cs : List Nat} (h : Nm ss cs) : Sz 500 (namedW ss cs) := (Sz.prod (namedW_szs h.sz h.c)).mono (by rw [List.length_map, List.length_zip]; have := h.l5; omega)
theorem dotp_sz {ss : List Rat} {mk : List (List Rat)} (h5 : ss.length ≤ 5) (hl : mk.length ≤ 4) (hs : ∀ r ∈ ss, Sz 8 r) (h : Ms ss.length mk) : Sz 500 (rprod (mk.map (dot ss))) := by
  refine (Sz.prod (k := 70) fun r hr => ?_).mono (by rw [List.length_map]; omega)
  obtain ⟨dy, hd, rfl⟩ := List.mem_map.mp hr
  obtain ⟨z1, z2⟩ := dots_sz (g := ss.length) h5 ⟨rfl, hs⟩ (h dy hd)
  exact (Sz.sum z1).mono (by omega)
theorem mkl_sz {ss : List Rat} {cs : List Nat} {mk : List (List Rat)} (h : Nm ss cs) (hl : mk.length ≤ 4) (hm : Ms ss.length mk) : Sz 1000 (rprod (mkl ss cs mk)) := by
  rw [mkl_prod]
  exact ((dotp_sz h.l5 hl h.sz hm).mul (named_sz h)).mono (by decide)
theorem not_below {r t : Rat} (h : t ≤ r) : decide (r.num * (t.den : Int) < t.num * (r.den : Int)) = false := by
  refine decide_eq_false fun z => ?_
  have := Rat.lt_iff r t |>.mpr z
  exact absurd h (Rat.not_le.mpr this)
theorem one_sub {r : Rat} (h : Sh1 r) : Mx 2 [r, 1 + -r] := by
  obtain ⟨h1, h2, h3⟩ := h
  have fr : Fr r.den r.den (1 + -r) := by
    refine ⟨r.den_pos, (r.den : Int) - r.num, ?_, ?_⟩
    · rw [Rat.intCast_sub, ← rnum r, Rat.add_mul, Rat.one_mul, Rat.neg_mul, Rat.sub_eq_add_neg]
    · have a1 := Rat.num_nonneg.mpr h2
      have a2 : r.num ≤ (r.den : Int) := by
        have := (Rat.le_iff r 1).mp h3
        simpa using this
      omega
  refine ⟨rfl, fun x hx => ?_, fun x hx => ?_, ?_⟩
  · rcases List.mem_cons.mp hx with rfl | hx
    · exact h1
    · rw [List.mem_singleton.mp hx]
      exact fr.sz h1.2 h1.2
  · rcases List.mem_cons.mp hx with rfl | hx
    · exact Rat.num_nonneg.mpr h2
    · rw [List.mem_singleton.mp hx]
      refine Rat.num_nonneg.mpr ?_
      grind
  · rw [rsum_cons, rsum_cons, rsum_nil]
    grind
/-- n, and c more so many times -/
def adk (n c : Nat) : Nat → Nat
  | 0 => n
  | k + 1 => adk n c k + c
theorem adk_eq (n c : Nat) : ∀ k, adk n c k = n + c * k
  | 0 => rfl
  | k + 1 => by
    unfold adk
    rw [adk_eq n c k, Nat.mul_succ, Nat.add_assoc]
section
variable {X : Cx} {Γ : Ctx} {pos p : Pos} {e a b : Expr}
theorem ev_open {ι : Type} {F : ι → VI} {P : VP} (i : Nat) (hΓ : Γ[i]? = some (.i (VI.ex F))) (h : ∀ z, EV X e (Γ.set i (.i (F z))) P) : EV X e Γ P := fun H0 H1 σ H f Q q => by
  obtain ⟨v, s1, z, r⟩ := f.get hΓ (by simp)
  have g := f.setI i r
  rw [set_same s1] at g
  exact h z H0 H1 σ H g Q q
/-- x not in a list, deep -/
theorem t_notInD {P Q : VP} {d : PyData} {ds : List PyData} {k : Bool} (hu : X.A.units + 65 < cLine) (ha : EV X a Γ P) (hb : EV X b Γ Q) (hP : ∀ H v, P.ok H v → Dp X.K H v d) (hQ : ∀ H v, Q.ok H v → Dp X.K H v (.list ds)) (s1 : SeqAt.shaped d = true) (s2 : SeqAt.shaped (.list ds) = true) (hk : (!ds.any fun z => PyData.eqv z d) = k) (hm : behindInMarks .NotIn b = false := by rfl) : ET X (.Compare a [.NotIn] [b] pos) Γ k :=
  t_cmp (op_notInD hu) hm ha hb fun x y H hx hy R q => ⟨d, ds, hP H x hx, hQ H y hy, s1, s2, by rw [hk]; exact q H Ex.r⟩
end
section
variable {P : Program} {w : World} {K : PySem.W.Frag} {mg : Str → Option Value} {base : Heap} (T : Tx K mg)
include T
theorem ok_law_fair : Fq P w K mg base "_law_fair" 1 ["_law_script"] [] (spN (fun _ : List Int => True) (fun ns => [scrV K ns]) (fun n : Addr × Addr => Ua n.1 n.2) (fun n => .ref n.1) (fun ns n => FairX n.1 n.2 (ns.take 60) 0 0)) :=
  fq_N T.x_law_fair sc_law_fair (fun _ _ _ _ _ _ us hl => match us, hl with | [_], _ => rfl) (fun _ => rfl) fun cdv A outer s H E hr ns _ => by
    refine gn_ret (en_fair (ns := ns.take 60) ((ef_lc (own := [("_law_cell", 1)]) (xs := ns.take 60) (F := VI.int) (G := VI.int) (Γe := fun c => [.e (scrV K ns), .i (VI.int c)]) rfl sc_law_fair.nd (blkOk_by (N := nm_law_fair) (sc := defScope st_law_fair) (by decide +kernel))
      (it_list (EF.l (ef_scr (vE 0) (ep_some e_int))) rfl) (by rw [List.length_take]; omega) (fun s h C cl fp z hz => tg_name 1 sc_law_fair.nd) (fun s h C cl fp z hz => e_int1 T.bl (vI 1)))))
end
end K8
end
section
set_option Elab.async false
set_option linter.all false
set_option maxRecDepth 100000
set_option maxHeartbeats 1000000
set_option autoImplicit false
namespace K8
open PySem L2
open Evl (Ex)
/-! The law's turn, its end: mixes made, held against the book. -/
abbrev LX (P : Program) (w : World) (K : PySem.W.Frag) (mg : Str → Option Value) (base : Heap) (cdv : Value) (A : Around) (outer : List Env) (s : Shared) (H : Hp) (E : XK) : Cx := (cxOf CX0 P w K mg base nm_law "law" (defScope st_law) (He.ga K "law") cdv A outer s H E).nox
/-- the rows of a turn -/
def turnB : List Stmt := match (defBody st_law)[1]? with
  | some (Stmt.For _ _ b _ _) => b
  | _ => []
abbrev SB (a b lb : Addr) : Addr → Prop := fun x => Sa a x ∨ S2 b lb x
abbrev UB (a l b lb : Addr) : Addr → Prop := fun x => Ua a l x ∨ S2 b lb x
abbrev JB (P : Program) (w : World) (K : PySem.W.Frag) (a l : Addr) (ms : List Int) (cs : List Nat) (d : Nat) (mk : List (List Rat)) (b lb : Addr) (n : Nat) (H : Hp) : Prop := FairAt a l ms n H ∧ BkAt P w K (bk1 K cs d mk lb) cs d mk b lb H
theorem jb_ok {P : Program} {w : World} {K : PySem.W.Frag} {a l : Addr} {ms : List Int} {cs : List Nat} {d : Nat} {mk : List (List Rat)} {b lb : Addr} {n : Nat} : JOk (SB a b lb) (UB a l b lb) (JB P w K a l ms cs d mk b lb n) := fairAt_ok.and bk_ok
theorem fair_ne {P : Program} {w : World} {K : PySem.W.Frag} {a l : Addr} {ms : List Int} {cs : List Nat} {d : Nat} {mk : List (List Rat)} {b lb : Addr} {n : Nat} {H : Hp} {fs : List (Str × VI)} (h : FairAt a l ms n H) (k : BkAt P w K fs cs d mk b lb H) : ∀ x, S2 b lb x → ¬ Ua a l x := fun x s u => by
  obtain ⟨t, c, _, h1, h2, _⟩ := h
  have e1 : ∃ C dx gs, H x = some (.ins C dx gs) := by
    rcases s with s | s
    · obtain ⟨dx, gs, z, _⟩ := k.1
      exact ⟨_, dx, gs, by rw [show x = b from s]; exact z⟩
    · obtain ⟨dx, gs, z, _⟩ := k.2
      exact ⟨_, dx, gs, by rw [show x = lb from s]; exact z⟩
  obtain ⟨C, dx, gs, e1⟩ := e1
  rcases u with rfl | rfl
  · rw [h1] at e1
    cases e1
  · rw [h2] at e1
    cases e1
theorem jb_fam {P : Program} {w : World} {K : PySem.W.Frag} {a l : Addr} {ms : List Int} {cs : List Nat} {d : Nat} {mk : List (List Rat)} {b lb : Addr} : JFam (SB a b lb) (UB a l b lb) a l ms (JB P w K a l ms cs d mk b lb) where
  ok := fun _ => jb_ok
  s := .inl rfl
  get := fun h => h.1
  put := fun {n n' H H'} h e f => put_l (J1' := FairAt a l ms n') (fairAt_ok (n := n)) bk_ok (fun H x y c u s => fair_ne x y c u (.inl s)) H H' h e f
/-- the slots at a turn's end -/
abbrev CB (K : PySem.W.Frag) (ns : List Int) (a : Addr) (T2 : Ty) (cs : List Nat) (d : Nat) (bk : Ty) (mk : List (List Rat)) (mx t11 t12 t14 : Ty) : Ctx := [.e (scrV K ns), .i (VI.is (.ref a)), T2, .i (VI.int (cs.length : Int)), .o (natz cs), .i (VI.int (d : Int)), .i (VI.pr K (.best cs)), bk, .o (rows mk), .u, mx, t11, t12, .u, t14, .u]
theorem mxs_cat (g m k : Nat) : List.replicate m (VI.mx g) ++ List.replicate k (VI.mx g) = List.replicate (m + k) (VI.mx g) := List.replicate_append_replicate
theorem rows_two {mk : List (List Rat)} (h : ∀ dy ∈ mk, dy.length = 2) : rows ((mk.map fun dy => (dy.getD 0 0, dy.getD 1 0)).map fun y => [y.1, y.2]) = rows mk := by
  rw [List.map_map]
  congr 1
  refine (List.map_congr_left fun dy hd => ?_).trans (List.map_id' mk)
  have := h dy hd
  match dy, this with
  | [x, y], _ => rfl
theorem dp_days {K : PySem.W.Frag} {H : Hp} {mk : List (List Rat)} {v : V} (h : (VP.lst (rows mk)).ok H v) : Dp K H v (.list (mk.map fun dy => .tuple (dy.map dN))) := by
  obtain ⟨a, xs, rfl, h1, k⟩ := h
  refine .lst (.inl (.inl h1)) ?_
  clear h1
  have row : ∀ {dy : List Rat} {ys : List V}, Oks (nums dy) H ys → DpAll K H ys (dy.map dN) := by
    intro dy
    induction dy with
    | nil =>
      intro ys k
      cases k
      exact .nil
    | cons r dy ih =>
      intro ys k
      cases k with
      | cons q t => exact .cons (dp_num q) (ih t)
  induction mk generalizing xs with
  | nil =>
    cases k
    exact .nil
  | cons dy mk ih =>
    cases k with
    | cons q t =>
      obtain ⟨p, ys, rfl, h2, k2⟩ := q
      exact .cons (.tup (.inl (.inl h2)) (row k2)) (ih _ t)
theorem shp_days (mk : List (List Rat)) : SeqAt.shaped (.list (mk.map fun dy => .tuple (dy.map dN))) = true := by
  have c1 : ∀ r : Rat, (dN r).canLay0 = true ∧ (dN r).depth ≤ 1 := fun r => by
    unfold dN
    split
    · exact ⟨rfl, Nat.zero_le _⟩
    · exact ⟨rfl, Nat.le_refl 1⟩
  have c2 : ∀ dy : List Rat, PyData.canLayAll0 (dy.map dN) = true ∧ PyData.depthAll (dy.map dN) ≤ 2 := fun dy => by
    induction dy with
    | nil => exact ⟨rfl, Nat.zero_le _⟩
    | cons r dy ih =>
      refine ⟨?_, ?_⟩
      · show ((dN r).canLay0 && PyData.canLayAll0 (dy.map dN)) = true
        rw [(c1 r).1, ih.1]
        rfl
      · have := (c1 r).2
        have := ih.2
        simp only [List.map_cons, PyData.depthAll]
        omega
  have c3 : PyData.canLayAll0 (mk.map fun dy => .tuple (dy.map dN)) = true ∧ PyData.depthAll (mk.map fun dy => .tuple (dy.map dN)) ≤ 4 := by
    induction mk with
    | nil => exact ⟨rfl, Nat.zero_le _⟩
    | cons dy mk ih =>
      refine ⟨?_, ?_⟩
      · show (PyData.canLayAll0 (dy.map dN) && PyData.canLayAll0 (mk.map fun dy => .tuple (dy.map dN))) = true
        rw [(c2 dy).1, ih.1]
        rfl
      · have := (c2 dy).2
        have := ih.2
        simp only [List.map_cons, PyData.depthAll, PyData.depth]
        omega
  unfold SeqAt.shaped
  rw [Bool.and_eq_true]
  refine ⟨c3.1, decide_eq_true ?_⟩
  have := c3.2
  simp only [PyData.depth]
  omega
/-- two goods, no day of noughts: days as best_stretch wants them -/
theorem d2_of {mk : List (List Rat)} (hl : mk.length ≤ 4) (h : Ms 2 mk) (hn : ((mk.map fun dy => PyData.tuple (dy.map dN)).any fun z => PyData.eqv z (.tuple [.int 0, .int 0])) = false) : D2 (mk.map fun dy => (dy.getD 0 0, dy.getD 1 0)) := by
  refine ⟨by rw [List.length_map]; exact hl, fun z hz => ?_⟩
  obtain ⟨dy, hd, rfl⟩ := List.mem_map.mp hz
  obtain ⟨l2, h2⟩ := h dy hd
  match dy, l2 with
  | [x, y], _ =>
    have hx := h2 x (by simp)
    have hy := h2 y (by simp)
    refine ⟨hx.1, hy.1, Rat.num_nonneg.mp hx.2, Rat.num_nonneg.mp hy.2, fun z0 => ?_⟩
    have z1 : x = 0 := z0.1
    have z2 : y = 0 := z0.2
    subst z1 z2
    have c := List.any_eq_false.mp hn (.tuple ([(0 : Rat), 0].map dN)) (List.mem_map.mpr ⟨_, hd, rfl⟩)
    exact c (by decide +kernel)
theorem hu65 {k : Nat} {A : Around} (hr : Room k A) : A.units + 65 < cLine := by have := hr.un; omega
section
variable {P : Program} {w : World} {K : PySem.W.Frag} {mg : Str → Option Value} {base : Heap}
variable (T : Tx K mg) (O : To K mg) (M : Tm P K mg) (B : Tb P K mg)
include T O M B
theorem ok_mixes {cdv : Value} {A : Around} {outer : List Env} {s : Shared} {H : Hp} {E : XK} (hr : Room 12 (A.deeper (PyProof.Rows.envOfC "law" (defScope st_law) s.heap.objs.size (He.ga K "law") cdv))) {a l b lb : Addr} {ns ms : List Int} {n d : Nat} {cs : List Nat} {mk : List (List Rat)} {T2 : Ty} (h2 : T2.dem = T2) (hb : Bk cs d mk) (hl : mk.length = d) (hlen : ms.length ≤ 60) (hn : n + 60 ≤ 100000) {R : RK} :
    GSS (SB a b lb) (UB a l b lb) (JB P w K a l ms cs d mk b lb n) (LX P w K mg base cdv A outer s H E) (turnB.drop 6) (CB K ns a T2 cs d (.i (VI.is (.ref b))) mk .u .u .u .u) (nextS (SB a b lb) (UB a l b lb) (JB P w K a l ms cs d mk b lb (n + 45)) (CB K ns a T2 cs d .u mk .u .u .u .u)) R := by
  have h := hb.w
  have h1 := h.l1
  have h5 := h.l5
  have h4 := h.d4
  have hc : ∀ c ∈ cs, c ≤ 10 := fun c hc => by have := h.le c hc; omega
  have hm : Ms cs.length mk := hb.m
  have hmk : Mk cs.length mk := hm.mk (by omega)
  have JF := jb_fam (P := P) (w := w) (K := K) (a := a) (l := l) (ms := ms) (cs := cs) (d := d) (mk := mk) (b := b) (lb := lb)
  have vp : ∀ {X : Cx} {Γ : Ctx} {e : Expr}, EV X e Γ (VI.pr K (.best cs)).p → EV X e Γ (VI.ob (He.ga K "BestMix") (bestF cs)).p := fun h => h
  have dm : ∀ (bk t10 t11 t12 t14 : Ty), bk.dem = bk → t10.dem = t10 → t11.dem = t11 → t12.dem = t12 → t14.dem = t14 → (CB K ns a T2 cs d bk mk t10 t11 t12 t14).map Ty.dem = CB K ns a T2 cs d bk mk t10 t11 t12 t14 := fun bk t10 t11 t12 t14 e1 e2 e3 e4 e5 => by
    show [_, _, T2.dem, _, _, _, _, bk.dem, _, _, t10.dem, t11.dem, t12.dem, _, t14.dem, _] = _
    rw [h2, e1, e2, e3, e4, e5]
    rfl
  refine s_cons (J1 := JB P w K a l ms cs d mk b lb (adk n (3 * cs.length) 3)) (Γ' := CB K ns a T2 cs d (.i (VI.is (.ref b))) mk (.o (List.replicate 3 (VI.mx cs.length))) .u .u .u) (GTS.to (s_setLc 10 (own := [("_law_lap", 14)]) (Jn := fun k => JB P w K a l ms cs d mk b lb (adk n (3 * cs.length) k)) (xs := List.range 3) (F := fun i : Nat => VI.int (i : Int)) (G := fun _ => VI.mx cs.length) (Γe := fun i => CB K ns a T2 cs d (.i (VI.is (.ref b))) mk .u .u .u (.i (VI.int (i : Int)))) jb_ok (fun _ => jb_ok) rfl sc_law.nd rfl (blkOk_by (N := nm_law) (sc := defScope st_law) (by decide +kernel))
    (it0_rangeS jb_ok T.bl e_int (by decide)) (by decide) (fun i _ => dm _ _ _ _ _ rfl rfl rfl rfl rfl) rfl (fun s h C cl fp i hi => tg_name 14 sc_law.nd) (fun k hk s' h' C cl fp i hi => vs_fair (n := adk n (3 * cs.length) k) (n1 := adk n (3 * cs.length) k) (c := 3 * cs.length) JF (ok_law_mix T) (hr.mono (by decide)) hlen (vI 1) (is_cons jb_ok jb_ok (EV.s jb_ok (P := VI.int (cs.length : Int)) (vI 3)) is_nil) (fun ws H k => by
      cases k with
      | cons r t =>
        cases t
        exact ⟨cs.length, ⟨h1, h5⟩, Nat.le_refl _, .cons r .nil, fun _ _ z => z⟩) (by
      rw [adk_eq]
      have hk : k < 3 := hk
      have : 3 * cs.length * k ≤ 15 * 2 := Nat.mul_le_mul (by omega) (by omega)
      omega))) rfl) ?_
  obtain ⟨k2, hk2⟩ : ∃ k2, (!((mk.map fun dy => PyData.tuple (dy.map dN)).any fun z => PyData.eqv z (.tuple [.int 0, .int 0]))) = k2 := ⟨_, rfl⟩
  obtain ⟨m, hm5⟩ : ∃ m, m = if decide ((cs.length : Int) = 2) && k2 then 5 else 3 := ⟨_, rfl⟩
  have m5 : m ≤ 5 := by rw [hm5]; split <;> decide
  refine s_cons (Γ' := CB K ns a T2 cs d (.i (VI.is (.ref b))) mk (.o (List.replicate m (VI.mx cs.length))) .u .u .u) (GTS.to (s_lift jb_ok (Γ' := CB K ns a T2 cs d (.i (VI.is (.ref b))) mk (.o (List.replicate m (VI.mx cs.length))) .u .u .u) (g_if (k := decide ((cs.length : Int) = 2) && k2) (t_and (t_eqI (vI 3) e_int) fun _ => t_notInD (d := .tuple [.int 0, .int 0]) (ds := mk.map fun dy => .tuple (dy.map dN)) (hu65 hr) (e_tup (ei_cons e_int (ei_cons e_int ei_nil))) (vO 8) (fun H v q => ?_) (fun H v q => dp_days q) rfl (shp_days mk) hk2) (fun hk => ?_) (fun hk => ?_))) (dm _ _ _ _ _ rfl rfl rfl rfl rfl)) ?_
  · obtain ⟨x, xs, rfl, z1, z2⟩ := q
    cases z2 with
    | cons r1 t =>
      cases t with
      | cons r2 t =>
        cases t
        exact .tup (.inl (.inl z1)) (.cons (dp_int r1) (.cons (dp_int r2) .nil))
  · rw [hk, if_pos rfl] at hm5
    rw [Bool.and_eq_true] at hk
    have g2 : cs.length = 2 := by have := of_decide_eq_true hk.1; omega
    have hn0 : ((mk.map fun dy => PyData.tuple (dy.map dN)).any fun z => PyData.eqv z (.tuple [.int 0, .int 0])) = false := by
      have := hk2.trans hk.2
      simpa using this
    have hd2 := d2_of (by omega) (g2 ▸ hm) hn0
    refine g_one (GT.to (g_setF 10 (Ps := List.replicate m (VI.mx cs.length)) sc_law.nd ((ef_cat (Ps := List.replicate 3 (VI.mx cs.length)) (Qs := List.replicate 2 (VI.mx cs.length)) (vO 10) (EF.v (ef_lc (own := [("_law_share", 15)]) (xs := [(), ()]) (F := fun _ => VI.ex (α := { r : Rat // Sh1 r }) fun r => VI.num r.1) (G := fun _ => VI.mx cs.length) (Γe := fun _ => (CB K ns a T2 cs d (.i (VI.is (.ref b))) mk (.o (List.replicate 3 (VI.mx cs.length))) .u .u .u).set 15 (.i (VI.ex (α := { r : Rat // Sh1 r }) fun r => VI.num r.1))) rfl sc_law.nd (blkOk_by (N := nm_law) (sc := defScope st_law) (by decide +kernel))
      (it_tup (Ps := [VI.ex (α := { r : Rat // Sh1 r }) fun r => VI.num r.1, VI.ex (α := { r : Rat // Sh1 r }) fun r => VI.num r.1]) ((ev_call (ok_best_stretch T) (hr.mono (by decide)) (mk.map fun dy => (dy.getD 0 0, dy.getD 1 0)) hd2 (ea_cons (P := .lst (rows ((mk.map fun dy => (dy.getD 0 0, dy.getD 1 0)).map fun y => [y.1, y.2]))) (EV.to (vO 8) (by rw [rows_two fun dy hd => by rw [(hm dy hd).1, g2]])) (ea_cons e_int ea_nil))).imp fun H v q => ?_) rfl) (by decide) (fun s h C cl fp z hz => tg_name 15 sc_law.nd) (fun s' h' C cl fp z hz => ev_open 15 rfl fun r => ?_)))).to (by rw [mxs_cat, hm5]))) rfl)
    · obtain ⟨⟨⟨r, t⟩, p1, p2⟩, x, xs, rfl, z1, z2⟩ := q
      cases z2 with
      | cons r1 t1 =>
        cases t1 with
        | cons r2 t2 =>
          cases t2
          exact ⟨x, _, rfl, z1, .cons ⟨⟨r, p1⟩, r1⟩ (.cons ⟨⟨t, p2⟩, r2⟩ .nil)⟩
    · obtain ⟨r, hr1⟩ := r
      have sr : Sz 10 r := hr1.1.mono (by decide)
      have s1 : Sz 10 (1 : Rat) := Sz.int (n := 1) (k := 10) (by decide) (by decide)
      have sm : Sz 10 (-1 : Rat) := s1.neg
      have e1 : rprod [(-1 : Rat), r] = -r := by rw [rp2]; grind
      have e2 : rsum [(1 : Rat), -r] = 1 + -r := by rw [rsum_cons, rsum_cons, rsum_nil]; grind
      refine EV.imp (e_tup (Ps := nums [r, 1 + -r]) (ei_cons (vI 15) (ei_cons (P := VI.num (1 + -r)) ((ev_call (ok_law_sum T) (hr.mono (by decide)) ([1, -r], 10) ⟨fun y hy => ?_, Nat.le_of_ble_eq_true rfl⟩ (ea_cons (EF.v (ef_lst (ei_cons (P := VI.num 1) (e_int.imp fun H v q => num_of_int (r := 1) (n := 1) (by decide +kernel) q) (ei_cons (P := VI.num (-r)) ((ev_call (ok_law_times T) (hr.mono (by decide)) ([-1, r], 10) ⟨fun y hy => ?_, Nat.le_of_ble_eq_true rfl⟩ (ea_cons (EF.v (ef_lst (ei_cons (P := VI.num (-1)) ((e_neg e_int).imp fun H v q => num_of_int (r := -1) (n := -1) (by decide +kernel) q) (ei_cons (vI 15) ei_nil)))) ea_nil)).to (by show (VI.num (rprod [-1, r])).p = _; rw [e1])) ei_nil)))) ea_nil)).to (by show (VI.num (rsum [1, -r])).p = _; rw [e2])) ei_nil))) fun H v q => (⟨⟨[r, 1 + -r], by rw [g2]; exact one_sub hr1⟩, q⟩ : (VI.mx cs.length).ok H v)
      · rcases List.mem_cons.mp hy with rfl | hy
        · exact s1
        · rw [List.mem_singleton.mp hy]
          exact sr.neg
      · rcases List.mem_cons.mp hy with rfl | hy
        · exact sm
        · rw [List.mem_singleton.mp hy]
          exact sr
  · rw [hk, if_neg Bool.false_ne_true] at hm5
    rw [hm5]
    exact g_nil
  refine s_one (GTS.weak (GTS.to (s_liftW jb_ok (Vw.one (W := obV (He.ga K "Book") BkF (bk1 K cs d mk lb) nlBk b) 7 rfl fun H j => ⟨rfl, j.2.1⟩) (g_freeze 10 rfl (g_for (xs := List.replicate m ()) (F := fun _ => VI.mx cs.length) (vs := [11]) PassesOwn.never rfl (fun _ => CB K ns a T2 cs d (.f (obV (He.ga K "Book") BkF (bk1 K cs d mk lb) nlBk b)) mk (.f (.lst (List.replicate m (VI.mx cs.length)))) .u .u .u) (fun _ _ => CB K ns a T2 cs d (.f (obV (He.ga K "Book") BkF (bk1 K cs d mk lb) nlBk b)) mk (.f (.lst (List.replicate m (VI.mx cs.length)))) (.i (VI.mx cs.length)) .u .u)
    (it_list (lF 10) (by rw [List.map_replicate])) (fun pre z post e => tg_name 11 sc_law.nd) (fun pre z post e => ?_))) Uv.dem) (Γ2 := CB K ns a T2 cs d .u mk .u .u .u .u) (by show [_, _, T2.dem.dem.dem, _, _, _, _, _, _, _, _, _, _, _, _, _] = _; rw [h2, h2, h2]; rfl)) fun _ _ _ _ n => n.drop (fun _ z => z) (fun _ z => z) fun H j => ⟨j.1.up (by rw [adk_eq]; omega), j.2⟩)
  refine g_open 11 rfl fun ⟨ss, hx⟩ => ?_
  have hlx := hx.l
  have nm := hx.nm h1 h5 hc
  have hms : Ms ss.length mk := by rw [hlx]; exact hm
  have mz := mkl_sz nm (by omega) hms
  have le := makes_le hlx hmk hx.nn' hx.one
  rw [hl] at le
  have e3 : namedW ss cs * rprod (mk.map fun rs => dot ss rs) = rprod (mkl ss cs mk) := by rw [mkl_prod, Rat.mul_comm]
  refine g_cons (g_set 12 (P := VI.num (rprod (mkl ss cs mk))) sc_law.nd (ev_call (ok_law_makes T) (hr.mono (by decide)) (ss, cs, mk) ⟨by show ss.length ≤ 5; omega, ⟨rfl, hx.sz⟩, by show Mk ss.length mk; rw [hlx]; exact hmk, hlx.symm, hc⟩ (ea_cons (vI 11) (ea_cons (vO 4) (ea_cons (vO 8) ea_nil))))) ?_
  refine g_one ((g_not (t_or (k := false) (l := false) ((t_val (ev_call (ok_law_is_below T) (hr.mono (by decide)) (lpurse cs d mk, rprod (mkl ss cs mk)) ⟨lpurse_sz hb, mz.mono (by decide)⟩ (ea_cons (e_obF (vF 7) B.c_Bk rfl) (ea_cons (vI 12) ea_nil)))).to (not_below le)) fun _ => (t_neNum (roomU hr) (ev_call (ok_worth T O M) (hr.mono (by decide)) (namedW ss cs, ss, mk) ⟨(named_sz nm).mono (by decide), (dotp_sz nm.l5 (by omega) hx.sz hms).mono (by decide), ⟨nm.l5, fun r hr => (hx.sz r hr).mono (by decide)⟩, by show mk.length ≤ 5; omega, fun rs hrs => ⟨⟨by rw [(hms rs hrs).1]; exact nm.l5, fun r hr => ((hms rs hrs).2 r hr).1.mono (by decide)⟩, (hms rs hrs).1, fun r hr => ((hms rs hrs).2 r hr).2⟩⟩ (ea_cons (ev_call (ok_named T O M) hr (cs, ss) nm (ea_cons (vI 6) (ea_cons (EF.v (ef_lst (ei_cons (vI 11) ei_nil))) ea_nil))) (ea_cons (vO 8) ea_nil))) (vI 12)).to (by show (!decide (namedW ss cs * rprod (mk.map fun rs => dot ss rs) = rprod (mkl ss cs mk))) = false; rw [e3]; simp))).toLe ⟨rfl, fun i U hi => ?_⟩)
  match i, hi with
  | 0, hi => exact .inr hi
  | 1, hi => exact .inr hi
  | 2, hi => exact .inr hi
  | 3, hi => exact .inr hi
  | 4, hi => exact .inr hi
  | 5, hi => exact .inr hi
  | 6, hi => exact .inr hi
  | 7, hi => exact .inr hi
  | 8, hi => exact .inr hi
  | 9, hi => exact .inr hi
  | 10, hi => exact .inr hi
  | 11, hi => exact .inl (Option.some.inj hi).symm
  | 12, hi => exact .inl (Option.some.inj hi).symm
  | 13, hi => exact .inr hi
  | 14, hi => exact .inr hi
  | 15, hi => exact .inr hi
end
end K8
end
section
set_option Elab.async false
set_option linter.all false
set_option maxRecDepth 100000
set_option maxHeartbeats 1000000
set_option autoImplicit false
namespace K8
open PySem L2
open Evl (Ex)
/-! The law's turn. -/
abbrev CA (K : PySem.W.Frag) (ns : List Int) (a : Addr) (T2 : Ty) : Ctx := [.e (scrV K ns), .i (VI.is (.ref a)), T2, .u, .u, .u, .u, .u, .u, .u, .u, .u, .u, .u, .u, .u]
/-- goods -/
abbrev VI.gd : VI := VI.ex (α := { g : Nat // 1 ≤ g ∧ g ≤ 5 }) fun g => VI.int ((g.1 : Nat) : Int)
/-- a drawn day -/
abbrev VI.dy (g : Nat) : VI := VI.ex (α := { dy : List Rat // dy.length = g ∧ ∀ r ∈ dy, Sz 4 r ∧ 0 ≤ r.num }) fun dy => VI.tup (nums dy.1)
def dls : List Nat := [5, 5, 4, 3, 3]
theorem dls_ok : ∀ g ∈ List.range 6, 1 ≤ g → 0 < dls.getD (g - 1) 0 ∧ dls.getD (g - 1) 0 ≤ 5 ∧ ∀ d ∈ List.range (dls.getD (g - 1) 0), g ^ d ≤ 27 := by decide +kernel
theorem lw_of {cs : List Nat} {d : Nat} (h1 : 1 ≤ cs.length) (h5 : cs.length ≤ 5) (h : ∀ c ∈ cs, c < 4) (hd : d < dls.getD (cs.length - 1) 0) : Lw cs d := by
  obtain ⟨_, q2, q3⟩ := dls_ok cs.length (List.mem_range.mpr (by omega)) h1
  have hs := sum_le (b := 4) (cs := cs) fun c hc => by have := h c hc; omega
  exact ⟨h1, h5, fun c hc => by have := h c hc; omega, by omega, q3 d (List.mem_range.mpr hd), by omega⟩
theorem atI_last {Ps : List VI} {P : VI} : atI (Ps ++ [P]) (-1) = some P := by
  unfold atI ixN
  rw [if_neg (by decide), if_pos (by rw [List.length_append, List.length_singleton]; omega), List.length_append, List.length_singleton]
  have e : ((-1 : Int) + ((Ps.length + 1 : Nat) : Int)).toNat = Ps.length := by omega
  show (Ps ++ [P])[((-1 : Int) + ((Ps.length + 1 : Nat) : Int)).toNat]? = some P
  rw [e]
  simp
section
variable {S U : Addr → Prop} {J J1 : Hp → Prop} {X : Cx} {Γ : Ctx} {pos p : Pos} {e ef e1 e2 e3 : Expr} {A : List Stmt} {R : RK}
/-- if not e: (never), e changes things -/
theorem s_ifNotS (jo : JOk S U J) (h : EVS S U J J1 X e Γ (VI.bl true)) (he : ∀ whole, isTrue e X.env whole = (do let v ← whole; standAt e.pos; holding [v] (truthy v)) := by intro _; rfl) : GTS S U J X (.If (.UnaryOp .Not e p) A [] pos) Γ (nextS S U J1 Γ) R := fun H0 H1 σ H f D hn hr =>
  wS_of (ps_if (pt_not (pt_val pe_w he)) pss_w pss_nil) (h H0 H1 σ H f _ fun v H2 e2 j2 r => ⟨true, r, by
    show if (!true) = true then _ else _
    rw [if_neg (by decide)]
    exact hn σ H2 (f.es jo e2 j2)⟩)
/-- told_right -/
theorem vs_told {a l : Addr} {ms : List Int} {J : Nat → Hp → Prop} {x : Str} {k : Nat} {ps : List Str} {cs : List Nat} {d n : Nat} (JF : JFam S U a l ms J) (F : FqG X.prog X.w X.K X.mg X.base x k ps (spF (fun z : List Nat × Nat => 1 + z.2) (fun z => Lw z.1 z.2) (fun z => [(VI.pr X.K (.best z.1)).p, .lst (natz z.1), ei (z.2 : Int)]) (fun _ => VI.bl true))) (hgd : X.A.guards = some []) (hr : Room k X.A) (hlen : ms.length ≤ 60) (hw : Lw cs d) (hn : n + (1 + d) ≤ 100000)
    (hf : EV X ef Γ (VI.is (.ref a)).p) (h1 : EV X e1 Γ (VI.pr X.K (.best cs)).p) (h2 : ELS S U (J n) (J n) X e2 Γ (natz cs)) (h3 : EV X e3 Γ (ei (d : Int))) (hg : Gl X x := by rfl) (hdb : (x == ("__debug__" : Str)) = false := by decide)
    (s0 : starEach [ef, e1, e2, e3] X.env = (false, eval ef X.env) :: starEach [e1, e2, e3] X.env := by rfl) (s1 : starEach [e1, e2, e3] X.env = (false, eval e1 X.env) :: starEach [e2, e3] X.env := by rfl) (s2 : starEach [e2, e3] X.env = (false, eval e2 X.env) :: starEach [e3] X.env := by rfl) (s3 : starEach [e3] X.env = (false, eval e3 X.env) :: starEach [] X.env := by rfl) (hpl : (backTo pos (starEach [e1, e2, e3] X.env)).any (·.1) = false := by rfl) :
    EVS S U (J n) (J (n + (1 + d))) X (.Call (.Name x p) [ef, e1, e2, e3] [] pos) Γ (VI.bl true) := fun H0 H1 σ H f Q q => by
  refine wE_of (pe_callG F hgd hr hg (pa_cons pe_w (pa_cons pe_w (pa_cons pe_w (pa_cons pe_w pa_nil s3) s2) s1) s0) hdb s0 hpl) (hf H0 H1 σ H f.f _ fun v Ha ea ra => h1 H0 H1 σ Ha (f.mono (JF.ok n) ea).f _ fun v1 Hb eb rb => h2 H0 H1 σ Hb ((f.mono (JF.ok n) ea).mono (JF.ok n) eb) _ fun c xs Hc ec jc nc hc kc => ?_)
  have fc := ((f.mono (JF.ok n) ea).mono (JF.ok n) eb).es (JF.ok n) ec jc
  refine h3 H0 H1 σ Hc fc.f _ fun v3 Hd ed rd => ?_
  obtain rfl : v = .ref a := ra
  have jd := (JF.ok n).mono ed jc
  have fa := JF.get jd
  have ca : c ≠ a := fun z => nc (z ▸ JF.s)
  have jb := (JF.ok n).mono eb ((JF.ok n).mono ea f.j)
  have xb : ExI Hb Hd := (exI_es (JF.ok n) jb ec).trans (.of ed)
  refine ⟨(cs, d), a, l, ms, n, [v1, .ref c, v3], hide a Hd, hw, rfl, .cons ((VI.pr X.K (.best cs)).mono (xb.trans (exI_hide fa)) rb) (.cons ⟨c, xs, rfl, by rw [hide_ne ca]; exact ed _ _ hc, kc.mono ((ExI.of ed).trans (exI_hide fa))⟩ (.cons ((VI.int (d : Int)).mono (exI_hide fa) rd) .nil)), hide_ex, hide_self, fa, hn, hlen, fun v H4 e4 f4 r4 => q v H4 ?_ (JF.put jd e4 f4) r4⟩
  exact (((ES.of (ea.trans eb)).trans ec).trans (.of ed)).trans (es_sub JF.s e4)
end
section
variable {P : Program} {w : World} {K : PySem.W.Frag} {mg : Str → Option Value} {base : Heap}
variable (T : Tx K mg) (O : To K mg) (M : Tm P K mg) (B : Tb P K mg)
include T O M B
theorem ok_days {cdv : Value} {A : Around} {outer : List Env} {s : Shared} {H : Hp} {E : XK} (hr : Room 12 (A.deeper (PyProof.Rows.envOfC "law" (defScope st_law) s.heap.objs.size (He.ga K "law") cdv))) {a l b lb : Addr} {ns ms : List Int} {n d : Nat} {cs : List Nat} {T2 : Ty} (h2 : T2.dem = T2) (hw : Lw cs d) (hlen : ms.length ≤ 60) (hn : n + 40 ≤ 100000) {R : RK} {N : NK} {sts : List Stmt}
    (next : ∀ mk, mk.length = d → Ms cs.length mk → GSS (SB a b lb) (UB a l b lb) (JB P w K a l ms cs d mk b lb (n + 32)) (LX P w K mg base cdv A outer s H E) (turnB.drop 6) (CB K ns a T2 cs d (.i (VI.is (.ref b))) mk .u .u .u .u) N R) :
    GSS (SB a b lb) (UB a l b lb) (JB P w K a l ms cs d [] b lb n) (LX P w K mg base cdv A outer s H E) (turnB.drop 5) (CB K ns a T2 cs d (.i (VI.is (.ref b))) [] .u .u .u .u) N R := by
  have h1 := hw.l1
  have h5 := hw.l5
  have h4 := hw.d4
  have JF : ∀ mk, JFam (SB a b lb) (UB a l b lb) a l ms (JB P w K a l ms cs d mk b lb) := fun mk => jb_fam
  obtain ⟨fd, F, Bi⟩ := ok_Bk_day (P := P) (w := w) (base := base) T O B
  refine s_consE (s_forE (β := List (List Rat)) (I := fun pre mk => mk.length = pre.length ∧ Ms cs.length mk) (Js := fun pre mk => JB P w K a l ms cs d mk b lb (adk n (3 + cs.length) pre.length)) (xs := List.range d) (F := fun i : Nat => VI.int (i : Int)) (vs := [9]) (fun _ mk => CB K ns a T2 cs d (.i (VI.is (.ref b))) mk .u .u .u .u) (fun _ mk t => (CB K ns a T2 cs d (.i (VI.is (.ref b))) mk .u .u .u .u).set 9 (.i (VI.int (t : Int)))) jb_ok (fun _ _ => jb_ok) PassesOwn.never rfl [] ⟨rfl, fun _ h => nomatch h⟩
    (ITI.s jb_ok (iti_range T.bl (vI 5) (by omega))) (fun pre t post e mk hI => tg_name 9 sc_law.nd) (fun pre t post e mk hI => ?_) (fun pre t post e mk hI => ?_)) fun mk hI => ?_
  · show [_, _, T2.dem, _, _, _, _, _, _, _, _, _, _, _, _, _] = _
    rw [h2]
    rfl
  · obtain ⟨et, _, lt⟩ := idx_mid e
    obtain ⟨hl, hm⟩ := hI
    have hb : Bk cs d mk := ⟨hw, by omega, hm⟩
    have hmk : Mk cs.length mk := hm.mk (by omega)
    have bnd : adk n (3 + cs.length) pre.length + (3 + cs.length) ≤ 100000 := by
      rw [adk_eq]
      have : (3 + cs.length) * pre.length ≤ 8 * 3 := Nat.mul_le_mul (by omega) (by omega)
      omega
    refine s_cons (s_notW jb_ok (Vw.one (W := obV (He.ga K "Book") BkF (bk1 K cs d mk lb) nlBk b) 7 rfl fun H j => ⟨rfl, j.2.1⟩) (t_or (k := false) (l := false) ((t_neNum (roomU hr) (e_obF (vF 7) B.c_Bk rfl) (ev_call (ok_law_purse T) (hr.mono (by decide)) (cs, d, mk) ⟨hw, hmk, hb.l⟩ (ea_cons (vO 4) (ea_cons (vI 5) (ea_cons (vO 8) ea_nil))))).to (by show (!decide (lpurse cs d mk = lpurse cs d mk)) = false; simp)) fun _ => (t_neI (e_obF (vF 7) B.c_Bk rfl) (e_sub (vI 5) (vI 9))).to ?_)) ?_
    · have e9 : ((d - mk.length : Nat) : Int) = (d : Int) - (t : Int) := by omega
      rw [decide_eq_true e9]
      rfl
    refine s_cons (s_append 8 (J1 := JB P w K a l ms cs d mk b lb (adk n (3 + cs.length) pre.length + (3 + cs.length))) (P := VI.dy cs.length) jb_ok jb_ok rfl (EVS.imp (vs_fair (P := VI.tup (List.replicate cs.length VI.dn)) (n := adk n (3 + cs.length) pre.length) (n1 := adk n (3 + cs.length) pre.length) (c := 3 + cs.length) (JF mk) (ok_law_day T) (hr.mono (by decide)) hlen (vI 1) (is_cons jb_ok jb_ok (EV.s jb_ok (P := VI.int (cs.length : Int)) (vI 3)) is_nil) (fun ws H k => ?_) bnd) fun H v q => ?_) (by rw [List.length_map]; omega) (pe_bm PySem.F.plainAttrs_list PySem.F.slot_list_append PySem.F.type_list_append mt_append (pe_var rfl (.inl rfl) (by decide) (by decide)) (pa_cons pe_w pa_nil))) ?_
    · cases k with
      | cons r t =>
        cases t
        exact ⟨cs.length, h5, Nat.le_refl _, .cons r .nil, fun _ _ z => z⟩
    · obtain ⟨x, xs, rfl, z1, z2⟩ := q
      obtain ⟨rs, r1, r2, r3⟩ := oks_openD z2
      exact ⟨⟨rs, r1, r2⟩, x, xs, rfl, z1, r3⟩
    refine s_openL 8 rfl fun ⟨dy, hd1, hd2⟩ => ?_
    have er : rows mk ++ [VI.tup (nums dy)] = rows (mk ++ [dy]) := by rw [rows, rows, List.map_append]; rfl
    have hm2 : Ms cs.length (mk ++ [dy]) := fun y hy => by
      rcases List.mem_append.mp hy with hy | hy
      · exact hm y hy
      · rw [List.mem_singleton.mp hy]
        exact ⟨hd1, hd2⟩
    have hl2 : (mk ++ [dy]).length ≤ d := by rw [List.length_append, List.length_singleton]; omega
    refine s_one (GTS.weak (s_notNe (J1 := JB P w K a l ms cs d (mk ++ [dy]) b lb (adk n (3 + cs.length) pre.length + (3 + cs.length))) (r := lpurse cs d (mk ++ [dy])) (roomU hr) jb_ok jb_ok (vs_meth jb_ok (EV.s jb_ok (vI 7)) (fun _ h => h.2.1) B.c_Bk B.m_Bk_day.me (by decide +kernel) F Bi (hr.mono (by decide)) (dy, b, lb, cs, d, mk) ⟨hb, by show mk.length < d; omega, hd1, hd2⟩ rfl (is_cons jb_ok jb_ok (EV.s jb_ok (P := VI.tup (nums dy)) (e_ixL (vO 8) (e_neg e_int) atI_last)) is_nil) (fun _ h => .inr h) (fun _ h => h.2) (fun H H2 j e n => put_r bk_ok fairAt_ok (fun H x y z u s => fair_ne y x z s u) H H2 j e n)) (EV.s jb_ok (ev_call (ok_law_purse T) (hr.mono (by decide)) (cs, d, mk ++ [dy]) ⟨hw, hm2.mk (by omega), hl2⟩ (ea_cons (vO 4) (ea_cons (vI 5) (ea_cons (P := .lst (rows (mk ++ [dy]))) (EV.to (vO 8) (by rw [er])) ea_nil)))))) fun K0 K1 σ1 K2 nn => ⟨mk ++ [dy], ⟨by rw [List.length_append, List.length_append, hl]; rfl, hm2⟩, ?_⟩)
    have n2 : FS (SB a b lb) (UB a l b lb) (JB P w K a l ms cs d (mk ++ [dy]) b lb (adk n (3 + cs.length) (pre ++ [t]).length)) (((CB K ns a T2 cs d (.i (VI.is (.ref b))) mk .u .u .u .u).set 9 (.i (VI.int (t : Int)))).set 8 (.o (rows mk ++ [VI.tup (nums dy)]))) K0 K1 σ1 K2 := by
      rw [List.length_append]
      exact nn
    rw [er] at n2
    refine n2.le ⟨rfl, fun i U hi => ?_⟩
    match i, hi with
    | 0, hi => exact .inr hi
    | 1, hi => exact .inr hi
    | 2, hi => exact .inr hi
    | 3, hi => exact .inr hi
    | 4, hi => exact .inr hi
    | 5, hi => exact .inr hi
    | 6, hi => exact .inr hi
    | 7, hi => exact .inr hi
    | 8, hi => exact .inr hi
    | 9, hi => exact .inl (Option.some.inj hi).symm
    | 10, hi => exact .inr hi
    | 11, hi => exact .inr hi
    | 12, hi => exact .inr hi
    | 13, hi => exact .inr hi
    | 14, hi => exact .inr hi
    | 15, hi => exact .inr hi
  · obtain ⟨hl, hm⟩ := hI
    rw [List.length_range] at hl
    have e0 : (CB K ns a T2 cs d (.i (VI.is (.ref b))) mk .u .u .u .u).map Ty.dem = CB K ns a T2 cs d (.i (VI.is (.ref b))) mk .u .u .u .u := by
      show [_, _, T2.dem, _, _, _, _, _, _, _, _, _, _, _, _, _] = _
      rw [h2]
      rfl
    rw [e0]
    refine GSS.drop (next mk hl hm) (fun _ z => z) (fun _ z => z) fun H j => ⟨j.1.up ?_, j.2⟩
    rw [adk_eq, List.length_range]
    have : (3 + cs.length) * d ≤ 8 * 4 := Nat.mul_le_mul (by omega) (by omega)
    omega
end
end K8
end
section
set_option Elab.async false
set_option linter.all false
set_option maxRecDepth 100000
set_option maxHeartbeats 1000000
set_option autoImplicit false
namespace K8
open PySem L2
open Evl (Ex)
/-! The law's turn, whole; the law. -/
section
variable {P : Program} {w : World} {K : PySem.W.Frag} {mg : Str → Option Value} {base : Heap}
variable (T : Tx K mg) (O : To K mg) (M : Tm P K mg) (B : Tb P K mg)
include T O M B
omit B in
theorem ev_best {X : Cx} {Γ : Ctx} {pos p : Pos} {e1 e2 : Expr} {cs : List Nat} (hX : X.prog = P ∧ X.K = K ∧ X.mg = mg) (hr : Room 9 X.A) (h : Cs cs ∧ 1 ≤ cs.length) (h1 : EV X e1 Γ (ei (cs.length : Int))) (h2 : EV X e2 Γ (.lst (natz cs))) (hg : Gl X "BestMix" := by rfl)
    (he : starEach [e1, e2] X.env = (false, eval e1 X.env) :: starEach [e2] X.env := by rfl) (he2 : starEach [e2] X.env = (false, eval e2 X.env) :: starEach [] X.env := by rfl) (hpl : (backTo pos (starEach [e2] X.env)).any (·.1) = false := by rfl) : EV X (.Call (.Name "BestMix" p) [e1, e2] [] pos) Γ (VI.pr K (.best cs)).p := by
  obtain ⟨rfl, rfl, rfl⟩ := hX
  obtain ⟨fd, F, Bi⟩ := ok_BestMix_init (w := X.w) (base := X.base) T O M
  exact ev_make M.s_BestMix.mkr F Bi M.g_BestMix hr cs h (ea_cons h1 (ea_cons h2 ea_nil he2) he) (he := he) (hpl := hpl) (hg := hg)
theorem ok_turn {cdv : Value} {A : Around} {outer : List Env} {s : Shared} {H : Hp} {E : XK} (hgd : A.guards = some []) (hr : Room 12 (A.deeper (PyProof.Rows.envOfC "law" (defScope st_law) s.heap.objs.size (He.ga K "law") cdv))) {a l : Addr} {ns ms : List Int} {n : Nat} {T2 : Ty} (h2 : T2.dem = T2) (hlen : ms.length ≤ 60) (hn : n + 200 ≤ 100000) {R : RK} :
    GSS (Sa a) (Ua a l) (FairAt a l ms n) (LX P w K mg base cdv A outer s H E) turnB (CA K ns a T2) (nextS (Sa a) (Ua a l) (FairAt a l ms (n + 100)) (CA K ns a .u)) R := by
  have JF : JFam (Sa a) (Ua a l) a l ms (FairAt a l ms) := fairFam
  have jo : ∀ n, JOk (Sa a) (Ua a l) (FairAt a l ms n) := fun _ => fairAt_ok
  have hgu : (LX P w K mg base cdv A outer s H E).A.guards = some [] := hgd
  have cg : ∀ {X : Cx} {Γ : Ctx} {e : Expr} (g : Nat), 1 ≤ g ∧ g ≤ 5 → EV X e Γ (ei (g : Int)) → ∀ n, EVS (Sa a) (Ua a l) (FairAt a l ms n) (FairAt a l ms n) X e Γ VI.gd := fun g hg h n => EV.s (jo n) (h.imp fun H v q => ⟨⟨g, hg⟩, q⟩)
  refine s_cons (s_set (J1 := FairAt a l ms (n + 2)) (jo n) 3 (P := VI.gd) sc_law.nd (EVS.imp (vs_oneof (Ps := List.replicate 8 VI.gd) (n := n) (n1 := n + 1) JF (ok_law_one_of T) (hr.mono (by decide)) hlen (vI 1) (EFS.l (jo _) (fs_lst (jo _) (jo _) (is_cons (jo _) (jo _) (cg 2 (by decide) e_int n) (is_cons (jo _) (jo _) (cg 2 (by decide) e_int n) (is_cons (jo _) (jo _) (cg 3 (by decide) e_int n) (is_cons (jo _) (jo _) (cg 1 (by decide) e_int n) (is_cons (jo _) (jo _) (cg 2 (by decide) e_int n) (is_cons (jo _) (jo _) (cg 3 (by decide) e_int n) (is_cons (jo _) (jo _) (cg 2 (by decide) e_int n) (is_cons (J1 := FairAt a l ms (n + 1)) (jo _) (jo _) (EVS.imp (vs_add (F := fun _ : Unit => 4) (G := fun i : Fin 2 => ((i : Nat) : Int)) (jo _) (jo _) (EV.s (jo _) (e_int.imp fun H v q => ⟨(), q⟩)) (vs_fair (P := VI.below 2) (n := n) (n1 := n) (c := 1) JF (ok_law_deal T) (hr.mono (by decide)) hlen (vI 1) (is_cons (jo _) (jo _) (EV.s (jo _) (P := VI.int 2) e_int) is_nil) (deal_of (by decide) (by decide)) (by omega))) fun H v q => ?_) is_nil)))))))))) (by decide) (by decide) (by omega)) fun H v q => ?_)) ?_
  · obtain ⟨z, q⟩ := q
    exact ⟨⟨4 + z.2.1, by have := z.2.2; omega⟩, by rw [show v = V.int (4 + ((z.2.1 : Nat) : Int)) from q]; show V.int _ = V.int _; congr 1⟩
  · obtain ⟨Q, hQ, q⟩ := q
    rw [List.eq_of_mem_replicate hQ] at q
    exact q
  refine s_open 3 rfl fun ⟨g, g1, g5⟩ => ?_
  refine s_cons (s_setLc 4 (own := [("_law_good", 13)]) (Jn := fun k => FairAt a l ms (n + 2 + 2 * k)) (xs := List.range g) (F := fun i : Nat => VI.int (i : Int)) (G := fun _ => VI.below 4) (Γe := fun i => [.e (scrV K ns), .i (VI.is (.ref a)), T2, .i (VI.int (g : Int)), .u, .u, .u, .u, .u, .u, .u, .u, .u, .i (VI.int (i : Int)), .u, .u]) (jo _) (fun _ => jo _) rfl sc_law.nd rfl (blkOk_by (N := nm_law) (sc := defScope st_law) (by decide +kernel))
    (it0_rangeS (jo _) T.bl (vI 3) (by omega)) (by simp; omega) (fun i _ => by show [_, _, T2.dem, _, _, _, _, _, _, _, _, _, _, _, _, _] = _; rw [h2]; rfl) rfl (fun s h C cl fp i hi => tg_name 13 sc_law.nd) (fun k hk s' h' C cl fp i hi => ?_)) ?_
  · have hk : k < g := by rw [List.length_range] at hk; exact hk
    refine (vs_oneof (Ps := List.replicate 3 (VI.below 4)) (n := n + 2 + 2 * k) (n1 := n + 2 + 2 * k + 1) JF (ok_law_one_of T) (hr.mono (by decide)) hlen (vI 1) (EFS.l (jo _) (fs_lst (jo _) (jo _) (is_cons (jo _) (jo _) (EV.s (jo _) (EV.imp (P := ei 0) e_int fun H v q => ⟨⟨0, by decide⟩, q⟩)) (is_cons (jo _) (jo _) (EV.s (jo _) (EV.imp (P := ei 0) e_int fun H v q => ⟨⟨0, by decide⟩, q⟩)) (is_cons (jo _) (jo _) (vs_fair (P := VI.below 4) (n := n + 2 + 2 * k) (n1 := n + 2 + 2 * k) (c := 1) JF (ok_law_deal T) (hr.mono (by decide)) hlen (vI 1) (is_cons (jo _) (jo _) (EV.s (jo _) (P := VI.int 4) e_int) is_nil) (deal_of (by decide) (by decide)) (by omega)) is_nil))))) (by decide) (by decide) (by omega)).imp fun H v ⟨Q, hQ, q⟩ => ?_
    rw [List.eq_of_mem_replicate hQ] at q
    exact q
  rw [map_rep, List.length_range]
  refine s_openO 4 rfl fun cs c1 c2 => ?_
  subst c1
  refine GSS.drop (J' := FairAt a l ms (n + 12)) (S' := Sa a) (U' := Ua a l) ?_ (fun _ z => z) (fun _ z => z) fun H j => j.up (by omega)
  obtain ⟨q1, q2, q3⟩ := dls_ok cs.length (List.mem_range.mpr (by omega)) g1
  have hcs : Cs cs := ⟨g5, fun c hc => by have := c2 c hc; omega⟩
  refine s_cons (s_par (J1 := FairAt a l ms (n + 13)) (P := VI.below (dls.getD (cs.length - 1) 0)) (Q := VI.pr K (.best cs)) (jo _) (jo _) 5 6 rfl sc_law.nd (is_cons (J1 := FairAt a l ms (n + 13)) (jo _) (jo _) (vs_fair (P := VI.below (dls.getD (cs.length - 1) 0)) (n := n + 12) (n1 := n + 12) (c := 1) JF (ok_law_deal T) (hr.mono (by decide)) hlen (vI 1) (is_cons (jo _) (jo _) (EV.s (jo _) (P := VI.int ((dls.getD (cs.length - 1) 0 : Nat) : Int)) (e_ixL (Ps := natz dls) (EF.v (ef_lst (ei_cons e_int (ei_cons e_int (ei_cons e_int (ei_cons e_int (ei_cons e_int ei_nil))))))) ((e_sub (vI 3) e_int).to (congrArg ei (by omega : (cs.length : Int) - 1 = ((cs.length - 1 : Nat) : Int)))) (atI_natz (by show cs.length - 1 < 5; omega)))) is_nil) (deal_of q1 (Nat.lt_of_le_of_lt q2 (by decide))) (by omega)) (is_cons (jo _) (jo _) (EV.s (jo _) (ev_best T O M ⟨rfl, rfl, rfl⟩ (hr.mono (by decide)) ⟨hcs, g1⟩ (vI 3) (vO 4))) is_nil))) ?_
  refine s_open 5 rfl fun ⟨d, hd⟩ => ?_
  have hw : Lw cs d := lw_of g1 g5 c2 hd
  have h4 := hw.d4
  refine s_cons (s_ifNotS (J1 := FairAt a l ms (n + 13 + (1 + d))) (jo _) (vs_told (n := n + 13) JF (ok_told_right T O M) hgu hr hlen hw (by omega) (vI 1) (vI 6) (ls_own (jo _) 4) (vI 5))) ?_
  refine s_newPar (jo _) (fun _ => bk_ok) 7 8 rfl sc_law.nd (en_book T O M B ⟨rfl, rfl, rfl, rfl⟩ hr hw (ei_cons (vI 6) (ei_cons (vI 5) ei_nil))) (fun ⟨b, lb⟩ => ?_) (Nat.le_of_ble_eq_true rfl)
  refine ok_days T O M B (n := n + 13 + (1 + d)) (T2 := T2) hr h2 hw hlen (by omega) (sts := []) fun mk hl hm => ?_
  refine GSS.weak (ok_mixes T O M B (n := n + 13 + (1 + d) + 32) hr h2 ⟨hw, by omega, hm⟩ hl hlen (by omega)) fun _ _ _ _ nn => (nn.drop (S' := Sa a) (U' := Ua a l) (J' := FairAt a l ms (n + 100)) (fun _ z => .inl z) (fun _ z => .inl z) fun H j => j.1.up (by omega)).le ⟨rfl, fun i U hi => ?_⟩
  match i, hi with
  | 0, hi => exact .inr hi
  | 1, hi => exact .inr hi
  | 2, hi => exact .inl (Option.some.inj hi).symm
  | 3, hi => exact .inl (Option.some.inj hi).symm
  | 4, hi => exact .inl (Option.some.inj hi).symm
  | 5, hi => exact .inl (Option.some.inj hi).symm
  | 6, hi => exact .inl (Option.some.inj hi).symm
  | 7, hi => exact .inl (Option.some.inj hi).symm
  | 8, hi => exact .inl (Option.some.inj hi).symm
  | 9, hi => exact .inl (Option.some.inj hi).symm
  | 10, hi => exact .inl (Option.some.inj hi).symm
  | 11, hi => exact .inl (Option.some.inj hi).symm
  | 12, hi => exact .inl (Option.some.inj hi).symm
  | 13, hi => exact .inl (Option.some.inj hi).symm
  | 14, hi => exact .inl (Option.some.inj hi).symm
  | 15, hi => exact .inl (Option.some.inj hi).symm
end
end K8
end
section
set_option Elab.async false
set_option linter.all false
set_option maxRecDepth 100000
set_option maxHeartbeats 1000000
set_option autoImplicit false
namespace K8
open PySem L2
open Evl (Ex)
/-! The law; the end of a law that rests on no repr being under way. -/
def spLaw (K : PySem.W.Frag) : Sp := fun vs H Q _ => ∃ (a : Addr) (ns : List Int), vs = [.ref a] ∧ SqL K H a (ns.map V.int) ∧ ∀ H', Q (.bl true) H'
section
variable {P : Program} {w : World} {K : PySem.W.Frag} {mg : Str → Option Value} {base : Heap}
variable (T : Tx K mg) (O : To K mg) (M : Tm P K mg) (B : Tb P K mg)
include T O M B
theorem ok_law {fd : FuncData} (F : FunD K "law" "law" (defArgs st_law) (defBody st_law) (defScope st_law) [] [] (He.ga K "law") fd) : FnG P w K mg base 13 (He.ga K "law") fd ["_law_script"] (spLaw K) := by
  refine okG F sc_law (fun vs H Q E h => ?_) (fun cdv A outer s H vs Q E hgd hr h => ?_)
  · obtain ⟨_, _, rfl, _⟩ := h
    rfl
  · obtain ⟨sa, ns, rfl, hS, q⟩ := h
    have body : GSS S0 S0 J0' (LX P w K mg base cdv A outer s H E) (defBody st_law) (ctx0 nm_law [scrV K ns]) noN (fun v _ => v = .bl true) := by
      refine s_newV jo0 (Sk := fun n : Addr × Addr => Sa n.1) (fun _ _ s => .inl s) 1 sc_law.nd (en_call (ok_law_fair T) (hr.mono (by decide)) ns trivial (ea_cons (vE 0) ea_nil)) fun ⟨a, l⟩ => ?_
      have jo : ∀ n, JOk (Sa a) (Ua a l) (FairAt a l (ns.take 60) n) := fun _ => fairAt_ok
      have hlen : (ns.take 60).length ≤ 60 := by rw [List.length_take]; omega
      refine GSS.drop (S' := Sa a) (U' := Ua a l) (J' := FairAt a l (ns.take 60) 0) ?_ (fun _ z => .inr z) (fun _ z => .inr z) fun H j => ⟨0, 0, Nat.le_refl _, j.2⟩
      refine s_cons (s_forS (xs := List.range 2) (F := fun i : Nat => VI.int (i : Int)) (vs := [2]) (Js := fun pre => FairAt a l (ns.take 60) (100 * pre.length)) (fun _ => CA K ns a .u) (fun _ t => CA K ns a (.i (VI.int (t : Int)))) (jo _) (fun _ => jo _) PassesOwn.never rfl (ITI.s (jo _) (iti_range T.bl e_int (by decide))) (fun pre t post e => tg_name 2 sc_law.nd) (fun pre t post e => rfl) (fun pre t post e => ?_)) (s_one (s_ret (P := VI.bl true) (jo _) (EV.s (jo _) e_bl) fun v H j r => r))
      have hp : pre.length < 2 := by
        have := congrArg List.length e
        simp only [List.length_range, List.length_append, List.length_cons] at this
        omega
      rw [List.length_append, List.length_singleton, Nat.mul_add, Nat.mul_one]
      exact ok_turn T O M B hgd hr rfl hlen (by omega)
    exact body H H _ H ⟨fit0 (.cons ⟨sa, rfl, hS⟩ .nil), fun _ z => z.elim, fun _ z => z.elim, trivial⟩ { nx := fun _ H' => Q .non H', rt := Q } (fun _ _ z => z.elim) fun v H' _ r => by rw [show v = V.bl true from r]; exact q H'
end
/-- what is tracked where a law is called: the script, if it is no part of the text -/
noncomputable def scrH (K : PySem.W.Frag) (a : Addr) (ob : Obj) (xs : List V) : Hp := fun b => open Classical in if b = a ∧ K.lookup a = none then some (.frz ob (.lst xs)) else none
theorem scrH_some {K : PySem.W.Frag} {a b : Addr} {ob : Obj} {xs : List V} {u : HO} (h : scrH K a ob xs b = some u) : b = a ∧ K.lookup a = none ∧ u = .frz ob (.lst xs) := by
  unfold scrH at h
  split at h
  · rename_i z
    exact ⟨z.1, z.2, (Option.some.inj h).symm⟩
  · cases h
section
open PySem.Spec PyProof.Rows
theorem law_callG {P : Program} {w : World} {K : PySem.W.Frag} {mg mb : Str → Option Value} {k : Nat} {fa a : Addr} {fd : FuncData} {x : Str} {sp : Sp} {s : Shared} {us : List Value} {ns : List Int}
    (KX : K.In s.heap) (g1 : s.heap.Ns mainGlobals mg) (g2 : s.heap.Ns builtinsNs mb) (g3 : ∀ x : Str, x ≠ "__name__" → mb x = bootBuiltins x) (g4 : s.heap.NoLimit) (g5 : s.gens = #[]) (ha : s.heap.get? a = some { cls := .type "list", data := .seq us.toArray }) (hi : IntsAre us ns) (hl : ns.length ≤ sizeLine) (hr : Room k callerA)
    (F : ∀ base : Heap, K.In base → base.Ns mainGlobals mg → FnG P w K mg base k fa fd [x] sp) (hb : ∀ (s : Shared) (u : Value), BindsTo s fd ⟨[u], []⟩ [(x, u)]) (hsp : ∀ H : Hp, SqL K H a (ns.map V.int) → sp [.ref a] H (fun v _ => v = .bl true) fun _ _ _ => False) :
    codeAny (model P w) callerA (.call (.ref fa) ⟨[.ref a], []⟩) (fun r s' => r = .ok (.ret (.bool true)) ∧ OldK s.heap s'.heap ∧ s'.os = s.os ∧ AllBare s'.gens) s := by
  have rel := vals_ints hi
  have len := hi.length
  generalize hob : ({ cls := .type "list", data := .seq us.toArray } : Obj) = ob at ha
  have d1 : ob.data = .seq us.toArray := by rw [← hob]
  generalize hH : scrH K a ob (ns.map V.int) = H
  have only : ∀ {b u}, H b = some u → b = a ∧ K.lookup a = none ∧ u = .frz ob (.lst (ns.map V.int)) := fun z => by
    rw [← hH] at z
    exact scrH_some z
  have sq : SqL K H a (ns.map V.int) := by
    cases lk : K.lookup a with
    | none =>
      refine .inl (.inr ⟨ob, ?_⟩)
      rw [← hH]
      unfold scrH
      rw [if_pos ⟨rfl, lk⟩]
    | some o =>
      have z := KX a o lk
      rw [ha] at z
      cases z
      subst hob
      exact .inr ⟨_, us.toArray, _, lk, rfl, rfl, rfl, by rw [List.size_toArray, len]; exact hl, by simpa using rel⟩
  have ok : L2.HOk P w H s.heap := fun b u z => by
    obtain ⟨rfl, _, rfl⟩ := only z
    subst hob
    exact ⟨ha, by rw [List.length_map]; exact hl, us, _, rel, ha⟩
  have out : ∀ {b o es ep}, s.heap.get? b = some o → o.data = .dict es ep → H b = none := fun {b o es ep} z1 z2 => by
    cases q : H b with
    | none => rfl
    | some u =>
      obtain ⟨rfl, _, _⟩ := only q
      rw [ha] at z1
      cases z1
      rw [d1] at z2
      cases z2
  have names : ∀ {b m}, s.heap.Ns b m → (hidT s.heap H).Ns b m := fun {b m} ⟨o, es, ep, z1, z2, z3⟩ => ⟨o, es, ep, hidT_get z1 (out z1 z2), z2, z3⟩
  have text : K.In (hidT s.heap H) := fun b o z => hidT_get (KX b o z) (by
    cases q : H b with
    | none => rfl
    | some u =>
      obtain ⟨rfl, n, _⟩ := only q
      rw [n] at z
      cases z)
  have e0 : Env0 P w K mg (hidT s.heap H) callerA [] s H := by
    refine ⟨rfl, ⟨text, names g1, ⟨mb, names g2, g3⟩, ?_⟩, fun b o z => of_hidT z, Nat.le_of_eq (hidT_size _ _), trivial, fun b z => absurd (show b ∈ ([] : List Addr) from z) List.not_mem_nil, ok, .of_eq g5⟩
    obtain ⟨mc, z1, z2⟩ := g4
    exact ⟨mc, names z1, z2⟩
  refine codeAny_mono ((F _ text (names g1)).go callerA [] s H ⟨[.ref a], []⟩ [.ref a] [.ref a] _ _ rfl hr e0 (hb s (.ref a)) (.cons rfl .nil) (hsp H sq)) fun r s' h => ?_
  cases r with
  | error e => exact h.elim
  | ok fl =>
    cases fl with
    | next => exact h.elim
    | brk => exact h.elim
    | cont => exact h.elim
    | ret u =>
      obtain ⟨v, H', z1, z2, un, ok', rv, q⟩ := h
      obtain rfl : v = V.bl true := q
      obtain rfl : u = Value.bool true := rv
      refine ⟨rfl, OldK.of_keep fun b o z => ?_, z1, z2⟩
      cases q : H b with
      | none => exact un.keep b o z q (fun y => absurd (show b ∈ ([] : List Addr) from y) List.not_mem_nil) List.not_mem_nil
      | some u =>
        obtain ⟨rfl, _, rfl⟩ := only q
        rw [ha] at z
        cases z
        exact (ok' b _ (un.frzs b ob _ q)).1
/-- such a law, over a head by facts -/
theorem walk_ofG {l : PySem.W.OpenLaw} {n k : Nat} {q : Program} {loose : List Str} {XP : (Str → Option Value) → Heap → Prop} {YP : World → Heap → Prop} {d : DefRec} {x : Str} (hn : l.most = some n) (hn2 : n ≤ sizeLine) (hdf : d.params.defaults = []) (hr : Room k callerA)
    (F : ∀ (w : World) (mg : Str → Option Value) (fa : Addr) (h : Heap), YP w h → h.Ns mainGlobals mg → mg d.name = some (.ref fa) → ∃ (K : PySem.W.Frag) (fd : FuncData) (sp : Sp), K.In h ∧ (∀ (s : Shared) (u : Value), BindsTo s fd ⟨[u], []⟩ [(x, u)]) ∧ (∀ (H : Hp) (a : Addr) (ns : List Int), SqL K H a (ns.map V.int) → sp [.ref a] H (fun v _ => v = .bl true) fun _ _ _ => False) ∧ ∀ base : Heap, K.In base → base.Ns mainGlobals mg → FnG l.prog w K mg base k fa fd [x] sp) :
    PySem.W.WalkO q loose XP YP l.row.toRowW d [] (fun f vs => PySem.call f vs) :=
  Att.attach_call hn hdf fun w s0 s1 mg mb fa o pm cd doc a vs ns G Y ho hd hcd hmg hobj hints hlen hg => by
    obtain ⟨K, fd, sp, KX, hb, hsp, hF⟩ := F w mg fa _ Y G.T.g hmg
    exact law_callG KX G.T.g G.T.b G.T.builtins G.T.nolimit hg hobj hints (Nat.le_trans hlen hn2) hr hF hb fun H hS => hsp H a ns hS
end
end K8
end
section
set_option Elab.async false
set_option linter.all false
set_option maxRecDepth 100000
set_option maxHeartbeats 1000000
set_option autoImplicit false
namespace K8
open PySem L2
open Evl (Ex)
/-! The head's facts, read by a Hook of this law's own (printed by gen_h.py). -/
section
open He
/-! ### what the classes are asked -/
theorem nosB_ok {K : PySem.W.Frag} {x : Str} {L : List Str} (h : nosB K x L = true) : ∀ f ∈ L, NoAttr K (ga K x) f := fun f hf => noat_ok (x := x) (f := f) (List.all_eq_true.mp h f hf)
theorem pclB_ok {K : PySem.W.Frag} {x : Str} (h : pclB K x = true) : PCls K (ga K x) := by
  have z : ∀ i b, ([(Fa.cls x).ok K, nosB K x PF, eqO (PySem.W.findIn K (.ref (ga K x)) "__class__") (some (some (.builtin "object.__class__"))), eqO (PySem.W.specialIn K (.builtin "object.__class__") "__get__") (some (some (.builtin "getset_descriptor.__get__"))),
    decide (PySem.W.takesIn K (.builtin "object.__class__") = some true), decide (PySem.W.mroIn K (ga K x) (.type "object") = some true), decide (PySem.W.kitOne K (.ref (ga K x)) (.ref (ga K "Promise")) = some true)])[i]? = some b → b = true := fun i b e => List.all_eq_true.mp h b (List.mem_of_getElem? e)
  exact ⟨cls_ok (z 0 _ rfl), nosB_ok (z 1 _ rfl), eqO_ok (z 2 _ rfl), eqO_ok (z 3 _ rfl), of_decide_eq_true (z 4 _ rfl), of_decide_eq_true (z 5 _ rfl), of_decide_eq_true (z 6 _ rfl)⟩
theorem bclB_ok {K : PySem.W.Frag} {x : Str} {L : List Str} (h : bclB K x L = true) (nl : ("levels" : Str) ∉ L) (few : L.length ≤ 20) : BCl K (ga K x) L := by
  obtain ⟨h1, h2⟩ := ba h
  exact ⟨cls_ok h1, nosB_ok h2, nl, few⟩
/-! ### a def that asks for super -/
theorem noB_ok {v : Value} (h : noB v = true) : v = .none := by
  cases v with
  | none => rfl
  | _ => cases h
theorem fnoB_ok {K : PySem.W.Frag} {f : Addr} (h : fnoB K f = true) : ∃ o, K.lookup f = some o ∧ o.cls = .type "function" := by
  unfold fnoB at h
  cases e : K.lookup f with
  | none => rw [e] at h; cases h
  | some o =>
    obtain ⟨c, d, t, l⟩ := o
    rw [e] at h
    cases c with
    | type z =>
      refine ⟨_, rfl, ?_⟩
      rw [show z = "function" from of_decide_eq_true h]
    | _ => cases h
theorem sup_of {P : Program} {K : PySem.W.Frag} {x q : Str} {st : Stmt} (e : suV K x = suW q st) (h : (supL K P.main.file x q).all id = true) (top : (P.main.scope.names.lookup ("super" : Str)).isSome = false)
    (hb : ∀ (kV doc pm : Value) (an : Option Addr) (cda cc : Addr) (ct : Value) (us : List Value), us.length = (defArgs st).args.length → bindArgs (PySem.W.ksFn "__init__" q (defArgs st) (defBody st) (defScope st) .none kV doc pm an (.ref cda) ct cc) ⟨us, []⟩ = pure (((defArgs st).args.map (·.arg)).zip us)) : Sup P K x q st := by
  have z : ∀ i b, (supL K P.main.file x q)[i]? = some b → b = true := fun i b e => List.all_eq_true.mp h b (List.mem_of_getElem? e)
  obtain ⟨o2, ho2, co2⟩ := fnoB_ok (z 2 _ rfl)
  refine ⟨?_, mkr_ok (z 3 _ rfl), of_decide_eq_true (z 4 _ rfl), eqO_ok (z 5 _ rfl), eqO_ok (z 6 _ rfl), z 7 _ rfl, top⟩
  have h0 : inB K P.main.file x q = true := z 0 _ rfl
  have h1 : (PySem.W.clsIn K (ga K x)).isSome = true := z 1 _ rfl
  obtain ⟨cdD, hcd⟩ := Option.isSome_iff_exists.mp h1
  unfold suV at e
  unfold inB at h0
  cases l : K.lookup (ma K (ga K x) "__init__") with
  | none => rw [l] at h0; cases h0
  | some o =>
    obtain ⟨oc, od, dt, osl⟩ := o
    rw [l] at e h0
    cases dt with
    | func g =>
      obtain ⟨n1, n2, n3, n4, n5, n6, n7, n8, n9, n10, n11, n12, n13, n14, n15⟩ := g
      have e2 : (some (n1, n2, n3, n4, n5, n6, n7.map fun z => z.1, n15) : SuV) = some (("__init__" : Str), q, defArgs st, FuncBody.stmts (defBody st), defScope st, mainGlobals, [("__class__" : Str)], builtinsNs) := e
      simp only [Option.some.injEq, Prod.mk.injEq] at e2
      obtain ⟨h1, h2, h3, h4, h5, h6, h7, h8⟩ := e2
      subst h1 h2 h3 h4 h5 h6 h8
      obtain ⟨k0, k1⟩ := ba (show (noB n8 && (cellB K x n7 && fileB K P.main.file n2 n13)) = true from h0)
      obtain ⟨k1', k2⟩ := ba k1
      clear k1
      have k1 := k1'
      have k0 := noB_ok k0
      subst k0
      cases n7 with
      | nil => cases k1
      | cons y r =>
        cases r with
        | cons _ _ => cases k1
        | nil =>
          obtain ⟨y1, cc⟩ := y
          have h7 : [y1] = [("__class__" : Str)] := h7
          cases h7
          have k1 : (match K.lookup cc with
            | some ⟨_, _, .cell (some (.ref c)), _⟩ => decide (c = ga K x)
            | _ => false) = true := k1
          cases n13 with
          | ref cda =>
            obtain ⟨k3, k4⟩ := ba k2
            cases lc : K.lookup cda with
            | none => rw [lc] at k4; cases k4
            | some oo =>
              obtain ⟨ccl, cdd, dd, ccs⟩ := oo
              rw [lc] at k4
              cases dd with
              | fields arr =>
                have k4 : (match (arr[2]? : Option Value) with
                  | some (Value.str z _) => P.main.file == z
                  | _ => false) = true := k4
                cases la : arr[2]? with
                | none => rw [la] at k4; cases k4
                | some vv =>
                  rw [la] at k4
                  cases vv with
                  | str file tf =>
                    cases lx : K.lookup cc with
                    | none => rw [lx] at k1; cases k1
                    | some ox =>
                      obtain ⟨cl, cld, dx, csl⟩ := ox
                      rw [lx] at k1
                      cases dx with
                      | cell cv =>
                        cases cv with
                        | none => cases k1
                        | some vv2 =>
                          cases vv2 with
                          | ref c =>
                            have ec : c = ga K x := of_decide_eq_true k1
                            subst ec
                            exact ⟨oc, od, .none, n9, n10, n11, n12, cda, cc, n14, osl, ccl, cl, cdd, cld, arr, ccs, csl, file, tf, cdD, o2, rfl, k3, lc, la, k4, lx, hcd, ho2, co2, hb n9 n10 n11 n12 cda cc n14⟩
                          | _ => cases k1
                      | _ => cases k1
                  | _ => cases k4
              | _ => cases k4
          | _ => cases k2
    | _ => cases h0
/-! ### the Hook -/
section
variable {a : Ask} {K : PySem.W.Frag}
theorem all_of (c : a.see K = a.want) {b : Bool} (h : b ∈ a.bits K) : b = true := by
  have c1 : [(a.bits K).all id] = [true] := congrArg (fun z : AlK => z.1.1) c
  exact List.all_eq_true.mp (List.cons.inj c1).1 b h
theorem fa_of (c : a.see K = a.want) (i : Nat) {f : Fa} (h : a.fa[i]? = some f) : f.ok K = true :=
  all_of c (List.mem_append_left _ (List.mem_map.mpr ⟨f, List.mem_of_getElem? h, rfl⟩))
theorem ex_of (c : a.see K = a.want) (i : Nat) {f : PySem.W.Frag → Bool} (h : a.ex[i]? = some f) : f K = true :=
  all_of c (List.mem_append_right _ (List.mem_append_right _ (List.mem_map.mpr ⟨f, List.mem_of_getElem? h, rfl⟩)))
theorem fn_of (c : a.see K = a.want) (i : Nat) {d : DefD} (h : a.fn[i]? = some d) : ∃ fd, FunD K d.name d.qual d.params d.body d.scope (d.dvs K) (d.kws K) (fAd K d.at_) fd := by
  have e : a.fn.map (fun d => fnW K d.at_) = a.fn.map DefD.val := congrArg (fun z : AlK => z.1.2) c
  have e2 : (a.fn.map fun d => fnW K d.at_)[i]? = (a.fn.map DefD.val)[i]? := by rw [e]
  rw [List.getElem?_map, List.getElem?_map, h] at e2
  exact DefD.funD (Option.some.inj e2) (all_of c (List.mem_append_right _ (List.mem_append_left _ (List.mem_map.mpr ⟨d, List.mem_of_getElem? h, rfl⟩))))
theorem su_of (c : a.see K = a.want) (i : Nat) {z : Str × Str × Stmt} (h : a.su[i]? = some z) : suV K z.1 = suW z.2.1 z.2.2 := by
  have e : a.su.map (fun z => suV K z.1) = a.su.map fun z => suW z.2.1 z.2.2 := congrArg (fun z : AlK => z.2) c
  have e2 : (a.su.map fun z => suV K z.1)[i]? = (a.su.map fun z => suW z.2.1 z.2.2)[i]? := by rw [e]
  rw [List.getElem?_map, List.getElem?_map, h] at e2
  exact Option.some.inj e2
end
end

/-! This law's facts (printed by gen_h.py). -/
section
open He
section
variable {K : PySem.W.Frag} {h : Heap} {mg : Str → Option Value}
theorem tx_of (X : K.In h) (G : h.Ns mainGlobals mg) (c : asks.see K = asks.want) : Tx K mg := by
  have fr : ∀ (i : Nat) (x : Str), asFa[i]? = some (.free x) → mg x = none := fun i x e => free_ok X G (fa_of c i e)
  have gl : ∀ (i : Nat) (x : Str), asFa[i]? = some (.glo x) → mg x = some (.ref (ga K x)) := fun i x e => glo_ok X G (fa_of c i e)
  have ic : ∀ (i : Nat) (x : Str) (n : Int), asFa[i]? = some (.int x n) → ∃ t, mg x = some (.int n t) := fun i x n e => int_ok X G (fa_of c i e)
  have df : ∀ (i j : Nat) (x name qual : Str) (st : Stmt) (dvs : List Dv), asFn[i]? = some ⟨(x, none), name, qual, defArgs st, defBody st, defScope st, dvs, []⟩ → asFa[j]? = some (.glo x) → Df K mg x name qual st (dvs.map (Dv.v K)) := fun i j x name qual st dvs e1 e2 => ⟨fn_of c i e1, gl j x e2⟩
  exact {
    bl := ⟨fr 0 _ rfl, fr 1 _ rfl, fr 2 _ rfl, fr 3 _ rfl, fr 4 _ rfl, fr 5 _ rfl, fr 6 _ rfl, fr 7 _ rfl, fr 8 _ rfl, fr 9 _ rfl, fr 10 _ rfl, fr 11 _ rfl, fr 12 _ rfl, fr 13 _ rfl, fr 14 _ rfl, fr 15 _ rfl, fr 16 _ rfl⟩
    x_is_integer := df 0 17 _ _ _ st_is_integer [] rfl rfl
    x_is_within := df 1 18 _ _ _ st_is_within [] rfl rfl
    x_is_list := df 2 19 _ _ _ st_is_list [] rfl rfl
    x_common := df 3 20 _ _ _ st_common [] rfl rfl
    x_is_number := df 4 21 _ _ _ st_is_number [] rfl rfl
    x_above_in := df 5 22 _ _ _ st_above_in [] rfl rfl
    x_is_from_0 := df 6 23 _ _ _ st_is_from_0 [] rfl rfl
    x_is_row := df 7 24 _ _ _ st_is_row [] rfl rfl
    x_is_sum_1 := df 8 25 _ _ _ st_is_sum_1 [] rfl rfl
    x_is_mix_of := df 9 26 _ _ _ st_is_mix_of [] rfl rfl
    x_is_market_of := df 10 27 _ _ _ st_is_market_of [] rfl rfl
    x_is_word_of := df 11 28 _ _ _ st_is_word_of [] rfl rfl
    x_kept := df 12 29 _ _ _ st_kept [] rfl rfl
    x_kept_row := df 13 30 _ _ _ st_kept_row [] rfl rfl
    x_need_integer := df 14 31 _ _ _ st_need_integer [] rfl rfl
    x_need_goods := df 15 32 _ _ _ st_need_goods [] rfl rfl
    x_need_days := df 16 33 _ _ _ st_need_days [] rfl rfl
    x_need_day := df 17 34 _ _ _ st_need_day [.str "day"] rfl rfl
    x_need_market := df 18 35 _ _ _ st_need_market [.str "market"] rfl rfl
    x_need_word := df 19 36 _ _ _ st_need_word [.str "word"] rfl rfl
    x_halves := df 20 37 _ _ _ st_halves [] rfl rfl
    x_lowest := df 21 38 _ _ _ st_lowest [] rfl rfl
    x_added := df 22 39 _ _ _ st_added [] rfl rfl
    x_turned := df 23 40 _ _ _ st_turned [] rfl rfl
    x_less_by := df 24 41 _ _ _ st_less_by [] rfl rfl
    x_product := df 25 42 _ _ _ st_product [] rfl rfl
    x_part_by := df 26 43 _ _ _ st_part_by [] rfl rfl
    x_sign_in := df 27 44 _ _ _ st_sign_in [] rfl rfl
    x_total := df 28 45 _ _ _ st_total [] rfl rfl
    x_summed := df 29 46 _ _ _ st_summed [] rfl rfl
    x_multiplied := df 30 47 _ _ _ st_multiplied [] rfl rfl
    x_raised := df 31 48 _ _ _ st_raised [] rfl rfl
    x_power_in := df 32 49 _ _ _ st_power_in [] rfl rfl
    x_lightning_in := df 33 50 _ _ _ st_lightning_in [] rfl rfl
    x_lightnings_in := df 34 51 _ _ _ st_lightnings_in [] rfl rfl
    x_run_in := df 35 52 _ _ _ st_run_in [] rfl rfl
    x_need_promise := df 36 53 _ _ _ st_need_promise [.str "promise", .non] rfl rfl
    x_need_shares := df 37 54 _ _ _ st_need_shares [] rfl rfl
    x_times_in := df 38 55 _ _ _ st_times_in [] rfl rfl
    x_spread := df 39 56 _ _ _ st_spread [] rfl rfl
    x_best_at := df 40 57 _ _ _ st_best_at [] rfl rfl
    x_worth_in := df 41 58 _ _ _ st_worth_in [] rfl rfl
    x_worth_at_in := df 42 59 _ _ _ st_worth_at_in [] rfl rfl
    x_best_many := df 43 60 _ _ _ st_best_many [] rfl rfl
    x_has_best_in := df 44 61 _ _ _ st_has_best_in [] rfl rfl
    x_named_by := df 45 62 _ _ _ st_named_by [] rfl rfl
    x_named_in := df 46 63 _ _ _ st_named_in [] rfl rfl
    x_need_no_best := df 47 64 _ _ _ st_need_no_best [] rfl rfl
    x_worth := df 48 65 _ _ _ st_worth [] rfl rfl
    x_worth_at := df 49 66 _ _ _ st_worth_at [] rfl rfl
    x_named := df 50 67 _ _ _ st_named [] rfl rfl
    x_choose_in := df 51 68 _ _ _ st_choose_in [] rfl rfl
    x_counts_in := df 52 69 _ _ _ st_counts_in [] rfl rfl
    x_many_counts := df 53 70 _ _ _ st_many_counts [] rfl rfl
    x_counts_of_all := df 54 71 _ _ _ st_counts_of_all [] rfl rfl
    x_ways_in := df 55 72 _ _ _ st_ways_in [] rfl rfl
    x_need_few_counts := df 56 73 _ _ _ st_need_few_counts [] rfl rfl
    x_orderless_in := df 57 74 _ _ _ st_orderless_in [] rfl rfl
    x_best_by := df 58 75 _ _ _ st_best_by [] rfl rfl
    x_worth_by_prices := df 59 76 _ _ _ st_worth_by_prices [] rfl rfl
    x_by_counts := df 60 77 _ _ _ st_by_counts [] rfl rfl
    x_by_one_line := df 61 78 _ _ _ st_by_one_line [] rfl rfl
    x_rest_through := df 62 79 _ _ _ st_rest_through [] rfl rfl
    x_rest_in := df 63 80 _ _ _ st_rest_in [] rfl rfl
    x_price_in := df 64 81 _ _ _ st_price_in [] rfl rfl
    x_price := df 65 82 _ _ _ st_price [] rfl rfl
    x_rest := df 66 83 _ _ _ st_rest [] rfl rfl
    x_behind := df 67 84 _ _ _ st_behind [] rfl rfl
    x_keys_of := df 68 85 _ _ _ st_keys_of [] rfl rfl
    x_worth_of_key := df 69 86 _ _ _ st_worth_of_key [] rfl rfl
    x_rests_of := df 70 87 _ _ _ st_rests_of [] rfl rfl
    x_list_book := df 71 88 _ _ _ st_list_book [] rfl rfl
    x_inner_book := df 72 89 _ _ _ st_inner_book [] rfl rfl
    x_tower := df 73 90 _ _ _ st_tower [] rfl rfl
    x_worth_by_bests := df 74 91 _ _ _ st_worth_by_bests [] rfl rfl
    x_joined := df 75 92 _ _ _ st_joined [] rfl rfl
    x_rest_by := df 76 93 _ _ _ st_rest_by [] rfl rfl
    x_prices_to := df 77 94 _ _ _ st_prices_to [] rfl rfl
    x_need_counted := df 78 95 _ _ _ st_need_counted [] rfl rfl
    x_best_worth := df 79 96 _ _ _ st_best_worth [] rfl rfl
    x_best_price := df 80 97 _ _ _ st_best_price [] rfl rfl
    x_all_best := df 81 98 _ _ _ st_all_best [] rfl rfl
    x_best_rest := df 82 99 _ _ _ st_best_rest [] rfl rfl
    x_rising := df 83 100 _ _ _ st_rising [] rfl rfl
    x_best_stretch := df 84 101 _ _ _ st_best_stretch [] rfl rfl
    x_law_fair := df 85 102 _ _ _ st_law_fair [] rfl rfl
    x_law_deal := df 86 103 _ _ _ st_law_deal [] rfl rfl
    x_law_one_of := df 87 104 _ _ _ st_law_one_of [] rfl rfl
    x_law_number := df 88 105 _ _ _ st_law_number [] rfl rfl
    x_law_halves := df 89 106 _ _ _ st_law_halves [] rfl rfl
    x_law_sum := df 90 107 _ _ _ st_law_sum [] rfl rfl
    x_law_times := df 91 108 _ _ _ st_law_times [] rfl rfl
    x_law_is_below := df 92 109 _ _ _ st_law_is_below [] rfl rfl
    x_law_mix := df 93 110 _ _ _ st_law_mix [] rfl rfl
    x_law_day := df 94 111 _ _ _ st_law_day [] rfl rfl
    x_law_pays := df 95 112 _ _ _ st_law_pays [] rfl rfl
    x_law_tower := df 96 113 _ _ _ st_law_tower [] rfl rfl
    x_law_worth := df 97 114 _ _ _ st_law_worth [] rfl rfl
    x_law_words := df 98 115 _ _ _ st_law_words [] rfl rfl
    x_law_with := df 99 116 _ _ _ st_law_with [] rfl rfl
    x_law_rest := df 100 117 _ _ _ st_law_rest [] rfl rfl
    x_law_purse := df 101 118 _ _ _ st_law_purse [] rfl rfl
    x_law_makes := df 102 119 _ _ _ st_law_makes [] rfl rfl
    x_law_told_right := df 103 120 _ _ _ st_law_told_right [] rfl rfl
    x_law := df 104 121 _ _ _ st_law [] rfl rfl
    c_MOST_GOODS := ic 122 _ _ rfl
    c_MOST_DAYS := ic 123 _ _ rfl
    c_MOST_COUNT_promises := ic 124 _ _ rfl
    c_MOST_COUNTS_words := ic 125 _ _ rfl
    c_MOST_COUNT_bests := ic 126 _ _ rfl
    c_MOST_LOTS := ic 127 _ _ rfl
    c_MOST_BEST_DAYS := ic 128 _ _ rfl
    c_MOST_COUNTS_bests := ic 129 _ _ rfl
    c_MOST_HALVED := ic 130 _ _ rfl
  }
theorem to_of (X : K.In h) (G : h.Ns mainGlobals mg) (c : asks.see K = asks.want) : To K mg where
  g_Promise := glo_ok X G (fa_of c 131 rfl)
  p_Promise := pclB_ok (ex_of c 0 rfl)
  p_Mix := pclB_ok (ex_of c 1 rfl)
  p_BestMix := pclB_ok (ex_of c 2 rfl)
  ord := ⟨_, glo_ok X G (fa_of c 136 rfl), tupB_ok (vs := [.str "then", .str "walk"]) (ex_of c 5 rfl)⟩
theorem tm_of (X : K.In h) (G : h.Ns mainGlobals mg) (c : asks.see K = asks.want) : Tm Pg K mg where
  d_Promise := ⟨fn_of c 105 (d := d_Promise_init) rfl, meth_ok (fa_of c 140 rfl)⟩
  k_Promise := mkr_ok (fa_of c 137 rfl)
  s_Mix := sup_of (su_of c 0 rfl) (ex_of c 6 rfl) (by decide +kernel) fun _ _ _ _ _ _ _ us hl => match us, (show us.length = 2 from hl) with | [_, _], _ => rfl
  s_BestMix := sup_of (su_of c 1 rfl) (ex_of c 7 rfl) (by decide +kernel) fun _ _ _ _ _ _ _ us hl => match us, (show us.length = 3 from hl) with | [_, _, _], _ => rfl
  g_Mix := glo_ok X G (fa_of c 132 rfl)
  g_BestMix := glo_ok X G (fa_of c 133 rfl)
theorem tb_of (X : K.In h) (G : h.Ns mainGlobals mg) (c : asks.see K = asks.want) : Tb Pg K mg where
  c_LB := bclB_ok (ex_of c 3 rfl) (by decide) (by decide)
  k_LB := mkr_ok (fa_of c 138 rfl)
  g_LB := glo_ok X G (fa_of c 134 rfl)
  m_LB_init := ⟨fn_of c 106 (d := d_ListBook_init) rfl, meth_ok (fa_of c 141 rfl)⟩
  m_LB_purse := ⟨fn_of c 107 (d := d_ListBook_purse) rfl, meth_ok (fa_of c 142 rfl)⟩
  m_LB_amounts := ⟨fn_of c 108 (d := d_ListBook_amounts) rfl, meth_ok (fa_of c 143 rfl)⟩
  m_LB_amount := ⟨fn_of c 109 (d := d_ListBook_amount) rfl, meth_ok (fa_of c 144 rfl)⟩
  m_LB_come := ⟨fn_of c 110 (d := d_ListBook_come) rfl, meth_ok (fa_of c 145 rfl)⟩
  c_Bk := bclB_ok (ex_of c 4 rfl) (by decide) (by decide)
  k_Bk := mkr_ok (fa_of c 139 rfl)
  g_Bk := glo_ok X G (fa_of c 135 rfl)
  m_Bk_init := ⟨fn_of c 111 (d := d_Book_init) rfl, meth_ok (fa_of c 146 rfl)⟩
  m_Bk_tell := ⟨fn_of c 112 (d := d_Book_tell) rfl, meth_ok (fa_of c 147 rfl)⟩
  m_Bk_day := ⟨fn_of c 113 (d := d_Book_day) rfl, meth_ok (fa_of c 148 rfl)⟩
end
end
set_option maxHeartbeats 0
section
open PySem.Spec PyProof.Rows He
theorem facts {w : World} {K : PySem.W.Frag} {h : Heap} {mg : Str → Option Value} {f : Addr} (X : K.In h) (G : h.Ns mainGlobals mg) (hfa : mg ("law" : Str) = some (.ref f)) (c : asks.see K = asks.want) :
    ∃ fd : FuncData, (∀ (s : Shared) (v : Value), BindsTo s fd ⟨[v], []⟩ [("_law_script", v)]) ∧ ∀ base : Heap, K.In base → base.Ns mainGlobals mg → FnG Pg w K mg base 13 f fd ["_law_script"] (spLaw K) := by
  have T := tx_of X G c
  obtain ⟨fd, F⟩ := T.x_law.fn
  have e := hfa.symm.trans T.x_law.mg
  cases e
  have b := FunD.bindsA (ps := ["_law_script"]) F fun _ _ _ _ _ _ us hl => match us, hl with | [_], _ => rfl
  exact ⟨fd, fun s v => b s [v] rfl, fun base _ _ => ok_law T (to_of X G c) (tm_of X G c) (tb_of X G c) F⟩
theorem end_of (run : RunK) : PySem.Challenge.rw_hindprice_k80_whole_best_mixes_four_ways.Holds := by
  w_on; o_law
  refine HandSHeadRun.head_any (r := rowK) (q := qK) (H := hkK) (ob := obK) (M := 20000) (loose := bnames) (d := HandSHeadRun.topDef rowK.prog 176) (kwd := []) obK_eq
    (by kernel_rfl) (fun s => by kernel_rfl) run (by kernel_rfl) (by kernel_rfl) (by kernel_rfl) (by rfl) (by first | assumption | decide +kernel) (by decide +kernel) ⟨rfl, rfl, rfl, rfl, rfl, by decide +kernel⟩ ?hw ?hc
  case hw => w_witness2
  case hc =>
    refine walk_ofG (l := PySem.Challenge.rw_hindprice_k80_whole_best_mixes_four_ways) (n := 63) (k := 13) (x := "_law_script") rfl (by decide) (by kernel_rfl) ⟨rfl, by decide, by decide⟩ ?F
    intro w mg fa h Y G hmg0
    obtain ⟨K, KX, c⟩ := Y
    have hmg : mg ("law" : PySem.Str) = some (.ref fa) := by
      have e : (HandSHeadRun.topDef rowK.prog 176).name = ("law" : PySem.Str) := by kernel_rfl
      rw [← e]
      exact hmg0
    obtain ⟨fd, hb, hF⟩ := facts (w := w) KX G hmg c
    exact ⟨K, fd, spLaw K, KX, hb, fun H a ns hS => ⟨a, ns, rfl, hS, fun _ => rfl⟩, hF⟩
end
end K8
theorem PySem.Challenge.cw_hindprice_k80_whole_best_mixes_four_ways_holds : PySem.Challenge.rw_hindprice_k80_whole_best_mixes_four_ways.Holds := by
  exact K8.end_of K8.runK
end
