import PyProof.Rows.All
import Wide.All
import OpenK.AllK
import Wide.FinOn
import KE.KStateDown
import Lean
import HandS.ForMost
import HandS.Exc
import HandS.Defaults
import HandS.Wide
import HandS.Gcd
import HandS.Style
import HandS.Flow
import HandS.Star
import HandS.IsInst
import HandS.RaiseMore
import HandS.ExcSuper
import HandS.Lambda
import HandS.Nested
import HandS.HeadHook1
import HandS.HeadHook2
import HandS.HeadNt
import HandS.HeadHook4
import HandS.HeadWalk
import HandS.ExcInit
import HandS.ExcField
import HandS.ExcIs
import HandS.ExcValue
import KE.KSuper
import KE.KExcSuper
import HandS.TryOnly
import HandS.Head0
import HandS.Head1
import HandS.Head2
import HandS.Head3
import HandS.HeadEnd
import KE.KTupSum
import KE.GoesMore
import KE.GoesEnum
import KE.DataMinMax
import Flt.RightSqrt
import PyProof.SeqIndex
import PyProof.EnumMake
import PyProof.EnumFor
import PyProof.AssignAttr
import KE.KAssignIn
import HandS.GenOver
import HandS.GenList
import KE.KExcIs
import KE.KDflt
import KE.KDictPairs
import HandS.MakeKwOnly
import PySem.Challenge.RW_bendsigns_k60_whole_signs_by_the_rim
set_option Elab.async false
set_option linter.all false
set_option maxRecDepth 100000
/-! HB -/
set_option maxHeartbeats 0
namespace Bh
open PySem PySem.Spec PyProof.Rows L2
abbrev R : PySem.W.OpenRow := PySem.W.OpenLaw.row PySem.Challenge.rw_bendsigns_k60_whole_signs_by_the_rim
def top (i : Nat) : Stmt := PySem.Challenge.pw_bendsigns_k60_whole_signs_by_the_rim.main.body.getD i (.Pass ⟨0, 0, 0, 0⟩)

def d_is_integer : He5.DefA := ⟨fun K => He.ga K "is_integer", "is_integer", "is_integer", defArgs (top 17), defBody (top 17), defScope (top 17), [], []⟩
def d_is_within : He5.DefA := ⟨fun K => He.ga K "is_within", "is_within", "is_within", defArgs (top 18), defBody (top 18), defScope (top 18), [], []⟩
def d_is_place : He5.DefA := ⟨fun K => He.ga K "is_place", "is_place", "is_place", defArgs (top 19), defBody (top 19), defScope (top 19), [], []⟩
def d_are_integers : He5.DefA := ⟨fun K => He.ga K "are_integers", "are_integers", "are_integers", defArgs (top 20), defBody (top 20), defScope (top 20), [], []⟩
def d_need_number : He5.DefA := ⟨fun K => He.ga K "need_number", "need_number", "need_number", defArgs (top 21), defBody (top 21), defScope (top 21), [], []⟩
def d_need_place : He5.DefA := ⟨fun K => He.ga K "need_place", "need_place", "need_place", defArgs (top 22), defBody (top 22), defScope (top 22), [], []⟩
def d_need_places : He5.DefA := ⟨fun K => He.ga K "need_places", "need_places", "need_places", defArgs (top 23), defBody (top 23), defScope (top 23), [], []⟩
def d_measure : He5.DefA := ⟨fun K => He.ga K "measure", "measure", "measure", defArgs (top 24), defBody (top 24), defScope (top 24), [], []⟩
def d_root_of : He5.DefA := ⟨fun K => He.ga K "root_of", "root_of", "root_of", defArgs (top 25), defBody (top 25), defScope (top 25), [], []⟩
def d_need_numbers : He5.DefA := ⟨fun K => He.ga K "need_numbers", "need_numbers", "need_numbers", defArgs (top 31), defBody (top 31), defScope (top 31), [], []⟩
def d_need_form : He5.DefA := ⟨fun K => He.ga K "need_form", "need_form", "need_form", defArgs (top 32), defBody (top 32), defScope (top 32), [.str "form"], []⟩
def d_Form_init : He5.DefA := ⟨fun K => He.ma K (He.ga K "Form") "__init__", "__init__", "Form.__init__", defArgs (inClass (top 36) 0), defBody (inClass (top 36) 0), defScope (inClass (top 36) 0), [], []⟩
def d_need_bends : He5.DefA := ⟨fun K => He.ga K "need_bends", "need_bends", "need_bends", defArgs (top 38), defBody (top 38), defScope (top 38), [], []⟩
def d_need_four : He5.DefA := ⟨fun K => He.ga K "need_four", "need_four", "need_four", defArgs (top 39), defBody (top 39), defScope (top 39), [.str "four"], []⟩
def d_let_in : He5.DefA := ⟨fun K => He.ga K "let_in", "let_in", "let_in", defArgs (top 40), defBody (top 40), defScope (top 40), [], []⟩
def d_exchanged_at : He5.DefA := ⟨fun K => He.ga K "exchanged_at", "exchanged_at", "exchanged_at", defArgs (top 41), defBody (top 41), defScope (top 41), [], []⟩
def d_Four_init : He5.DefA := ⟨fun K => He.ma K (He.ga K "Four") "__init__", "__init__", "Four.__init__", defArgs (inClass (top 42) 0), defBody (inClass (top 42) 0), defScope (inClass (top 42) 0), [], []⟩
def d_others_of : He5.DefA := ⟨fun K => He.ga K "others_of", "others_of", "others_of", defArgs (top 44), defBody (top 44), defScope (top 44), [], []⟩
def d_numbers_at : He5.DefA := ⟨fun K => He.ga K "numbers_at", "numbers_at", "numbers_at", defArgs (top 45), defBody (top 45), defScope (top 45), [], []⟩
def d_need_bent : He5.DefA := ⟨fun K => He.ga K "need_bent", "need_bent", "need_bent", defArgs (top 46), defBody (top 46), defScope (top 46), [], []⟩
def d_need_round : He5.DefA := ⟨fun K => He.ga K "need_round", "need_round", "need_round", defArgs (top 47), defBody (top 47), defScope (top 47), [], []⟩
def d_form_at : He5.DefA := ⟨fun K => He.ga K "form_at", "form_at", "form_at", defArgs (top 48), defBody (top 48), defScope (top 48), [], []⟩
def d_fixed : He5.DefA := ⟨fun K => He.ga K "fixed", "fixed", "fixed", defArgs (top 50), defBody (top 50), defScope (top 50), [], []⟩
def d_Paper_init : He5.DefA := ⟨fun K => He.ma K (He.ga K "Paper") "__init__", "__init__", "Paper.__init__", defArgs (inClass (top 51) 0), defBody (inClass (top 51) 0), defScope (inClass (top 51) 0), [], []⟩
def d_primes_in : He5.DefA := ⟨fun K => He.ga K "primes_in", "primes_in", "primes_in", defArgs (top 54), defBody (top 54), defScope (top 54), [], []⟩
def d_prime_powers : He5.DefA := ⟨fun K => He.ga K "prime_powers", "prime_powers", "prime_powers", defArgs (top 55), defBody (top 55), defScope (top 55), [], []⟩
def d_lowering : He5.DefA := ⟨fun K => He.ga K "lowering", "lowering", "lowering", defArgs (top 58), defBody (top 58), defScope (top 58), [], []⟩
def d_down : He5.DefA := ⟨fun K => He.ga K "down", "down", "down", defArgs (top 59), defBody (top 59), defScope (top 59), [], []⟩
def d_least : He5.DefA := ⟨fun K => He.ga K "least", "least", "least", defArgs (top 60), defBody (top 60), defScope (top 60), [], []⟩
def d_gasket_form : He5.DefA := ⟨fun K => He.ga K "gasket_form", "gasket_form", "gasket_form", defArgs (top 62), defBody (top 62), defScope (top 62), [], []⟩
def d_need_asked : He5.DefA := ⟨fun K => He.ga K "need_asked", "need_asked", "need_asked", defArgs (top 64), defBody (top 64), defScope (top 64), [], []⟩
def d_odd_part : He5.DefA := ⟨fun K => He.ga K "odd_part", "odd_part", "odd_part", defArgs (top 65), defBody (top 65), defScope (top 65), [], []⟩
def d_is_turned : He5.DefA := ⟨fun K => He.ga K "is_turned", "is_turned", "is_turned", defArgs (top 66), defBody (top 66), defScope (top 66), [], []⟩
def d_come_down : He5.DefA := ⟨fun K => He.ga K "come_down", "come_down", "come_down", defArgs (top 67), defBody (top 67), defScope (top 67), [], []⟩
def d_own_symbol : He5.DefA := ⟨fun K => He.ga K "own_symbol", "own_symbol", "own_symbol", defArgs (top 68), defBody (top 68), defScope (top 68), [], []⟩
def d_symbol : He5.DefA := ⟨fun K => He.ga K "symbol", "symbol", "symbol", defArgs (top 69), defBody (top 69), defScope (top 69), [], []⟩
def d_need_primes : He5.DefA := ⟨fun K => He.ga K "need_primes", "need_primes", "need_primes", defArgs (top 73), defBody (top 73), defScope (top 73), [], []⟩
def d_worth_beside : He5.DefA := ⟨fun K => He.ga K "worth_beside", "worth_beside", "worth_beside", defArgs (top 74), defBody (top 74), defScope (top 74), [], []⟩
def d_signs_of : He5.DefA := ⟨fun K => He.ga K "signs_of", "signs_of", "signs_of", defArgs (top 75), defBody (top 75), defScope (top 75), [], []⟩
def d_sign_alone : He5.DefA := ⟨fun K => He.ga K "sign_alone", "sign_alone", "sign_alone", defArgs (top 76), defBody (top 76), defScope (top 76), [], []⟩
def d_sign_of_rim : He5.DefA := ⟨fun K => He.ga K "sign_of_rim", "sign_of_rim", "sign_of_rim", defArgs (top 77), defBody (top 77), defScope (top 77), [], []⟩
def d_local_signs : He5.DefA := ⟨fun K => He.ga K "local_signs", "local_signs", "local_signs", defArgs (top 78), defBody (top 78), defScope (top 78), [], []⟩
def d_sign_by_rim : He5.DefA := ⟨fun K => He.ga K "sign_by_rim", "sign_by_rim", "sign_by_rim", defArgs (top 79), defBody (top 79), defScope (top 79), [], []⟩
def d_need_fan : He5.DefA := ⟨fun K => He.ga K "need_fan", "need_fan", "need_fan", defArgs (top 81), defBody (top 81), defScope (top 81), [], []⟩
def d_other_places : He5.DefA := ⟨fun K => He.ga K "other_places", "other_places", "other_places", defArgs (top 82), defBody (top 82), defScope (top 82), [], []⟩
def d_are_coprime : He5.DefA := ⟨fun K => He.ga K "are_coprime", "are_coprime", "are_coprime", defArgs (top 83), defBody (top 83), defScope (top 83), [], []⟩
def d_fan : He5.DefA := ⟨fun K => He.ga K "fan", "fan", "fan", defArgs (top 84), defBody (top 84), defScope (top 84), [], []⟩
def d_sign_of_two : He5.DefA := ⟨fun K => He.ga K "sign_of_two", "sign_of_two", "sign_of_two", defArgs (top 87), defBody (top 87), defScope (top 87), [], []⟩
def d_first_place : He5.DefA := ⟨fun K => He.ga K "first_place", "first_place", "first_place", defArgs (top 88), defBody (top 88), defScope (top 88), [], []⟩
def d_sign : He5.DefA := ⟨fun K => He.ga K "sign", "sign", "sign", defArgs (top 89), defBody (top 89), defScope (top 89), [], []⟩
def d_law_bowl : He5.DefA := ⟨fun K => He.ga K "_law_bowl", "_law_bowl", "_law_bowl", defArgs (top 91), defBody (top 91), defScope (top 91), [], []⟩
def d_law_ladle : He5.DefA := ⟨fun K => He.ga K "_law_ladle", "_law_ladle", "_law_ladle", defArgs (top 92), defBody (top 92), defScope (top 92), [], []⟩
def d_law_pick : He5.DefA := ⟨fun K => He.ga K "_law_pick", "_law_pick", "_law_pick", defArgs (top 93), defBody (top 93), defScope (top 93), [], []⟩
def d_law_shared : He5.DefA := ⟨fun K => He.ga K "_law_shared", "_law_shared", "_law_shared", defArgs (top 94), defBody (top 94), defScope (top 94), [], []⟩
def d_law_all_least : He5.DefA := ⟨fun K => He.ga K "_law_all_least", "_law_all_least", "_law_all_least", defArgs (top 95), defBody (top 95), defScope (top 95), [], []⟩
def d_law_least : He5.DefA := ⟨fun K => He.ga K "_law_least", "_law_least", "_law_least", defArgs (top 99), defBody (top 99), defScope (top 99), [], []⟩
def d_law_primes : He5.DefA := ⟨fun K => He.ga K "_law_primes", "_law_primes", "_law_primes", defArgs (top 101), defBody (top 101), defScope (top 101), [], []⟩
def d_law_symbol : He5.DefA := ⟨fun K => He.ga K "_law_symbol", "_law_symbol", "_law_symbol", defArgs (top 102), defBody (top 102), defScope (top 102), [], []⟩
def d_law_bends : He5.DefA := ⟨fun K => He.ga K "_law_bends", "_law_bends", "_law_bends", defArgs (top 103), defBody (top 103), defScope (top 103), [], []⟩
def d_law_exchanged : He5.DefA := ⟨fun K => He.ga K "_law_exchanged", "_law_exchanged", "_law_exchanged", defArgs (top 105), defBody (top 105), defScope (top 105), [], []⟩
def d_law_led : He5.DefA := ⟨fun K => He.ga K "_law_led", "_law_led", "_law_led", defArgs (top 106), defBody (top 106), defScope (top 106), [], []⟩
def d_law_mixed : He5.DefA := ⟨fun K => He.ga K "_law_mixed", "_law_mixed", "_law_mixed", defArgs (top 107), defBody (top 107), defScope (top 107), [], []⟩
def d_law_pair_sign : He5.DefA := ⟨fun K => He.ga K "_law_pair_sign", "_law_pair_sign", "_law_pair_sign", defArgs (top 108), defBody (top 108), defScope (top 108), [], []⟩
def d_law_own_sign : He5.DefA := ⟨fun K => He.ga K "_law_own_sign", "_law_own_sign", "_law_own_sign", defArgs (top 109), defBody (top 109), defScope (top 109), [], []⟩
def d_law_by_rim : He5.DefA := ⟨fun K => He.ga K "_law_by_rim", "_law_by_rim", "_law_by_rim", defArgs (top 110), defBody (top 110), defScope (top 110), [], []⟩
def d_law_gasket_right : He5.DefA := ⟨fun K => He.ga K "_law_gasket_right", "_law_gasket_right", "_law_gasket_right", defArgs (top 111), defBody (top 111), defScope (top 111), [], []⟩
def d_law_heard : He5.DefA := ⟨fun K => He.ga K "_law_heard", "_law_heard", "_law_heard", defArgs (top 112), defBody (top 112), defScope (top 112), [], []⟩
def d_law_idle : He5.DefA := ⟨fun K => He.ga K "_law_idle", "_law_idle", "_law_idle", defArgs (top 113), defBody (top 113), defScope (top 113), [], []⟩
def d_law_edges_right : He5.DefA := ⟨fun K => He.ga K "_law_edges_right", "_law_edges_right", "_law_edges_right", defArgs (top 114), defBody (top 114), defScope (top 114), [], []⟩
def d_law : He5.DefA := ⟨fun K => He.ga K "law", "law", "law", defArgs (top 115), defBody (top 115), defScope (top 115), [], []⟩
def fn0 : List He5.DefA := [d_is_integer, d_is_within, d_is_place, d_are_integers, d_need_number, d_need_place, d_need_places, d_measure, d_root_of, d_need_numbers]
def fn1 : List He5.DefA := [d_need_form, d_Form_init, d_need_bends, d_need_four, d_let_in, d_exchanged_at, d_Four_init, d_others_of, d_numbers_at, d_need_bent]
def fn2 : List He5.DefA := [d_need_round, d_form_at, d_fixed, d_Paper_init, d_primes_in, d_prime_powers, d_lowering, d_down, d_least, d_gasket_form]
def fn3 : List He5.DefA := [d_need_asked, d_odd_part, d_is_turned, d_come_down, d_own_symbol, d_symbol, d_need_primes, d_worth_beside, d_signs_of, d_sign_alone]
def fn4 : List He5.DefA := [d_sign_of_rim, d_local_signs, d_sign_by_rim, d_need_fan, d_other_places, d_are_coprime, d_fan, d_sign_of_two, d_first_place, d_sign]
def fn5 : List He5.DefA := [d_law_bowl, d_law_ladle, d_law_pick, d_law_shared, d_law_all_least, d_law_least, d_law_primes, d_law_symbol, d_law_bends, d_law_exchanged]
def fn6 : List He5.DefA := [d_law_led, d_law_mixed, d_law_pair_sign, d_law_own_sign, d_law_by_rim, d_law_gasket_right, d_law_heard, d_law_idle, d_law_edges_right, d_law]
def fn : List He5.DefA := fn0 ++ fn1 ++ fn2 ++ fn3 ++ fn4 ++ fn5 ++ fn6
def fa0 : List He.Fa := [.free "len", .free "sum", .free "isinstance", .free "all", .free "int", .free "bool", .free "list", .free "tuple", .free "range", .free "enumerate"]
def fa1 : List He.Fa := [.free "min", .free "abs", .free "dict", .free "repr", .free "super", .int "PLACES" 4, .int "MOST_LETTERS" 200, .int "MOST_COUNTED" 1000000, .int "MOST_SIDE" 1000000, .int "EIGHT" 8]
def fa2 : List He.Fa := [.glo "BendError", .glo "BadNumber", .glo "BadFour", .glo "BadForm", .glo "Missing", .glo "NoPlace", .glo "Twice", .glo "TooMany", .glo "Flat", .glo "BadText"]
def fa3 : List He.Fa := [.glo "is_integer", .glo "is_within", .glo "is_place", .glo "are_integers", .glo "need_number", .glo "need_place", .glo "need_places", .glo "measure", .glo "root_of", .glo "need_numbers"]
def fa4 : List He.Fa := [.glo "need_form", .glo "Form", .glo "need_bends", .glo "need_four", .glo "let_in", .glo "exchanged_at", .glo "Four", .glo "others_of", .glo "numbers_at", .glo "need_bent"]
def fa5 : List He.Fa := [.glo "need_round", .glo "form_at", .glo "fixed", .glo "Paper", .glo "primes_in", .glo "prime_powers", .glo "Least", .glo "lowering", .glo "down", .glo "least"]
def fa6 : List He.Fa := [.glo "gasket_form", .glo "need_asked", .glo "odd_part", .glo "is_turned", .glo "come_down", .glo "own_symbol", .glo "symbol", .glo "need_primes", .glo "worth_beside", .glo "signs_of"]
def fa7 : List He.Fa := [.glo "sign_alone", .glo "sign_of_rim", .glo "local_signs", .glo "sign_by_rim", .glo "need_fan", .glo "other_places", .glo "are_coprime", .glo "fan", .glo "Sign", .glo "sign_of_two"]
def fa8 : List He.Fa := [.glo "first_place", .glo "sign", .glo "_law_bowl", .glo "_law_ladle", .glo "_law_pick", .glo "_law_shared", .glo "_law_all_least", .glo "_law_least", .glo "_law_primes", .glo "_law_symbol"]
def fa9 : List He.Fa := [.glo "_law_bends", .glo "_law_exchanged", .glo "_law_led", .glo "_law_mixed", .glo "_law_pair_sign", .glo "_law_own_sign", .glo "_law_by_rim", .glo "_law_gasket_right", .glo "_law_heard", .glo "_law_idle"]
def fa10 : List He.Fa := [.glo "_law_edges_right", .glo "law", .cls "Least", .cls "Sign", .cls "Paper", .mkr "Least", .mkr "Sign", .noat "Least" "four", .noat "Least" "letters", .noat "Least" "parts"]
def fa11 : List He.Fa := [.noat "Least" "word", .noat "Sign" "value", .noat "Sign" "letters", .noat "Sign" "place", .noat "Sign" "at", .noat "Sign" "parts", .noat "Sign" "word", .cls "Form", .cls "Four", .mkr "Form"]
def fa12 : List He.Fa := [.mkr "Four", .noat "Form" "numbers", .noat "Form" "side", .noat "Four" "bends", .noat "Four" "total"]
def fa : List He.Fa := fa0 ++ fa1 ++ fa2 ++ fa3 ++ fa4 ++ fa5 ++ fa6 ++ fa7 ++ fa8 ++ fa9 ++ fa10 ++ fa11 ++ fa12
def lo0 : List Str := ["gcd", "isqrt", "_wall", "BendError", "BadNumber", "BadFour", "BadForm", "Missing", "NoPlace", "Twice", "TooMany", "Flat"]
def lo1 : List Str := ["BadText", "PLACES", "MOST_LETTERS", "DIGITS", "is_integer", "is_within", "is_place", "are_integers", "need_number", "need_place", "need_places", "measure"]
def lo2 : List Str := ["root_of", "MOST_DIGITS", "is_written", "Scan", "need_numbers", "need_form", "worth_of", "changed_by", "determinant", "Form", "need_bends", "need_four"]
def lo3 : List Str := ["let_in", "exchanged_at", "Four", "others_of", "numbers_at", "need_bent", "need_round", "form_at", "fixed", "Paper", "MOST_COUNTED", "primes_in"]
def lo4 : List Str := ["prime_powers", "Least", "lowering", "down", "least", "gasket_form", "need_asked", "odd_part", "is_turned", "come_down", "own_symbol", "symbol"]
def lo5 : List Str := ["MOST_SIDE", "EIGHT", "need_primes", "worth_beside", "signs_of", "sign_alone", "sign_of_rim", "local_signs", "sign_by_rim", "need_fan", "other_places", "are_coprime"]
def lo6 : List Str := ["fan", "Sign", "sign_of_two", "first_place", "sign", "_law_bowl", "_law_ladle", "_law_pick", "_law_shared", "_law_all_least", "_law_worth", "_law_table"]
def lo7 : List Str := ["_law_changed", "_law_least", "_law_multiplied", "_law_primes", "_law_symbol", "_law_bends", "_law_form", "_law_exchanged", "_law_led", "_law_mixed", "_law_pair_sign", "_law_own_sign"]
def lo8 : List Str := ["_law_by_rim", "_law_gasket_right", "_law_heard", "_law_idle", "_law_edges_right"]
def loose : List Str := lo0 ++ lo1 ++ lo2 ++ lo3 ++ lo4 ++ lo5 ++ lo6 ++ lo7 ++ lo8
/-- defs that say super(): the class's own cell is captured -/
structure DefC where
  at_ : PySem.W.Frag → Addr
  name : Str
  qual : Str
  params : Arguments
  body : List Stmt
  scope : Scope
abbrev FnC : Type := Option (Str × Str × Arguments × FuncBody × Scope × Addr × List Str × Value × Addr)
def fnC (K : PySem.W.Frag) (a : Addr) : FnC := match K.lookup a with
  | some ⟨_, _, .func fd, _⟩ => some (fd.name, fd.qualname, fd.params, fd.body, fd.scope, fd.globals, fd.closure.map (·.1), fd.defaults, fd.builtins)
  | _ => none
def DefC.val (d : DefC) : FnC := some (d.name, d.qual, d.params, .stmts d.body, d.scope, mainGlobals, ["__class__"], .none, builtinsNs)
def supB (K : PySem.W.Frag) (f C : Addr) (qual : Str) : Bool := match K.lookup f with
  | some ⟨_, _, .func fd, _⟩ => PySem.W.codeIn K fd.code qual && ((match fd.code with
      | .ref cda => (match K.lookup cda with
        | some ⟨_, _, .fields vs, _⟩ => (match (vs[2]? : Option Value) with
          | some (.str file _) => R.prog.main.file == file
          | _ => false)
        | _ => false)
      | _ => false) && ((match fd.closure with
      | [(_, cc)] => (match K.lookup cc with
        | some ⟨_, _, .cell (some (.ref D)), _⟩ => decide (D = C)
        | _ => false)
      | _ => false) && ((PySem.W.clsIn K C).isSome && decide (PySem.W.mroIn K C (.ref C) = some true))))
  | _ => false
def oexB (K : PySem.W.Frag) (C : Addr) : Bool := match K.lookup C with
  | some ⟨.type "type", _, .cls cd, sl⟩ => (match cd.mro, sl.toList with
    | .ref C' :: bm, [_, _, _, _, some (.builtin n), _] => C' == C && (n == "ValueError.__new__" && (!cd.hasDel && (cd.hasDict && PySem.HandSPX.refsVE bm)))
    | _, _ => false)
  | _ => false
/-- the code object and its empty table, of the def that has lambdas -/
def tfE : List He.Defn := [("_law_edges_right", none)]
def c_Least_init : DefC := ⟨fun K => He.ma K (He.ga K "Least") "__init__", "__init__", "Least.__init__", defArgs (inClass (top 57) 0), defBody (inClass (top 57) 0), defScope (inClass (top 57) 0)⟩
def c_Sign_init : DefC := ⟨fun K => He.ma K (He.ga K "Sign") "__init__", "__init__", "Sign.__init__", defArgs (inClass (top 86) 0), defBody (inClass (top 86) 0), defScope (inClass (top 86) 0)⟩
def c_BadFour_init : DefC := ⟨fun K => He.ma K (He.ga K "BadFour") "__init__", "__init__", "BadFour.__init__", defArgs (inClass (top 5) 0), defBody (inClass (top 5) 0), defScope (inClass (top 5) 0)⟩
def c_TooMany_init : DefC := ⟨fun K => He.ma K (He.ga K "TooMany") "__init__", "__init__", "TooMany.__init__", defArgs (inClass (top 10) 0), defBody (inClass (top 10) 0), defScope (inClass (top 10) 0)⟩
def fc : List DefC := [c_Least_init, c_Sign_init, c_BadFour_init, c_TooMany_init]
def xb_gcd (K : PySem.W.Frag) : Bool := He.eqO (PySem.W.nsIn K mainGlobals "gcd") (some (some (.builtin "math.gcd")))
def xb_isqrt (K : PySem.W.Frag) : Bool := He.eqO (PySem.W.nsIn K mainGlobals "isqrt") (some (some (.builtin "math.isqrt")))
def xb_oc_get (K : PySem.W.Frag) : Bool := He.eqO (PySem.W.specialIn K (.builtin "object.__class__") "__get__") (some (some (.builtin "getset_descriptor.__get__")))
def xb_oc_takes (K : PySem.W.Frag) : Bool := decide (PySem.W.takesIn K (.builtin "object.__class__") = some true)
def xb_cls_Four (K : PySem.W.Frag) : Bool := He.eqO (PySem.W.findIn K (.ref (He.ga K "Four")) "__class__") (some (some (.builtin "object.__class__")))
def xb_mro_Four (K : PySem.W.Frag) : Bool := decide (PySem.W.mroIn K (He.ga K "Four") (.type "object") = some true)
def xb_cls_Form (K : PySem.W.Frag) : Bool := He.eqO (PySem.W.findIn K (.ref (He.ga K "Form")) "__class__") (some (some (.builtin "object.__class__")))
def xb_mro_Form (K : PySem.W.Frag) : Bool := decide (PySem.W.mroIn K (He.ga K "Form") (.type "object") = some true)
def xb_not_NoneType_Four (K : PySem.W.Frag) : Bool := decide (PySem.W.kitOne K (.type "NoneType") (.ref (He.ga K "Four")) = some false)
def xb_not_int_Four (K : PySem.W.Frag) : Bool := decide (PySem.W.kitOne K (.type "int") (.ref (He.ga K "Four")) = some false)
def xb_not_str_Four (K : PySem.W.Frag) : Bool := decide (PySem.W.kitOne K (.type "str") (.ref (He.ga K "Four")) = some false)
def xb_not_tuple_Four (K : PySem.W.Frag) : Bool := decide (PySem.W.kitOne K (.type "tuple") (.ref (He.ga K "Four")) = some false)
def xb_Four_Four (K : PySem.W.Frag) : Bool := decide (PySem.W.kitOne K (.ref (He.ga K "Four")) (.ref (He.ga K "Four")) = some true)
def xb_Form_Form (K : PySem.W.Frag) : Bool := decide (PySem.W.kitOne K (.ref (He.ga K "Form")) (.ref (He.ga K "Form")) = some true)
def xb_sup_Least (K : PySem.W.Frag) : Bool := supB K (He.ma K (He.ga K "Least") "__init__") (He.ga K "Least") "Least.__init__"
def xb_fi_Least (K : PySem.W.Frag) : Bool := PySem.W.fnIn K (He.ma K (He.ga K "Least") "__init__")
def xb_sup_Sign (K : PySem.W.Frag) : Bool := supB K (He.ma K (He.ga K "Sign") "__init__") (He.ga K "Sign") "Sign.__init__"
def xb_fi_Sign (K : PySem.W.Frag) : Bool := PySem.W.fnIn K (He.ma K (He.ga K "Sign") "__init__")
def xb_sup_BadFour (K : PySem.W.Frag) : Bool := supB K (He.ma K (He.ga K "BadFour") "__init__") (He.ga K "BadFour") "BadFour.__init__"
def xb_fi_BadFour (K : PySem.W.Frag) : Bool := PySem.W.fnIn K (He.ma K (He.ga K "BadFour") "__init__")
def xb_sup_TooMany (K : PySem.W.Frag) : Bool := supB K (He.ma K (He.ga K "TooMany") "__init__") (He.ga K "TooMany") "TooMany.__init__"
def xb_fi_TooMany (K : PySem.W.Frag) : Bool := PySem.W.fnIn K (He.ma K (He.ga K "TooMany") "__init__")
def xb_opq (K : PySem.W.Frag) : Bool := He.eqO (PySem.W.nsIn K cStatics "thirdparty.any") (some none)
def xb_super_Least (K : PySem.W.Frag) : Bool := He.eqO (PySem.W.ks_superIn K (He.ga K "Least") (He.ga K "Least") "__init__") (some (some (.ref (He.ma K (He.ga K "Paper") "__init__"))))
def xb_super_Sign (K : PySem.W.Frag) : Bool := He.eqO (PySem.W.ks_superIn K (He.ga K "Sign") (He.ga K "Sign") "__init__") (some (some (.ref (He.ma K (He.ga K "Paper") "__init__"))))
def xb_ty_Paper_init (K : PySem.W.Frag) : Bool := decide (PySem.W.typeIn K (.ref (He.ma K (He.ga K "Paper") "__init__")) = some (.type "function"))
def xb_fi_Paper (K : PySem.W.Frag) : Bool := PySem.W.fnIn K (He.ma K (He.ga K "Paper") "__init__")
def xb_super_BadFour (K : PySem.W.Frag) : Bool := He.eqO (PySem.W.ks_superIn K (He.ga K "BadFour") (He.ga K "BadFour") "__init__") (some (some (.builtin "ValueError.__init__")))
def xb_oex_BadFour (K : PySem.W.Frag) : Bool := oexB K (He.ga K "BadFour")
def xb_sa_BadFour (K : PySem.W.Frag) : Bool := He.eqO (PySem.W.findIn K (.ref (He.ga K "BadFour")) "__setattr__") (some (some (.builtin "object.__setattr__")))
def xb_exb_BadFour (K : PySem.W.Frag) : Bool := decide (PySem.W.subIn K (.ref (He.ga K "BadFour")) (.type "BaseException") = some true)
def xb_exv_BadFour (K : PySem.W.Frag) : Bool := decide (PySem.W.subIn K (.ref (He.ga K "BadFour")) (.type "ValueError") = some true)
def xb_ty_BadFour (K : PySem.W.Frag) : Bool := decide (PySem.W.typeIn K (.ref (He.ga K "BadFour")) = some (.type "type"))
def xb_kp_BadFour (K : PySem.W.Frag) : Bool := PySem.W.keepIn K (.ref (He.ga K "BadFour"))
def xb_ga_BadFour (K : PySem.W.Frag) : Bool := He.eqO (PySem.W.findIn K (.ref (He.ga K "BadFour")) "__getattribute__") (some (some (.builtin "BaseException.__getattribute__")))
def xb_gg_BadFour (K : PySem.W.Frag) : Bool := He.eqO (PySem.W.findIn K (.ref (He.ga K "BadFour")) "__getattr__") (some none)
def xb_hd_BadFour (K : PySem.W.Frag) : Bool := PySem.W.hasDictIn K (He.ga K "BadFour")
def xb_cls_BadFour (K : PySem.W.Frag) : Bool := He.eqO (PySem.W.findIn K (.ref (He.ga K "BadFour")) "__class__") (some (some (.builtin "object.__class__")))
def xb_mro_BadFour (K : PySem.W.Frag) : Bool := decide (PySem.W.mroIn K (He.ga K "BadFour") (.type "object") = some true)
def xb_init_BadFour (K : PySem.W.Frag) : Bool := He.eqO (PySem.W.findIn K (.ref (He.ga K "BadFour")) "__init__") (some (some (.ref (He.ma K (He.ga K "BadFour") "__init__"))))
def xb_ti_BadFour (K : PySem.W.Frag) : Bool := decide (PySem.W.typeIn K (.ref (He.ma K (He.ga K "BadFour") "__init__")) = some (.type "function"))
def xb_exm_BadFour (K : PySem.W.Frag) : Bool := decide (PySem.W.exmOne K (.ref (He.ga K "BadFour")) (.ref (He.ga K "BendError")) = some true)
def xb_kit_BadFour (K : PySem.W.Frag) : Bool := decide (PySem.W.kitOne K (.ref (He.ga K "BadFour")) (.ref (He.ga K "TooMany")) = some false)
def xb_no_BadFour_part (K : PySem.W.Frag) : Bool := He.eqO (PySem.W.findIn K (.ref (He.ga K "BadFour")) "part") (some none)
def xb_no_BadFour_what (K : PySem.W.Frag) : Bool := He.eqO (PySem.W.findIn K (.ref (He.ga K "BadFour")) "what") (some none)
def xb_no_BadFour_most (K : PySem.W.Frag) : Bool := He.eqO (PySem.W.findIn K (.ref (He.ga K "BadFour")) "most") (some none)
def xb_super_TooMany (K : PySem.W.Frag) : Bool := He.eqO (PySem.W.ks_superIn K (He.ga K "TooMany") (He.ga K "TooMany") "__init__") (some (some (.builtin "ValueError.__init__")))
def xb_oex_TooMany (K : PySem.W.Frag) : Bool := oexB K (He.ga K "TooMany")
def xb_sa_TooMany (K : PySem.W.Frag) : Bool := He.eqO (PySem.W.findIn K (.ref (He.ga K "TooMany")) "__setattr__") (some (some (.builtin "object.__setattr__")))
def xb_exb_TooMany (K : PySem.W.Frag) : Bool := decide (PySem.W.subIn K (.ref (He.ga K "TooMany")) (.type "BaseException") = some true)
def xb_exv_TooMany (K : PySem.W.Frag) : Bool := decide (PySem.W.subIn K (.ref (He.ga K "TooMany")) (.type "ValueError") = some true)
def xb_ty_TooMany (K : PySem.W.Frag) : Bool := decide (PySem.W.typeIn K (.ref (He.ga K "TooMany")) = some (.type "type"))
def xb_kp_TooMany (K : PySem.W.Frag) : Bool := PySem.W.keepIn K (.ref (He.ga K "TooMany"))
def xb_ga_TooMany (K : PySem.W.Frag) : Bool := He.eqO (PySem.W.findIn K (.ref (He.ga K "TooMany")) "__getattribute__") (some (some (.builtin "BaseException.__getattribute__")))
def xb_gg_TooMany (K : PySem.W.Frag) : Bool := He.eqO (PySem.W.findIn K (.ref (He.ga K "TooMany")) "__getattr__") (some none)
def xb_hd_TooMany (K : PySem.W.Frag) : Bool := PySem.W.hasDictIn K (He.ga K "TooMany")
def xb_cls_TooMany (K : PySem.W.Frag) : Bool := He.eqO (PySem.W.findIn K (.ref (He.ga K "TooMany")) "__class__") (some (some (.builtin "object.__class__")))
def xb_mro_TooMany (K : PySem.W.Frag) : Bool := decide (PySem.W.mroIn K (He.ga K "TooMany") (.type "object") = some true)
def xb_init_TooMany (K : PySem.W.Frag) : Bool := He.eqO (PySem.W.findIn K (.ref (He.ga K "TooMany")) "__init__") (some (some (.ref (He.ma K (He.ga K "TooMany") "__init__"))))
def xb_ti_TooMany (K : PySem.W.Frag) : Bool := decide (PySem.W.typeIn K (.ref (He.ma K (He.ga K "TooMany") "__init__")) = some (.type "function"))
def xb_exm_TooMany (K : PySem.W.Frag) : Bool := decide (PySem.W.exmOne K (.ref (He.ga K "TooMany")) (.ref (He.ga K "BendError")) = some true)
def xb_kit_TooMany (K : PySem.W.Frag) : Bool := decide (PySem.W.kitOne K (.ref (He.ga K "TooMany")) (.ref (He.ga K "TooMany")) = some true)
def xb_no_TooMany_part (K : PySem.W.Frag) : Bool := He.eqO (PySem.W.findIn K (.ref (He.ga K "TooMany")) "part") (some none)
def xb_no_TooMany_what (K : PySem.W.Frag) : Bool := He.eqO (PySem.W.findIn K (.ref (He.ga K "TooMany")) "what") (some none)
def xb_no_TooMany_most (K : PySem.W.Frag) : Bool := He.eqO (PySem.W.findIn K (.ref (He.ga K "TooMany")) "most") (some none)
def xb_kit_BadFour_BadFour (K : PySem.W.Frag) : Bool := decide (PySem.W.kitOne K (.ref (He.ga K "BadFour")) (.ref (He.ga K "BadFour")) = some true)
def xb_exb_BendError (K : PySem.W.Frag) : Bool := decide (PySem.W.subIn K (.ref (He.ga K "BendError")) (.type "BaseException") = some true)
def xb_ty_BendError (K : PySem.W.Frag) : Bool := decide (PySem.W.typeIn K (.ref (He.ga K "BendError")) = some (.type "type"))
def xb_kp_BendError (K : PySem.W.Frag) : Bool := PySem.W.keepIn K (.ref (He.ga K "BendError"))
def xb_Four_seq (K : PySem.W.Frag) : Bool := decide (PySem.W.kitAny K (.ref (He.ga K "Four")) [.type "list", .type "tuple"] = some false)
def exl0 : List (PySem.W.Frag → Bool) := [xb_gcd, xb_isqrt, xb_oc_get, xb_oc_takes, xb_cls_Four, xb_mro_Four, xb_cls_Form, xb_mro_Form, xb_not_NoneType_Four, xb_not_int_Four]
def exl1 : List (PySem.W.Frag → Bool) := [xb_not_str_Four, xb_not_tuple_Four, xb_Four_Four, xb_Form_Form, xb_sup_Least, xb_fi_Least, xb_sup_Sign, xb_fi_Sign, xb_sup_BadFour, xb_fi_BadFour]
def exl2 : List (PySem.W.Frag → Bool) := [xb_sup_TooMany, xb_fi_TooMany, xb_opq, xb_super_Least, xb_super_Sign, xb_ty_Paper_init, xb_fi_Paper, xb_super_BadFour, xb_oex_BadFour, xb_sa_BadFour]
def exl3 : List (PySem.W.Frag → Bool) := [xb_exb_BadFour, xb_exv_BadFour, xb_ty_BadFour, xb_kp_BadFour, xb_ga_BadFour, xb_gg_BadFour, xb_hd_BadFour, xb_cls_BadFour, xb_mro_BadFour, xb_init_BadFour]
def exl4 : List (PySem.W.Frag → Bool) := [xb_ti_BadFour, xb_exm_BadFour, xb_kit_BadFour, xb_no_BadFour_part, xb_no_BadFour_what, xb_no_BadFour_most, xb_super_TooMany, xb_oex_TooMany, xb_sa_TooMany, xb_exb_TooMany]
def exl5 : List (PySem.W.Frag → Bool) := [xb_exv_TooMany, xb_ty_TooMany, xb_kp_TooMany, xb_ga_TooMany, xb_gg_TooMany, xb_hd_TooMany, xb_cls_TooMany, xb_mro_TooMany, xb_init_TooMany, xb_ti_TooMany]
def exl6 : List (PySem.W.Frag → Bool) := [xb_exm_TooMany, xb_kit_TooMany, xb_no_TooMany_part, xb_no_TooMany_what, xb_no_TooMany_most, xb_kit_BadFour_BadFour, xb_exb_BendError, xb_ty_BendError, xb_kp_BendError, xb_Four_seq]
def exl : List (PySem.W.Frag → Bool) := exl0 ++ exl1 ++ exl2 ++ exl3 ++ exl4 ++ exl5 ++ exl6
def exB (K : PySem.W.Frag) : Bool := exl.all fun f => f K
/-- what the head tells, as the walk wants it -/
structure Tx (K : PySem.W.Frag) (mg : Str → Option Value) : Prop where
  says : He5.SaysA fa fn K
  ex : ∃ h : Heap, K.In h ∧ h.Ns mainGlobals mg
  more : exB K = true
  cs : fc.map (fun d => fnC K (d.at_ K)) = fc.map DefC.val
  tab : ∀ p ∈ tfE, PySem.W.codeHdIn K (He.cT K p).1 (He.cT K p).2 = true ∧ K.lookup (He.cT K p).2 = none
section
variable {K : PySem.W.Frag} {mg : Str → Option Value}
theorem Tx.glo (T : Tx K mg) {x : Str} (c : (He.Fa.glo x).ok K = true) : mg x = some (.ref (He.ga K x)) := by
  obtain ⟨h, X, G⟩ := T.ex
  exact He.glo_ok X G c
theorem Tx.free (T : Tx K mg) {x : Str} (c : (He.Fa.free x).ok K = true) : mg x = none := by
  obtain ⟨h, X, G⟩ := T.ex
  exact He.free_ok X G c
theorem Tx.int (T : Tx K mg) {x : Str} {i : Int} (c : (He.Fa.int x i).ok K = true) : ∃ t, mg x = some (.int i t) := by
  obtain ⟨h, X, G⟩ := T.ex
  exact He.int_ok X G c
theorem Tx.exf (T : Tx K mg) (i : Nat) {f : PySem.W.Frag → Bool} (h : exl[i]? = some f := by rfl) : f K = true := List.all_eq_true.mp T.more f (List.mem_of_getElem? h)
theorem Tx.x_gcd (T : Tx K mg) : PySem.W.nsIn K mainGlobals "gcd" = some (some (.builtin "math.gcd")) := He.eqO_ok (T.exf 0 (f := xb_gcd) rfl)
theorem Tx.x_isqrt (T : Tx K mg) : PySem.W.nsIn K mainGlobals "isqrt" = some (some (.builtin "math.isqrt")) := He.eqO_ok (T.exf 1 (f := xb_isqrt) rfl)
theorem Tx.x_oc_get (T : Tx K mg) : PySem.W.specialIn K (.builtin "object.__class__") "__get__" = some (some (.builtin "getset_descriptor.__get__")) := He.eqO_ok (T.exf 2 (f := xb_oc_get) rfl)
theorem Tx.x_oc_takes (T : Tx K mg) : PySem.W.takesIn K (.builtin "object.__class__") = some true := of_decide_eq_true (T.exf 3 (f := xb_oc_takes) rfl)
theorem Tx.x_cls_Four (T : Tx K mg) : PySem.W.findIn K (.ref (He.ga K "Four")) "__class__" = some (some (.builtin "object.__class__")) := He.eqO_ok (T.exf 4 (f := xb_cls_Four) rfl)
theorem Tx.x_mro_Four (T : Tx K mg) : PySem.W.mroIn K (He.ga K "Four") (.type "object") = some true := of_decide_eq_true (T.exf 5 (f := xb_mro_Four) rfl)
theorem Tx.x_cls_Form (T : Tx K mg) : PySem.W.findIn K (.ref (He.ga K "Form")) "__class__" = some (some (.builtin "object.__class__")) := He.eqO_ok (T.exf 6 (f := xb_cls_Form) rfl)
theorem Tx.x_mro_Form (T : Tx K mg) : PySem.W.mroIn K (He.ga K "Form") (.type "object") = some true := of_decide_eq_true (T.exf 7 (f := xb_mro_Form) rfl)
theorem Tx.x_not_NoneType_Four (T : Tx K mg) : PySem.W.kitOne K (.type "NoneType") (.ref (He.ga K "Four")) = some false := of_decide_eq_true (T.exf 8 (f := xb_not_NoneType_Four) rfl)
theorem Tx.x_not_int_Four (T : Tx K mg) : PySem.W.kitOne K (.type "int") (.ref (He.ga K "Four")) = some false := of_decide_eq_true (T.exf 9 (f := xb_not_int_Four) rfl)
theorem Tx.x_not_str_Four (T : Tx K mg) : PySem.W.kitOne K (.type "str") (.ref (He.ga K "Four")) = some false := of_decide_eq_true (T.exf 10 (f := xb_not_str_Four) rfl)
theorem Tx.x_not_tuple_Four (T : Tx K mg) : PySem.W.kitOne K (.type "tuple") (.ref (He.ga K "Four")) = some false := of_decide_eq_true (T.exf 11 (f := xb_not_tuple_Four) rfl)
theorem Tx.x_Four_Four (T : Tx K mg) : PySem.W.kitOne K (.ref (He.ga K "Four")) (.ref (He.ga K "Four")) = some true := of_decide_eq_true (T.exf 12 (f := xb_Four_Four) rfl)
theorem Tx.x_Form_Form (T : Tx K mg) : PySem.W.kitOne K (.ref (He.ga K "Form")) (.ref (He.ga K "Form")) = some true := of_decide_eq_true (T.exf 13 (f := xb_Form_Form) rfl)
theorem Tx.x_sup_Least (T : Tx K mg) : (supB K (He.ma K (He.ga K "Least") "__init__") (He.ga K "Least") "Least.__init__") = true := T.exf 14 (f := xb_sup_Least) rfl
theorem Tx.x_fi_Least (T : Tx K mg) : (PySem.W.fnIn K (He.ma K (He.ga K "Least") "__init__")) = true := T.exf 15 (f := xb_fi_Least) rfl
theorem Tx.x_sup_Sign (T : Tx K mg) : (supB K (He.ma K (He.ga K "Sign") "__init__") (He.ga K "Sign") "Sign.__init__") = true := T.exf 16 (f := xb_sup_Sign) rfl
theorem Tx.x_fi_Sign (T : Tx K mg) : (PySem.W.fnIn K (He.ma K (He.ga K "Sign") "__init__")) = true := T.exf 17 (f := xb_fi_Sign) rfl
theorem Tx.x_sup_BadFour (T : Tx K mg) : (supB K (He.ma K (He.ga K "BadFour") "__init__") (He.ga K "BadFour") "BadFour.__init__") = true := T.exf 18 (f := xb_sup_BadFour) rfl
theorem Tx.x_fi_BadFour (T : Tx K mg) : (PySem.W.fnIn K (He.ma K (He.ga K "BadFour") "__init__")) = true := T.exf 19 (f := xb_fi_BadFour) rfl
theorem Tx.x_sup_TooMany (T : Tx K mg) : (supB K (He.ma K (He.ga K "TooMany") "__init__") (He.ga K "TooMany") "TooMany.__init__") = true := T.exf 20 (f := xb_sup_TooMany) rfl
theorem Tx.x_fi_TooMany (T : Tx K mg) : (PySem.W.fnIn K (He.ma K (He.ga K "TooMany") "__init__")) = true := T.exf 21 (f := xb_fi_TooMany) rfl
theorem Tx.x_opq (T : Tx K mg) : PySem.W.nsIn K cStatics "thirdparty.any" = some none := He.eqO_ok (T.exf 22 (f := xb_opq) rfl)
theorem Tx.x_super_Least (T : Tx K mg) : PySem.W.ks_superIn K (He.ga K "Least") (He.ga K "Least") "__init__" = some (some (.ref (He.ma K (He.ga K "Paper") "__init__"))) := He.eqO_ok (T.exf 23 (f := xb_super_Least) rfl)
theorem Tx.x_super_Sign (T : Tx K mg) : PySem.W.ks_superIn K (He.ga K "Sign") (He.ga K "Sign") "__init__" = some (some (.ref (He.ma K (He.ga K "Paper") "__init__"))) := He.eqO_ok (T.exf 24 (f := xb_super_Sign) rfl)
theorem Tx.x_ty_Paper_init (T : Tx K mg) : PySem.W.typeIn K (.ref (He.ma K (He.ga K "Paper") "__init__")) = some (.type "function") := of_decide_eq_true (T.exf 25 (f := xb_ty_Paper_init) rfl)
theorem Tx.x_fi_Paper (T : Tx K mg) : (PySem.W.fnIn K (He.ma K (He.ga K "Paper") "__init__")) = true := T.exf 26 (f := xb_fi_Paper) rfl
theorem Tx.x_super_BadFour (T : Tx K mg) : PySem.W.ks_superIn K (He.ga K "BadFour") (He.ga K "BadFour") "__init__" = some (some (.builtin "ValueError.__init__")) := He.eqO_ok (T.exf 27 (f := xb_super_BadFour) rfl)
theorem Tx.x_oex_BadFour (T : Tx K mg) : (oexB K (He.ga K "BadFour")) = true := T.exf 28 (f := xb_oex_BadFour) rfl
theorem Tx.x_sa_BadFour (T : Tx K mg) : PySem.W.findIn K (.ref (He.ga K "BadFour")) "__setattr__" = some (some (.builtin "object.__setattr__")) := He.eqO_ok (T.exf 29 (f := xb_sa_BadFour) rfl)
theorem Tx.x_exb_BadFour (T : Tx K mg) : PySem.W.subIn K (.ref (He.ga K "BadFour")) (.type "BaseException") = some true := of_decide_eq_true (T.exf 30 (f := xb_exb_BadFour) rfl)
theorem Tx.x_exv_BadFour (T : Tx K mg) : PySem.W.subIn K (.ref (He.ga K "BadFour")) (.type "ValueError") = some true := of_decide_eq_true (T.exf 31 (f := xb_exv_BadFour) rfl)
theorem Tx.x_ty_BadFour (T : Tx K mg) : PySem.W.typeIn K (.ref (He.ga K "BadFour")) = some (.type "type") := of_decide_eq_true (T.exf 32 (f := xb_ty_BadFour) rfl)
theorem Tx.x_kp_BadFour (T : Tx K mg) : (PySem.W.keepIn K (.ref (He.ga K "BadFour"))) = true := T.exf 33 (f := xb_kp_BadFour) rfl
theorem Tx.x_ga_BadFour (T : Tx K mg) : PySem.W.findIn K (.ref (He.ga K "BadFour")) "__getattribute__" = some (some (.builtin "BaseException.__getattribute__")) := He.eqO_ok (T.exf 34 (f := xb_ga_BadFour) rfl)
theorem Tx.x_gg_BadFour (T : Tx K mg) : PySem.W.findIn K (.ref (He.ga K "BadFour")) "__getattr__" = some none := He.eqO_ok (T.exf 35 (f := xb_gg_BadFour) rfl)
theorem Tx.x_hd_BadFour (T : Tx K mg) : (PySem.W.hasDictIn K (He.ga K "BadFour")) = true := T.exf 36 (f := xb_hd_BadFour) rfl
theorem Tx.x_cls_BadFour (T : Tx K mg) : PySem.W.findIn K (.ref (He.ga K "BadFour")) "__class__" = some (some (.builtin "object.__class__")) := He.eqO_ok (T.exf 37 (f := xb_cls_BadFour) rfl)
theorem Tx.x_mro_BadFour (T : Tx K mg) : PySem.W.mroIn K (He.ga K "BadFour") (.type "object") = some true := of_decide_eq_true (T.exf 38 (f := xb_mro_BadFour) rfl)
theorem Tx.x_init_BadFour (T : Tx K mg) : PySem.W.findIn K (.ref (He.ga K "BadFour")) "__init__" = some (some (.ref (He.ma K (He.ga K "BadFour") "__init__"))) := He.eqO_ok (T.exf 39 (f := xb_init_BadFour) rfl)
theorem Tx.x_ti_BadFour (T : Tx K mg) : PySem.W.typeIn K (.ref (He.ma K (He.ga K "BadFour") "__init__")) = some (.type "function") := of_decide_eq_true (T.exf 40 (f := xb_ti_BadFour) rfl)
theorem Tx.x_exm_BadFour (T : Tx K mg) : PySem.W.exmOne K (.ref (He.ga K "BadFour")) (.ref (He.ga K "BendError")) = some true := of_decide_eq_true (T.exf 41 (f := xb_exm_BadFour) rfl)
theorem Tx.x_kit_BadFour (T : Tx K mg) : PySem.W.kitOne K (.ref (He.ga K "BadFour")) (.ref (He.ga K "TooMany")) = some false := of_decide_eq_true (T.exf 42 (f := xb_kit_BadFour) rfl)
theorem Tx.x_no_BadFour_part (T : Tx K mg) : PySem.W.findIn K (.ref (He.ga K "BadFour")) "part" = some none := He.eqO_ok (T.exf 43 (f := xb_no_BadFour_part) rfl)
theorem Tx.x_no_BadFour_what (T : Tx K mg) : PySem.W.findIn K (.ref (He.ga K "BadFour")) "what" = some none := He.eqO_ok (T.exf 44 (f := xb_no_BadFour_what) rfl)
theorem Tx.x_no_BadFour_most (T : Tx K mg) : PySem.W.findIn K (.ref (He.ga K "BadFour")) "most" = some none := He.eqO_ok (T.exf 45 (f := xb_no_BadFour_most) rfl)
theorem Tx.x_super_TooMany (T : Tx K mg) : PySem.W.ks_superIn K (He.ga K "TooMany") (He.ga K "TooMany") "__init__" = some (some (.builtin "ValueError.__init__")) := He.eqO_ok (T.exf 46 (f := xb_super_TooMany) rfl)
theorem Tx.x_oex_TooMany (T : Tx K mg) : (oexB K (He.ga K "TooMany")) = true := T.exf 47 (f := xb_oex_TooMany) rfl
theorem Tx.x_sa_TooMany (T : Tx K mg) : PySem.W.findIn K (.ref (He.ga K "TooMany")) "__setattr__" = some (some (.builtin "object.__setattr__")) := He.eqO_ok (T.exf 48 (f := xb_sa_TooMany) rfl)
theorem Tx.x_exb_TooMany (T : Tx K mg) : PySem.W.subIn K (.ref (He.ga K "TooMany")) (.type "BaseException") = some true := of_decide_eq_true (T.exf 49 (f := xb_exb_TooMany) rfl)
theorem Tx.x_exv_TooMany (T : Tx K mg) : PySem.W.subIn K (.ref (He.ga K "TooMany")) (.type "ValueError") = some true := of_decide_eq_true (T.exf 50 (f := xb_exv_TooMany) rfl)
theorem Tx.x_ty_TooMany (T : Tx K mg) : PySem.W.typeIn K (.ref (He.ga K "TooMany")) = some (.type "type") := of_decide_eq_true (T.exf 51 (f := xb_ty_TooMany) rfl)
theorem Tx.x_kp_TooMany (T : Tx K mg) : (PySem.W.keepIn K (.ref (He.ga K "TooMany"))) = true := T.exf 52 (f := xb_kp_TooMany) rfl
theorem Tx.x_ga_TooMany (T : Tx K mg) : PySem.W.findIn K (.ref (He.ga K "TooMany")) "__getattribute__" = some (some (.builtin "BaseException.__getattribute__")) := He.eqO_ok (T.exf 53 (f := xb_ga_TooMany) rfl)
theorem Tx.x_gg_TooMany (T : Tx K mg) : PySem.W.findIn K (.ref (He.ga K "TooMany")) "__getattr__" = some none := He.eqO_ok (T.exf 54 (f := xb_gg_TooMany) rfl)
theorem Tx.x_hd_TooMany (T : Tx K mg) : (PySem.W.hasDictIn K (He.ga K "TooMany")) = true := T.exf 55 (f := xb_hd_TooMany) rfl
theorem Tx.x_cls_TooMany (T : Tx K mg) : PySem.W.findIn K (.ref (He.ga K "TooMany")) "__class__" = some (some (.builtin "object.__class__")) := He.eqO_ok (T.exf 56 (f := xb_cls_TooMany) rfl)
theorem Tx.x_mro_TooMany (T : Tx K mg) : PySem.W.mroIn K (He.ga K "TooMany") (.type "object") = some true := of_decide_eq_true (T.exf 57 (f := xb_mro_TooMany) rfl)
theorem Tx.x_init_TooMany (T : Tx K mg) : PySem.W.findIn K (.ref (He.ga K "TooMany")) "__init__" = some (some (.ref (He.ma K (He.ga K "TooMany") "__init__"))) := He.eqO_ok (T.exf 58 (f := xb_init_TooMany) rfl)
theorem Tx.x_ti_TooMany (T : Tx K mg) : PySem.W.typeIn K (.ref (He.ma K (He.ga K "TooMany") "__init__")) = some (.type "function") := of_decide_eq_true (T.exf 59 (f := xb_ti_TooMany) rfl)
theorem Tx.x_exm_TooMany (T : Tx K mg) : PySem.W.exmOne K (.ref (He.ga K "TooMany")) (.ref (He.ga K "BendError")) = some true := of_decide_eq_true (T.exf 60 (f := xb_exm_TooMany) rfl)
theorem Tx.x_kit_TooMany (T : Tx K mg) : PySem.W.kitOne K (.ref (He.ga K "TooMany")) (.ref (He.ga K "TooMany")) = some true := of_decide_eq_true (T.exf 61 (f := xb_kit_TooMany) rfl)
theorem Tx.x_no_TooMany_part (T : Tx K mg) : PySem.W.findIn K (.ref (He.ga K "TooMany")) "part" = some none := He.eqO_ok (T.exf 62 (f := xb_no_TooMany_part) rfl)
theorem Tx.x_no_TooMany_what (T : Tx K mg) : PySem.W.findIn K (.ref (He.ga K "TooMany")) "what" = some none := He.eqO_ok (T.exf 63 (f := xb_no_TooMany_what) rfl)
theorem Tx.x_no_TooMany_most (T : Tx K mg) : PySem.W.findIn K (.ref (He.ga K "TooMany")) "most" = some none := He.eqO_ok (T.exf 64 (f := xb_no_TooMany_most) rfl)
theorem Tx.x_kit_BadFour_BadFour (T : Tx K mg) : PySem.W.kitOne K (.ref (He.ga K "BadFour")) (.ref (He.ga K "BadFour")) = some true := of_decide_eq_true (T.exf 65 (f := xb_kit_BadFour_BadFour) rfl)
theorem Tx.x_exb_BendError (T : Tx K mg) : PySem.W.subIn K (.ref (He.ga K "BendError")) (.type "BaseException") = some true := of_decide_eq_true (T.exf 66 (f := xb_exb_BendError) rfl)
theorem Tx.x_ty_BendError (T : Tx K mg) : PySem.W.typeIn K (.ref (He.ga K "BendError")) = some (.type "type") := of_decide_eq_true (T.exf 67 (f := xb_ty_BendError) rfl)
theorem Tx.x_kp_BendError (T : Tx K mg) : (PySem.W.keepIn K (.ref (He.ga K "BendError"))) = true := T.exf 68 (f := xb_kp_BendError) rfl
theorem Tx.x_Four_seq (T : Tx K mg) : PySem.W.kitAny K (.ref (He.ga K "Four")) [.type "list", .type "tuple"] = some false := of_decide_eq_true (T.exf 69 (f := xb_Four_seq) rfl)
theorem Tx.cs_Least (T : Tx K mg) : fnC K (He.ma K (He.ga K "Least") "__init__") = DefC.val c_Least_init := by
  have e : (fc.map fun d => fnC K (d.at_ K))[0]? = (fc.map DefC.val)[0]? := by rw [T.cs]
  exact Option.some.inj e
theorem Tx.cs_Sign (T : Tx K mg) : fnC K (He.ma K (He.ga K "Sign") "__init__") = DefC.val c_Sign_init := by
  have e : (fc.map fun d => fnC K (d.at_ K))[1]? = (fc.map DefC.val)[1]? := by rw [T.cs]
  exact Option.some.inj e
theorem Tx.cs_BadFour (T : Tx K mg) : fnC K (He.ma K (He.ga K "BadFour") "__init__") = DefC.val c_BadFour_init := by
  have e : (fc.map fun d => fnC K (d.at_ K))[2]? = (fc.map DefC.val)[2]? := by rw [T.cs]
  exact Option.some.inj e
theorem Tx.cs_TooMany (T : Tx K mg) : fnC K (He.ma K (He.ga K "TooMany") "__init__") = DefC.val c_TooMany_init := by
  have e : (fc.map fun d => fnC K (d.at_ K))[3]? = (fc.map DefC.val)[3]? := by rw [T.cs]
  exact Option.some.inj e
theorem Tx.at_ (T : Tx K mg) {x : Str} {v : Value} (c : PySem.W.nsIn K mainGlobals x = some (some v)) : mg x = some v := by
  obtain ⟨h, X, G⟩ := T.ex
  exact PySem.W.mg_of X G c
theorem Tx.gcd (T : Tx K mg) : mg "gcd" = some (.builtin "math.gcd") := T.at_ T.x_gcd
theorem Tx.isqrt (T : Tx K mg) : mg "isqrt" = some (.builtin "math.isqrt") := T.at_ T.x_isqrt
theorem Tx.m_len (T : Tx K mg) : mg "len" = none := T.free (T.says.fact 0 rfl)
theorem Tx.m_sum (T : Tx K mg) : mg "sum" = none := T.free (T.says.fact 1 rfl)
theorem Tx.m_isinstance (T : Tx K mg) : mg "isinstance" = none := T.free (T.says.fact 2 rfl)
theorem Tx.m_all (T : Tx K mg) : mg "all" = none := T.free (T.says.fact 3 rfl)
theorem Tx.m_int (T : Tx K mg) : mg "int" = none := T.free (T.says.fact 4 rfl)
theorem Tx.m_bool (T : Tx K mg) : mg "bool" = none := T.free (T.says.fact 5 rfl)
theorem Tx.m_list (T : Tx K mg) : mg "list" = none := T.free (T.says.fact 6 rfl)
theorem Tx.m_tuple (T : Tx K mg) : mg "tuple" = none := T.free (T.says.fact 7 rfl)
theorem Tx.m_range (T : Tx K mg) : mg "range" = none := T.free (T.says.fact 8 rfl)
theorem Tx.m_enumerate (T : Tx K mg) : mg "enumerate" = none := T.free (T.says.fact 9 rfl)
theorem Tx.m_min (T : Tx K mg) : mg "min" = none := T.free (T.says.fact 10 rfl)
theorem Tx.m_abs (T : Tx K mg) : mg "abs" = none := T.free (T.says.fact 11 rfl)
theorem Tx.m_dict (T : Tx K mg) : mg "dict" = none := T.free (T.says.fact 12 rfl)
theorem Tx.m_repr (T : Tx K mg) : mg "repr" = none := T.free (T.says.fact 13 rfl)
theorem Tx.m_super (T : Tx K mg) : mg "super" = none := T.free (T.says.fact 14 rfl)
theorem Tx.i_PLACES (T : Tx K mg) : ∃ t, mg "PLACES" = some (.int 4 t) := T.int (T.says.fact 15 rfl)
theorem Tx.i_MOST_LETTERS (T : Tx K mg) : ∃ t, mg "MOST_LETTERS" = some (.int 200 t) := T.int (T.says.fact 16 rfl)
theorem Tx.i_MOST_COUNTED (T : Tx K mg) : ∃ t, mg "MOST_COUNTED" = some (.int 1000000 t) := T.int (T.says.fact 17 rfl)
theorem Tx.i_MOST_SIDE (T : Tx K mg) : ∃ t, mg "MOST_SIDE" = some (.int 1000000 t) := T.int (T.says.fact 18 rfl)
theorem Tx.i_EIGHT (T : Tx K mg) : ∃ t, mg "EIGHT" = some (.int 8 t) := T.int (T.says.fact 19 rfl)
theorem Tx.g_BendError (T : Tx K mg) : mg "BendError" = some (.ref (He.ga K "BendError")) := T.glo (T.says.fact 20 rfl)
theorem Tx.g_BadNumber (T : Tx K mg) : mg "BadNumber" = some (.ref (He.ga K "BadNumber")) := T.glo (T.says.fact 21 rfl)
theorem Tx.g_BadFour (T : Tx K mg) : mg "BadFour" = some (.ref (He.ga K "BadFour")) := T.glo (T.says.fact 22 rfl)
theorem Tx.g_BadForm (T : Tx K mg) : mg "BadForm" = some (.ref (He.ga K "BadForm")) := T.glo (T.says.fact 23 rfl)
theorem Tx.g_Missing (T : Tx K mg) : mg "Missing" = some (.ref (He.ga K "Missing")) := T.glo (T.says.fact 24 rfl)
theorem Tx.g_NoPlace (T : Tx K mg) : mg "NoPlace" = some (.ref (He.ga K "NoPlace")) := T.glo (T.says.fact 25 rfl)
theorem Tx.g_Twice (T : Tx K mg) : mg "Twice" = some (.ref (He.ga K "Twice")) := T.glo (T.says.fact 26 rfl)
theorem Tx.g_TooMany (T : Tx K mg) : mg "TooMany" = some (.ref (He.ga K "TooMany")) := T.glo (T.says.fact 27 rfl)
theorem Tx.g_Flat (T : Tx K mg) : mg "Flat" = some (.ref (He.ga K "Flat")) := T.glo (T.says.fact 28 rfl)
theorem Tx.g_BadText (T : Tx K mg) : mg "BadText" = some (.ref (He.ga K "BadText")) := T.glo (T.says.fact 29 rfl)
theorem Tx.g_is_integer (T : Tx K mg) : mg "is_integer" = some (.ref (He.ga K "is_integer")) := T.glo (T.says.fact 30 rfl)
theorem Tx.g_is_within (T : Tx K mg) : mg "is_within" = some (.ref (He.ga K "is_within")) := T.glo (T.says.fact 31 rfl)
theorem Tx.g_is_place (T : Tx K mg) : mg "is_place" = some (.ref (He.ga K "is_place")) := T.glo (T.says.fact 32 rfl)
theorem Tx.g_are_integers (T : Tx K mg) : mg "are_integers" = some (.ref (He.ga K "are_integers")) := T.glo (T.says.fact 33 rfl)
theorem Tx.g_need_number (T : Tx K mg) : mg "need_number" = some (.ref (He.ga K "need_number")) := T.glo (T.says.fact 34 rfl)
theorem Tx.g_need_place (T : Tx K mg) : mg "need_place" = some (.ref (He.ga K "need_place")) := T.glo (T.says.fact 35 rfl)
theorem Tx.g_need_places (T : Tx K mg) : mg "need_places" = some (.ref (He.ga K "need_places")) := T.glo (T.says.fact 36 rfl)
theorem Tx.g_measure (T : Tx K mg) : mg "measure" = some (.ref (He.ga K "measure")) := T.glo (T.says.fact 37 rfl)
theorem Tx.g_root_of (T : Tx K mg) : mg "root_of" = some (.ref (He.ga K "root_of")) := T.glo (T.says.fact 38 rfl)
theorem Tx.g_need_numbers (T : Tx K mg) : mg "need_numbers" = some (.ref (He.ga K "need_numbers")) := T.glo (T.says.fact 39 rfl)
theorem Tx.g_need_form (T : Tx K mg) : mg "need_form" = some (.ref (He.ga K "need_form")) := T.glo (T.says.fact 40 rfl)
theorem Tx.g_Form (T : Tx K mg) : mg "Form" = some (.ref (He.ga K "Form")) := T.glo (T.says.fact 41 rfl)
theorem Tx.g_need_bends (T : Tx K mg) : mg "need_bends" = some (.ref (He.ga K "need_bends")) := T.glo (T.says.fact 42 rfl)
theorem Tx.g_need_four (T : Tx K mg) : mg "need_four" = some (.ref (He.ga K "need_four")) := T.glo (T.says.fact 43 rfl)
theorem Tx.g_let_in (T : Tx K mg) : mg "let_in" = some (.ref (He.ga K "let_in")) := T.glo (T.says.fact 44 rfl)
theorem Tx.g_exchanged_at (T : Tx K mg) : mg "exchanged_at" = some (.ref (He.ga K "exchanged_at")) := T.glo (T.says.fact 45 rfl)
theorem Tx.g_Four (T : Tx K mg) : mg "Four" = some (.ref (He.ga K "Four")) := T.glo (T.says.fact 46 rfl)
theorem Tx.g_others_of (T : Tx K mg) : mg "others_of" = some (.ref (He.ga K "others_of")) := T.glo (T.says.fact 47 rfl)
theorem Tx.g_numbers_at (T : Tx K mg) : mg "numbers_at" = some (.ref (He.ga K "numbers_at")) := T.glo (T.says.fact 48 rfl)
theorem Tx.g_need_bent (T : Tx K mg) : mg "need_bent" = some (.ref (He.ga K "need_bent")) := T.glo (T.says.fact 49 rfl)
theorem Tx.g_need_round (T : Tx K mg) : mg "need_round" = some (.ref (He.ga K "need_round")) := T.glo (T.says.fact 50 rfl)
theorem Tx.g_form_at (T : Tx K mg) : mg "form_at" = some (.ref (He.ga K "form_at")) := T.glo (T.says.fact 51 rfl)
theorem Tx.g_fixed (T : Tx K mg) : mg "fixed" = some (.ref (He.ga K "fixed")) := T.glo (T.says.fact 52 rfl)
theorem Tx.g_Paper (T : Tx K mg) : mg "Paper" = some (.ref (He.ga K "Paper")) := T.glo (T.says.fact 53 rfl)
theorem Tx.g_primes_in (T : Tx K mg) : mg "primes_in" = some (.ref (He.ga K "primes_in")) := T.glo (T.says.fact 54 rfl)
theorem Tx.g_prime_powers (T : Tx K mg) : mg "prime_powers" = some (.ref (He.ga K "prime_powers")) := T.glo (T.says.fact 55 rfl)
theorem Tx.g_Least (T : Tx K mg) : mg "Least" = some (.ref (He.ga K "Least")) := T.glo (T.says.fact 56 rfl)
theorem Tx.g_lowering (T : Tx K mg) : mg "lowering" = some (.ref (He.ga K "lowering")) := T.glo (T.says.fact 57 rfl)
theorem Tx.g_down (T : Tx K mg) : mg "down" = some (.ref (He.ga K "down")) := T.glo (T.says.fact 58 rfl)
theorem Tx.g_least (T : Tx K mg) : mg "least" = some (.ref (He.ga K "least")) := T.glo (T.says.fact 59 rfl)
theorem Tx.g_gasket_form (T : Tx K mg) : mg "gasket_form" = some (.ref (He.ga K "gasket_form")) := T.glo (T.says.fact 60 rfl)
theorem Tx.g_need_asked (T : Tx K mg) : mg "need_asked" = some (.ref (He.ga K "need_asked")) := T.glo (T.says.fact 61 rfl)
theorem Tx.g_odd_part (T : Tx K mg) : mg "odd_part" = some (.ref (He.ga K "odd_part")) := T.glo (T.says.fact 62 rfl)
theorem Tx.g_is_turned (T : Tx K mg) : mg "is_turned" = some (.ref (He.ga K "is_turned")) := T.glo (T.says.fact 63 rfl)
theorem Tx.g_come_down (T : Tx K mg) : mg "come_down" = some (.ref (He.ga K "come_down")) := T.glo (T.says.fact 64 rfl)
theorem Tx.g_own_symbol (T : Tx K mg) : mg "own_symbol" = some (.ref (He.ga K "own_symbol")) := T.glo (T.says.fact 65 rfl)
theorem Tx.g_symbol (T : Tx K mg) : mg "symbol" = some (.ref (He.ga K "symbol")) := T.glo (T.says.fact 66 rfl)
theorem Tx.g_need_primes (T : Tx K mg) : mg "need_primes" = some (.ref (He.ga K "need_primes")) := T.glo (T.says.fact 67 rfl)
theorem Tx.g_worth_beside (T : Tx K mg) : mg "worth_beside" = some (.ref (He.ga K "worth_beside")) := T.glo (T.says.fact 68 rfl)
theorem Tx.g_signs_of (T : Tx K mg) : mg "signs_of" = some (.ref (He.ga K "signs_of")) := T.glo (T.says.fact 69 rfl)
theorem Tx.g_sign_alone (T : Tx K mg) : mg "sign_alone" = some (.ref (He.ga K "sign_alone")) := T.glo (T.says.fact 70 rfl)
theorem Tx.g_sign_of_rim (T : Tx K mg) : mg "sign_of_rim" = some (.ref (He.ga K "sign_of_rim")) := T.glo (T.says.fact 71 rfl)
theorem Tx.g_local_signs (T : Tx K mg) : mg "local_signs" = some (.ref (He.ga K "local_signs")) := T.glo (T.says.fact 72 rfl)
theorem Tx.g_sign_by_rim (T : Tx K mg) : mg "sign_by_rim" = some (.ref (He.ga K "sign_by_rim")) := T.glo (T.says.fact 73 rfl)
theorem Tx.g_need_fan (T : Tx K mg) : mg "need_fan" = some (.ref (He.ga K "need_fan")) := T.glo (T.says.fact 74 rfl)
theorem Tx.g_other_places (T : Tx K mg) : mg "other_places" = some (.ref (He.ga K "other_places")) := T.glo (T.says.fact 75 rfl)
theorem Tx.g_are_coprime (T : Tx K mg) : mg "are_coprime" = some (.ref (He.ga K "are_coprime")) := T.glo (T.says.fact 76 rfl)
theorem Tx.g_fan (T : Tx K mg) : mg "fan" = some (.ref (He.ga K "fan")) := T.glo (T.says.fact 77 rfl)
theorem Tx.g_Sign (T : Tx K mg) : mg "Sign" = some (.ref (He.ga K "Sign")) := T.glo (T.says.fact 78 rfl)
theorem Tx.g_sign_of_two (T : Tx K mg) : mg "sign_of_two" = some (.ref (He.ga K "sign_of_two")) := T.glo (T.says.fact 79 rfl)
theorem Tx.g_first_place (T : Tx K mg) : mg "first_place" = some (.ref (He.ga K "first_place")) := T.glo (T.says.fact 80 rfl)
theorem Tx.g_sign (T : Tx K mg) : mg "sign" = some (.ref (He.ga K "sign")) := T.glo (T.says.fact 81 rfl)
theorem Tx.g_law_bowl (T : Tx K mg) : mg "_law_bowl" = some (.ref (He.ga K "_law_bowl")) := T.glo (T.says.fact 82 rfl)
theorem Tx.g_law_ladle (T : Tx K mg) : mg "_law_ladle" = some (.ref (He.ga K "_law_ladle")) := T.glo (T.says.fact 83 rfl)
theorem Tx.g_law_pick (T : Tx K mg) : mg "_law_pick" = some (.ref (He.ga K "_law_pick")) := T.glo (T.says.fact 84 rfl)
theorem Tx.g_law_shared (T : Tx K mg) : mg "_law_shared" = some (.ref (He.ga K "_law_shared")) := T.glo (T.says.fact 85 rfl)
theorem Tx.g_law_all_least (T : Tx K mg) : mg "_law_all_least" = some (.ref (He.ga K "_law_all_least")) := T.glo (T.says.fact 86 rfl)
theorem Tx.g_law_least (T : Tx K mg) : mg "_law_least" = some (.ref (He.ga K "_law_least")) := T.glo (T.says.fact 87 rfl)
theorem Tx.g_law_primes (T : Tx K mg) : mg "_law_primes" = some (.ref (He.ga K "_law_primes")) := T.glo (T.says.fact 88 rfl)
theorem Tx.g_law_symbol (T : Tx K mg) : mg "_law_symbol" = some (.ref (He.ga K "_law_symbol")) := T.glo (T.says.fact 89 rfl)
theorem Tx.g_law_bends (T : Tx K mg) : mg "_law_bends" = some (.ref (He.ga K "_law_bends")) := T.glo (T.says.fact 90 rfl)
theorem Tx.g_law_exchanged (T : Tx K mg) : mg "_law_exchanged" = some (.ref (He.ga K "_law_exchanged")) := T.glo (T.says.fact 91 rfl)
theorem Tx.g_law_led (T : Tx K mg) : mg "_law_led" = some (.ref (He.ga K "_law_led")) := T.glo (T.says.fact 92 rfl)
theorem Tx.g_law_mixed (T : Tx K mg) : mg "_law_mixed" = some (.ref (He.ga K "_law_mixed")) := T.glo (T.says.fact 93 rfl)
theorem Tx.g_law_pair_sign (T : Tx K mg) : mg "_law_pair_sign" = some (.ref (He.ga K "_law_pair_sign")) := T.glo (T.says.fact 94 rfl)
theorem Tx.g_law_own_sign (T : Tx K mg) : mg "_law_own_sign" = some (.ref (He.ga K "_law_own_sign")) := T.glo (T.says.fact 95 rfl)
theorem Tx.g_law_by_rim (T : Tx K mg) : mg "_law_by_rim" = some (.ref (He.ga K "_law_by_rim")) := T.glo (T.says.fact 96 rfl)
theorem Tx.g_law_gasket_right (T : Tx K mg) : mg "_law_gasket_right" = some (.ref (He.ga K "_law_gasket_right")) := T.glo (T.says.fact 97 rfl)
theorem Tx.g_law_heard (T : Tx K mg) : mg "_law_heard" = some (.ref (He.ga K "_law_heard")) := T.glo (T.says.fact 98 rfl)
theorem Tx.g_law_idle (T : Tx K mg) : mg "_law_idle" = some (.ref (He.ga K "_law_idle")) := T.glo (T.says.fact 99 rfl)
theorem Tx.g_law_edges_right (T : Tx K mg) : mg "_law_edges_right" = some (.ref (He.ga K "_law_edges_right")) := T.glo (T.says.fact 100 rfl)
theorem Tx.g_law (T : Tx K mg) : mg "law" = some (.ref (He.ga K "law")) := T.glo (T.says.fact 101 rfl)
theorem Tx.cls_Least (T : Tx K mg) : Cls K (He.ga K "Least") := He.cls_ok (T.says.fact 102 rfl)
theorem Tx.cls_Sign (T : Tx K mg) : Cls K (He.ga K "Sign") := He.cls_ok (T.says.fact 103 rfl)
theorem Tx.cls_Paper (T : Tx K mg) : Cls K (He.ga K "Paper") := He.cls_ok (T.says.fact 104 rfl)
theorem Tx.mkr_Least (T : Tx K mg) : Mk K (He.ga K "Least") (He.ma K (He.ga K "Least") "__init__") := He.mkr_ok (T.says.fact 105 rfl)
theorem Tx.mkr_Sign (T : Tx K mg) : Mk K (He.ga K "Sign") (He.ma K (He.ga K "Sign") "__init__") := He.mkr_ok (T.says.fact 106 rfl)
theorem Tx.noat_Least_four (T : Tx K mg) : NoAttr K (He.ga K "Least") "four" := He.noat_ok (T.says.fact 107 rfl)
theorem Tx.noat_Least_letters (T : Tx K mg) : NoAttr K (He.ga K "Least") "letters" := He.noat_ok (T.says.fact 108 rfl)
theorem Tx.noat_Least_parts (T : Tx K mg) : NoAttr K (He.ga K "Least") "parts" := He.noat_ok (T.says.fact 109 rfl)
theorem Tx.noat_Least_word (T : Tx K mg) : NoAttr K (He.ga K "Least") "word" := He.noat_ok (T.says.fact 110 rfl)
theorem Tx.noat_Sign_value (T : Tx K mg) : NoAttr K (He.ga K "Sign") "value" := He.noat_ok (T.says.fact 111 rfl)
theorem Tx.noat_Sign_letters (T : Tx K mg) : NoAttr K (He.ga K "Sign") "letters" := He.noat_ok (T.says.fact 112 rfl)
theorem Tx.noat_Sign_place (T : Tx K mg) : NoAttr K (He.ga K "Sign") "place" := He.noat_ok (T.says.fact 113 rfl)
theorem Tx.noat_Sign_at (T : Tx K mg) : NoAttr K (He.ga K "Sign") "at" := He.noat_ok (T.says.fact 114 rfl)
theorem Tx.noat_Sign_parts (T : Tx K mg) : NoAttr K (He.ga K "Sign") "parts" := He.noat_ok (T.says.fact 115 rfl)
theorem Tx.noat_Sign_word (T : Tx K mg) : NoAttr K (He.ga K "Sign") "word" := He.noat_ok (T.says.fact 116 rfl)
theorem Tx.cls_Form (T : Tx K mg) : Cls K (He.ga K "Form") := He.cls_ok (T.says.fact 117 rfl)
theorem Tx.cls_Four (T : Tx K mg) : Cls K (He.ga K "Four") := He.cls_ok (T.says.fact 118 rfl)
theorem Tx.mkr_Form (T : Tx K mg) : Mk K (He.ga K "Form") (He.ma K (He.ga K "Form") "__init__") := He.mkr_ok (T.says.fact 119 rfl)
theorem Tx.mkr_Four (T : Tx K mg) : Mk K (He.ga K "Four") (He.ma K (He.ga K "Four") "__init__") := He.mkr_ok (T.says.fact 120 rfl)
theorem Tx.noat_Form_numbers (T : Tx K mg) : NoAttr K (He.ga K "Form") "numbers" := He.noat_ok (T.says.fact 121 rfl)
theorem Tx.noat_Form_side (T : Tx K mg) : NoAttr K (He.ga K "Form") "side" := He.noat_ok (T.says.fact 122 rfl)
theorem Tx.noat_Four_bends (T : Tx K mg) : NoAttr K (He.ga K "Four") "bends" := He.noat_ok (T.says.fact 123 rfl)
theorem Tx.noat_Four_total (T : Tx K mg) : NoAttr K (He.ga K "Four") "total" := He.noat_ok (T.says.fact 124 rfl)
theorem Tx.f_is_integer (T : Tx K mg) : ∃ fd, FunD K "is_integer" "is_integer" (defArgs (top 17)) (defBody (top 17)) (defScope (top 17)) (d_is_integer.dvs K) [] (He.ga K "is_integer") fd := T.says.def_ 0 (d := d_is_integer) rfl
theorem Tx.f_is_within (T : Tx K mg) : ∃ fd, FunD K "is_within" "is_within" (defArgs (top 18)) (defBody (top 18)) (defScope (top 18)) (d_is_within.dvs K) [] (He.ga K "is_within") fd := T.says.def_ 1 (d := d_is_within) rfl
theorem Tx.f_is_place (T : Tx K mg) : ∃ fd, FunD K "is_place" "is_place" (defArgs (top 19)) (defBody (top 19)) (defScope (top 19)) (d_is_place.dvs K) [] (He.ga K "is_place") fd := T.says.def_ 2 (d := d_is_place) rfl
theorem Tx.f_are_integers (T : Tx K mg) : ∃ fd, FunD K "are_integers" "are_integers" (defArgs (top 20)) (defBody (top 20)) (defScope (top 20)) (d_are_integers.dvs K) [] (He.ga K "are_integers") fd := T.says.def_ 3 (d := d_are_integers) rfl
theorem Tx.f_need_number (T : Tx K mg) : ∃ fd, FunD K "need_number" "need_number" (defArgs (top 21)) (defBody (top 21)) (defScope (top 21)) (d_need_number.dvs K) [] (He.ga K "need_number") fd := T.says.def_ 4 (d := d_need_number) rfl
theorem Tx.f_need_place (T : Tx K mg) : ∃ fd, FunD K "need_place" "need_place" (defArgs (top 22)) (defBody (top 22)) (defScope (top 22)) (d_need_place.dvs K) [] (He.ga K "need_place") fd := T.says.def_ 5 (d := d_need_place) rfl
theorem Tx.f_need_places (T : Tx K mg) : ∃ fd, FunD K "need_places" "need_places" (defArgs (top 23)) (defBody (top 23)) (defScope (top 23)) (d_need_places.dvs K) [] (He.ga K "need_places") fd := T.says.def_ 6 (d := d_need_places) rfl
theorem Tx.f_measure (T : Tx K mg) : ∃ fd, FunD K "measure" "measure" (defArgs (top 24)) (defBody (top 24)) (defScope (top 24)) (d_measure.dvs K) [] (He.ga K "measure") fd := T.says.def_ 7 (d := d_measure) rfl
theorem Tx.f_root_of (T : Tx K mg) : ∃ fd, FunD K "root_of" "root_of" (defArgs (top 25)) (defBody (top 25)) (defScope (top 25)) (d_root_of.dvs K) [] (He.ga K "root_of") fd := T.says.def_ 8 (d := d_root_of) rfl
theorem Tx.f_need_numbers (T : Tx K mg) : ∃ fd, FunD K "need_numbers" "need_numbers" (defArgs (top 31)) (defBody (top 31)) (defScope (top 31)) (d_need_numbers.dvs K) [] (He.ga K "need_numbers") fd := T.says.def_ 9 (d := d_need_numbers) rfl
theorem Tx.f_need_form (T : Tx K mg) : ∃ fd, FunD K "need_form" "need_form" (defArgs (top 32)) (defBody (top 32)) (defScope (top 32)) (d_need_form.dvs K) [] (He.ga K "need_form") fd := T.says.def_ 10 (d := d_need_form) rfl
theorem Tx.f_need_bends (T : Tx K mg) : ∃ fd, FunD K "need_bends" "need_bends" (defArgs (top 38)) (defBody (top 38)) (defScope (top 38)) (d_need_bends.dvs K) [] (He.ga K "need_bends") fd := T.says.def_ 12 (d := d_need_bends) rfl
theorem Tx.f_need_four (T : Tx K mg) : ∃ fd, FunD K "need_four" "need_four" (defArgs (top 39)) (defBody (top 39)) (defScope (top 39)) (d_need_four.dvs K) [] (He.ga K "need_four") fd := T.says.def_ 13 (d := d_need_four) rfl
theorem Tx.f_let_in (T : Tx K mg) : ∃ fd, FunD K "let_in" "let_in" (defArgs (top 40)) (defBody (top 40)) (defScope (top 40)) (d_let_in.dvs K) [] (He.ga K "let_in") fd := T.says.def_ 14 (d := d_let_in) rfl
theorem Tx.f_exchanged_at (T : Tx K mg) : ∃ fd, FunD K "exchanged_at" "exchanged_at" (defArgs (top 41)) (defBody (top 41)) (defScope (top 41)) (d_exchanged_at.dvs K) [] (He.ga K "exchanged_at") fd := T.says.def_ 15 (d := d_exchanged_at) rfl
theorem Tx.f_others_of (T : Tx K mg) : ∃ fd, FunD K "others_of" "others_of" (defArgs (top 44)) (defBody (top 44)) (defScope (top 44)) (d_others_of.dvs K) [] (He.ga K "others_of") fd := T.says.def_ 17 (d := d_others_of) rfl
theorem Tx.f_numbers_at (T : Tx K mg) : ∃ fd, FunD K "numbers_at" "numbers_at" (defArgs (top 45)) (defBody (top 45)) (defScope (top 45)) (d_numbers_at.dvs K) [] (He.ga K "numbers_at") fd := T.says.def_ 18 (d := d_numbers_at) rfl
theorem Tx.f_need_bent (T : Tx K mg) : ∃ fd, FunD K "need_bent" "need_bent" (defArgs (top 46)) (defBody (top 46)) (defScope (top 46)) (d_need_bent.dvs K) [] (He.ga K "need_bent") fd := T.says.def_ 19 (d := d_need_bent) rfl
theorem Tx.f_need_round (T : Tx K mg) : ∃ fd, FunD K "need_round" "need_round" (defArgs (top 47)) (defBody (top 47)) (defScope (top 47)) (d_need_round.dvs K) [] (He.ga K "need_round") fd := T.says.def_ 20 (d := d_need_round) rfl
theorem Tx.f_form_at (T : Tx K mg) : ∃ fd, FunD K "form_at" "form_at" (defArgs (top 48)) (defBody (top 48)) (defScope (top 48)) (d_form_at.dvs K) [] (He.ga K "form_at") fd := T.says.def_ 21 (d := d_form_at) rfl
theorem Tx.f_fixed (T : Tx K mg) : ∃ fd, FunD K "fixed" "fixed" (defArgs (top 50)) (defBody (top 50)) (defScope (top 50)) (d_fixed.dvs K) [] (He.ga K "fixed") fd := T.says.def_ 22 (d := d_fixed) rfl
theorem Tx.f_primes_in (T : Tx K mg) : ∃ fd, FunD K "primes_in" "primes_in" (defArgs (top 54)) (defBody (top 54)) (defScope (top 54)) (d_primes_in.dvs K) [] (He.ga K "primes_in") fd := T.says.def_ 24 (d := d_primes_in) rfl
theorem Tx.f_prime_powers (T : Tx K mg) : ∃ fd, FunD K "prime_powers" "prime_powers" (defArgs (top 55)) (defBody (top 55)) (defScope (top 55)) (d_prime_powers.dvs K) [] (He.ga K "prime_powers") fd := T.says.def_ 25 (d := d_prime_powers) rfl
theorem Tx.f_lowering (T : Tx K mg) : ∃ fd, FunD K "lowering" "lowering" (defArgs (top 58)) (defBody (top 58)) (defScope (top 58)) (d_lowering.dvs K) [] (He.ga K "lowering") fd := T.says.def_ 26 (d := d_lowering) rfl
theorem Tx.f_down (T : Tx K mg) : ∃ fd, FunD K "down" "down" (defArgs (top 59)) (defBody (top 59)) (defScope (top 59)) (d_down.dvs K) [] (He.ga K "down") fd := T.says.def_ 27 (d := d_down) rfl
theorem Tx.f_least (T : Tx K mg) : ∃ fd, FunD K "least" "least" (defArgs (top 60)) (defBody (top 60)) (defScope (top 60)) (d_least.dvs K) [] (He.ga K "least") fd := T.says.def_ 28 (d := d_least) rfl
theorem Tx.f_gasket_form (T : Tx K mg) : ∃ fd, FunD K "gasket_form" "gasket_form" (defArgs (top 62)) (defBody (top 62)) (defScope (top 62)) (d_gasket_form.dvs K) [] (He.ga K "gasket_form") fd := T.says.def_ 29 (d := d_gasket_form) rfl
theorem Tx.f_need_asked (T : Tx K mg) : ∃ fd, FunD K "need_asked" "need_asked" (defArgs (top 64)) (defBody (top 64)) (defScope (top 64)) (d_need_asked.dvs K) [] (He.ga K "need_asked") fd := T.says.def_ 30 (d := d_need_asked) rfl
theorem Tx.f_odd_part (T : Tx K mg) : ∃ fd, FunD K "odd_part" "odd_part" (defArgs (top 65)) (defBody (top 65)) (defScope (top 65)) (d_odd_part.dvs K) [] (He.ga K "odd_part") fd := T.says.def_ 31 (d := d_odd_part) rfl
theorem Tx.f_is_turned (T : Tx K mg) : ∃ fd, FunD K "is_turned" "is_turned" (defArgs (top 66)) (defBody (top 66)) (defScope (top 66)) (d_is_turned.dvs K) [] (He.ga K "is_turned") fd := T.says.def_ 32 (d := d_is_turned) rfl
theorem Tx.f_come_down (T : Tx K mg) : ∃ fd, FunD K "come_down" "come_down" (defArgs (top 67)) (defBody (top 67)) (defScope (top 67)) (d_come_down.dvs K) [] (He.ga K "come_down") fd := T.says.def_ 33 (d := d_come_down) rfl
theorem Tx.f_own_symbol (T : Tx K mg) : ∃ fd, FunD K "own_symbol" "own_symbol" (defArgs (top 68)) (defBody (top 68)) (defScope (top 68)) (d_own_symbol.dvs K) [] (He.ga K "own_symbol") fd := T.says.def_ 34 (d := d_own_symbol) rfl
theorem Tx.f_symbol (T : Tx K mg) : ∃ fd, FunD K "symbol" "symbol" (defArgs (top 69)) (defBody (top 69)) (defScope (top 69)) (d_symbol.dvs K) [] (He.ga K "symbol") fd := T.says.def_ 35 (d := d_symbol) rfl
theorem Tx.f_need_primes (T : Tx K mg) : ∃ fd, FunD K "need_primes" "need_primes" (defArgs (top 73)) (defBody (top 73)) (defScope (top 73)) (d_need_primes.dvs K) [] (He.ga K "need_primes") fd := T.says.def_ 36 (d := d_need_primes) rfl
theorem Tx.f_worth_beside (T : Tx K mg) : ∃ fd, FunD K "worth_beside" "worth_beside" (defArgs (top 74)) (defBody (top 74)) (defScope (top 74)) (d_worth_beside.dvs K) [] (He.ga K "worth_beside") fd := T.says.def_ 37 (d := d_worth_beside) rfl
theorem Tx.f_signs_of (T : Tx K mg) : ∃ fd, FunD K "signs_of" "signs_of" (defArgs (top 75)) (defBody (top 75)) (defScope (top 75)) (d_signs_of.dvs K) [] (He.ga K "signs_of") fd := T.says.def_ 38 (d := d_signs_of) rfl
theorem Tx.f_sign_alone (T : Tx K mg) : ∃ fd, FunD K "sign_alone" "sign_alone" (defArgs (top 76)) (defBody (top 76)) (defScope (top 76)) (d_sign_alone.dvs K) [] (He.ga K "sign_alone") fd := T.says.def_ 39 (d := d_sign_alone) rfl
theorem Tx.f_sign_of_rim (T : Tx K mg) : ∃ fd, FunD K "sign_of_rim" "sign_of_rim" (defArgs (top 77)) (defBody (top 77)) (defScope (top 77)) (d_sign_of_rim.dvs K) [] (He.ga K "sign_of_rim") fd := T.says.def_ 40 (d := d_sign_of_rim) rfl
theorem Tx.f_local_signs (T : Tx K mg) : ∃ fd, FunD K "local_signs" "local_signs" (defArgs (top 78)) (defBody (top 78)) (defScope (top 78)) (d_local_signs.dvs K) [] (He.ga K "local_signs") fd := T.says.def_ 41 (d := d_local_signs) rfl
theorem Tx.f_sign_by_rim (T : Tx K mg) : ∃ fd, FunD K "sign_by_rim" "sign_by_rim" (defArgs (top 79)) (defBody (top 79)) (defScope (top 79)) (d_sign_by_rim.dvs K) [] (He.ga K "sign_by_rim") fd := T.says.def_ 42 (d := d_sign_by_rim) rfl
theorem Tx.f_need_fan (T : Tx K mg) : ∃ fd, FunD K "need_fan" "need_fan" (defArgs (top 81)) (defBody (top 81)) (defScope (top 81)) (d_need_fan.dvs K) [] (He.ga K "need_fan") fd := T.says.def_ 43 (d := d_need_fan) rfl
theorem Tx.f_other_places (T : Tx K mg) : ∃ fd, FunD K "other_places" "other_places" (defArgs (top 82)) (defBody (top 82)) (defScope (top 82)) (d_other_places.dvs K) [] (He.ga K "other_places") fd := T.says.def_ 44 (d := d_other_places) rfl
theorem Tx.f_are_coprime (T : Tx K mg) : ∃ fd, FunD K "are_coprime" "are_coprime" (defArgs (top 83)) (defBody (top 83)) (defScope (top 83)) (d_are_coprime.dvs K) [] (He.ga K "are_coprime") fd := T.says.def_ 45 (d := d_are_coprime) rfl
theorem Tx.f_fan (T : Tx K mg) : ∃ fd, FunD K "fan" "fan" (defArgs (top 84)) (defBody (top 84)) (defScope (top 84)) (d_fan.dvs K) [] (He.ga K "fan") fd := T.says.def_ 46 (d := d_fan) rfl
theorem Tx.f_sign_of_two (T : Tx K mg) : ∃ fd, FunD K "sign_of_two" "sign_of_two" (defArgs (top 87)) (defBody (top 87)) (defScope (top 87)) (d_sign_of_two.dvs K) [] (He.ga K "sign_of_two") fd := T.says.def_ 47 (d := d_sign_of_two) rfl
theorem Tx.f_first_place (T : Tx K mg) : ∃ fd, FunD K "first_place" "first_place" (defArgs (top 88)) (defBody (top 88)) (defScope (top 88)) (d_first_place.dvs K) [] (He.ga K "first_place") fd := T.says.def_ 48 (d := d_first_place) rfl
theorem Tx.f_sign (T : Tx K mg) : ∃ fd, FunD K "sign" "sign" (defArgs (top 89)) (defBody (top 89)) (defScope (top 89)) (d_sign.dvs K) [] (He.ga K "sign") fd := T.says.def_ 49 (d := d_sign) rfl
theorem Tx.f_law_bowl (T : Tx K mg) : ∃ fd, FunD K "_law_bowl" "_law_bowl" (defArgs (top 91)) (defBody (top 91)) (defScope (top 91)) (d_law_bowl.dvs K) [] (He.ga K "_law_bowl") fd := T.says.def_ 50 (d := d_law_bowl) rfl
theorem Tx.f_law_ladle (T : Tx K mg) : ∃ fd, FunD K "_law_ladle" "_law_ladle" (defArgs (top 92)) (defBody (top 92)) (defScope (top 92)) (d_law_ladle.dvs K) [] (He.ga K "_law_ladle") fd := T.says.def_ 51 (d := d_law_ladle) rfl
theorem Tx.f_law_pick (T : Tx K mg) : ∃ fd, FunD K "_law_pick" "_law_pick" (defArgs (top 93)) (defBody (top 93)) (defScope (top 93)) (d_law_pick.dvs K) [] (He.ga K "_law_pick") fd := T.says.def_ 52 (d := d_law_pick) rfl
theorem Tx.f_law_shared (T : Tx K mg) : ∃ fd, FunD K "_law_shared" "_law_shared" (defArgs (top 94)) (defBody (top 94)) (defScope (top 94)) (d_law_shared.dvs K) [] (He.ga K "_law_shared") fd := T.says.def_ 53 (d := d_law_shared) rfl
theorem Tx.f_law_all_least (T : Tx K mg) : ∃ fd, FunD K "_law_all_least" "_law_all_least" (defArgs (top 95)) (defBody (top 95)) (defScope (top 95)) (d_law_all_least.dvs K) [] (He.ga K "_law_all_least") fd := T.says.def_ 54 (d := d_law_all_least) rfl
theorem Tx.f_law_least (T : Tx K mg) : ∃ fd, FunD K "_law_least" "_law_least" (defArgs (top 99)) (defBody (top 99)) (defScope (top 99)) (d_law_least.dvs K) [] (He.ga K "_law_least") fd := T.says.def_ 55 (d := d_law_least) rfl
theorem Tx.f_law_primes (T : Tx K mg) : ∃ fd, FunD K "_law_primes" "_law_primes" (defArgs (top 101)) (defBody (top 101)) (defScope (top 101)) (d_law_primes.dvs K) [] (He.ga K "_law_primes") fd := T.says.def_ 56 (d := d_law_primes) rfl
theorem Tx.f_law_symbol (T : Tx K mg) : ∃ fd, FunD K "_law_symbol" "_law_symbol" (defArgs (top 102)) (defBody (top 102)) (defScope (top 102)) (d_law_symbol.dvs K) [] (He.ga K "_law_symbol") fd := T.says.def_ 57 (d := d_law_symbol) rfl
theorem Tx.f_law_bends (T : Tx K mg) : ∃ fd, FunD K "_law_bends" "_law_bends" (defArgs (top 103)) (defBody (top 103)) (defScope (top 103)) (d_law_bends.dvs K) [] (He.ga K "_law_bends") fd := T.says.def_ 58 (d := d_law_bends) rfl
theorem Tx.f_law_exchanged (T : Tx K mg) : ∃ fd, FunD K "_law_exchanged" "_law_exchanged" (defArgs (top 105)) (defBody (top 105)) (defScope (top 105)) (d_law_exchanged.dvs K) [] (He.ga K "_law_exchanged") fd := T.says.def_ 59 (d := d_law_exchanged) rfl
theorem Tx.f_law_led (T : Tx K mg) : ∃ fd, FunD K "_law_led" "_law_led" (defArgs (top 106)) (defBody (top 106)) (defScope (top 106)) (d_law_led.dvs K) [] (He.ga K "_law_led") fd := T.says.def_ 60 (d := d_law_led) rfl
theorem Tx.f_law_mixed (T : Tx K mg) : ∃ fd, FunD K "_law_mixed" "_law_mixed" (defArgs (top 107)) (defBody (top 107)) (defScope (top 107)) (d_law_mixed.dvs K) [] (He.ga K "_law_mixed") fd := T.says.def_ 61 (d := d_law_mixed) rfl
theorem Tx.f_law_pair_sign (T : Tx K mg) : ∃ fd, FunD K "_law_pair_sign" "_law_pair_sign" (defArgs (top 108)) (defBody (top 108)) (defScope (top 108)) (d_law_pair_sign.dvs K) [] (He.ga K "_law_pair_sign") fd := T.says.def_ 62 (d := d_law_pair_sign) rfl
theorem Tx.f_law_own_sign (T : Tx K mg) : ∃ fd, FunD K "_law_own_sign" "_law_own_sign" (defArgs (top 109)) (defBody (top 109)) (defScope (top 109)) (d_law_own_sign.dvs K) [] (He.ga K "_law_own_sign") fd := T.says.def_ 63 (d := d_law_own_sign) rfl
theorem Tx.f_law_by_rim (T : Tx K mg) : ∃ fd, FunD K "_law_by_rim" "_law_by_rim" (defArgs (top 110)) (defBody (top 110)) (defScope (top 110)) (d_law_by_rim.dvs K) [] (He.ga K "_law_by_rim") fd := T.says.def_ 64 (d := d_law_by_rim) rfl
theorem Tx.f_law_gasket_right (T : Tx K mg) : ∃ fd, FunD K "_law_gasket_right" "_law_gasket_right" (defArgs (top 111)) (defBody (top 111)) (defScope (top 111)) (d_law_gasket_right.dvs K) [] (He.ga K "_law_gasket_right") fd := T.says.def_ 65 (d := d_law_gasket_right) rfl
theorem Tx.f_law_heard (T : Tx K mg) : ∃ fd, FunD K "_law_heard" "_law_heard" (defArgs (top 112)) (defBody (top 112)) (defScope (top 112)) (d_law_heard.dvs K) [] (He.ga K "_law_heard") fd := T.says.def_ 66 (d := d_law_heard) rfl
theorem Tx.f_law_idle (T : Tx K mg) : ∃ fd, FunD K "_law_idle" "_law_idle" (defArgs (top 113)) (defBody (top 113)) (defScope (top 113)) (d_law_idle.dvs K) [] (He.ga K "_law_idle") fd := T.says.def_ 67 (d := d_law_idle) rfl
theorem Tx.f_law_edges_right (T : Tx K mg) : ∃ fd, FunD K "_law_edges_right" "_law_edges_right" (defArgs (top 114)) (defBody (top 114)) (defScope (top 114)) (d_law_edges_right.dvs K) [] (He.ga K "_law_edges_right") fd := T.says.def_ 68 (d := d_law_edges_right) rfl
theorem Tx.f_law (T : Tx K mg) : ∃ fd, FunD K "law" "law" (defArgs (top 115)) (defBody (top 115)) (defScope (top 115)) (d_law.dvs K) [] (He.ga K "law") fd := T.says.def_ 69 (d := d_law) rfl
theorem Tx.f_Form_init (T : Tx K mg) : ∃ fd, FunD K "__init__" "Form.__init__" (defArgs (inClass (top 36) 0)) (defBody (inClass (top 36) 0)) (defScope (inClass (top 36) 0)) (d_Form_init.dvs K) [] (He.ma K (He.ga K "Form") "__init__") fd := T.says.def_ 11 (d := d_Form_init) rfl
theorem Tx.f_Four_init (T : Tx K mg) : ∃ fd, FunD K "__init__" "Four.__init__" (defArgs (inClass (top 42) 0)) (defBody (inClass (top 42) 0)) (defScope (inClass (top 42) 0)) (d_Four_init.dvs K) [] (He.ma K (He.ga K "Four") "__init__") fd := T.says.def_ 16 (d := d_Four_init) rfl
theorem Tx.f_Paper_init (T : Tx K mg) : ∃ fd, FunD K "__init__" "Paper.__init__" (defArgs (inClass (top 51) 0)) (defBody (inClass (top 51) 0)) (defScope (inClass (top 51) 0)) (d_Paper_init.dvs K) [] (He.ma K (He.ga K "Paper") "__init__") fd := T.says.def_ 23 (d := d_Paper_init) rfl
end
end Bh

/-! HR -/
set_option maxHeartbeats 0
namespace Bh
open PySem PySem.Spec PyProof.Rows L2
/-! ### the head -/
def refF (o : Obj) : List Addr := match o.data with
  | .func fd => He.refV fd.code ++ (He.refV fd.defaults ++ fd.closure.map (·.2))
  | .cls cd => [cd.ns]
  | _ => []
def refD (o : Obj) : List Addr := match o.data with
  | .dict es _ => es.toList.flatMap fun e => He.refV e.val
  | _ => []
def reach (g : Addr → Option Obj) (f : Obj → List Addr) (as : List Addr) : List Addr := as.flatMap fun a => match g a with
  | some o => f o
  | none => []
def asB2 (g : Addr → Option Obj) (F G M : List Addr) : List Addr := mainGlobals :: (F ++ (G ++ (M ++ (reach g refF M ++ [cStatics]))))
def asB1 (g : Addr → Option Obj) (F G : List Addr) : List Addr := asB2 g F G (reach g refD G)
def asB0 (g : Addr → Option Obj) (F : List Addr) : List Addr := asB1 g F (reach g refF F)
def asB (g : Addr → Option Obj) : List Addr := asB0 g (reach g refD [mainGlobals])
abbrev AlB : Type := He.AlD × (Bool × List FnC)
def tabN (K : PySem.W.Frag) : Bool := tfE.all fun p => (match K.lookup (He.cT K p).2 with
  | none => true
  | some _ => false)
def obsK (g : Addr → Option Obj) (K : PySem.W.Frag) : AlB := (He5.obsA fa fn K, (exB K && (tabN K && He.tabsB g tfE K), fc.map fun d => fnC K (d.at_ K)))
def obsB (g : Addr → Option Obj) : AlB := obsK g (He.frG g (asB g))
def valB : AlB := (He5.valA fn, (true, fc.map DefC.val))
/-- what is told of the heap behind the top -/
def SaysB (h : Heap) (K : PySem.W.Frag) : Prop := He5.SaysA fa fn K ∧ exB K = true ∧ fc.map (fun d => fnC K (d.at_ K)) = fc.map DefC.val ∧
  (∀ p ∈ tfE, PySem.W.codeHdIn K (He.cT K p).1 (He.cT K p).2 = true ∧ K.lookup (He.cT K p).2 = none) ∧ ∀ p ∈ tfE, h.get? (He.cT K p).2 = some { cls := .none, data := .fields #[] }
theorem saysB_of {h : Heap} (e : obsB h.get? = valB) : SaysB h (He.frG h.get? (asB h.get?)) := by
  have e1 : He5.obsA fa fn (He.frG h.get? (asB h.get?)) = He5.valA fn := congrArg (fun z : AlB => z.1) e
  have e2 : (exB (He.frG h.get? (asB h.get?)) && (tabN (He.frG h.get? (asB h.get?)) && He.tabsB h.get? tfE (He.frG h.get? (asB h.get?)))) = true := congrArg (fun z : AlB => z.2.1) e
  have e3 : (fc.map fun d => fnC (He.frG h.get? (asB h.get?)) (d.at_ (He.frG h.get? (asB h.get?)))) = fc.map DefC.val := congrArg (fun z : AlB => z.2.2) e
  obtain ⟨h1, h2⟩ := He.ba e2
  obtain ⟨h2, h3⟩ := He.ba h2
  refine ⟨e1, h1, e3, fun p hp => ?_, fun p hp => ?_⟩
  · obtain ⟨a, b⟩ := He.ba (List.all_eq_true.mp h3 p hp)
    refine ⟨a, ?_⟩
    have z := List.all_eq_true.mp h2 p hp
    cases q : (He.frG h.get? (asB h.get?)).lookup (He.cT (He.frG h.get? (asB h.get?)) p).2 with
    | none => rfl
    | some o =>
      rw [q] at z
      cases z
  · obtain ⟨a, b⟩ := He.ba (List.all_eq_true.mp h3 p hp)
    cases q : h.get? (He.cT (He.frG h.get? (asB h.get?)) p).2 with
    | none =>
      rw [q] at b
      cases b
    | some o =>
      rw [q] at b
      rw [He.emptyTab_eq b]
def hk : PySem.W.Hook where
  α := AlB
  obs := fun s => obsB s.heap.get?
  val := fun _ => valB
  says := fun _ h => ∃ K : PySem.W.Frag, K.In h ∧ SaysB h K
  of := fun _ _ e => ⟨_, He.frG_in, saysB_of e⟩
  keeps := fun _ _ _ ⟨K, hK, c1, c2, c3, c4, c5⟩ k => ⟨K, PySem.W.Frag.In.keeps hK k, c1, c2, c3, c4, fun p hp => k _ _ (c5 p hp)⟩
noncomputable def ob (s : PySem.W.SharedT) : AlB := obsB (HandSHeadRun.getT s)
theorem ob_eq (s : PySem.W.SharedT) : ob s = hk.obs s.abs := by
  have e : HandSHeadRun.getT s = s.abs.heap.get? := funext (HandSHeadRun.getT_eq s)
  show obsB (HandSHeadRun.getT s) = obsB s.abs.heap.get?
  rw [e]
open HandSHeadRun
theorem run (w : World) : RunEqI R (PySem.W.view R.prog [0, 115]) hk ob 9000 (loose.drop 2) w := by
  unfold RunEqI
  kernel_rfl
end Bh

/-! N1 -/
set_option maxHeartbeats 1000000
namespace Bs
/-! coprime integers -/
abbrev Cop (a b : Int) : Prop := Int.gcd a b = 1
theorem Cop.comm {a b : Int} (h : Cop a b) : Cop b a := by unfold Cop; rw [Int.gcd_comm]; exact h
theorem cop_one (a : Int) : Cop a 1 := by simp [Cop]
theorem one_cop (a : Int) : Cop 1 a := by simp [Cop]
theorem Cop.dvd {a n x : Int} (h : Cop a n) (d : n ∣ a * x) : n ∣ x := by
  have e := Int.gcd_mul_right_left_of_gcd_eq_one (k := x) h
  have e1 : n ∣ ((Int.gcd (a * x) n : Nat) : Int) := Int.dvd_coe_gcd d (Int.dvd_refl n)
  rw [e] at e1
  exact Int.dvd_trans e1 (Int.gcd_dvd_left _ _)
theorem Cop.mul {a b n : Int} (h : Cop a n) (h' : Cop b n) : Cop (a * b) n := by
  unfold Cop; rw [Int.gcd_mul_right_left_of_gcd_eq_one h]; exact h'
theorem cop_iff {a n : Int} : Cop a n ↔ ∀ c : Int, c ∣ a → c ∣ n → c ∣ 1 := Int.gcd_eq_one_iff
theorem Cop.of_dvd {a b n m : Int} (h : Cop a n) (d : b ∣ a) (e : m ∣ n) : Cop b m :=
  cop_iff.mpr fun c h1 h2 => cop_iff.mp h c (Int.dvd_trans h1 d) (Int.dvd_trans h2 e)
theorem Cop.left {a b n : Int} (h : Cop (a * b) n) : Cop a n := h.of_dvd (Int.dvd_mul_right a b) (Int.dvd_refl n)
theorem Cop.right {a b n : Int} (h : Cop (a * b) n) : Cop b n := h.of_dvd (Int.dvd_mul_left a b) (Int.dvd_refl n)
theorem Cop.congr {a b n : Int} (h : Cop a n) (d : n ∣ a - b) : Cop b n :=
  cop_iff.mpr fun c h1 h2 => cop_iff.mp h c (by
    have q : c ∣ (a - b) + b := Int.dvd_add (Int.dvd_trans h2 d) h1
    rw [Int.sub_add_cancel] at q; exact q) h2
theorem Cop.neg {a n : Int} (h : Cop a n) : Cop (-a) n := by unfold Cop; rw [Int.neg_gcd]; exact h
theorem Cop.emod {a n : Int} (h : Cop a n) : Cop (a % n) n := h.congr (Int.dvd_self_sub_emod)
theorem Cop.of_emod {a n : Int} (h : Cop (a % n) n) : Cop a n := h.congr (Int.dvd_emod_sub_self)

/-! 1, .., h; products, sums -/
def upto (h : Nat) : List Int := (List.range h).map fun (i : Nat) => ((i : Nat) : Int) + 1
theorem mem_upto {h : Nat} {x : Int} : x ∈ upto h ↔ 1 ≤ x ∧ x ≤ h := by
  unfold upto
  rw [List.mem_map]
  constructor
  · rintro ⟨i, hi, rfl⟩; rw [List.mem_range] at hi; omega
  · rintro ⟨h1, h2⟩; exact ⟨(x - 1).toNat, by rw [List.mem_range]; omega, by omega⟩
theorem upto_succ (h : Nat) : upto (h + 1) = upto h ++ [(h : Int) + 1] := by
  unfold upto; rw [List.range_succ, List.map_append]; rfl
theorem upto_nodup (h : Nat) : (upto h).Nodup := by
  unfold upto
  exact List.Pairwise.map _ (fun a b hab => by omega) List.nodup_range
theorem upto_length (h : Nat) : (upto h).length = h := by simp [upto]
theorem prod_perm {l l' : List Int} (p : l.Perm l') : l.prod = l'.prod := by
  induction p with
  | nil => rfl
  | cons x _ ih => rw [List.prod_cons, List.prod_cons, ih]
  | swap x y l => simp only [List.prod_cons]; rw [← Int.mul_assoc, ← Int.mul_assoc, Int.mul_comm x y]
  | trans _ _ i1 i2 => rw [i1, i2]
theorem sum_perm {l l' : List Int} (p : l.Perm l') : l.sum = l'.sum := by
  induction p with
  | nil => rfl
  | cons x _ ih => rw [List.sum_cons, List.sum_cons, ih]
  | swap x y l => simp only [List.sum_cons]; omega
  | trans _ _ i1 i2 => rw [i1, i2]
theorem prod_map_mul {α : Type} (l : List α) (f g : α → Int) : (l.map fun x => f x * g x).prod = (l.map f).prod * (l.map g).prod := by
  induction l with
  | nil => rfl
  | cons a l ih => simp only [List.map_cons, List.prod_cons, ih]; grind
theorem sum_map_add {α : Type} (l : List α) (f g : α → Int) : (l.map fun x => f x + g x).sum = (l.map f).sum + (l.map g).sum := by
  induction l with
  | nil => rfl
  | cons a l ih => simp only [List.map_cons, List.sum_cons, ih]; omega
theorem map_congr' {α β : Type} {l : List α} {f g : α → β} (h : ∀ x ∈ l, f x = g x) : l.map f = l.map g := List.map_congr_left h

/-- pigeon holes -/
theorem len_of_sub : ∀ {l l' : List Int}, l.Nodup → (∀ x ∈ l, x ∈ l') → l.length ≤ l'.length
  | [], _, _, _ => Nat.zero_le _
  | a :: l, l', hn, hs => by
    have ha : a ∈ l' := hs a List.mem_cons_self
    have hn' := List.nodup_cons.mp hn
    have h1 : ∀ x ∈ l, x ∈ l'.erase a := fun x hx => by
      have hne : x ≠ a := fun e => hn'.1 (e ▸ hx)
      exact (List.mem_erase_of_ne hne).mpr (hs x (List.mem_cons_of_mem _ hx))
    have h2 := len_of_sub hn'.2 h1
    rw [List.length_erase_of_mem ha] at h2
    have h3 : 0 < l'.length := List.length_pos_of_mem ha
    rw [List.length_cons]; omega
theorem perm_of_inj {h : Nat} {f : Int → Int} (hm : ∀ x : Int, 1 ≤ x → x ≤ h → 1 ≤ f x ∧ f x ≤ h) (hi : ∀ x y : Int, 1 ≤ x → x ≤ h → 1 ≤ y → y ≤ h → f x = f y → x = y) :
    ((upto h).map f).Perm (upto h) := by
  have nd : ((upto h).map f).Nodup := by
    have go : ∀ l : List Int, l.Nodup → (∀ x ∈ l, 1 ≤ x ∧ x ≤ h) → (l.map f).Nodup := by
      intro l
      induction l with
      | nil => intro _ _; exact List.nodup_nil
      | cons a l ih =>
        intro hn hb
        have hn' := List.nodup_cons.mp hn
        refine List.nodup_cons.mpr ⟨fun hc => ?_, ih hn'.2 fun x hx => hb x (List.mem_cons_of_mem _ hx)⟩
        obtain ⟨y, hy, e⟩ := List.mem_map.mp hc
        have ba := hb a List.mem_cons_self
        have bb := hb y (List.mem_cons_of_mem _ hy)
        have := hi y a bb.1 bb.2 ba.1 ba.2 e
        exact hn'.1 (this ▸ hy)
    exact go _ (upto_nodup h) fun x hx => mem_upto.mp hx
  have sub : ∀ x ∈ (upto h).map f, x ∈ upto h := fun x hx => by
    obtain ⟨y, hy, rfl⟩ := List.mem_map.mp hx
    have b := mem_upto.mp hy
    exact mem_upto.mpr (hm y b.1 b.2)
  refine (List.perm_ext_iff_of_nodup nd (upto_nodup h)).mpr fun a => ⟨sub a, fun ha => ?_⟩
  by_cases hc : a ∈ (upto h).map f
  · exact hc
  · have := len_of_sub (l := a :: (upto h).map f) (l' := upto h) (List.nodup_cons.mpr ⟨hc, nd⟩) (fun x hx => by
      rcases List.mem_cons.mp hx with e | e
      · rw [e]; exact ha
      · exact sub x e)
    rw [List.length_cons, List.length_map] at this; omega

/-! the count -/
/-- half of an odd n -/
def hf (n : Int) : Nat := (n / 2).toNat
def sgn (n a x : Int) : Int := if a * x % n ≤ n / 2 then 1 else -1
def rho (n a x : Int) : Int := if a * x % n ≤ n / 2 then a * x % n else n - a * x % n
/-- the symbol of a by an odd n above 0 -/
def J (a n : Int) : Int := if Int.gcd a n = 1 then ((upto (hf n)).map (sgn n a)).prod else 0

structure Od (n : Int) : Prop where
  pos : 0 < n
  odd : n % 2 = 1
theorem Od.hf {n : Int} (o : Od n) : ((hf n : Nat) : Int) = n / 2 := by
  have := o.pos; unfold Bs.hf; omega
theorem Od.eq {n : Int} (o : Od n) : n = 2 * (n / 2) + 1 := by have := o.odd; omega
theorem ne0 {n a x : Int} (o : Od n) (c : Cop a n) (h1 : 1 ≤ x) (h2 : x ≤ n / 2) : a * x % n ≠ 0 := fun e => by
  have d : n ∣ x := c.dvd (Int.dvd_of_emod_eq_zero e)
  have := Int.le_of_dvd (by omega) d
  have := o.pos
  omega
theorem rho_in {n a x : Int} (o : Od n) (c : Cop a n) (h1 : 1 ≤ x) (h2 : x ≤ n / 2) : 1 ≤ rho n a x ∧ rho n a x ≤ n / 2 := by
  have h0 := ne0 o c h1 h2
  have hp := o.pos
  have h3 := Int.emod_nonneg (a * x) (Int.ne_of_gt hp)
  have h4 := Int.emod_lt_of_pos (a * x) hp
  have h5 := o.eq
  unfold rho
  split <;> omega
theorem sgn_pm (n a x : Int) : sgn n a x = 1 ∨ sgn n a x = -1 := by unfold sgn; split <;> simp
theorem sgn_sq (n a x : Int) : sgn n a x * sgn n a x = 1 := by rcases sgn_pm n a x with e | e <;> rw [e] <;> rfl
/-- a x is its sign times rho, by n -/
theorem sgn_rho {n a x : Int} : ∃ k, a * x = n * k + sgn n a x * rho n a x := by
  have e := Int.mul_ediv_add_emod (a * x) n
  unfold sgn rho
  split
  · exact ⟨a * x / n, by rw [Int.one_mul]; exact e.symm⟩
  · refine ⟨a * x / n + 1, ?_⟩
    rw [Int.mul_add, Int.mul_one]
    omega
theorem small_dvd {n x : Int} (hp : 0 < n) (d : n ∣ x) (h1 : -n < x) (h2 : x < n) : x = 0 := by
  obtain ⟨k, rfl⟩ := d
  have hk : k < 1 := by
    rcases Int.lt_or_le k 1 with h | h
    · exact h
    · have := Int.mul_le_mul_of_nonneg_left h (Int.le_of_lt hp); omega
  have hk2 : -1 < k := by
    rcases Int.lt_or_le (-1) k with h | h
    · exact h
    · have := Int.mul_le_mul_of_nonneg_left h (Int.le_of_lt hp); omega
  have : k = 0 := by omega
  rw [this, Int.mul_zero]
theorem rho_inj {n a x y : Int} (o : Od n) (c : Cop a n) (x1 : 1 ≤ x) (x2 : x ≤ n / 2) (y1 : 1 ≤ y) (y2 : y ≤ n / 2) (e : rho n a x = rho n a y) : x = y := by
  obtain ⟨k, hk⟩ := sgn_rho (n := n) (a := a) (x := x)
  obtain ⟨l, hl⟩ := sgn_rho (n := n) (a := a) (x := y)
  have hp := o.pos
  have oe := o.eq
  rw [e] at hk
  rcases sgn_pm n a x with s | s <;> rcases sgn_pm n a y with t | t <;> rw [s] at hk <;> rw [t] at hl
  · have d : n ∣ a * (x - y) := ⟨k - l, by grind⟩
    have := small_dvd hp (c.dvd d) (by omega) (by omega); omega
  · have d : n ∣ a * (x + y) := ⟨k + l, by grind⟩
    have := small_dvd hp (c.dvd d) (by omega) (by omega); omega
  · have d : n ∣ a * (x + y) := ⟨k + l, by grind⟩
    have := small_dvd hp (c.dvd d) (by omega) (by omega); omega
  · have d : n ∣ a * (x - y) := ⟨k - l, by grind⟩
    have := small_dvd hp (c.dvd d) (by omega) (by omega); omega
theorem rho_perm {n a : Int} (o : Od n) (c : Cop a n) : ((upto (hf n)).map (rho n a)).Perm (upto (hf n)) :=
  perm_of_inj (fun x h1 h2 => by rw [o.hf] at h2 ⊢; exact rho_in o c h1 h2) fun x y h1 h2 h3 h4 e => by
    rw [o.hf] at h2 h4; exact rho_inj o c h1 h2 h3 h4 e
/-- what is s rho by n, with rho from 1 to the half, has the sign s -/
theorem sgn_of {n a x s r k : Int} (o : Od n) (hs : s = 1 ∨ s = -1) (r1 : 1 ≤ r) (r2 : r ≤ n / 2) (e : a * x = n * k + s * r) : sgn n a x = s := by
  have oe := o.eq
  have hp := o.pos
  unfold sgn
  rcases hs with rfl | rfl
  · have : a * x % n = r := by
      rw [e, Int.one_mul, Int.add_comm, Int.add_mul_emod_self_left]
      exact Int.emod_eq_of_lt (by omega) (by omega)
    rw [this, if_pos r2]
  · have : a * x % n = n - r := by
      have e' : a * x = (n - r) + n * (k - 1) := by rw [e, Int.mul_sub]; omega
      rw [e', Int.add_mul_emod_self_left]
      exact Int.emod_eq_of_lt (by omega) (by omega)
    rw [this, if_neg (by omega)]

/-! the laws -/
theorem J_cop {a n : Int} (c : Cop a n) : J a n = ((upto (hf n)).map (sgn n a)).prod := by unfold J; rw [if_pos c]
theorem prod_pm {l : List Int} (h : ∀ x ∈ l, x = 1 ∨ x = -1) : l.prod = 1 ∨ l.prod = -1 := by
  induction l with
  | nil => exact .inl rfl
  | cons a l ih =>
    rw [List.prod_cons]
    rcases h a List.mem_cons_self with e | e <;> rcases ih (fun x hx => h x (List.mem_cons_of_mem _ hx)) with e' | e' <;> rw [e, e'] <;> simp
theorem J_pm {a n : Int} (c : Cop a n) : J a n = 1 ∨ J a n = -1 := by
  rw [J_cop c]
  refine prod_pm fun x hx => ?_
  obtain ⟨y, _, rfl⟩ := List.mem_map.mp hx
  exact sgn_pm n a y
theorem J_sq {a n : Int} (c : Cop a n) : J a n * J a n = 1 := by rcases J_pm c with e | e <;> rw [e] <;> rfl
theorem sgn_congr {a b n : Int} (d : n ∣ a - b) (x : Int) : sgn n a x = sgn n b x := by
  have : a * x % n = b * x % n := by
    obtain ⟨k, hk⟩ := d
    have : a * x = b * x + n * (k * x) := by
      have e : a = b + n * k := by omega
      rw [e, Int.add_mul, Int.mul_assoc]
    rw [this, Int.add_mul_emod_self_left]
  unfold sgn; rw [this]
theorem J_congr {a b n : Int} (d : n ∣ a - b) : J a n = J b n := by
  have hg : Int.gcd a n = 1 ↔ Int.gcd b n = 1 := ⟨fun h => Cop.congr h d, fun h => Cop.congr h (by
    have := Int.dvd_neg.mpr d; rw [Int.neg_sub] at this; exact this)⟩
  have : (upto (hf n)).map (sgn n a) = (upto (hf n)).map (sgn n b) := map_congr' fun x _ => sgn_congr d x
  unfold J
  rw [this]
  by_cases h : Int.gcd a n = 1
  · rw [if_pos h, if_pos (hg.mp h)]
  · rw [if_neg h, if_neg fun z => h (hg.mpr z)]
theorem J_emod (a n : Int) : J (a % n) n = J a n := J_congr Int.dvd_emod_sub_self
theorem J_mul {a b n : Int} (o : Od n) (ca : Cop a n) (cb : Cop b n) : J (a * b) n = J a n * J b n := by
  rw [J_cop ca, J_cop cb, J_cop (ca.mul cb)]
  have e1 : (upto (hf n)).map (sgn n (a * b)) = (upto (hf n)).map (fun x => sgn n a x * sgn n b (rho n a x)) := map_congr' fun x hx => by
    have hb := mem_upto.mp hx
    rw [o.hf] at hb
    obtain ⟨k, hk⟩ := sgn_rho (n := n) (a := a) (x := x)
    obtain ⟨l, hl⟩ := sgn_rho (n := n) (a := b) (x := rho n a x)
    have r1 := rho_in o ca hb.1 hb.2
    have r2 := rho_in o cb r1.1 r1.2
    refine sgn_of (r := rho n b (rho n a x)) (k := b * k + sgn n a x * l) o ?_ r2.1 r2.2 ?_
    · rcases sgn_pm n a x with s | s <;> rcases sgn_pm n b (rho n a x) with t | t <;> rw [s, t] <;> simp
    · have q : a * b * x = b * (a * x) := by grind
      rw [q, hk]
      generalize hr : rho n a x = r at *
      generalize hs : sgn n a x = s at *
      have q2 : b * (n * k + s * r) = n * (b * k) + s * (b * r) := by grind
      rw [q2, hl]; grind
  rw [e1, prod_map_mul]
  congr 1
  have e2 : (upto (hf n)).map (fun x => sgn n b (rho n a x)) = ((upto (hf n)).map (rho n a)).map (sgn n b) := by rw [List.map_map]; rfl
  rw [e2]
  exact prod_perm ((rho_perm o ca).map _)
theorem J_square {a n : Int} (o : Od n) (c : Cop a n) : J (a * a) n = 1 := by rw [J_mul o c c, J_sq c]
theorem J_one (n : Int) (o : Od n) : J 1 n = 1 := by
  have := J_square o (one_cop n); rwa [Int.one_mul] at this
theorem J_by_one (a : Int) : J a 1 = 1 := by
  rw [J_cop (cop_one a)]; rfl

/-! parity as a sign -/
def ev (z : Int) : Int := if z % 2 = 0 then 1 else -1
theorem ev_add (z w : Int) : ev (z + w) = ev z * ev w := by
  unfold ev
  rcases Int.emod_two_eq z with e | e <;> rcases Int.emod_two_eq w with f | f <;> rw [Int.add_emod, e, f] <;> simp
theorem ev_zero : ev 0 = 1 := rfl
theorem ev_pm (z : Int) : ev z = 1 ∨ ev z = -1 := by unfold ev; split <;> simp
theorem ev_sq (z : Int) : ev z * ev z = 1 := by rcases ev_pm z with e | e <;> rw [e] <;> rfl
theorem ev_congr {z w : Int} (h : z % 2 = w % 2) : ev z = ev w := by unfold ev; rw [h]
theorem ev_sum : ∀ l : List Int, (l.map ev).prod = ev l.sum
  | [] => rfl
  | a :: l => by rw [List.map_cons, List.prod_cons, List.sum_cons, ev_add, ev_sum l]

/-! -1 and 2 -/
theorem prod_const : ∀ (h : Nat) (f : Int → Int), (∀ x ∈ upto h, f x = -1) → ((upto h).map f).prod = ev h := by
  intro h f hf
  have : (upto h).map f = (upto h).map (fun _ => ev 1) := map_congr' fun x hx => hf x hx
  rw [this]
  clear this hf
  induction h with
  | zero => rfl
  | succ h ih =>
    rw [upto_succ, List.map_append, List.prod_append, ih, List.map_cons, List.map_nil, List.prod_cons, List.prod_nil, Int.mul_one, ← ev_add]
    rfl
theorem cop_neg_one (n : Int) : Cop (-1) n := (one_cop n).neg
theorem J_neg_one {n : Int} (o : Od n) : J (-1) n = ev (n / 2) := by
  rw [J_cop (cop_neg_one n), prod_const _ _ fun x hx => ?_, o.hf]
  have hb := mem_upto.mp hx
  rw [o.hf] at hb
  exact sgn_of (r := x) (k := 0) o (.inr rfl) hb.1 hb.2 (by omega)
theorem J_neg_one_1 {n : Int} (o : Od n) (h : n % 4 = 1) : J (-1) n = 1 := by
  rw [J_neg_one o]; unfold ev; rw [if_pos (by omega)]
theorem J_neg_one_3 {n : Int} (o : Od n) (h : n % 4 = 3) : J (-1) n = -1 := by
  rw [J_neg_one o]; unfold ev; rw [if_neg (by omega)]
theorem prod_two (H : Int) (hH : 0 ≤ H) : ∀ h : Nat, ((upto h).map fun x => if 2 * x ≤ H then (1 : Int) else -1).prod = if 2 * (h : Int) ≤ H then 1 else ev (h - H / 2) := by
  intro h
  induction h with
  | zero => rw [if_pos (by simpa using hH)]; rfl
  | succ h ih =>
    rw [upto_succ, List.map_append, List.prod_append, ih, List.map_cons, List.map_nil, List.prod_cons, List.prod_nil, Int.mul_one]
    by_cases h1 : 2 * ((h : Int) + 1) ≤ H
    · rw [if_pos (by omega : 2 * (h : Int) ≤ H), if_pos h1, if_pos (by omega : 2 * ((h + 1 : Nat) : Int) ≤ H)]; rfl
    · rw [if_neg h1, if_neg (by omega : ¬ 2 * ((h + 1 : Nat) : Int) ≤ H)]
      by_cases h2 : 2 * (h : Int) ≤ H
      · rw [if_pos h2]
        have : ((h + 1 : Nat) : Int) - H / 2 = 1 := by omega
        rw [this]; rfl
      · rw [if_neg h2]
        have : ((h + 1 : Nat) : Int) - H / 2 = (h - H / 2) + 1 := by omega
        rw [this, ev_add]; rfl
theorem cop_two {n : Int} (h : n % 2 = 1) : Cop 2 n := cop_iff.mpr fun c h1 h2 => by
  have q : c ∣ n - 2 * (n / 2) := Int.dvd_sub h2 (Int.dvd_trans h1 (Int.dvd_mul_right _ _))
  have e : n - 2 * (n / 2) = 1 := by omega
  rw [e] at q; exact q
theorem J_two {n : Int} (o : Od n) : J 2 n = if n % 8 = 1 ∨ n % 8 = 7 then 1 else -1 := by
  have hp := o.pos
  have oe := o.eq
  rw [J_cop (cop_two o.odd)]
  have e1 : (upto (hf n)).map (sgn n 2) = (upto (hf n)).map (fun x => if 2 * x ≤ n / 2 then (1 : Int) else -1) := map_congr' fun x hx => by
    have hb := mem_upto.mp hx
    rw [o.hf] at hb
    unfold sgn
    rw [Int.emod_eq_of_lt (by omega) (by omega)]
  rw [e1, prod_two _ (by omega)]
  rw [o.hf]
  unfold ev
  (repeat' split) <;> omega

/-! Eisenstein's sum; reciprocity -/
def Qs (a n : Int) : Int := ((upto (hf n)).map fun x => a * x / n).sum
theorem J_Qs {a n : Int} (o : Od n) (oa : a % 2 = 1) (c : Cop a n) : J a n = ev (Qs a n) := by
  rw [J_cop c]
  have e1 : (upto (hf n)).map (sgn n a) = ((upto (hf n)).map (fun x => (x + a * x / n) + rho n a x)).map ev := by
    rw [List.map_map]
    refine map_congr' fun x hx => ?_
    have hd := Int.mul_ediv_add_emod (a * x) n
    have h2 : (a * x) % 2 = x % 2 := by rw [Int.mul_emod, oa, Int.one_mul]; omega
    have h3 : (n * (a * x / n)) % 2 = (a * x / n) % 2 := by rw [Int.mul_emod, o.odd, Int.one_mul]; omega
    have ho := o.odd
    show sgn n a x = ev ((x + a * x / n) + rho n a x)
    unfold sgn rho ev
    generalize a * x % n = r at *
    generalize a * x / n = q at *
    generalize n * q = nq at *
    generalize a * x = ax at *
    by_cases hr : r ≤ n / 2
    · rw [if_pos hr, if_pos hr, if_pos (by omega)]
    · rw [if_neg hr, if_neg hr, if_neg (by omega)]
  rw [e1, ev_sum, sum_map_add, sum_map_add, sum_perm (rho_perm o c)]
  refine ev_congr ?_
  rw [List.map_id'' (fun _ => rfl)]
  show _ = Qs a n % 2
  unfold Qs
  omega
theorem sum_swap {α β : Type} (l : List α) (m : List β) (f : α → β → Int) : (l.map fun x => (m.map fun y => f x y).sum).sum = (m.map fun y => (l.map fun x => f x y).sum).sum := by
  induction l with
  | nil =>
    induction m with
    | nil => rfl
    | cons b m ih => simp only [List.map_nil, List.sum_nil, List.map_cons, List.sum_cons] at ih ⊢; omega
  | cons a l ih => simp only [List.map_cons, List.sum_cons]; rw [sum_map_add, ih]
theorem count_le : ∀ (K : Nat) (q : Int), 0 ≤ q → q ≤ K → ((upto K).map fun y => if y ≤ q then (1 : Int) else 0).sum = q := by
  intro K
  have go : ∀ (K : Nat) (q : Int), 0 ≤ q → ((upto K).map fun y => if y ≤ q then (1 : Int) else 0).sum = if q ≤ K then q else K := by
    intro K q h0
    induction K with
    | zero =>
      show (0 : Int) = if q ≤ ((0 : Nat) : Int) then q else ((0 : Nat) : Int)
      split <;> omega
    | succ K ih =>
      rw [upto_succ, List.map_append, List.sum_append, ih, List.map_cons, List.map_nil, List.sum_cons, List.sum_nil]
      (repeat' split) <;> omega
  intro q h0 h1
  rw [go K q h0, if_pos h1]
/-- for odd a, n above 0 without a common divisor: the floor as a count -/
theorem floor_count {a n x : Int} (o : Od n) (oa : Od a) (c : Cop a n) (h1 : 1 ≤ x) (h2 : x ≤ n / 2) :
    a * x / n = ((upto (hf a)).map fun y => if n * y < a * x then (1 : Int) else 0).sum := by
  have hp := o.pos
  have hpa := oa.pos
  have oe := o.eq
  have oe' := oa.eq
  have q0 : 0 ≤ a * x / n := Int.ediv_nonneg (Int.mul_nonneg (Int.le_of_lt hpa) (by omega)) (Int.le_of_lt hp)
  have hd := Int.mul_ediv_add_emod (a * x) n
  have hr0 := Int.emod_nonneg (a * x) (Int.ne_of_gt hp)
  have hr1 := Int.emod_lt_of_pos (a * x) hp
  have hne := ne0 o c h1 h2
  have q1 : a * x / n ≤ a / 2 := by
    rcases Int.lt_or_le (a / 2) (a * x / n) with h | h
    · exfalso
      have u1 : n * (a / 2 + 1) ≤ n * (a * x / n) := Int.mul_le_mul_of_nonneg_left h (Int.le_of_lt hp)
      have u2 : a * x ≤ a * (n / 2) := Int.mul_le_mul_of_nonneg_left h2 (Int.le_of_lt hpa)
      have u3 : 2 * (n * (a / 2 + 1)) = n * a + n := by
        have : 2 * (a / 2 + 1) = a + 1 := by omega
        have e : 2 * (n * (a / 2 + 1)) = n * (2 * (a / 2 + 1)) := by grind
        rw [e, this]; grind
      have u4 : 2 * (a * (n / 2)) = a * n - a := by
        have : 2 * (n / 2) = n - 1 := by omega
        have e : 2 * (a * (n / 2)) = a * (2 * (n / 2)) := by grind
        rw [e, this]; grind
      have u5 : n * a = a * n := Int.mul_comm _ _
      omega
    · exact h
  have e2 : (upto (hf a)).map (fun y => if n * y < a * x then (1 : Int) else 0) = (upto (hf a)).map (fun y => if y ≤ a * x / n then (1 : Int) else 0) := map_congr' fun y hy => by
    have : n * y < a * x ↔ y ≤ a * x / n := by
      constructor
      · intro h
        exact (Int.le_ediv_iff_mul_le hp).mpr (by rw [Int.mul_comm]; omega)
      · intro h
        have := (Int.le_ediv_iff_mul_le hp).mp h
        rw [Int.mul_comm] at this
        rcases Int.lt_or_eq_of_le this with z | z
        · exact z
        · exact absurd (by rw [← z, Int.mul_emod_right]) hne
    by_cases h : n * y < a * x
    · rw [if_pos h, if_pos (this.mp h)]
    · rw [if_neg h, if_neg fun z => h (this.mpr z)]
  rw [e2, count_le _ _ q0 (by rw [oa.hf]; exact q1)]
theorem sum_one (h : Nat) : ((upto h).map fun _ => (1 : Int)).sum = h := by
  induction h with
  | zero => rfl
  | succ h ih => rw [upto_succ, List.map_append, List.sum_append, ih]; simp
theorem sum_const (h : Nat) (k : Int) : ((upto h).map fun _ => k).sum = h * k := by
  induction h with
  | zero => simp [upto]
  | succ h ih => rw [upto_succ, List.map_append, List.sum_append, ih]; simp; grind
theorem Qs_add {a n : Int} (o : Od n) (oa : Od a) (c : Cop a n) : Qs a n + Qs n a = (n / 2) * (a / 2) := by
  have e1 : Qs a n = ((upto (hf n)).map fun x => ((upto (hf a)).map fun y => if n * y < a * x then (1 : Int) else 0).sum).sum := by
    unfold Qs
    congr 1
    refine map_congr' fun x hx => ?_
    have hb := mem_upto.mp hx
    rw [o.hf] at hb
    exact floor_count o oa c hb.1 hb.2
  have e2 : Qs n a = ((upto (hf n)).map fun x => ((upto (hf a)).map fun y => if a * x < n * y then (1 : Int) else 0).sum).sum := by
    rw [sum_swap]
    unfold Qs
    congr 1
    refine map_congr' fun x hx => ?_
    have hb := mem_upto.mp hx
    rw [oa.hf] at hb
    exact floor_count oa o c.comm hb.1 hb.2
  rw [e1, e2, ← sum_map_add]
  have e3 : ((upto (hf n)).map fun x => ((upto (hf a)).map fun y => if n * y < a * x then (1 : Int) else 0).sum + ((upto (hf a)).map fun y => if a * x < n * y then (1 : Int) else 0).sum) = (upto (hf n)).map fun _ => (a / 2 : Int) := map_congr' fun x hx => by
    have hb := mem_upto.mp hx
    rw [o.hf] at hb
    rw [← sum_map_add]
    have : ((upto (hf a)).map fun y => (if n * y < a * x then (1 : Int) else 0) + (if a * x < n * y then (1 : Int) else 0)) = (upto (hf a)).map fun _ => (1 : Int) := map_congr' fun y hy => by
      have hne := ne0 o c hb.1 hb.2
      have : n * y ≠ a * x := fun e => hne (by rw [← e, Int.mul_emod_right])
      (repeat' split) <;> omega
    rw [this, sum_one, oa.hf]
  rw [e3, sum_const, o.hf]
theorem J_recip {a n : Int} (o : Od n) (oa : Od a) (c : Cop a n) : J a n * J n a = ev ((n / 2) * (a / 2)) := by
  rw [J_Qs o oa.odd c, J_Qs oa o.odd c.comm, ← ev_add, Qs_add o oa c]
theorem J_recip_1 {a n : Int} (o : Od n) (oa : Od a) (c : Cop a n) (h : a % 4 = 1 ∨ n % 4 = 1) : J a n = J n a := by
  have e := J_recip o oa c
  have : ev ((n / 2) * (a / 2)) = 1 := by
    unfold ev
    rw [if_pos]
    rw [Int.mul_emod]
    rcases h with h | h
    · have : a / 2 % 2 = 0 := by omega
      rw [this, Int.mul_zero]; rfl
    · have : n / 2 % 2 = 0 := by omega
      rw [this, Int.zero_mul]; rfl
  rw [this] at e
  rcases J_pm c with x | x <;> rcases J_pm c.comm with y | y <;> rw [x, y] at e <;> rw [x, y] <;> omega
theorem J_recip_3 {a n : Int} (o : Od n) (oa : Od a) (c : Cop a n) (h : a % 4 = 3) (h' : n % 4 = 3) : J a n = - J n a := by
  have e := J_recip o oa c
  have : ev ((n / 2) * (a / 2)) = -1 := by
    unfold ev
    rw [if_neg]
    rw [Int.mul_emod]
    have h1 : a / 2 % 2 = 1 := by omega
    have h2 : n / 2 % 2 = 1 := by omega
    rw [h1, h2]; decide
  rw [this] at e
  rcases J_pm c with x | x <;> rcases J_pm c.comm with y | y <;> rw [x, y] at e <;> rw [x, y] <;> omega
end Bs

/-! N2 -/
set_option maxHeartbeats 1000000
namespace Bs
theorem Od.mul {m n : Int} (o : Od m) (p : Od n) : Od (m * n) := ⟨Int.mul_pos o.pos p.pos, by rw [Int.mul_emod, o.odd, p.odd]; rfl⟩
theorem half_mul {m n : Int} (hm : m % 2 = 1) (hn : n % 2 = 1) : (m * n / 2) % 2 = (m / 2 + n / 2) % 2 := by
  obtain ⟨k, rfl⟩ : ∃ k, m = 2 * k + 1 := ⟨m / 2, by omega⟩
  obtain ⟨l, rfl⟩ : ∃ l, n = 2 * l + 1 := ⟨n / 2, by omega⟩
  have e : (2 * k + 1) * (2 * l + 1) = 2 * (2 * (k * l) + k + l) + 1 := by grind
  rw [e]
  omega
theorem J_bot_odd {a m n : Int} (oa : Od a) (om : Od m) (on : Od n) (c : Cop a (m * n)) : J a (m * n) = J a m * J a n := by
  have cm : Cop a m := c.of_dvd (Int.dvd_refl a) (Int.dvd_mul_right m n)
  have cn : Cop a n := c.of_dvd (Int.dvd_refl a) (Int.dvd_mul_left m n)
  have e0 := J_recip (om.mul on) oa c
  have e1 := J_recip om oa cm
  have e2 := J_recip on oa cn
  have e3 := J_mul oa cm.comm cn.comm
  rw [e3] at e0
  have e4 : ev (m * n / 2 * (a / 2)) = ev (m / 2 * (a / 2)) * ev (n / 2 * (a / 2)) := by
    rw [← ev_add]
    refine ev_congr ?_
    rw [← Int.add_mul, Int.mul_emod, half_mul om.odd on.odd, ← Int.mul_emod]
  rw [e4, ← e1, ← e2] at e0
  have s1 := J_sq cm.comm
  have s2 := J_sq cn.comm
  have : J a (m * n) * (J m a * J n a) * (J m a * J n a) = J a m * J m a * (J a n * J n a) * (J m a * J n a) := by rw [e0]
  grind
theorem od_rep (a : Int) {n : Int} (o : Od n) : ∃ b, Od b ∧ n ∣ a - b := by
  have hp := o.pos
  have h0 := Int.emod_nonneg a (Int.ne_of_gt hp)
  have d : n ∣ a - a % n := Int.dvd_self_sub_emod
  have ho := o.odd
  rcases Int.emod_two_eq (a % n) with e | e
  · exact ⟨a % n + n, ⟨by omega, by omega⟩, by
      have : n ∣ (a - a % n) - n := Int.dvd_sub d (Int.dvd_refl n)
      have q : a - (a % n + n) = (a - a % n) - n := by omega
      rw [q]; exact this⟩
  · exact ⟨a % n, ⟨by omega, e⟩, d⟩
theorem J_bot {a m n : Int} (om : Od m) (on : Od n) (c : Cop a (m * n)) : J a (m * n) = J a m * J a n := by
  obtain ⟨b, ob, d⟩ := od_rep a (om.mul on)
  have cb : Cop b (m * n) := c.congr d
  rw [J_congr d, J_congr (Int.dvd_trans (Int.dvd_mul_right m n) d), J_congr (Int.dvd_trans (Int.dvd_mul_left m n) d)]
  exact J_bot_odd ob om on cb

/-! powers -/
theorem prod_congr_mod {p : Int} {α : Type} (l : List α) (f g : α → Int) (h : ∀ x ∈ l, p ∣ f x - g x) : p ∣ (l.map f).prod - (l.map g).prod := by
  induction l with
  | nil => exact ⟨0, by simp⟩
  | cons a l ih =>
    simp only [List.map_cons, List.prod_cons]
    obtain ⟨k, hk⟩ := h a List.mem_cons_self
    obtain ⟨r, hr⟩ := ih fun x hx => h x (List.mem_cons_of_mem _ hx)
    exact ⟨k * (l.map f).prod + g a * r, by grind⟩
theorem prod_scale (a : Int) (l : List Int) : (l.map fun x => a * x).prod = a ^ l.length * l.prod := by
  induction l with
  | nil => simp
  | cons b l ih => rw [List.map_cons, List.prod_cons, ih, List.length_cons, List.prod_cons, Int.pow_succ]; grind
theorem cop_prod {p : Int} (l : List Int) (h : ∀ x ∈ l, Cop x p) : Cop l.prod p := by
  induction l with
  | nil => exact one_cop p
  | cons a l ih => rw [List.prod_cons]; exact (h a List.mem_cons_self).mul (ih fun x hx => h x (List.mem_cons_of_mem _ hx))
theorem J_euler {a p : Int} (o : Od p) (hp : ∀ x, 1 ≤ x → x ≤ p / 2 → Cop x p) (c : Cop a p) : p ∣ a ^ hf p - J a p := by
  have d1 : p ∣ ((upto (hf p)).map fun x => a * x).prod - ((upto (hf p)).map fun x => sgn p a x * rho p a x).prod := prod_congr_mod _ _ _ fun x _ => by
    obtain ⟨k, hk⟩ := sgn_rho (n := p) (a := a) (x := x)
    exact ⟨k, by omega⟩
  rw [prod_scale, prod_map_mul, upto_length, prod_perm (rho_perm o c), ← J_cop c, ← Int.sub_mul] at d1
  have cp : Cop (upto (hf p)).prod p := cop_prod _ fun x hx => by
    have hb := mem_upto.mp hx
    rw [o.hf] at hb
    exact hp x hb.1 hb.2
  exact cp.dvd (by rw [Int.mul_comm]; exact d1)

/-! coming down -/
theorem J_two_pow {s v : Int} (o : Od v) (c : Cop s v) : ∀ k : Nat, Cop (2 ^ k * s) v ∧ J (2 ^ k * s) v = (if k % 2 = 1 then J 2 v else 1) * J s v := by
  have c2 := cop_two o.odd
  intro k
  induction k with
  | zero => rw [Int.pow_zero, Int.one_mul]; exact ⟨c, by rw [if_neg (by decide), Int.one_mul]⟩
  | succ k ih =>
    have e : (2 : Int) ^ (k + 1) * s = 2 * (2 ^ k * s) := by rw [Int.pow_succ]; grind
    rw [e]
    refine ⟨c2.mul ih.1, ?_⟩
    rw [J_mul o c2 ih.1, ih.2]
    have s2 := J_sq c2
    by_cases h : k % 2 = 1
    · rw [if_pos h, if_neg (by omega), Int.one_mul, ← Int.mul_assoc, s2, Int.one_mul]
    · rw [if_neg h, if_pos (by omega), Int.one_mul]
def turned (k v s : Int) : Bool := (decide (k % 2 = 1) && (decide (v % 8 = 3) || decide (v % 8 = 5))) != (decide (v % 4 = 3) && decide (s % 4 = 3))
theorem od_mod8 {v : Int} (h : v % 2 = 1) : v % 8 = 1 ∨ v % 8 = 3 ∨ v % 8 = 5 ∨ v % 8 = 7 := by omega
theorem J_step {v u s : Int} {k : Nat} (o : Od v) (os : Od s) (e : u = 2 ^ k * s) (c : Cop u v) : Cop (v % s) s ∧ J u v = (if turned k v s = true then -1 else 1) * J (v % s) s := by
  subst e
  have cs : Cop s v := c.right
  refine ⟨cs.comm.emod, ?_⟩
  rw [(J_two_pow o cs k).2, J_emod, J_two o]
  have hk : ((k : Int) % 2 = 1) ↔ k % 2 = 1 := by omega
  have hv := o.odd
  have hs := os.odd
  have r1 := J_recip_1 o os cs
  have r3 := J_recip_3 o os cs
  have pv := J_pm cs.comm
  unfold turned
  by_cases hk1 : k % 2 = 1
  · rw [if_pos hk1, decide_eq_true (hk.mpr hk1)]
    rcases od_mod8 hv with h8 | h8 | h8 | h8 <;> simp only [h8] <;> (by_cases h4 : s % 4 = 3)
    all_goals first
      | (have := r3 h4 (by omega); simp [h4, show v % 4 = 3 by omega, this]; done)
      | (have := r1 (.inr (by omega)); simp [h4, show v % 4 = 1 by omega, this]; done)
      | (have := r1 (.inl (by omega)); simp [h4, show v % 4 = 3 by omega, this]; done)
      | skip
  · rw [if_neg hk1, decide_eq_false (fun z => hk1 (hk.mp z))]
    rcases od_mod8 hv with h8 | h8 | h8 | h8 <;> (by_cases h4 : s % 4 = 3)
    all_goals first
      | (have := r3 h4 (by omega); simp [h4, show v % 4 = 3 by omega, this]; done)
      | (have := r1 (.inr (by omega)); simp [h4, show v % 4 = 1 by omega, this]; done)
      | (have := r1 (.inl (by omega)); simp [h4, show v % 4 = 3 by omega, this]; done)
      | skip
theorem J_zero_end {v : Int} (o : Od v) (c : Cop 0 v) : v = 1 ∧ J 0 v = 1 := by
  have e : v = 1 := by
    have h : Int.gcd 0 v = 1 := c
    rw [Int.zero_gcd] at h
    have := o.pos
    omega
  subst e
  exact ⟨rfl, J_by_one 0⟩
/-- the first step -/
theorem J_start {u v : Int} (c : Cop u v) : Cop (u % v) v ∧ J u v = J (u % v) v := ⟨c.emod, (J_emod u v).symm⟩
/-- the product halves -/
theorem halves {v u s k : Int} (hs : 0 < s) (h1 : s ≤ u) (h2 : u < v) : 2 * (s * (v % s)) ≤ v * u := by
  have h0 := Int.emod_nonneg v (Int.ne_of_gt hs)
  have h3 := Int.emod_lt_of_pos v hs
  have hd := Int.mul_ediv_add_emod v s
  have hq : 1 ≤ v / s := by
    have := (Int.le_ediv_iff_mul_le (a := 1) (b := v) hs).mpr (by omega); exact this
  have h4 : s * 1 ≤ s * (v / s) := Int.mul_le_mul_of_nonneg_left hq (Int.le_of_lt hs)
  have h5 : 2 * (v % s) ≤ v := by omega
  have h6 : s * (2 * (v % s)) ≤ u * (2 * (v % s)) := Int.mul_le_mul_of_nonneg_right h1 (by omega)
  have h7 : u * (2 * (v % s)) ≤ u * v := Int.mul_le_mul_of_nonneg_left h5 (by omega)
  have e : s * (2 * (v % s)) = 2 * (s * (v % s)) := by grind
  have e2 : u * v = v * u := Int.mul_comm _ _
  omega
end Bs

/-! N3 -/
set_option maxHeartbeats 1000000
namespace Bs
/-! the sign of two coprime bends -/
/-- the sign of a pair, v odd -/
def chi (u v : Int) : Int := J (if v % 4 = 1 then u else 2 * u) (v.natAbs : Int)
/-- a the middle: v if it is odd -/
def sg (a w : Int) : Int := if a % 2 = 1 then chi w a else chi a w
theorem od_abs {v : Int} (h : v % 2 = 1) : Od (v.natAbs : Int) := ⟨by omega, by omega⟩
theorem abs_cases (v : Int) : ((v.natAbs : Int) = v ∧ 0 ≤ v) ∨ ((v.natAbs : Int) = -v ∧ v < 0) := by omega
theorem cop_abs {u v : Int} (c : Cop u v) : Cop u (v.natAbs : Int) := by
  rcases abs_cases v with ⟨e, _⟩ | ⟨e, _⟩ <;> rw [e]
  · exact c
  · unfold Cop; rw [Int.gcd_neg]; exact c
theorem dvd_abs {v x : Int} (h : v ∣ x) : (v.natAbs : Int) ∣ x := Int.natAbs_dvd.mpr h
/-- -1 is the rest of a square by m -/
theorem one_by_4 {a m C H : Int} (o : Od m) (e : m * C = H * H + a * a) (c : Cop a m) : m % 4 = 1 := by
  have hh : Cop (H * H) m := by
    have : Cop (-(a * a)) m := (c.mul c).neg
    exact this.congr ⟨-C, by grind⟩
  have h1 : J (-1 * (a * a)) m = J (H * H) m := J_congr ⟨-C, by grind⟩
  rw [J_square o hh.left, J_mul o (cop_neg_one m) (c.mul c), J_square o c, Int.mul_one] at h1
  have ho := o.odd
  rcases (by omega : m % 4 = 1 ∨ m % 4 = 3) with h | h
  · exact h
  · rw [J_neg_one_3 o h] at h1; cases h1
/-- w touches a: their sum divides a sum of two squares -/
structure Tch (a w : Int) : Prop where
  pos : 0 < a + w
  sq : ∃ C H : Int, (a + w) * C = H * H + a * a
  cop : Cop a w
theorem Tch.cs {a w : Int} (t : Tch a w) : Cop a (a + w) := by
  have h : Int.gcd a w = 1 := t.cop
  unfold Cop
  rw [Int.gcd_self_add_right]; exact h
theorem sq_mod8 (x : Int) (h : x % 2 = 1) : (x * x) % 8 = 1 := by
  rw [Int.mul_emod]
  rcases od_mod8 h with e | e | e | e <;> rw [e] <;> rfl
theorem sq_even (x : Int) (h : x % 2 = 0) : (x * x) % 4 = 0 := by
  obtain ⟨k, rfl⟩ : ∃ k, x = 2 * k := ⟨x / 2, by omega⟩
  have : 2 * k * (2 * k) = 4 * (k * k) := by grind
  omega
theorem Tch.odd_sum {a w : Int} (t : Tch a w) (h : (a + w) % 2 = 1) : (a + w) % 4 = 1 := by
  obtain ⟨C, H, e⟩ := t.sq
  exact one_by_4 ⟨t.pos, h⟩ e t.cs
theorem not_both_even {a w : Int} (c : Cop a w) : a % 2 = 1 ∨ w % 2 = 1 := by
  rcases Int.emod_two_eq a with h | h
  · rcases Int.emod_two_eq w with h' | h'
    · have := cop_iff.mp c 2 (Int.dvd_of_emod_eq_zero h) (Int.dvd_of_emod_eq_zero h')
      have := Int.emod_eq_zero_of_dvd this
      omega
    · exact .inr h'
  · exact .inl h
theorem Tch.even_sum {a w : Int} (t : Tch a w) (h : (a + w) % 2 = 0) : (a + w) % 8 = 2 := by
  obtain ⟨C, H, e⟩ := t.sq
  have hc := not_both_even t.cop
  have ha : a % 2 = 1 := by omega
  have a8 := sq_mod8 a ha
  have hH : H % 2 = 1 := by
    rcases Int.emod_two_eq H with h1 | h1
    · exfalso
      have := sq_even H h1
      have h2 : ((a + w) * C) % 2 = 0 := by rw [Int.mul_emod, h, Int.zero_mul]; rfl
      omega
    · exact h1
  have H8 := sq_mod8 H hH
  obtain ⟨m, hm⟩ : ∃ m, a + w = 2 * m := ⟨(a + w) / 2, by omega⟩
  rw [hm] at e
  have hm2 : m % 2 = 1 := by
    rcases Int.emod_two_eq m with h1 | h1
    · exfalso
      have : (2 * m * C) % 4 = 0 := by
        obtain ⟨k, rfl⟩ : ∃ k, m = 2 * k := ⟨m / 2, by omega⟩
        have : 2 * (2 * k) * C = 4 * (k * C) := by grind
        omega
      omega
    · exact h1
  have cm : Cop a m := t.cs.of_dvd (Int.dvd_refl a) ⟨2, by omega⟩
  have := one_by_4 (C := 2 * C) (H := H) ⟨by have := t.pos; omega, hm2⟩ (by rw [← e]; grind) cm
  omega
/-- the exchange of two odd ones -/
theorem chi_symm {a b : Int} (ha : a % 2 = 1) (hb : b % 2 = 1) (c : Cop a b) (hs : 0 < a + b) (h8 : (a + b) % 8 = 2) : chi a b = chi b a := by
  have go : ∀ {a b : Int}, a % 2 = 1 → b % 2 = 1 → Cop a b → 0 < a + b → (a + b) % 8 = 2 → a ≤ b → chi a b = chi b a := by
    intro a b ha hb c hs h8 hle
    have oa := od_abs ha
    have ob := od_abs hb
    have hbp : (b.natAbs : Int) = b := by omega
    rw [hbp] at ob
    have cab : Cop (a.natAbs : Int) b := (cop_abs c.comm).comm
    unfold chi
    rw [hbp]
    have c2a := cop_two oa.odd
    have c2b := cop_two ob.odd
    have cba : Cop b (a.natAbs : Int) := cab.comm
    have q1 := J_recip_1 ob oa cab
    have q3 := J_recip_3 ob oa cab
    have ta := J_two oa
    have tb := J_two ob
    have sqa := J_sq c2a
    rcases abs_cases a with ⟨ea, pa⟩ | ⟨ea, pa⟩
    · rw [ea] at oa cab c2a cba q1 q3 ta sqa ⊢
      by_cases h4 : b % 4 = 1
      · rw [if_pos h4, if_pos (by omega)]
        exact q1 (.inr h4)
      · rw [if_neg h4, if_neg (by omega), J_mul ob c2b c, J_mul oa c2a cba, q3 (by omega) (by omega), ta, tb]
        rcases (by omega : b % 8 = 3 ∨ b % 8 = 7) with h | h
        · rw [if_neg (by omega), if_pos (by omega)]; omega
        · rw [if_pos (by omega), if_neg (by omega)]; omega
    · have jn : J a b = J (-1) b * J (a.natAbs : Int) b := by
        rw [← J_mul ob (cop_neg_one b) cab]
        congr 1; omega
      by_cases h4 : b % 4 = 1
      · rw [if_pos h4, if_pos (by omega), jn, J_neg_one_1 ob h4, Int.one_mul]
        exact q1 (.inr h4)
      · rw [if_neg h4, if_neg (by omega), J_mul ob c2b c, J_mul oa c2a cba, jn, J_neg_one_3 ob (by omega), ta, tb, q1 (.inl (by omega))]
        rcases (by omega : b % 8 = 3 ∨ b % 8 = 7) with h | h
        · rw [if_neg (by omega), if_pos (by omega)]; omega
        · rw [if_pos (by omega), if_neg (by omega)]; omega
  rcases Int.le_total a b with h | h
  · exact go ha hb c hs h8 h
  · exact (go hb ha c.comm (by omega) (by rw [Int.add_comm]; exact h8) h).symm
theorem sg_symm {a w : Int} (t : Tch a w) : sg a w = sg w a := by
  have hc := not_both_even t.cop
  unfold sg
  by_cases ha : a % 2 = 1
  · by_cases hw : w % 2 = 1
    · rw [if_pos ha, if_pos hw]
      exact (chi_symm ha hw t.cop t.pos (t.even_sum (by omega))).symm
    · rw [if_pos ha, if_neg hw]
  · rw [if_neg ha, if_pos (by omega)]

/-! round one circle -/
theorem J_same {m m' s n : Int} (o : Od n) (c : Cop m n) (c' : Cop m' n) (d : n ∣ m * m' - s * s) : J m n = J m' n := by
  have cs : Cop s n := ((c.mul c').congr d).left
  have e := J_congr d
  rw [J_mul o c c', J_square o cs] at e
  rcases J_pm c with x | x <;> rcases J_pm c' with y | y <;> rw [x, y] at e <;> rw [x, y] <;> omega
/-- an odd part -/
theorem odd_part (a : Int) (h : a ≠ 0) : ∃ (k : Nat) (s : Int), a = 2 ^ k * s ∧ s % 2 = 1 := by
  have go : ∀ (n : Nat) (a : Int), a ≠ 0 → a.natAbs ≤ n → ∃ (k : Nat) (s : Int), a = 2 ^ k * s ∧ s % 2 = 1 := by
    intro n
    induction n with
    | zero => intro a h hn; omega
    | succ n ih =>
      intro a h hn
      rcases Int.emod_two_eq a with e | e
      · obtain ⟨k, s, hk, hs⟩ := ih (a / 2) (by omega) (by omega)
        refine ⟨k + 1, s, ?_, hs⟩
        have : a = 2 * (a / 2) := by omega
        rw [this, hk, Int.pow_succ]; grind
      · exact ⟨0, a, by simp, e⟩
  exact go a.natAbs a h (Nat.le_refl _)
/-- an odd number (its minus apart) by b, exchanged -/
theorem J_odd_by {s b : Int} (hs : s % 2 = 1) (hb : b % 2 = 1) (c : Cop s b) (hn : 0 < s ∨ 0 < b) :
    J s (b.natAbs : Int) = (if b % 4 = 1 then 1 else if s % 4 = 1 then 1 else -1) * J b (s.natAbs : Int) := by
  have os := od_abs hs
  have ob := od_abs hb
  have c1 : Cop (s.natAbs : Int) (b.natAbs : Int) := cop_abs (cop_abs c.comm).comm
  have q1 := J_recip_1 ob os c1
  have q3 := J_recip_3 ob os c1
  have cb : Cop b (s.natAbs : Int) := cop_abs c.comm
  have cs : Cop s (b.natAbs : Int) := cop_abs c
  rcases abs_cases s with ⟨es, ps⟩ | ⟨es, ps⟩
  · rcases abs_cases b with ⟨eb, pb⟩ | ⟨eb, pb⟩
    · rw [es, eb] at q1 q3; rw [es, eb]
      by_cases h4 : b % 4 = 1
      · rw [if_pos h4, Int.one_mul]; exact q1 (.inr h4)
      · rw [if_neg h4]
        by_cases h5 : s % 4 = 1
        · rw [if_pos h5, Int.one_mul]; exact q1 (.inl h5)
        · rw [if_neg h5, q3 (by omega) (by omega)]; omega
    · have jn : J b (s.natAbs : Int) = J (-1) (s.natAbs : Int) * J (b.natAbs : Int) (s.natAbs : Int) := by
        rw [← J_mul os (cop_neg_one _) c1.comm]
        congr 1; omega
      rw [jn]
      rw [es] at q1 q3 os ⊢
      by_cases h5 : s % 4 = 1
      · rw [J_neg_one_1 os h5, q1 (.inl h5)]
        rw [if_pos h5]
        split <;> omega
      · rw [J_neg_one_3 os (by omega)]
        by_cases h4 : b % 4 = 1
        · rw [if_pos h4, q3 (by omega) (by omega)]; omega
        · rw [if_neg h4, if_neg h5, q1 (.inr (by omega))]; omega
  · have pb : 0 < b := by omega
    have eb : (b.natAbs : Int) = b := by omega
    have jn : J s (b.natAbs : Int) = J (-1) (b.natAbs : Int) * J (s.natAbs : Int) (b.natAbs : Int) := by
      rw [← J_mul ob (cop_neg_one _) c1]
      congr 1; omega
    rw [jn]
    rw [eb] at q1 q3 ob ⊢
    by_cases h4 : b % 4 = 1
    · rw [J_neg_one_1 ob h4, if_pos h4, q1 (.inr h4)]
    · rw [J_neg_one_3 ob (by omega), if_neg h4]
      by_cases h5 : s % 4 = 1
      · rw [if_pos h5, q3 (by omega) (by omega)]; omega
      · rw [if_neg h5, q1 (.inl (by omega))]
/-- the two of an even middle: what is told of a power of 2 by an odd number -/
theorem J_two_abs {b b' : Int} (hb : b % 2 = 1) (h : b % 8 = b' % 8) : J 2 (b.natAbs : Int) = J 2 (b'.natAbs : Int) := by
  rw [J_two (od_abs hb), J_two (od_abs (by omega : b' % 2 = 1))]
  rcases abs_cases b with ⟨e, _⟩ | ⟨e, _⟩ <;> rcases abs_cases b' with ⟨f, _⟩ | ⟨f, _⟩ <;> rw [e, f] <;> (repeat' split) <;> omega
theorem pow_two_mod (k : Nat) (h : 3 ≤ k) : ((2 : Int) ^ k) % 8 = 0 := by
  obtain ⟨j, rfl⟩ : ∃ j, k = j + 3 := ⟨k - 3, by omega⟩
  rw [Int.pow_add]
  have : (2 : Int) ^ j * 2 ^ 3 = 8 * 2 ^ j := by
    have : (2 : Int) ^ 3 = 8 := rfl
    rw [this]; omega
  omega
/-- the sign of an even middle a = 2^k s and an odd w -/
theorem chi_even {s w : Int} {k : Nat} (hk : 1 ≤ k) (hs : s % 2 = 1) (t : Tch (2 ^ k * s) w) :
    w % 2 = 1 ∧ Cop w s ∧ chi (2 ^ k * s) w = (if k = 1 then (if s % 4 = 1 then 1 else -1) else if k % 2 = 1 then J 2 (w.natAbs : Int) else 1) * J w (s.natAbs : Int) := by
  have hc := not_both_even t.cop
  have cw : Cop s w := t.cop.right
  have ha2 : (2 ^ k * s) % 2 = 0 := by
    obtain ⟨j, rfl⟩ : ∃ j, k = j + 1 := ⟨k - 1, by omega⟩
    have : (2 : Int) ^ (j + 1) * s = 2 * (2 ^ j * s) := by rw [Int.pow_succ]; grind
    omega
  have hw : w % 2 = 1 := by omega
  refine ⟨hw, cw.comm, ?_⟩
  have ow := od_abs hw
  have cwa := cop_abs cw
  have hm := t.odd_sum (by omega)
  have hpos : 0 < s ∨ 0 < w := by
    rcases Int.lt_or_le 0 w with h | h
    · exact .inr h
    · refine .inl ?_
      have hp := t.pos
      rcases Int.lt_or_le 0 s with h' | h'
      · exact h'
      · have : 2 ^ k * s ≤ 0 := Int.mul_nonpos_of_nonneg_of_nonpos (Int.le_of_lt (Int.pow_pos (by decide))) h'
        omega
  have hso := J_odd_by hs hw cw hpos
  unfold chi
  by_cases h1 : k = 1
  · subst h1
    have e2 : (2 : Int) ^ 1 * s = 2 * s := by simp
    rw [e2] at hm
    have h4 : w % 4 = 3 := by omega
    rw [if_neg (by omega), if_pos rfl]
    have e : 2 * ((2 : Int) ^ 1 * s) = 2 ^ 2 * s := by
      have : (2 : Int) ^ 2 = 4 := rfl
      rw [e2, this]; omega
    rw [e, (J_two_pow ow cwa 2).2, if_neg (by decide), Int.one_mul, hso, if_neg (by omega)]
  · have h4 : w % 4 = 1 := by
      obtain ⟨j, rfl⟩ : ∃ j, k = j + 2 := ⟨k - 2, by omega⟩
      have : (2 : Int) ^ (j + 2) * s = 4 * (2 ^ j * s) := by
        rw [Int.pow_add]
        have : (2 : Int) ^ 2 = 4 := rfl
        rw [this]; grind
      omega
    rw [if_pos h4, if_neg h1, (J_two_pow ow cwa k).2, hso, if_pos h4, Int.one_mul]
/-- all that touch a and are coprime to it have one sign with it -/
theorem sg_const {a w w' s t : Int} (h0 : a ≠ 0) (tw : Tch a w) (tw' : Tch a w') (e : (a + w) * (a + w') = s * s + a * a * (t * t)) : sg a w = sg a w' := by
  have cw : Cop w a := tw.cop.comm
  have cw' : Cop w' a := tw'.cop.comm
  unfold sg
  by_cases ha : a % 2 = 1
  · rw [if_pos ha, if_pos ha]
    have oa := od_abs ha
    have k1 := cop_abs cw
    have k2 := cop_abs cw'
    have d : (a.natAbs : Int) ∣ w * w' - s * s := dvd_abs ⟨a * (t * t) - a - w - w', by grind⟩
    have j := J_same oa k1 k2 d
    unfold chi
    by_cases h4 : a % 4 = 1
    · rw [if_pos h4, if_pos h4]; exact j
    · rw [if_neg h4, if_neg h4, J_mul oa (cop_two oa.odd) k1, J_mul oa (cop_two oa.odd) k2, j]
  · rw [if_neg ha, if_neg ha]
    obtain ⟨k, o, rfl, ho⟩ := odd_part a h0
    have hk : 1 ≤ k := by
      rcases Nat.eq_zero_or_pos k with z | z
      · subst z
        have : (2 : Int) ^ 0 * o = o := by simp
        omega
      · exact z
    obtain ⟨w2, c1, e1⟩ := chi_even hk ho tw
    obtain ⟨w2', c1', e1'⟩ := chi_even hk ho tw'
    rw [e1, e1']
    have oo := od_abs ho
    have d : (o.natAbs : Int) ∣ w * w' - s * s := dvd_abs ⟨2 ^ k * (2 ^ k * o * (t * t) - 2 ^ k * o - w - w'), by grind⟩
    have j := J_same oo (cop_abs c1) (cop_abs c1') d
    rw [j]
    congr 1
    by_cases h1 : k = 1
    · rw [if_pos h1, if_pos h1]
    · rw [if_neg h1, if_neg h1]
      by_cases h2 : k % 2 = 1
      · rw [if_pos h2, if_pos h2]
        refine J_two_abs w2 ?_
        have h8 := pow_two_mod k (by omega)
        obtain ⟨q, hq⟩ : ∃ q, (2 : Int) ^ k = 8 * q := ⟨2 ^ k / 8, by omega⟩
        rw [hq] at e
        have e8 : w * w' - s * s = 8 * (q * (8 * q * o * o * (t * t) - o * w - o * w' - 8 * q * o * o)) := by grind
        have hs : s % 2 = 1 := by
          rcases Int.emod_two_eq s with z | z
          · exfalso
            have z4 := sq_even s z
            have : (w * w') % 2 = 1 := by rw [Int.mul_emod, w2, w2']; rfl
            omega
          · exact z
        have s8 := sq_mod8 s hs
        have w8 : (w * w') % 8 = 1 := by omega
        rw [Int.mul_emod] at w8
        rcases od_mod8 w2 with x | x | x | x <;> rcases od_mod8 w2' with y | y | y | y <;> rw [x, y] at w8 <;> rw [x, y] <;> omega
      · rw [if_neg h2, if_neg h2]
end Bs

/-! N4 -/
set_option maxHeartbeats 1000000
namespace Bs
/-! fours -/
structure Fr4 (a b c d : Int) : Prop where
  eq : 2 * (a * a + b * b + c * c + d * d) = (a + b + c + d) * (a + b + c + d)
  pos : 0 < a + b + c + d
  prim : ∀ e : Int, e ∣ a → e ∣ b → e ∣ c → e ∣ d → e ∣ 1
def hv (a b c d : Int) : Int := (a + b + c - d) / 2
section
variable {a b c d : Int}
theorem Fr4.even (F : Fr4 a b c d) : (a + b + c + d) % 2 = 0 := by
  have e := F.eq
  rcases Int.emod_two_eq (a + b + c + d) with h | h
  · exact h
  · exfalso
    have h2 : ((a + b + c + d) * (a + b + c + d)) % 2 = 1 := by rw [Int.mul_emod, h]; rfl
    omega
theorem Fr4.hv2 (F : Fr4 a b c d) : 2 * hv a b c d = a + b + c - d := by
  have := F.even
  unfold hv; omega
theorem Fr4.hsq (F : Fr4 a b c d) : hv a b c d * hv a b c d = a * b + a * c + b * c := by
  have h := F.hv2
  have e := F.eq
  generalize hv a b c d = H at *
  have : d = a + b + c - 2 * H := by omega
  subst this
  grind
theorem Fr4.swap01 (F : Fr4 a b c d) : Fr4 b a c d := ⟨by have := F.eq; grind, by have := F.pos; omega, fun e h1 h2 => F.prim e h2 h1⟩
theorem Fr4.swap12 (F : Fr4 a b c d) : Fr4 a c b d := ⟨by have := F.eq; grind, by have := F.pos; omega, fun e h1 h2 h3 => F.prim e h1 h3 h2⟩
theorem Fr4.swap23 (F : Fr4 a b c d) : Fr4 a b d c := ⟨by have := F.eq; grind, by have := F.pos; omega, fun e h1 h2 h3 h4 => F.prim e h1 h2 h4 h3⟩
theorem Fr4.sum_nonneg (F : Fr4 a b c d) : 0 ≤ a + b := by
  have e := F.eq
  have p := F.pos
  have h : (a - b) * (a - b) + (c - d) * (c - d) = 2 * ((a + b) * (c + d)) := by grind
  have h1 : 0 ≤ (a - b) * (a - b) := by rcases Int.le_total 0 (a - b) with z | z; exact Int.mul_nonneg z z; exact Int.mul_nonneg_of_nonpos_of_nonpos z z
  have h2 : 0 ≤ (c - d) * (c - d) := by rcases Int.le_total 0 (c - d) with z | z; exact Int.mul_nonneg z z; exact Int.mul_nonneg_of_nonpos_of_nonpos z z
  rcases Int.lt_or_le (a + b) 0 with z | z
  · exfalso
    have : 0 < c + d := by omega
    have := Int.mul_neg_of_neg_of_pos z this
    omega
  · exact z
theorem sq_nonneg (x : Int) : 0 ≤ x * x := by
  rcases Int.le_total 0 x with z | z
  · exact Int.mul_nonneg z z
  · exact Int.mul_nonneg_of_nonpos_of_nonpos z z
theorem sq_pos {x : Int} (h : x ≠ 0) : 0 < x * x := by
  have := sq_nonneg x
  rcases Int.lt_or_eq_of_le this with z | z
  · exact z
  · exact absurd (Int.mul_eq_zero.mp z.symm) (by intro q; rcases q with q | q <;> exact h q)
/-- the fan of a and b: c, d, .. -/
def fv (a b c d k : Int) : Int := (a + b) * (k * k) + (d - c - a - b) * k + c
theorem fv_0 : fv a b c d 0 = c := by unfold fv; simp
theorem fv_1 : fv a b c d 1 = d := by unfold fv; omega
theorem fv_next (k : Int) : fv a b c d (k + 1) = 2 * (a + b + fv a b c d k) - fv a b c d (k - 1) := by unfold fv; grind
theorem fv_swap (k : Int) : fv b a c d k = fv a b c d k := by unfold fv; grind
theorem fv_sq (F : Fr4 a b c d) (k : Int) : (a + fv a b c d k) * (a + b) = (k * (a + b) - hv a b c d) * (k * (a + b) - hv a b c d) + a * a := by
  have h := F.hv2
  have e := F.hsq
  unfold fv
  generalize hv a b c d = H at *
  have : d = a + b + c - 2 * H := by omega
  subst this
  grind
theorem fv_both (F : Fr4 a b c d) (k : Int) : (fv a b c d k + a) * (fv a b c d k + b) = (k * (a + b) - hv a b c d) * (k * (a + b) - hv a b c d) + fv a b c d k * fv a b c d k := by
  have h := F.hv2
  have e := F.hsq
  unfold fv
  generalize hv a b c d = H at *
  have : d = a + b + c - 2 * H := by omega
  subst this
  grind
theorem fv_pos (F : Fr4 a b c d) (h0 : a ≠ 0) (k : Int) : 0 < a + fv a b c d k ∧ 0 < a + b := by
  have e := fv_sq F k
  have h1 := sq_pos h0
  have h2 := sq_nonneg (k * (a + b) - hv a b c d)
  have h3 := F.sum_nonneg
  have h4 : 0 < (a + fv a b c d k) * (a + b) := by omega
  have h5 : 0 < a + b := by
    rcases Int.lt_or_eq_of_le h3 with z | z
    · exact z
    · rw [← z, Int.mul_zero] at h4; exact absurd h4 (by decide)
  refine ⟨?_, h5⟩
  rcases Int.lt_or_le 0 (a + fv a b c d k) with z | z
  · exact z
  · have := Int.mul_nonpos_of_nonpos_of_nonneg z h3
    omega
theorem fv_tch (F : Fr4 a b c d) (h0 : a ≠ 0) {k : Int} (hc : Cop a (fv a b c d k)) : Tch a (fv a b c d k) :=
  ⟨(fv_pos F h0 k).1, ⟨_, _, fv_sq F k⟩, hc⟩
end

/-! primes -/
structure Pr (p : Nat) : Prop where
  two : 2 ≤ p
  only : ∀ d : Nat, d ∣ p → d = 1 ∨ d = p
theorem Pr.cop {p : Nat} (h : Pr p) {x : Int} (n : ¬ (p : Int) ∣ x) : Cop x p := by
  have hd : Int.gcd x p ∣ p := by
    have := Int.gcd_dvd_right x (p : Int)
    exact Int.natCast_dvd_natCast.mp this
  rcases h.only _ hd with e | e
  · exact e
  · exfalso
    have := Int.gcd_dvd_left x (p : Int)
    rw [e] at this
    exact n this
theorem Pr.dvd_mul {p : Nat} (h : Pr p) {x y : Int} (d : (p : Int) ∣ x * y) : (p : Int) ∣ x ∨ (p : Int) ∣ y := by
  by_cases hx : (p : Int) ∣ x
  · exact .inl hx
  · exact .inr ((h.cop hx).dvd d)
theorem exists_prime : ∀ n : Nat, n ≠ 1 → n ≠ 0 → ∃ p, Pr p ∧ p ∣ n := by
  intro n
  induction n using Nat.strongRecOn with
  | ind n ih =>
    intro h1 h0
    by_cases hp : ∀ d : Nat, d ∣ n → d = 1 ∨ d = n
    · exact ⟨n, ⟨by omega, hp⟩, Nat.dvd_refl n⟩
    · obtain ⟨d, hd⟩ := Classical.not_forall.mp hp
      have hd1 : d ∣ n := Classical.byContradiction fun z => hd fun q => absurd q z
      have hd2 : d ≠ 1 ∧ d ≠ n := ⟨fun z => hd fun _ => .inl z, fun z => hd fun _ => .inr z⟩
      have hle := Nat.le_of_dvd (by omega) hd1
      have hd0 : d ≠ 0 := fun z => by
        rw [z] at hd1
        exact h0 (Nat.eq_zero_of_zero_dvd hd1)
      obtain ⟨p, hp, hpd⟩ := ih d (by omega) hd2.1 hd0
      exact ⟨p, hp, Nat.dvd_trans hpd hd1⟩
theorem cop_of_no_prime {x y : Int} (h0 : y ≠ 0) (h : ∀ p : Nat, Pr p → (p : Int) ∣ y → (p : Int) ∣ x → False) : Cop x y := by
  unfold Cop
  by_cases h1 : Int.gcd x y = 1
  · exact h1
  · exfalso
    have hg0 : Int.gcd x y ≠ 0 := fun z => h0 (Int.eq_zero_of_gcd_eq_zero_right z)
    obtain ⟨p, hp, hd⟩ := exists_prime _ h1 hg0
    have hd' : (p : Int) ∣ (Int.gcd x y : Int) := Int.natCast_dvd_natCast.mpr hd
    exact h p hp (Int.dvd_trans hd' (Int.gcd_dvd_right x y)) (Int.dvd_trans hd' (Int.gcd_dvd_left x y))
theorem Pr.not_dvd_one {p : Nat} (h : Pr p) : ¬ (p : Int) ∣ 1 := fun z => by
  have := Int.natCast_dvd_natCast.mp (show (p : Int) ∣ ((1 : Nat) : Int) from z)
  have := Nat.dvd_one.mp this
  have := h.two
  omega
theorem Pr.eq {p q : Nat} (h : Pr p) (h' : Pr q) (d : (p : Int) ∣ (q : Int)) : p = q := by
  rcases h'.only p (Int.natCast_dvd_natCast.mp d) with e | e
  · have := h.two; omega
  · exact e

/-! one class a prime -/
/-- f hangs on k by each m -/
structure Cls (f : Int → Int) (N : Int) : Prop where
  step : ∀ m k t : Int, m ∣ t → m ∣ f (k + t) - f k
  one : ∀ p : Nat, Pr p → (p : Int) ∣ N → ∀ k k' : Int, (p : Int) ∣ f k → (p : Int) ∣ f k' → (p : Int) ∣ k - k'
theorem fv_cls {a b c d N : Int} (F : Fr4 a b c d) (hN : N ∣ a * b) : Cls (fv a b c d) N where
  step := fun m k t ⟨u, hu⟩ => ⟨(a + b) * (2 * k * u + u * t) + (d - c - a - b) * u, by subst hu; unfold fv; grind⟩
  one := fun p hp hpN k k' h1 h2 => by
    have dab : (p : Int) ∣ a * b := Int.dvd_trans hpN hN
    have fsq : ∀ k, (p : Int) ∣ fv a b c d k → (p : Int) ∣ k * (a + b) - hv a b c d := fun k hk => by
      have q : (p : Int) ∣ (k * (a + b) - hv a b c d) * (k * (a + b) - hv a b c d) := by
        rcases hp.dvd_mul dab with z | z
        · have e := fv_sq F k
          have : (k * (a + b) - hv a b c d) * (k * (a + b) - hv a b c d) = (a + fv a b c d k) * (a + b) - a * a := by omega
          rw [this]
          exact Int.dvd_sub (Int.dvd_trans (Int.dvd_add z hk) (Int.dvd_mul_right _ _)) (Int.dvd_trans z (Int.dvd_mul_right _ _))
        · have e := fv_both F k
          have : (k * (a + b) - hv a b c d) * (k * (a + b) - hv a b c d) = (fv a b c d k + a) * (fv a b c d k + b) - fv a b c d k * fv a b c d k := by omega
          rw [this]
          exact Int.dvd_sub (Int.dvd_trans (Int.dvd_add hk z) (Int.dvd_mul_left _ _)) (Int.dvd_trans hk (Int.dvd_mul_right _ _))
      rcases hp.dvd_mul q with z | z <;> exact z
    have dd : (p : Int) ∣ (a + b) * (k - k') := by
      have := Int.dvd_sub (fsq k h1) (fsq k' h2)
      have e : (a + b) * (k - k') = (k * (a + b) - hv a b c d) - (k' * (a + b) - hv a b c d) := by grind
      rw [e]; exact this
    rcases hp.dvd_mul dd with z | z
    · exfalso
      have hH : (p : Int) ∣ hv a b c d := by
        have := Int.dvd_sub (Int.dvd_trans z (Int.dvd_mul_left k (a + b))) (fsq k h1)
        rw [Int.sub_sub_self] at this
        exact this
      have dadb : (p : Int) ∣ a ∧ (p : Int) ∣ b := by
        rcases hp.dvd_mul dab with y | y
        · refine ⟨y, ?_⟩
          have := Int.dvd_sub z y
          have e : a + b - a = b := by omega
          rw [e] at this
          exact this
        · refine ⟨?_, y⟩
          have := Int.dvd_sub z y
          rw [Int.add_sub_cancel] at this
          exact this
      have h2v := F.hv2
      have dc : (p : Int) ∣ c := by
        have e : c = fv a b c d k - (a + b) * (k * k) + (2 * hv a b c d) * k := by
          rw [h2v]; unfold fv; grind
        rw [e]
        refine Int.dvd_add (Int.dvd_sub h1 (Int.dvd_trans z (Int.dvd_mul_right _ _))) ?_
        exact Int.dvd_trans (Int.dvd_trans hH (Int.dvd_mul_left 2 _)) (Int.dvd_mul_right _ _)
      have ddd : (p : Int) ∣ d := by
        have e : d = a + b + c - 2 * hv a b c d := by omega
        rw [e]
        exact Int.dvd_sub (Int.dvd_add (Int.dvd_add dadb.1 dadb.2) dc) (Int.dvd_trans hH (Int.dvd_mul_left 2 _))
      exact hp.not_dvd_one (F.prim _ dadb.1 dadb.2 dc ddd)
    · exact z
def nprod (l : List Nat) : Nat := l.foldr (· * ·) 1
theorem nprod_cons (a : Nat) (l : List Nat) : nprod (a :: l) = a * nprod l := rfl
theorem prime_dvd_nprod {p : Nat} (hp : Pr p) : ∀ {l : List Nat}, (∀ q ∈ l, Pr q) → (p : Int) ∣ ((nprod l : Nat) : Int) → p ∈ l
  | [], _, h => absurd h hp.not_dvd_one
  | q :: l, hl, h => by
    rw [nprod_cons, Int.natCast_mul] at h
    rcases hp.dvd_mul h with z | z
    · exact hp.eq (hl q List.mem_cons_self) z ▸ List.mem_cons_self
    · exact List.mem_cons_of_mem _ (prime_dvd_nprod hp (fun q hq => hl q (List.mem_cons_of_mem _ hq)) z)
theorem dvd_nprod {p : Nat} : ∀ {l : List Nat}, p ∈ l → p ∣ nprod l
  | q :: l, h => by
    rw [nprod_cons]
    rcases List.mem_cons.mp h with e | e
    · rw [e]; exact Nat.dvd_mul_right _ _
    · exact Nat.dvd_trans (dvd_nprod e) (Nat.dvd_mul_left _ _)
theorem nprod_pos : ∀ {l : List Nat}, (∀ q ∈ l, Pr q) → 0 < nprod l
  | [], _ => Nat.one_pos
  | q :: l, h => by
    rw [nprod_cons]
    exact Nat.mul_pos (by have := (h q List.mem_cons_self).two; omega) (nprod_pos fun x hx => h x (List.mem_cons_of_mem _ hx))
theorem sieve {f : Int → Int} {N : Int} (C : Cls f N) : ∀ (l : List Nat), l.Nodup → (∀ q ∈ l, Pr q ∧ (q : Int) ∣ N) → ∃ k : Nat, k < nprod l ∧ ∀ q ∈ l, ¬ (q : Int) ∣ f k
  | [], _, _ => ⟨0, Nat.one_pos, fun q hq => nomatch hq⟩
  | p :: l, hn, hl => by
    have hn' := List.nodup_cons.mp hn
    have hpl : ∀ q ∈ l, Pr q := fun q hq => (hl q (List.mem_cons_of_mem _ hq)).1
    obtain ⟨k, hk, hg⟩ := sieve C l hn'.2 fun q hq => hl q (List.mem_cons_of_mem _ hq)
    have ⟨pp, pN⟩ := hl p List.mem_cons_self
    have p2 := pp.two
    have hpos := nprod_pos hpl
    have hge : nprod l + nprod l ≤ nprod (p :: l) := by
      rw [nprod_cons]
      have : 2 * nprod l ≤ p * nprod l := Nat.mul_le_mul_right _ p2
      omega
    by_cases h : (p : Int) ∣ f k
    · refine ⟨k + nprod l, by omega, fun q hq hd => ?_⟩
      rcases List.mem_cons.mp hq with e | e
      · subst e
        have := C.one q pp pN ((k + nprod l : Nat) : Int) k hd h
        have e2 : ((k + nprod l : Nat) : Int) - k = ((nprod l : Nat) : Int) := by omega
        rw [e2] at this
        exact hn'.1 (prime_dvd_nprod pp hpl this)
      · have d1 : (q : Int) ∣ ((nprod l : Nat) : Int) := Int.natCast_dvd_natCast.mpr (dvd_nprod e)
        have d2 := C.step q k (nprod l) d1
        have : (q : Int) ∣ f k := by
          have := Int.dvd_sub hd d2
          have e3 : f ((k + nprod l : Nat) : Int) - (f (k + (nprod l : Nat)) - f k) = f k := by
            rw [Int.natCast_add]; omega
          rw [e3] at this
          exact this
        exact hg q e this
    · refine ⟨k, by omega, fun q hq hd => ?_⟩
      rcases List.mem_cons.mp hq with e | e
      · subst e; exact h hd
      · exact hg q e hd
/-- some k is coprime -/
theorem exists_cop {f : Int → Int} {N : Int} (C : Cls f N) (h0 : N ≠ 0) : ∃ k : Nat, Cop (f k) N := by
  classical
  let l := (List.range (N.natAbs + 1)).filter fun q => decide (Pr q ∧ (q : Int) ∣ N)
  have hl : ∀ q ∈ l, Pr q ∧ (q : Int) ∣ N := fun q hq => of_decide_eq_true (List.mem_filter.mp hq).2
  obtain ⟨k, _, hk⟩ := sieve C l (List.Pairwise.filter _ List.nodup_range) hl
  refine ⟨k, cop_of_no_prime h0 fun p hp hpN hpf => hk p ?_ hpf⟩
  refine List.mem_filter.mpr ⟨List.mem_range.mpr ?_, decide_eq_true ⟨hp, hpN⟩⟩
  have hd : p ∣ N.natAbs := Int.natCast_dvd_natCast.mp (Int.dvd_natAbs.mpr hpN)
  have := Nat.le_of_dvd (show 0 < N.natAbs by omega) hd
  omega

/-! the sign of a gasket -/
/-- round the first bend: all that touch it and are coprime have the sign s with it -/
def SG (a b c d s : Int) : Prop := ∀ x y w : Int, a + w = (a + b) * (x * x) + (a + b + c - d) * (x * y) + (a + c) * (y * y) → Tch a w → sg a w = s
section
variable {a b c d s : Int}
theorem SG.swap12 (h : SG a b c d s) : SG a c b d s := fun x y w e t => h y x w (by rw [e]; grind) t
theorem SG.swap23 (h : SG a b c d s) : SG a b d c s := fun x y w e t => h (x + y) (-y) w (by rw [e]; grind) t
/-- an exchange at the last place -/
theorem SG.exch (h : SG a b c d s) : SG a b c (2 * (a + b + c) - d) s := fun x y w e t => h x (-y) w (by rw [e]; grind) t
theorem worth_mul (F : Fr4 a b c d) {x y x' y' w w' : Int} (e : a + w = (a + b) * (x * x) + (a + b + c - d) * (x * y) + (a + c) * (y * y)) (e' : a + w' = (a + b) * (x' * x') + (a + b + c - d) * (x' * y') + (a + c) * (y' * y')) :
    ∃ s t : Int, (a + w) * (a + w') = s * s + a * a * (t * t) := by
  have h := F.hv2
  have q := F.hsq
  rw [e, e']
  generalize hv a b c d = H at *
  refine ⟨(a + b) * x * x' + H * (x * y' + y * x') + (a + c) * y * y', x * y' - y * x', ?_⟩
  rw [← h]
  have q2 : (a + b) * (a + c) - H * H = a * a := by grind
  grind
theorem SG.of (F : Fr4 a b c d) (h0 : a ≠ 0) {x y w : Int} (e : a + w = (a + b) * (x * x) + (a + b + c - d) * (x * y) + (a + c) * (y * y)) (t : Tch a w) : SG a b c d (sg a w) := fun x' y' w' e' t' => by
  obtain ⟨s, u, hu⟩ := worth_mul F e' e
  exact sg_const h0 t' t hu
/-- the fan's are among them -/
theorem fv_worth (k : Int) : a + fv a b c d k = (a + b) * (k * k) + (a + b + c - d) * (k * (-1)) + (a + c) * ((-1) * (-1)) := by unfold fv; grind
theorem SG.fan (h : SG a b c d s) (F : Fr4 a b c d) (h0 : a ≠ 0) {k : Int} (hc : Cop a (fv a b c d k)) : sg a (fv a b c d k) = s := h k (-1) _ (fv_worth k) (fv_tch F h0 hc)
theorem SG.first (h : SG a b c d s) (t : Tch a b) : sg a b = s := h 1 0 b (by grind) t
theorem SG.cast {d' : Int} (h : SG a b c d s) (e : d = d') : SG a b c d' s := e ▸ h
/-- one sign for two that touch -/
theorem SG.path (h : SG a b c d s) (F : Fr4 a b c d) (ha : a ≠ 0) (hb : b ≠ 0) : SG b a c d s := by
  have C := fv_cls F (Int.dvd_refl (a * b))
  have hab : a * b ≠ 0 := fun z => by
    rcases Int.mul_eq_zero.mp z with z | z
    · exact ha z
    · exact hb z
  obtain ⟨k, hk⟩ := exists_cop C hab
  have ca : Cop a (fv a b c d k) := hk.comm.left
  have cb : Cop b (fv a b c d k) := hk.comm.right
  have e1 := h.fan F ha ca
  have ta := fv_tch F ha ca
  have Fb := F.swap01
  have cb' : Cop b (fv b a c d k) := by rw [fv_swap]; exact cb
  have tb := fv_tch Fb hb cb'
  have key : sg b (fv b a c d k) = s := by
    rw [fv_swap] at tb ⊢
    rw [← e1, sg_symm ta, sg_symm tb]
    by_cases hw : fv a b c d k = 0
    · rw [hw] at ta tb
      have one : ∀ {z : Int}, Tch z 0 → z = 1 := fun {z} t => by
        have h1 : Int.gcd z 0 = 1 := t.cop
        rw [Int.gcd_zero] at h1
        have := t.pos
        omega
      rw [one ta, one tb]
    · have swap : ∀ {z : Int}, Tch z (fv a b c d k) → (∃ C H : Int, (fv a b c d k + z) * C = H * H + fv a b c d k * fv a b c d k) → Tch (fv a b c d k) z := fun {z} t q => ⟨by have := t.pos; omega, q, t.cop.comm⟩
      have e2 := fv_both F k
      refine sg_const (s := k * (a + b) - hv a b c d) (t := 1) hw (swap tb ⟨fv a b c d k + a, _, by rw [Int.mul_comm]; exact e2⟩) (swap ta ⟨fv a b c d k + b, _, e2⟩) ?_
      rw [Int.mul_comm, e2, Int.one_mul, Int.mul_one]
  rw [← key]
  exact SG.of Fb hb (fv_worth k) tb
end
/-- all four places -/
structure SF (a b c d s : Int) : Prop where
  p0 : a ≠ 0 → SG a b c d s
  p1 : b ≠ 0 → SG b a c d s
  p2 : c ≠ 0 → SG c a b d s
  p3 : d ≠ 0 → SG d a b c s
section
variable {a b c d s : Int}
theorem SF.swap01 (h : SF a b c d s) : SF b a c d s := ⟨h.p1, h.p0, fun z => (h.p2 z).swap12, fun z => (h.p3 z).swap12⟩
theorem SF.swap12 (h : SF a b c d s) : SF a c b d s := ⟨fun z => (h.p0 z).swap12, h.p2, h.p1, fun z => (h.p3 z).swap23⟩
theorem SF.swap23 (h : SF a b c d s) : SF a b d c s := ⟨fun z => (h.p0 z).swap23, fun z => (h.p1 z).swap23, h.p3, h.p2⟩
theorem SF.of0 (F : Fr4 a b c d) (h0 : a ≠ 0) (h : SG a b c d s) : SF a b c d s where
  p0 := fun _ => h
  p1 := fun z => h.path F h0 z
  p2 := fun z => h.swap12.path F.swap12 h0 z
  p3 := fun z => (h.swap23.swap12.path F.swap23.swap12 h0 z)
theorem Fr4.exch3 (F : Fr4 a b c d) : Fr4 a b c (2 * (a + b + c) - d) := by
  have e := F.eq
  refine ⟨by grind, ?_, fun e h1 h2 h3 h4 => F.prim e h1 h2 h3 ?_⟩
  · have h1 := F.sum_nonneg
    have h2 := F.swap12.sum_nonneg
    have h3 := F.swap01.swap12.sum_nonneg
    have hp := F.pos
    have h4 := F.swap23.swap12.sum_nonneg
    -- the sum of the first three is above 0, and four times it less the old sum is so
    have hh := F.hv2
    have hq := F.hsq
    have key : 0 < 3 * (a + b + c) - d := by
      -- (3 t - d)(t + d) with t = a + b + c
      have e3 : (3 * (a + b + c) - d) * (a + b + c + d) = 2 * (a + b + c) * (a + b + c) + 2 * (a * a + b * b + c * c) := by grind
      have n1 := sq_nonneg (a + b + c)
      have n2 := sq_nonneg a
      have n3 := sq_nonneg b
      have n4 := sq_nonneg c
      have e4 : 2 * (a + b + c) * (a + b + c) = 2 * ((a + b + c) * (a + b + c)) := by grind
      rcases Int.lt_or_le 0 (3 * (a + b + c) - d) with z | z
      · exact z
      · exfalso
        have := Int.mul_nonpos_of_nonpos_of_nonneg z (Int.le_of_lt hp)
        have z1 : a * a = 0 := by omega
        have z2 : b * b = 0 := by omega
        have z3 : c * c = 0 := by omega
        have a0 : a = 0 := by rcases Int.mul_eq_zero.mp z1 with q | q <;> exact q
        have b0 : b = 0 := by rcases Int.mul_eq_zero.mp z2 with q | q <;> exact q
        have c0 : c = 0 := by rcases Int.mul_eq_zero.mp z3 with q | q <;> exact q
        subst a0 b0 c0
        have : 2 * (d * d) = d * d := by
          have := F.eq
          simp at this
          exact this
        have d0 : d * d = 0 := by omega
        have : d = 0 := by rcases Int.mul_eq_zero.mp d0 with q | q <;> exact q
        omega
    omega
  · have : d = 2 * (a + b + c) - (2 * (a + b + c) - d) := by omega
    rw [this]
    exact Int.dvd_sub (Int.dvd_trans (Int.dvd_add (Int.dvd_add h1 h2) h3) (Int.dvd_mul_left 2 _)) h4
theorem SF.exch3 (F : Fr4 a b c d) (h : SF a b c d s) : SF a b c (2 * (a + b + c) - d) s := by
  have F' := F.exch3
  by_cases ha : a = 0
  · by_cases hb : b = 0
    · by_cases hc : c = 0
      · exfalso
        subst ha hb hc
        have e := F.eq
        have p := F.pos
        have d0 : d * d = 0 := by simp at e; omega
        have : d = 0 := by rcases Int.mul_eq_zero.mp d0 with q | q <;> exact q
        omega
      · have := SF.of0 (F'.swap12.swap01) hc ((h.p2 hc).exch.cast (by omega))
        exact this.swap01.swap12
    · have := SF.of0 F'.swap01 hb ((h.p1 hb).exch.cast (by omega))
      exact this.swap01
  · exact SF.of0 F' ha (h.p0 ha).exch
end
end Bs

/-! N5 -/
set_option maxHeartbeats 1000000
namespace Bs
/-! the sign by the rim -/
def bes (A C p : Int) : Int := if A % p ≠ 0 then A else C
def e8 (A C : Int) : Int := if bes A C 2 % 8 = 1 then 1 else -1
def loc (A C n p : Int) : Int := if p = 2 then (if n % 4 = 0 then e8 A C else 1) else J (bes A C p) p
def alone (n : Int) : Int := if n % 4 = 0 ∨ n % 4 = 3 then 1 else if n % 4 = 1 then (if n % 8 = 1 then 1 else -1) else (if n / 2 % 4 = 1 then -1 else 1)
/-- a form of side n, a value m of it -/
structure Fm (A H C n m : Int) : Prop where
  sq : A * C = H * H + n * n
  prim : ∀ p : Nat, Pr p → (p : Int) ∣ A → (p : Int) ∣ H → (p : Int) ∣ C → False
  mA : ∃ S T : Int, m * A = S * S + n * n * (T * T)
  mC : ∃ S T : Int, m * C = S * S + n * n * (T * T)
section
variable {A H C n m : Int}
theorem Fm.beside (F : Fm A H C n m) {p : Nat} (hp : Pr p) (hn : (p : Int) ∣ n) : Cop (bes A C p) p ∧ ∃ S T : Int, m * bes A C p = S * S + n * n * (T * T) := by
  unfold bes
  by_cases h : A % (p : Int) ≠ 0
  · rw [if_pos h]
    exact ⟨hp.cop fun z => h (Int.emod_eq_zero_of_dvd z), F.mA⟩
  · rw [if_neg h]
    refine ⟨hp.cop fun z => ?_, F.mC⟩
    have hA : (p : Int) ∣ A := Int.dvd_of_emod_eq_zero (Classical.byContradiction h)
    have hH : (p : Int) ∣ H * H := by
      have e : H * H = A * C - n * n := by have := F.sq; omega
      rw [e]
      exact Int.dvd_sub (Int.dvd_trans hA (Int.dvd_mul_right _ _)) (Int.dvd_trans hn (Int.dvd_mul_right _ _))
    have hH' : (p : Int) ∣ H := by rcases hp.dvd_mul hH with q | q <;> exact q
    exact F.prim p hp hA hH' z
theorem Pr.od {p : Nat} (h : Pr p) (h2 : p ≠ 2) : Od (p : Int) := by
  have := h.two
  refine ⟨by omega, ?_⟩
  rcases Int.emod_two_eq (p : Int) with e | e
  · exfalso
    rcases h.only 2 (Nat.dvd_of_mod_eq_zero (by omega)) with q | q <;> omega
  · exact e
theorem pr_two : Pr 2 := ⟨Nat.le_refl 2, fun d h => by
  have := Nat.le_of_dvd (by decide) h
  rcases (by omega : d = 0 ∨ d = 1 ∨ d = 2) with e | e | e
  · subst e; have := Nat.eq_zero_of_zero_dvd h; omega
  · exact .inl e
  · exact .inr e⟩
/-- the primes of n: so many twos, and the others -/
theorem split_primes (F : Fm A H C n m) : ∀ (ps : List Nat), (∀ p ∈ ps, Pr p ∧ (p : Int) ∣ n) → Cop m ((nprod ps : Nat) : Int) →
    ∃ (k : Nat) (s : Int), ((nprod ps : Nat) : Int) = 2 ^ k * s ∧ Od s ∧ Cop m s ∧ (ps.map fun (p : Nat) => loc A C n p).prod = (if n % 4 = 0 then e8 A C else 1) ^ k * J m s
  | [], _, _ => ⟨0, 1, rfl, ⟨by decide, rfl⟩, cop_one m, by rw [J_by_one]; simp⟩
  | p :: ps, hl, hc => by
    have ⟨hp, hpn⟩ := hl p List.mem_cons_self
    rw [nprod_cons, Int.natCast_mul] at hc
    have cp : Cop m (p : Int) := hc.comm.left.comm
    obtain ⟨k, s, e, os, cs, ih⟩ := split_primes F ps (fun q hq => hl q (List.mem_cons_of_mem _ hq)) hc.comm.right.comm
    rw [nprod_cons, Int.natCast_mul, List.map_cons, List.prod_cons, ih, e]
    by_cases h2 : p = 2
    · subst h2
      refine ⟨k + 1, s, by rw [Int.pow_succ]; grind, os, cs, ?_⟩
      have hl2 : loc A C n ((2 : Nat) : Int) = if n % 4 = 0 then e8 A C else 1 := by unfold loc; rw [if_pos (by rfl)]
      rw [hl2, Int.pow_succ]
      grind
    · have op := hp.od h2
      refine ⟨k, (p : Int) * s, by grind, op.mul os, (cp.comm.mul cs.comm).comm, ?_⟩
      rw [J_bot op os ((cp.comm.mul cs.comm).comm)]
      obtain ⟨cb, S, T, eb⟩ := F.beside hp hpn
      have hlp : loc A C n (p : Int) = J m p := by
        unfold loc
        rw [if_neg (by omega)]
        refine (J_same op cp cb (s := S) ?_).symm
        rw [eb]
        have : S * S + n * n * (T * T) - S * S = n * (n * (T * T)) := by grind
        rw [this]
        exact Int.dvd_trans hpn (Int.dvd_mul_right _ _)
      rw [hlp]
      grind
theorem pow_pm {x : Int} (h : x = 1 ∨ x = -1) (k : Nat) : x ^ k = if k % 2 = 1 then x else 1 := by
  induction k with
  | zero => simp
  | succ k ih =>
    rw [Int.pow_succ, ih]
    rcases h with e | e <;> rw [e] <;> by_cases hk : k % 2 = 1
    all_goals first
      | (rw [if_pos hk, if_neg (by omega)]; rfl)
      | (rw [if_neg hk, if_pos (by omega)]; rfl)
theorem alone_3 {n : Int} (h : n % 4 = 3) : alone n = 1 := by unfold alone; (repeat' split) <;> omega
theorem alone_1 {n : Int} (h : n % 4 = 1) : alone n = if n % 8 = 1 then 1 else -1 := by unfold alone; (repeat' split) <;> omega
theorem alone_2 {n s : Int} (h : n = 2 * s) (hs : s % 2 = 1) : alone n = if s % 4 = 1 then -1 else 1 := by unfold alone; (repeat' split) <;> omega
theorem e8_pm : e8 A C = 1 ∨ e8 A C = -1 := by unfold e8; split <;> simp
theorem rim_sign (F : Fm A H C n m) (hn : 0 < n) (ps : List Nat) (hps : ∀ p ∈ ps, Pr p) (hprod : ((nprod ps : Nat) : Int) = n) (t : Tch (-n) (m + n)) :
    sg (-n) (m + n) = alone n * (ps.map fun (p : Nat) => loc A C n p).prod := by
  have cm : Cop m n := by
    have h1 : Cop (m + n) n := by
      have : Int.gcd (-n) (m + n) = 1 := t.cop
      unfold Cop
      rw [Int.gcd_comm, ← Int.neg_gcd]; exact this
    unfold Cop at h1 ⊢
    rw [Int.gcd_add_self_left] at h1
    exact h1
  have hd : ∀ p ∈ ps, Pr p ∧ (p : Int) ∣ n := fun p hp => ⟨hps p hp, by
    rw [← hprod]; exact Int.natCast_dvd_natCast.mpr (dvd_nprod hp)⟩
  obtain ⟨k, s, e, os, cs, hq⟩ := split_primes F ps hd (by rw [hprod]; exact cm)
  rw [hprod] at e
  rw [hq]
  by_cases ho : n % 2 = 1
  · have k0 : k = 0 := by
      rcases Nat.eq_zero_or_pos k with z | z
      · exact z
      · exfalso
        obtain ⟨j, rfl⟩ : ∃ j, k = j + 1 := ⟨k - 1, by omega⟩
        have : n = 2 * (2 ^ j * s) := by rw [e, Int.pow_succ]; grind
        omega
    subst k0
    have es : s = n := by rw [e]; simp
    subst es
    rw [Int.pow_zero, Int.one_mul]
    unfold sg chi
    rw [if_pos (by omega), Int.natAbs_neg]
    have hab : (s.natAbs : Int) = s := by omega
    rw [hab]
    have jm : J (m + s) s = J m s := J_congr ⟨1, by omega⟩
    have cms : Cop (m + s) s := by unfold Cop; rw [Int.gcd_add_self_left]; exact cm
    by_cases h4 : s % 4 = 3
    · rw [if_pos (by omega), jm, alone_3 h4, Int.one_mul]
    · rw [if_neg (by omega), J_mul os (cop_two ho) cms, jm, J_two os, alone_1 (by omega)]
      congr 1
      by_cases h8 : s % 8 = 1
      · rw [if_pos h8, if_pos (Or.inl h8)]
      · rw [if_neg h8, if_neg (fun z : s % 8 = 1 ∨ s % 8 = 7 => by omega)]
  · have hk : 1 ≤ k := by
      rcases Nat.eq_zero_or_pos k with z | z
      · subst z
        have := os.odd
        have : n = s := by rw [e]; simp
        omega
      · exact z
    have ea : -n = 2 ^ k * (-s) := by rw [e]; grind
    have t' : Tch (2 ^ k * (-s)) (m + n) := ea ▸ t
    obtain ⟨hw, cw, hc⟩ := chi_even hk (by have := os.odd; omega) t'
    have hsg : sg (-n) (m + n) = chi (2 ^ k * (-s)) (m + n) := by unfold sg; rw [if_neg (by omega), ea]
    rw [hsg, hc, Int.natAbs_neg]
    have hab : (s.natAbs : Int) = s := by have := os.pos; omega
    rw [hab]
    have jm : J (m + n) s = J m s := J_congr ⟨2 ^ k, by rw [e]; grind⟩
    rw [jm, ← Int.mul_assoc]
    congr 1
    have hmo : m % 2 = 1 := by omega
    by_cases h1 : k = 1
    · subst h1
      have e2 : n = 2 * s := by rw [e]; simp
      have h4 : ¬ n % 4 = 0 := by have := os.odd; omega
      have hso := os.odd
      rw [if_pos rfl, if_neg h4]
      rw [alone_2 e2 hso]
      by_cases h5 : s % 4 = 1
      · rw [if_neg (fun z : -s % 4 = 1 => by omega), if_pos h5]; rfl
      · rw [if_pos (show -s % 4 = 1 by omega), if_neg h5]; rfl
    · have h4 : n % 4 = 0 := by
        obtain ⟨j, rfl⟩ : ∃ j, k = j + 2 := ⟨k - 2, by omega⟩
        have : n = 4 * (2 ^ j * s) := by
          rw [e, Int.pow_add]
          have : (2 : Int) ^ 2 = 4 := rfl
          rw [this]; grind
        omega
      rw [if_neg h1, if_pos h4, pow_pm e8_pm]
      have ha : alone n = 1 := by unfold alone; rw [if_pos (.inl h4)]
      rw [ha, Int.one_mul]
      by_cases h2 : k % 2 = 1
      · rw [if_pos h2, if_pos h2]
        have h8 : n % 8 = 0 := by
          have := pow_two_mod k (by omega)
          obtain ⟨q, hq⟩ : ∃ q, (2 : Int) ^ k = 8 * q := ⟨2 ^ k / 8, by omega⟩
          have : n = 8 * (q * s) := by rw [e, hq]; grind
          omega
        obtain ⟨cb, S, T, eb⟩ := F.beside pr_two (Int.dvd_of_emod_eq_zero (by omega))
        have hbo : bes A C 2 % 2 = 1 := by
          have cb' : Int.gcd (bes A C 2) 2 = 1 := cb
          rcases Int.emod_two_eq (bes A C 2) with z | z
          · exfalso
            have := cop_iff.mp cb' 2 (Int.dvd_of_emod_eq_zero z) (Int.dvd_refl 2)
            have := Int.emod_eq_zero_of_dvd this
            omega
          · exact z
        have hb : m * bes A C 2 = S * S + n * n * (T * T) := eb
        obtain ⟨q, hq8⟩ : ∃ q, n = 8 * q := ⟨n / 8, by omega⟩
        have hb8 : m * bes A C 2 - S * S = 8 * (q * (8 * q * (T * T))) := by rw [hb, hq8]; grind
        have hmb : (m * bes A C 2) % 2 = 1 := by rw [Int.mul_emod, hmo, hbo]; rfl
        have hS : S % 2 = 1 := by
          rcases Int.emod_two_eq S with z | z
          · exfalso
            have := sq_even S z
            omega
          · exact z
        have S8 := sq_mod8 S hS
        have m8 : (m * bes A C 2) % 8 = 1 := by omega
        have hm4 := t.odd_sum (by omega)
        have hsum : -n + (m + n) = m := by omega
        rw [hsum] at hm4
        have hw0 : 0 < m := by have := t.pos; omega
        have hwa : ((m + n).natAbs : Int) = m + n := by omega
        rw [hwa, J_two ⟨by omega, hw⟩]
        unfold e8
        rw [Int.mul_emod] at m8
        generalize bes A C 2 = B at *
        rcases (by omega : m % 8 = 1 ∨ m % 8 = 5) with y | y <;> rcases od_mod8 hbo with x | x | x | x <;> rw [x, y] at m8 <;> rw [x] <;> first | (exfalso; revert m8; decide) | skip
        · rw [if_pos (by omega), if_pos rfl]
        · rw [if_neg (by omega), if_neg (by decide)]
      · rw [if_neg h2, if_neg h2]
end
end Bs

/-! N6 -/
set_option maxHeartbeats 1000000
namespace Bs
/-! the first coprime circle of a fan comes soon -/
def low6 : List Nat := [2, 3, 5, 7, 11, 13]
def W6 : Nat := 30030
/-- how many of so many places one prime may kill at most -/
def kill (p : Nat) : Nat := if p < 128 then (if p ∈ [17, 19, 23, 29, 31, 37, 41, 43, 47, 53, 59, 61, 67, 71, 73, 79, 83, 89, 97, 101, 103, 107, 109, 113, 127] then (558 + p - 1) / p else 0) else 5
theorem isPr_small : ∀ p : Fin 128, (2 ≤ p.val ∧ ∀ d : Fin 128, d.val ∣ p.val → d.val = 1 ∨ d.val = p.val) → p.val ∈ low6 ∨ p.val ∈ [17, 19, 23, 29, 31, 37, 41, 43, 47, 53, 59, 61, 67, 71, 73, 79, 83, 89, 97, 101, 103, 107, 109, 113, 127] := by
  decide +kernel
theorem Pr.small {p : Nat} (h : Pr p) (hl : p < 128) (hn : p ∉ low6) : p ∈ [17, 19, 23, 29, 31, 37, 41, 43, 47, 53, 59, 61, 67, 71, 73, 79, 83, 89, 97, 101, 103, 107, 109, 113, 127] := by
  rcases isPr_small ⟨p, hl⟩ ⟨h.two, fun d hd => h.only d.val hd⟩ with e | e
  · exact absurd e hn
  · exact e
theorem low6_pr : ∀ p ∈ low6, Pr p := by
  have go : ∀ p : Nat, p < 128 → 2 ≤ p → (∀ d : Fin 128, d.val ∣ p → d.val = 1 ∨ d.val = p) → Pr p := fun p h1 h2 h3 => ⟨h2, fun d hd => by
    have := Nat.le_of_dvd (by omega) hd
    exact h3 ⟨d, by omega⟩ hd⟩
  intro p hp
  simp only [low6, List.mem_cons, List.not_mem_nil, or_false] at hp
  rcases hp with e | e | e | e | e | e <;> subst e <;> exact go _ (by decide) (by decide) (by decide +kernel)
def nsum (l : List Nat) : Nat := l.foldr (· + ·) 0
theorem nsum_cons (a : Nat) (l : List Nat) : nsum (a :: l) = a + nsum l := rfl
theorem nsum_le {α : Type} (l : List α) (f g : α → Nat) (h : ∀ x ∈ l, f x ≤ g x) : nsum (l.map f) ≤ nsum (l.map g) := by
  induction l with
  | nil => exact Nat.le_refl _
  | cons a l ih =>
    simp only [List.map_cons, nsum_cons]
    have := h a List.mem_cons_self
    have := ih fun x hx => h x (List.mem_cons_of_mem _ hx)
    omega
theorem nsum_add {α : Type} (l : List α) (f g : α → Nat) : nsum (l.map fun x => f x + g x) = nsum (l.map f) + nsum (l.map g) := by
  induction l with
  | nil => rfl
  | cons a l ih => simp only [List.map_cons, nsum_cons, ih]; omega
theorem nsum_swap {α β : Type} (l : List α) (m : List β) (f : α → β → Nat) : nsum (l.map fun x => nsum (m.map fun y => f x y)) = nsum (m.map fun y => nsum (l.map fun x => f x y)) := by
  induction l with
  | nil =>
    induction m with
    | nil => rfl
    | cons b m ih => simp only [List.map_nil, List.map_cons, nsum_cons] at ih ⊢; rw [← ih]; rfl
  | cons a l ih => simp only [List.map_cons, nsum_cons]; rw [nsum_add, ih]
theorem nsum_one {α : Type} (l : List α) : nsum (l.map fun _ => 1) = l.length := by
  induction l with
  | nil => rfl
  | cons a l ih => rw [List.map_cons, nsum_cons, ih, List.length_cons]; omega
theorem nsum_mem {α : Type} {l : List α} {f : α → Nat} {x : α} (h : x ∈ l) : f x ≤ nsum (l.map f) := by
  induction l with
  | nil => cases h
  | cons a l ih =>
    rw [List.map_cons, nsum_cons]
    rcases List.mem_cons.mp h with e | e
    · rw [e]; omega
    · have := ih e; omega
/-- in one class by p: so many at most -/
theorem count_mod (p r : Nat) (hp : 0 < p) : ∀ M : Nat, nsum ((List.range M).map fun j => if j % p = r then 1 else 0) * p ≤ M + p - 1 - (if r < p then r else 0) + (if r < p then 0 else p) := by
  intro M
  by_cases hr : r < p
  · rw [if_pos hr, if_pos hr]
    -- count of j below M with j % p = r is (M + p - 1 - r) / p
    have key : ∀ M : Nat, nsum ((List.range M).map fun j => if j % p = r then 1 else 0) = (M + p - 1 - r) / p := by
      intro M
      induction M with
      | zero =>
        rw [Nat.div_eq_of_lt (by omega)]; rfl
      | succ M ih =>
        have hs : nsum ((List.range (M + 1)).map fun j => if j % p = r then 1 else 0) = nsum ((List.range M).map fun j => if j % p = r then 1 else 0) + if M % p = r then 1 else 0 := by
          rw [List.range_succ, List.map_append]
          generalize (List.range M).map _ = l
          induction l with
          | nil => simp [nsum]
          | cons a l ih2 => rw [List.cons_append, nsum_cons, nsum_cons, ih2]; omega
        rw [hs, ih]
        have hM := Nat.div_add_mod M p
        have hm := Nat.mod_lt M hp
        generalize hq : M / p = q at *
        generalize ht : M % p = t at *
        have e1 : M + p - 1 - r = p * q + (t + p - 1 - r) := by omega
        have e2 : M + 1 + p - 1 - r = p * q + (t + p - r) := by omega
        rw [e1, e2, Nat.mul_add_div hp, Nat.mul_add_div hp]
        by_cases h : t = r
        · rw [if_pos h]
          have h1 : (t + p - 1 - r) / p = 0 := Nat.div_eq_of_lt (by omega)
          have h2 : (t + p - r) / p = 1 := by
            have : t + p - r = p := by omega
            rw [this, Nat.div_self hp]
          omega
        · rw [if_neg h]
          by_cases h' : t < r
          · have h1 : (t + p - 1 - r) / p = 0 := Nat.div_eq_of_lt (by omega)
            have h2 : (t + p - r) / p = 0 := Nat.div_eq_of_lt (by omega)
            omega
          · have h1 : (t + p - 1 - r) / p = 1 := by
              have : t + p - 1 - r = p * 1 + (t - 1 - r) := by omega
              rw [this, Nat.mul_add_div hp, Nat.div_eq_of_lt (by omega)]
            have h2 : (t + p - r) / p = 1 := by
              have : t + p - r = p * 1 + (t - r) := by omega
              rw [this, Nat.mul_add_div hp, Nat.div_eq_of_lt (by omega)]
            omega
    rw [key]
    have := Nat.div_mul_le_self (M + p - 1 - r) p
    omega
  · have : nsum ((List.range M).map fun j => if j % p = r then 1 else 0) = 0 := by
      have : (List.range M).map (fun j => if j % p = r then 1 else 0) = (List.range M).map fun _ => 0 := List.map_congr_left fun j _ => by
        rw [if_neg]
        have := Nat.mod_lt j hp
        omega
      rw [this]
      generalize List.range M = l
      induction l with
      | nil => rfl
      | cons a l ih => rw [List.map_cons, nsum_cons, ih]
    rw [this]; omega
theorem count_class {f : Nat → Prop} [DecidablePred f] {p M : Nat} (hp : 0 < p) (h : ∀ i j, f i → f j → i % p = j % p) : nsum ((List.range M).map fun j => if f j then 1 else 0) ≤ (M + p - 1) / p := by
  by_cases he : ∃ i, f i
  · obtain ⟨i, hi⟩ := he
    have h1 : nsum ((List.range M).map fun j => if f j then 1 else 0) ≤ nsum ((List.range M).map fun j => if j % p = i % p then 1 else 0) := nsum_le _ _ _ fun j _ => by
      by_cases hj : f j
      · rw [if_pos hj, if_pos (h j i hj hi)]; exact Nat.le_refl _
      · rw [if_neg hj]; exact Nat.zero_le _
    have h2 := count_mod p (i % p) hp M
    have hm := Nat.mod_lt i hp
    rw [if_pos hm, if_pos hm] at h2
    refine Nat.le_trans h1 ((Nat.le_div_iff_mul_le hp).mpr (by omega))
  · have : nsum ((List.range M).map fun j => if f j then 1 else 0) = 0 := by
      have : (List.range M).map (fun j => if f j then 1 else 0) = (List.range M).map fun _ => 0 := List.map_congr_left fun j _ => by
        rw [if_neg fun z => he ⟨j, z⟩]
      rw [this]
      generalize List.range M = l
      induction l with
      | nil => rfl
      | cons a l ih => rw [List.map_cons, nsum_cons, ih]
    rw [this]; exact Nat.zero_le _
theorem sub_sum {g : Nat → Nat} : ∀ {l l' : List Nat}, l.Nodup → (∀ x ∈ l, x ∈ l') → nsum (l.map g) ≤ nsum (l'.map g)
  | [], _, _, _ => Nat.zero_le _
  | a :: l, l', hn, hs => by
    have ha : a ∈ l' := hs a List.mem_cons_self
    have hn' := List.nodup_cons.mp hn
    have h1 : ∀ x ∈ l, x ∈ l'.erase a := fun x hx => (List.mem_erase_of_ne (fun e : x = a => hn'.1 (e ▸ hx))).mpr (hs x (List.mem_cons_of_mem _ hx))
    have h2 := sub_sum (g := g) hn'.2 h1
    have h3 : nsum (l'.map g) = g a + nsum ((l'.erase a).map g) := by
      have p := List.perm_cons_erase ha
      have : ∀ {x y : List Nat}, x.Perm y → nsum x = nsum y := fun p => by
        induction p with
        | nil => rfl
        | cons x _ ih => rw [nsum_cons, nsum_cons, ih]
        | swap x y l => simp only [nsum_cons]; omega
        | trans _ _ i1 i2 => rw [i1, i2]
      rw [this (p.map g), List.map_cons, nsum_cons]
    rw [List.map_cons, nsum_cons, h3]
    omega
theorem nprod_dvd {N : Int} : ∀ {l : List Nat}, l.Nodup → (∀ q ∈ l, Pr q ∧ (q : Int) ∣ N) → ((nprod l : Nat) : Int) ∣ N
  | [], _, _ => ⟨N, by simp [nprod]⟩
  | p :: l, hn, hl => by
    have hn' := List.nodup_cons.mp hn
    obtain ⟨k, hk⟩ := nprod_dvd hn'.2 fun q hq => hl q (List.mem_cons_of_mem _ hq)
    have ⟨pp, pN⟩ := hl p List.mem_cons_self
    rw [hk] at pN
    have hnd : ¬ (p : Int) ∣ ((nprod l : Nat) : Int) := fun z => hn'.1 (prime_dvd_nprod pp (fun q hq => (hl q (List.mem_cons_of_mem _ hq)).1) z)
    obtain ⟨r, hr⟩ := (pp.cop hnd).dvd pN
    exact ⟨r, by rw [hk, hr, nprod_cons, Int.natCast_mul]; grind⟩
theorem pow_le_nprod : ∀ {l : List Nat}, (∀ q ∈ l, 128 ≤ q) → 128 ^ l.length ≤ nprod l
  | [], _ => Nat.le_refl _
  | q :: l, h => by
    rw [nprod_cons, List.length_cons, Nat.pow_succ, Nat.mul_comm]
    exact Nat.mul_le_mul (h q List.mem_cons_self) (pow_le_nprod fun x hx => h x (List.mem_cons_of_mem _ hx))
theorem kill_small : nsum ((List.range 128).map kill) = 299 := by decide +kernel
theorem soon {f : Int → Int} {N : Int} (C : Cls f N) (h0 : N ≠ 0) (hb : N.natAbs < 2 ^ 256) : ∃ k : Nat, k < 16760000 ∧ Cop (f k) N := by
  classical
  -- the small primes first
  let l6 := low6.filter fun (q : Nat) => decide ((q : Int) ∣ N)
  have n6 : l6.Nodup := List.Pairwise.filter _ (show low6.Nodup by decide)
  obtain ⟨r, hr, hgood⟩ := sieve C l6 n6 fun q hq => ⟨low6_pr q (List.mem_filter.mp hq).1, of_decide_eq_true (List.mem_filter.mp hq).2⟩
  have hr' : r < 30030 := by
    have h1 : nprod l6 ≤ nprod low6 := by
      have go : ∀ l : List Nat, (∀ q ∈ l, 0 < q) → nprod (l.filter fun (q : Nat) => decide ((q : Int) ∣ N)) ≤ nprod l := by
        intro l
        induction l with
        | nil => intro _; exact Nat.le_refl _
        | cons a l ih =>
          intro h
          have := ih fun q hq => h q (List.mem_cons_of_mem _ hq)
          have ha := h a List.mem_cons_self
          rw [List.filter_cons]
          split
          · rw [nprod_cons, nprod_cons]; exact Nat.mul_le_mul_left _ this
          · rw [nprod_cons]
            have : 1 * nprod l ≤ a * nprod l := Nat.mul_le_mul_right _ ha
            omega
      exact go _ (by decide)
    have h2 : nprod low6 = 30030 := rfl
    omega
  have good6 : ∀ (j : Nat) (q : Nat), q ∈ low6 → (q : Int) ∣ N → ¬ (q : Int) ∣ f ((r + 30030 * j : Nat) : Int) := fun j q hq hN hd => by
    refine hgood q (List.mem_filter.mpr ⟨hq, decide_eq_true hN⟩) ?_
    have dq : (q : Int) ∣ ((30030 * j : Nat) : Int) := by
      have : q ∣ 30030 := by
        simp only [low6, List.mem_cons, List.not_mem_nil, or_false] at hq
        rcases hq with e | e | e | e | e | e <;> subst e <;> decide
      exact Int.natCast_dvd_natCast.mpr (Nat.dvd_trans this (Nat.dvd_mul_right _ _))
    have := C.step q r _ dq
    have e : f (r : Int) = f ((r + 30030 * j : Nat) : Int) - (f ((r : Int) + ((30030 * j : Nat) : Int)) - f r) := by rw [Int.natCast_add]; omega
    rw [e]; exact Int.dvd_sub hd this
  by_cases hex : ∃ j : Nat, j < 558 ∧ Cop (f ((r + 30030 * j : Nat) : Int)) N
  · obtain ⟨j, hj, hc⟩ := hex
    exact ⟨r + 30030 * j, by omega, hc⟩
  · exfalso
    let P := (List.range (N.natAbs + 1)).filter fun (q : Nat) => decide (Pr q ∧ (q : Int) ∣ N ∧ q ∉ low6)
    have nP : P.Nodup := List.Pairwise.filter _ List.nodup_range
    have hP : ∀ q ∈ P, Pr q ∧ (q : Int) ∣ N ∧ q ∉ low6 := fun q hq => of_decide_eq_true (List.mem_filter.mp hq).2
    have cover : ∀ j, j < 558 → 1 ≤ nsum (P.map fun (p : Nat) => if (p : Int) ∣ f ((r + 30030 * j : Nat) : Int) then 1 else 0) := fun j hj => by
      have hb := fun z => hex ⟨j, hj, z⟩
      obtain ⟨p, hp, h1, h2⟩ : ∃ p : Nat, Pr p ∧ (p : Int) ∣ N ∧ (p : Int) ∣ f ((r + 30030 * j : Nat) : Int) := Classical.byContradiction fun z =>
        hb (cop_of_no_prime h0 fun p hp h1 h2 => z ⟨p, hp, h1, h2⟩)
      have hm : p ∈ P := List.mem_filter.mpr ⟨List.mem_range.mpr (by
        have hd : p ∣ N.natAbs := Int.natCast_dvd_natCast.mp (Int.dvd_natAbs.mpr h1)
        have := Nat.le_of_dvd (show 0 < N.natAbs by omega) hd
        omega), decide_eq_true ⟨hp, h1, fun z => good6 j p z h1 h2⟩⟩
      have := nsum_mem (f := fun p : Nat => if (p : Int) ∣ f ((r + 30030 * j : Nat) : Int) then 1 else 0) hm
      simp only [if_pos h2] at this
      exact this
    have big : 558 ≤ nsum (P.map fun (p : Nat) => nsum ((List.range 558).map fun j => if (p : Int) ∣ f ((r + 30030 * j : Nat) : Int) then 1 else 0)) := by
      rw [← nsum_swap]
      have := nsum_le (List.range 558) (fun _ => 1) _ fun j hj => cover j (List.mem_range.mp hj)
      rw [nsum_one, List.length_range] at this
      exact this
    have each : ∀ p ∈ P, nsum ((List.range 558).map fun j => if (p : Int) ∣ f ((r + 30030 * j : Nat) : Int) then 1 else 0) ≤ kill p := fun p hp => by
      obtain ⟨pp, pN, pl⟩ := hP p hp
      have p2 := pp.two
      have cls : ∀ i j : Nat, (p : Int) ∣ f ((r + 30030 * i : Nat) : Int) → (p : Int) ∣ f ((r + 30030 * j : Nat) : Int) → i % p = j % p := fun i j hi hj => by
        have := C.one p pp pN _ _ hi hj
        have e : ((r + 30030 * i : Nat) : Int) - ((r + 30030 * j : Nat) : Int) = ((30030 : Nat) : Int) * ((i : Int) - j) := by omega
        rw [e] at this
        have nd : ¬ (p : Int) ∣ ((30030 : Nat) : Int) := fun z => pl (prime_dvd_nprod pp low6_pr z)
        have d := (pp.cop nd).dvd this
        have : ((i : Int) % p) = (j : Int) % p := (Int.emod_eq_emod_iff_emod_sub_eq_zero).mpr (Int.emod_eq_zero_of_dvd d)
        rw [← Int.natCast_emod, ← Int.natCast_emod] at this
        omega
      have h1 := count_class (f := fun j : Nat => (p : Int) ∣ f ((r + 30030 * j : Nat) : Int)) (M := 558) (by omega : 0 < p) cls
      refine Nat.le_trans h1 ?_
      unfold kill
      by_cases h : p < 128
      · rw [if_pos h, if_pos (pp.small h pl)]; exact Nat.le_refl _
      · rw [if_neg h]
        have : (558 + p - 1) / p < 6 := (Nat.div_lt_iff_lt_mul (by omega)).mpr (by omega)
        omega
    have h1 := nsum_le P _ _ each
    -- the small and the great primes
    have part : ∀ l : List Nat, nsum (l.map kill) = nsum ((l.filter fun p => decide (p < 128)).map kill) + 5 * (l.filter fun p => decide (¬ p < 128)).length := by
      intro l
      induction l with
      | nil => rfl
      | cons a l ih =>
        rw [List.map_cons, nsum_cons, ih, List.filter_cons, List.filter_cons]
        by_cases h : a < 128
        · simp only [h, decide_true, if_true, not_true, decide_false, Bool.false_eq_true, if_false, List.map_cons, nsum_cons]; omega
        · have hk : kill a = 5 := by unfold kill; rw [if_neg h]
          simp only [h, decide_false, Bool.false_eq_true, if_false, not_false_eq_true, decide_true, if_true, List.length_cons]; omega
    have h2 : nsum ((P.filter fun p => decide (p < 128)).map kill) ≤ 299 := by
      rw [← kill_small]
      exact sub_sum (List.Pairwise.filter _ nP) fun x hx => List.mem_range.mpr (of_decide_eq_true (List.mem_filter.mp hx).2)
    have h3 : (P.filter fun p => decide (¬ p < 128)).length ≤ 36 := by
      have hd := nprod_dvd (N := N) (List.Pairwise.filter (fun p => decide (¬ p < 128)) nP) fun q hq => ⟨(hP q (List.mem_filter.mp hq).1).1, (hP q (List.mem_filter.mp hq).1).2.1⟩
      have hd' := Nat.le_of_dvd (by omega) (Int.natCast_dvd_natCast.mp (Int.dvd_natAbs.mpr hd))
      have hp := pow_le_nprod (l := P.filter fun p => decide (¬ p < 128)) fun q hq => by
        have := of_decide_eq_true (List.mem_filter.mp hq).2
        omega
      rcases Nat.lt_or_ge (P.filter fun p => decide (¬ p < 128)).length 37 with z | z
      · omega
      · exfalso
        have h5 : 128 ^ 37 ≤ 128 ^ (P.filter fun p => decide (¬ p < 128)).length := Nat.pow_le_pow_right (by decide) z
        have h6 : (2 : Nat) ^ 256 ≤ 128 ^ 37 := by decide +kernel
        omega
    have := part P
    omega
end Bs

/-! N7 -/
set_option maxHeartbeats 1000000
namespace Bs
/-! dividing out primes -/
/-- no divisor below p, but 1 -/
def NoDiv (L p : Nat) : Prop := ∀ d, 2 ≤ d → d < p → ¬ d ∣ L
theorem NoDiv.two (L : Nat) : NoDiv L 2 := fun d h1 h2 => by omega
theorem NoDiv.le {L p : Nat} (h : NoDiv L p) (hL : 2 ≤ L) : p ≤ L := by
  rcases Nat.lt_or_ge L p with h1 | h1
  · exact absurd (Nat.dvd_refl L) (h L hL h1)
  · exact h1
theorem NoDiv.dvd {L M p : Nat} (h : NoDiv L p) (d : M ∣ L) : NoDiv M p := fun x h1 h2 h3 => h x h1 h2 (Nat.dvd_trans h3 d)
theorem NoDiv.next {L p : Nat} (h : NoDiv L p) (n : ¬ p ∣ L) : NoDiv L (p + 1) := fun x h1 h2 h3 => by
  by_cases e : x = p
  · exact n (e ▸ h3)
  · exact h x h1 (by omega) h3
theorem NoDiv.pr_dvd {L p : Nat} (h : NoDiv L p) (h2 : 2 ≤ p) (d : p ∣ L) : Pr p := ⟨h2, fun x hx => by
  rcases Nat.lt_or_ge x p with h3 | h3
  · rcases Nat.lt_or_ge x 2 with h4 | h4
    · have h0 : x ≠ 0 := fun z => by
        subst z
        have := Nat.eq_zero_of_zero_dvd hx
        omega
      omega
    · exact absurd (Nat.dvd_trans hx d) (h x h4 h3)
  · have := Nat.le_of_dvd (by omega) hx
    omega⟩
theorem NoDiv.pr_self {L p : Nat} (h : NoDiv L p) (hL : 2 ≤ L) (h2 : L < p * p) : Pr L := ⟨hL, fun x hx => by
  obtain ⟨y, e⟩ := hx
  by_cases h1 : x = 1
  · exact .inl h1
  by_cases h3 : x = L
  · exact .inr h3
  exfalso
  have hx0 : x ≠ 0 := fun z => by subst z; omega
  have hy0 : y ≠ 0 := fun z => by subst z; omega
  have hy1 : y ≠ 1 := fun z => by subst z; omega
  have hxp : p ≤ x := Nat.le_of_not_lt fun z => h x (by omega) z ⟨y, e⟩
  have hyp : p ≤ y := Nat.le_of_not_lt fun z => h y (by omega) z ⟨x, by rw [e, Nat.mul_comm]⟩
  have := Nat.mul_le_mul hxp hyp
  omega⟩
theorem Pr.noDiv {p : Nat} (h : Pr p) : NoDiv p p := fun d h1 h2 h3 => by
  rcases h.only d h3 with e | e <;> omega
/-- primes with their powers -/
def pprod : List (Nat × Nat) → Nat
  | [] => 1
  | f :: r => f.1 ^ f.2 * pprod r
theorem pprod_snoc : ∀ (l : List (Nat × Nat)) (f : Nat × Nat), pprod (l ++ [f]) = pprod l * f.1 ^ f.2
  | [], f => by simp [pprod]
  | g :: l, f => by
    show g.1 ^ g.2 * pprod (l ++ [f]) = g.1 ^ g.2 * pprod l * f.1 ^ f.2
    rw [pprod_snoc l f, Nat.mul_assoc]
structure PF (n : Nat) (fs : List (Nat × Nat)) : Prop where
  prod : pprod fs = n
  pr : ∀ f ∈ fs, Pr f.1 ∧ 0 < f.2
  nd : (fs.map (·.1)).Nodup
def flat (fs : List (Nat × Nat)) : List Nat := fs.flatMap fun f => List.replicate f.2 f.1
theorem nprod_replicate (p : Nat) : ∀ e : Nat, nprod (List.replicate e p) = p ^ e
  | 0 => rfl
  | e + 1 => by
    rw [List.replicate_succ, nprod_cons, nprod_replicate p e, Nat.pow_succ, Nat.mul_comm]
theorem nprod_append : ∀ l m : List Nat, nprod (l ++ m) = nprod l * nprod m
  | [], m => by simp [nprod]
  | a :: l, m => by
    rw [List.cons_append, nprod_cons, nprod_cons, nprod_append l m, Nat.mul_assoc]
theorem nprod_flat : ∀ fs : List (Nat × Nat), nprod (flat fs) = pprod fs
  | [] => rfl
  | f :: r => by
    show nprod (List.replicate f.2 f.1 ++ flat r) = _
    rw [nprod_append, nprod_replicate, nprod_flat r]
    rfl
theorem flat_mem {fs : List (Nat × Nat)} {p : Nat} (h : p ∈ flat fs) : ∃ f ∈ fs, p = f.1 := by
  obtain ⟨f, hf, hp⟩ := List.mem_flatMap.mp h
  exact ⟨f, hf, List.eq_of_mem_replicate hp⟩
theorem PF.flat_pr {n : Nat} {fs : List (Nat × Nat)} (F : PF n fs) : ∀ p ∈ flat fs, Pr p := fun p hp => by
  obtain ⟨f, hf, rfl⟩ := flat_mem hp
  exact (F.pr f hf).1
theorem pprod_dvd : ∀ {fs : List (Nat × Nat)} {f : Nat × Nat}, f ∈ fs → f.1 ^ f.2 ∣ pprod fs
  | g :: r, f, h => by
    rcases List.mem_cons.mp h with rfl | h
    · exact Nat.dvd_mul_right _ _
    · exact Nat.dvd_trans (pprod_dvd h) (Nat.dvd_mul_left _ _)
theorem PF.dvd {n : Nat} {fs : List (Nat × Nat)} (F : PF n fs) {f : Nat × Nat} (h : f ∈ fs) : f.1 ∣ n := by
  have h1 := pprod_dvd h
  rw [F.prod] at h1
  obtain ⟨_, h2⟩ := F.pr f h
  exact Nat.dvd_trans (Nat.dvd_trans (Nat.dvd_refl _) ⟨f.1 ^ (f.2 - 1), by rw [← Nat.pow_succ']; congr 1; omega⟩) h1
/-- the local signs, by odd powers -/
theorem loc_prod {A C n : Int} : ∀ (fs : List (Nat × Nat)), (∀ f ∈ fs, loc A C n f.1 = 1 ∨ loc A C n f.1 = -1) →
    ((flat fs).map fun (p : Nat) => loc A C n p).prod = (fs.map fun f => if f.2 % 2 = 1 then loc A C n f.1 else 1).prod
  | [], _ => rfl
  | f :: r, h => by
    have ih := loc_prod r fun g hg => h g (List.mem_cons_of_mem _ hg)
    have hf := h f List.mem_cons_self
    show ((List.replicate f.2 f.1 ++ flat r).map fun (p : Nat) => loc A C n p).prod = _
    rw [List.map_append, List.prod_append, ih, List.map_cons, List.prod_cons]
    congr 1
    rw [List.map_replicate]
    have : ∀ k : Nat, (List.replicate k (loc A C n f.1)).prod = (loc A C n f.1) ^ k := by
      intro k
      induction k with
      | zero => simp
      | succ k ih => rw [List.replicate_succ, List.prod_cons, ih, Int.pow_succ, Int.mul_comm]
    rw [this, pow_pm hf]
end Bs

/-! N8 -/
/-! least forms -/
namespace Bs
/-- no integer above 1 divides all three -/
def Prim3 (A B C : Int) : Prop := ∀ c : Int, c ∣ A → c ∣ B → c ∣ C → c ∣ 1
theorem prim3_iff {A B C : Int} : Prim3 A B C ↔ Int.gcd (Int.gcd A B) C = 1 := by
  constructor
  · intro h
    have h1 := h (Int.gcd ((Int.gcd A B : Nat) : Int) C : Nat) (Int.dvd_trans (Int.gcd_dvd_left ..) (Int.gcd_dvd_left ..)) (Int.dvd_trans (Int.gcd_dvd_left ..) (Int.gcd_dvd_right ..)) (Int.gcd_dvd_right ..)
    have h2 : Int.gcd ((Int.gcd A B : Nat) : Int) C ∣ 1 := Int.natCast_dvd_natCast.mp h1
    exact Nat.dvd_one.mp h2
  · intro h c h1 h2 h3
    have h4 : c ∣ ((Int.gcd A B : Nat) : Int) := Int.dvd_coe_gcd h1 h2
    have h5 := Int.dvd_coe_gcd h4 h3
    rw [h] at h5
    exact h5
structure LeastF (A B C : Int) (n : Nat) : Prop where
  a0 : 0 < A
  det : A * C - B * B = (n : Int) * n
  low : -A < 2 * B
  high : 2 * B ≤ A
  ac : A ≤ C
  prim : Prim3 A B C
theorem sq_le {x y : Int} (h1 : -y ≤ x) (h2 : x ≤ y) : x * x ≤ y * y := by
  have := Int.mul_nonneg (show 0 ≤ y - x by omega) (show 0 ≤ y + x by omega)
  grind
theorem LeastF.small {A B C : Int} {n : Nat} (F : LeastF A B C n) : 3 * (A * A) ≤ 4 * ((n : Int) * n) := by
  have h1 : (2 * B) * (2 * B) ≤ A * A := sq_le (by have := F.low; omega) F.high
  have h2 : A * A ≤ A * C := Int.mul_le_mul_of_nonneg_left F.ac (by have := F.a0; omega)
  have h3 := F.det
  grind
theorem LeastF.cle {A B C : Int} {n : Nat} (F : LeastF A B C n) : C ≤ 2 * ((n : Int) * n) := by
  have h1 : (2 * B) * (2 * B) ≤ A * A := sq_le (by have := F.low; omega) F.high
  have h2 : A * A ≤ A * C := Int.mul_le_mul_of_nonneg_left F.ac (by have := F.a0; omega)
  have h3 := F.det
  have h4 : 1 * C ≤ A * C := Int.mul_le_mul_of_nonneg_right (by have := F.a0; omega) (by have := F.a0; have := F.ac; omega)
  grind
/-- a turn of the way down -/
theorem norm_half {A B : Int} (h : 0 < A) : -A < 2 * (B - -((A - 2 * B) / (2 * A)) * A) ∧ 2 * (B - -((A - 2 * B) / (2 * A)) * A) ≤ A := by
  have h1 := Int.emod_nonneg (A - 2 * B) (show 2 * A ≠ 0 by omega)
  have h2 := Int.emod_lt_of_pos (A - 2 * B) (show 0 < 2 * A by omega)
  have h3 := Int.mul_ediv_add_emod (A - 2 * B) (2 * A)
  generalize (A - 2 * B) / (2 * A) = q at *
  generalize (A - 2 * B) % (2 * A) = r at *
  have e : 2 * (B - -q * A) = 2 * B + 2 * A * q := by grind
  rw [e]
  omega
theorem norm_det (A B C t : Int) : A * (C - 2 * t * B + t * t * A) - (B - t * A) * (B - t * A) = A * C - B * B := by grind
theorem Prim3.norm {A B C t : Int} (h : Prim3 A B C) : Prim3 A (B - t * A) (C - 2 * t * B + t * t * A) := fun c h1 h2 h3 => by
  have hB : c ∣ B := by
    have := Int.dvd_add h2 (Int.dvd_mul_of_dvd_right h1 : c ∣ t * A)
    have e : B - t * A + t * A = B := by omega
    rwa [e] at this
  have hC : c ∣ C := by
    have d1 : c ∣ 2 * t * B := Int.dvd_mul_of_dvd_right hB
    have d2 : c ∣ t * t * A := Int.dvd_mul_of_dvd_right h1
    have := Int.dvd_sub (Int.dvd_add h3 d1) d2
    have e : C - 2 * t * B + t * t * A + 2 * t * B - t * t * A = C := by omega
    rwa [e] at this
  exact h c h1 hB hC
theorem Prim3.turn {A B C : Int} (h : Prim3 A B C) : Prim3 C (-B) A := fun c h1 h2 h3 => h c h3 (Int.dvd_neg.mp h2) h1
theorem pos_of_det {A B C : Int} {n : Nat} (h : 0 < A) (d : A * C - B * B = (n : Int) * n) (hn : 0 < n) : 0 < C := by
  have h1 : 0 < (n : Int) * n := Int.mul_pos (by omega) (by omega)
  have h2 := sq_nonneg B
  rcases Int.lt_or_le 0 C with h3 | h3
  · exact h3
  · have := Int.mul_nonpos_of_nonneg_of_nonpos (Int.le_of_lt h) h3
    omega
theorem ediv_abs (a b : Int) (hb : 0 < b) : (a / b).natAbs ≤ a.natAbs := by
  have h1 := Int.emod_nonneg a (show b ≠ 0 by omega)
  have h2 := Int.emod_lt_of_pos a hb
  have h3 := Int.mul_ediv_add_emod a b
  rcases Int.lt_or_le (a / b) 0 with h | h
  · have h4 : b * (a / b + 1) ≤ 1 * (a / b + 1) := Int.mul_le_mul_of_nonpos_right (by omega) (by omega)
    have e : b * (a / b + 1) = b * (a / b) + b := by rw [Int.mul_add, Int.mul_one]
    omega
  · have h4 : 1 * (a / b) ≤ b * (a / b) := Int.mul_le_mul_of_nonneg_right (by omega) h
    omega
end Bs

/-! WB -/
set_option maxHeartbeats 4000000
namespace Bh
open PySem PySem.Spec PyProof.Rows L2

/-- a def of the module, by its name -/
structure Fx (P : Program) (w : World) (K : PySem.W.Frag) (mg : Str → Option Value) (base : Heap) (CX : CXT) (k : Nat) (x : Str) (sp : Sp) : Prop where
  run : FnR P w K mg base CX k (He.ga K x) sp
  kp : PySem.W.keepIn K (.ref (He.ga K x)) = true
  at_ : mg x = some (.ref (He.ga K x))
def tC (sp : Sp) (E : XK) (t : TA) : TE := fun σ H Q => t σ H fun vs H1 => sp vs H1 Q E
section
variable {X : Cx} {CX : CXT} {k : Nat} {sp : Sp} {E : XK} {x : Str} {e : Expr} {es : List Expr} {t : TA} {p pos : Pos}
theorem pc (F : Fx X.prog X.w X.K X.mg X.base CX k x sp) (hr : Room k X.A) (hx : Passes CX X E) (ha : PA X (e :: es) t) (hg : Gl X x := by rfl) (hd : (x == ("__debug__" : Str)) = false := by decide)
    (he : starEach (e :: es) X.env = (false, eval e X.env) :: starEach es X.env := by rfl) (hpl : (backTo pos (starEach es X.env)).any (·.1) = false := by rfl) :
    PE X (.Call (.Name x p) (e :: es) [] pos) (tC sp E t) := by
  refine ⟨fun pins s σ H Q I h => ?_⟩
  refine wpAny_Call_Name_kw (ld_glob I hg F.at_ ?_ hd)
  refine PySem.W.callWith_K (h₀ := X.base) I.ok.mod.kin F.kp (thn (ha.run pos pins s σ H _ I h) fun us s1 ⟨vs, H1, I1, r, q⟩ => ⟨I1.kIn, ?_⟩) he hpl
  exact wpAny_call (run_fnR F.run hr hx I1 r q)
end
section
variable {P : Program} {w : World} {K : PySem.W.Frag} {mg : Str → Option Value} {base : Heap} {x qual : Str} {st : Stmt} {dvs : List V} {N ps : List Str} {k : Nat} {sp : Sp}
theorem fnrX {CX : CXT} {f : Addr} (F : ∃ fd, FunD K x qual (defArgs st) (defBody st) (defScope st) [] [] f fd) (S : FnScope N ps (defScope st))
    (hb : ∀ (kV doc pm : Value) (an : Option Addr) (cdv ct : Value) (us : List Value), us.length = ps.length → bindArgs (PySem.W.fnOf x qual (defArgs st) (defBody st) (defScope st) .none kV doc pm an cdv ct) ⟨us, []⟩ = pure (ps.zip us))
    (len : ∀ vs H Q E, sp vs H Q E → vs.length = ps.length)
    (hbody : ∀ (cdv : Value) (A : Around) (outer : List Env) (s : Shared) (H : Hp) (vs : List V) (Q : VK) (E : XK), Room k (A.deeper (envOfC qual (defScope st) s.heap.objs.size f cdv)) → sp vs H Q E →
      ∃ t, PSs (cxOf CX P w K mg base N qual (defScope st) f cdv A outer s H E) (defBody st) t ∧ t { nx := fun _ H' => Q .non H', rt := Q } (start N vs) H) : FnR P w K mg base CX (k + 1) f sp := by
  obtain ⟨fd, F⟩ := F
  refine ((F.ok S len hbody).raw (F.bindsN hb) .nil).imp fun vs H Q E h => ?_
  rw [List.append_nil]
  exact h
theorem fnr0 {f : Addr} (F : ∃ fd, FunD K x qual (defArgs st) (defBody st) (defScope st) [] [] f fd) (S : FnScope N ps (defScope st))
    (hb : ∀ (kV doc pm : Value) (an : Option Addr) (cdv ct : Value) (us : List Value), us.length = ps.length → bindArgs (PySem.W.fnOf x qual (defArgs st) (defBody st) (defScope st) .none kV doc pm an cdv ct) ⟨us, []⟩ = pure (ps.zip us))
    (len : ∀ vs H Q E, sp vs H Q E → vs.length = ps.length)
    (hbody : ∀ (cdv : Value) (A : Around) (outer : List Env) (s : Shared) (H : Hp) (vs : List V) (Q : VK) (E : XK), Room k (A.deeper (envOfC qual (defScope st) s.heap.objs.size f cdv)) → sp vs H Q E →
      ∃ t, PSs (cxOf CX0 P w K mg base N qual (defScope st) f cdv A outer s H E).nox (defBody st) t ∧ t { nx := fun _ H' => Q .non H', rt := Q } (start N vs) H) : FnR P w K mg base CX0 (k + 1) f sp := by
  refine fnrX F S hb len fun cdv A outer s H vs Q E hr h => ?_
  obtain ⟨t, h1, h2⟩ := hbody cdv A outer s H vs Q E hr h
  exact ⟨t, h1.nox, h2⟩
/-- with defaults, all of them taken or not: the tail of the parameters -/
theorem fnrD {CX : CXT} {f : Addr} {fd : FuncData} {ds : List Value} {dv : List V} (F : FunD K x qual (defArgs st) (defBody st) (defScope st) dvs [] f fd) (S : FnScope N ps (defScope st)) (hb : Binds K fd ps ds) (hd : Vals dv ds)
    (len : ∀ vs H Q E, sp vs H Q E → vs.length = ps.length)
    (hbody : ∀ (cdv : Value) (A : Around) (outer : List Env) (s : Shared) (H : Hp) (vs : List V) (Q : VK) (E : XK), Room k (A.deeper (envOfC qual (defScope st) s.heap.objs.size f cdv)) → sp vs H Q E →
      ∃ t, PSs (cxOf CX P w K mg base N qual (defScope st) f cdv A outer s H E) (defBody st) t ∧ t { nx := fun _ H' => Q .non H', rt := Q } (start N vs) H) : FnR P w K mg base CX (k + 1) f (fun vs H Q E => sp (vs ++ dv) H Q E) :=
  (F.ok S len hbody).raw hb hd
theorem Fx.of {CX : CXT} (g : mg x = some (.ref (He.ga K x))) (F : ∃ fd, FunD K x qual (defArgs st) (defBody st) (defScope st) dvs [] (He.ga K x) fd) (h : FnR P w K mg base CX k (He.ga K x) sp) : Fx P w K mg base CX k x sp := by
  obtain ⟨fd, F⟩ := F
  exact ⟨h, F.kp, g⟩
theorem Fx.imp {CX : CXT} {sp' : Sp} (F : Fx P w K mg base CX k x sp) (h : ∀ vs H Q E, sp' vs H Q E → sp vs H Q E) : Fx P w K mg base CX k x sp' := ⟨F.run.imp h, F.kp, F.at_⟩
end

/-! ### heaps -/
theorem same_new {H : Hp} {p : Addr} {o : HO} (h : H p = none) : Same H (upd H p o) := fun b x e => by
  rw [upd_ne (ne_of_none e h)]
  exact e
theorem same_mut {H H1 : Hp} {p : Addr} {o : HO} (s : Same H H1) (h : H p = none) : Same H (upd H1 p o) := fun b x e => by
  rw [upd_ne (ne_of_none e h)]
  exact s b x e
theorem upd_get {H : Hp} {p q : Addr} {o u : HO} (h : H q = some u) (n : H p = none) : upd H p o q = some u := same_new n _ _ h
theorem same_seqT {K : PySem.W.Frag} {H H' : Hp} {a : Addr} {xs : List V} (e : Same H H') (h : SqT K H a xs) : SqT K H' a xs := by
  rcases h with (h | ⟨o, h⟩) | h
  · exact .inl (.inl (e _ _ h))
  · exact .inl (.inr ⟨o, e _ _ h⟩)
  · exact .inr h
theorem sqT {K : PySem.W.Frag} {H : Hp} {a : Addr} {xs : List V} (h : H a = some (.tup xs)) : SqT K H a xs := .inl (.inl h)
theorem sqL {K : PySem.W.Frag} {H : Hp} {a : Addr} {xs : List V} (h : H a = some (.lst xs)) : SqL K H a xs := .inl (.inl h)
/-- a tuple that is known to have no dict -/
def Bq (H : Hp) (a : Addr) (xs : List V) : Prop := ∃ o : Obj, o.dict = none ∧ H a = some (.frz o (.tup xs))
/-- a tuple -/
def Tq (H : Hp) (a : Addr) (xs : List V) : Prop := H a = some (.tup xs) ∨ Bq H a xs
/-- a list or a tuple -/
def Sq (H : Hp) (a : Addr) (xs : List V) : Prop := H a = some (.lst xs) ∨ Tq H a xs
theorem Bq.same {H H' : Hp} {a : Addr} {xs : List V} (h : Bq H a xs) (s : Same H H') : Bq H' a xs := let ⟨o, h1, h2⟩ := h; ⟨o, h1, s _ _ h2⟩
theorem Tq.same {H H' : Hp} {a : Addr} {xs : List V} (h : Tq H a xs) (s : Same H H') : Tq H' a xs := h.imp (s _ _) (·.same s)
theorem Sq.same {H H' : Hp} {a : Addr} {xs : List V} (h : Sq H a xs) (s : Same H H') : Sq H' a xs := h.imp (s _ _) (·.same s)
theorem Bq.t {H : Hp} {a : Addr} {xs : List V} (h : Bq H a xs) : Tq H a xs := .inr h
theorem Tq.sqT {K : PySem.W.Frag} {H : Hp} {a : Addr} {xs : List V} (h : Tq H a xs) : SqT K H a xs := by
  rcases h with h | ⟨o, _, h⟩
  · exact .inl (.inl h)
  · exact .inl (.inr ⟨o, h⟩)
theorem Bq.sqT {K : PySem.W.Frag} {H : Hp} {a : Addr} {xs : List V} (h : Bq H a xs) : SqT K H a xs := h.t.sqT
theorem Sq.or {K : PySem.W.Frag} {H : Hp} {a : Addr} {xs : List V} (h : Sq H a xs) : SqL K H a xs ∨ SqT K H a xs := h.imp (fun z => .inl (.inl z)) (·.sqT)
theorem Tq.ne {H : Hp} {a b : Addr} {xs : List V} {u : HO} (h : Tq H a xs) (h' : H b = some u) (d1 : ∀ ys, u ≠ .tup ys) (d2 : ∀ o ys, u ≠ .frz o ys) : a ≠ b := by
  rcases h with h | ⟨o, _, h⟩
  · exact ne_of h h' fun z => d1 _ z.symm
  · exact ne_of h h' fun z => d2 _ _ z.symm
theorem Sq.ne {H : Hp} {a b : Addr} {xs : List V} {u : HO} (h : Sq H a xs) (h' : H b = some u) (d0 : ∀ ys, u ≠ .lst ys) (d1 : ∀ ys, u ≠ .tup ys) (d2 : ∀ o ys, u ≠ .frz o ys) : a ≠ b := by
  rcases h with h | h
  · exact ne_of h h' fun z => d0 _ z.symm
  · exact h.ne h' d1 d2
theorem Tq.new {H : Hp} {a p : Addr} {xs : List V} (h : Tq H a xs) (n : H p = none) : a ≠ p := by
  rcases h with h | ⟨o, _, h⟩
  · exact ne_of_none h n
  · exact ne_of_none h n
abbrev vi (l : List Int) : List V := l.map V.int
theorem small_le {n : Nat} (h : n ≤ 1000000) : n ≤ sizeLine := Nat.le_trans h (by decide)
theorem small_lt {n : Nat} (h : n < 1000000) : n < sizeLine := Nat.lt_of_lt_of_le h (by decide)
end Bh

/-! WR -/
set_option maxHeartbeats 4000000
/-! rules that the layer lacks: sum and min of tuples, tuple.index, isqrt, enumerate of a tuple -/
namespace PySem
open AutoSeq1 (wpAny_loadPart')
theorem meets_enumerate_newT (l : Addr) (items : Array Value) (n : Nat) (dct : Option Addr) (sl : Array (Option Value)) :
    Meets (Builtin.«enumerate.__new__» ⟨[.type "enumerate", .ref l], []⟩) (fun _ R s => s.heap.get? l = some { cls := .type "tuple", dict := dct, data := .seq items n, slots := sl } ∧
      R (.ok (.ret (.ref (s.heap.push { cls := .type "tuple_iterator", data := .fields #[.ref l, .int 0 0] }).objs.size)))
        { s with heap := (s.heap.push { cls := .type "tuple_iterator", data := .fields #[.ref l, .int 0 0] }).push { cls := .type "enumerate", data := .fields #[.none, .bool false, .ref s.heap.objs.size, rawInt 0, .none, .none] } }) :=
  .of_wp fun prog w A R s h => by
    obtain ⟨hp, g, d, tk, os⟩ := s; obtain ⟨hl, h⟩ := h
    have hsub := sub_enumerate
    have hL : Heap.IsTuple (Shared.heap ⟨hp, g, d, tk, os⟩) l items := ⟨_, hl, rfl, n, rfl⟩
    wp_walk using wpAny_loadPart' hl
    refine wpAny_stack_any fun st => wpAny_pure ?_
    split
    · rename_i c _ _ _ _ _
      cases (c == Value.type "enumerate")
      · wp_walk using wpAny_loadPart' hl, wpAny_pyIter_tuple hL
        exact ⟨_, rfl, h⟩
      · wp_walk using wpAny_loadPart' hl, wpAny_pyIter_tuple hL
        exact ⟨_, rfl, h⟩
    · wp_walk using wpAny_loadPart' hl, wpAny_pyIter_tuple hL
      exact ⟨_, rfl, h⟩
section
variable {prog : Program} {w : World} {A : Around} {E : Value → Shared → Prop} {s : Shared}
theorem call_enumerate_tuple {l : Addr} {items : Array Value} {Q : Value → Shared → Prop} (hL : s.heap.IsTuple l items)
    (h : ∀ h', IsEnum h' (s.heap.objs.size + 1) s.heap.objs.size 0 .none → h'.IsTupleIter s.heap.objs.size l 0 → h'.objs.size = s.heap.objs.size + 2 →
      (∀ b o, s.heap.get? b = some o → h'.get? b = some o) → Q (.ref (s.heap.objs.size + 1)) { s with heap := h' }) :
    wpAny (model prog w) A (call (.type "enumerate") [.ref l]) Q E s := by
  obtain ⟨⟨c, dct, dt, sl⟩, hl, hc, n, hd⟩ := hL
  replace hc : c = .type "tuple" := hc
  replace hd : dt = .seq items n := hd
  subst hc hd
  refine callType_new F.called_enumerate (by decide) (F.typeCall_enumerate_1 _) (F.newCall_enumerate_1 _) (fun obj => F.args_object_init_2 obj _) F.entry_enumerate_new
    (meets_enumerate_newT l items n dct sl) ⟨hl, ?_⟩
  have hz : (s.heap.push { cls := .type "tuple_iterator", data := .fields #[.ref l, .int 0 0] }).objs.size = s.heap.objs.size + 1 := Heap.size_push ..
  show _ ∧ _
  rw [hz]
  have he : IsEnum ((s.heap.push { cls := .type "tuple_iterator", data := .fields #[.ref l, .int 0 0] }).push
      { cls := .type "enumerate", data := .fields #[.none, .bool false, .ref s.heap.objs.size, rawInt 0, .none, .none] }) (s.heap.objs.size + 1) s.heap.objs.size 0 .none := by
    have := Heap.get?_push_size (s.heap.push { cls := .type "tuple_iterator", data := .fields #[.ref l, .int 0 0] })
      (o := { cls := .type "enumerate", data := .fields #[.none, .bool false, .ref s.heap.objs.size, rawInt 0, .none, .none] }) rfl
    rw [hz] at this; exact this
  refine ⟨⟨_, he, rfl⟩, h _ he ⟨_, Heap.get?_push_of_some _ (Heap.get?_push_size _ rfl), rfl, rfl⟩ (by rw [Heap.size_push, hz]) fun b o x => Heap.get?_push_of_some _ (Heap.get?_push_of_some _ x)⟩
theorem min_intTuple {l : Addr} {xs : Array (Int × Tok)} {Q : Value → Shared → Prop} (hh : A.handled = none) (hl : s.heap.IsTuple l (intItems xs)) (hne : 0 < xs.size)
    (h : ∀ v h' tk, (intItems xs)[argBest (fun i j => decide (numAt xs i < numAt xs j)) (xs.size - 1)]? = some v → (∀ b o, s.heap.get? b = some o → h'.get? b = some o) → Q v { s with heap := h', toks := tk }) :
    wpAny (model prog w) A (call (.builtin "min") [.ref l]) Q E s := by
  have hlt : l < s.heap.objs.size := by obtain ⟨_, e, _⟩ := hl; exact Heap.lt_size e
  refine call_min_walk (wpAny_pyIter_tuple hl ?_)
  refine ⟨_, _, _, _, _, _, _, rfl, Walks.tuple (A := A.in1) hh _ l (Nat.ne_of_lt hlt) (intItems xs), ⟨⟨_, Heap.get?_push_size _ rfl, rfl, rfl⟩, hl.at fun o e => Heap.get?_push_of_some _ e⟩, fun b hb => ?_, by simpa [intItems] using hne, CmpOf.ints_lt (numAt xs) (fun _ _ => intItems_at), fun v h' tk hP hk => ?_⟩
  · show b < (s.heap.push _).objs.size
    rw [Heap.size_push]
    rcases List.mem_cons.mp hb with rfl | hb
    · exact Nat.lt_succ_self _
    · rcases List.mem_cons.mp hb with rfl | hb
      · exact Nat.lt_succ_of_lt hlt
      · cases hb
  · refine h v h' tk (by simpa [intItems] using hP) fun b o e => hk b o (fun hm => ?_) (Heap.get?_push_of_some _ e)
    rcases List.mem_cons.mp hm with e1 | hm
    · exact absurd (e1 ▸ Heap.lt_size e) (Nat.lt_irrefl _)
    · cases hm
end
end PySem
namespace Bh
open PySem PySem.Spec PyProof.Rows L2
section
variable {X : Cx}
def rSumX (K : PySem.W.Frag) : List V → Hp → VK → Prop := fun vs H Q => ∃ (a : Addr) (ns : List Int), vs = [V.ref a] ∧ (SqL K H a (vi ns) ∨ SqT K H a (vi ns)) ∧ Q (.int ns.sum) H
theorem cr_sumX (hc : X.calm = true) : CallR X (.builtin "sum") (rSumX X.K) := by
  intro pins s σ H vs us Q I r h
  obtain ⟨a, ns, rfl, hs, q⟩ := h
  rcases hs with hs | hs
  · exact cr_sum hc pins s σ H _ us Q I r ⟨a, ns, rfl, hs, q⟩
  · obtain ⟨its, rv, hl, _⟩ := I.tuple hs
    rw [Vals.ref1 r]
    have hi := rv.ints
    obtain ⟨xs, e⟩ := hi.allInts.items
    have hn : numsOf (intItems xs).toList = ns := by rw [← e]; exact hi.numsOf
    rw [nums_intItems] at hn
    have hl2 : s.heap.IsTuple a (intItems xs) := by rw [← e]; exact hl
    refine PySem.W.ktm_sumG (I.ok.hd hc) hl2 fun h' tk t' hk => ?_
    rw [preSum_eq, List.take_of_length_le (by simp), hn]
    exact ⟨.int _, H, I.kept hk, ⟨_, rfl⟩, q⟩
def rMinX (K : PySem.W.Frag) : List V → Hp → VK → Prop := fun vs H Q => ∃ (a : Addr) (ns : List Int), vs = [V.ref a] ∧ (SqL K H a (vi ns) ∨ SqT K H a (vi ns)) ∧ 0 < ns.length ∧ ∀ m, m ∈ ns → (∀ y, y ∈ ns → m ≤ y) → Q (.int m) H
theorem cr_minX (hc : X.calm = true) : CallR X (.builtin "min") (rMinX X.K) := by
  intro pins s σ H vs us Q I r h
  obtain ⟨a, ns, rfl, hs, hne, q⟩ := h
  rcases hs with hs | hs
  · exact cr_min hc pins s σ H _ us Q I r ⟨a, ns, rfl, hs, hne, q⟩
  · obtain ⟨its, rv, hl, _⟩ := I.tuple hs
    rw [Vals.ref1 r]
    have hi := rv.ints
    obtain ⟨xs, e⟩ := hi.allInts.items
    have hn : numsOf (intItems xs).toList = ns := by rw [← e]; exact hi.numsOf
    rw [nums_intItems] at hn
    have hl2 : s.heap.IsTuple a (intItems xs) := by rw [← e]; exact hl
    subst hn
    have hsz : 0 < xs.size := by simpa using hne
    refine min_intTuple (I.ok.hd hc) hl2 hsz fun v h' tk hv hk => ?_
    obtain ⟨t, rfl⟩ := intItems_at hv
    obtain ⟨h1, h2⟩ := argBest_lt (numAt xs) (xs.size - 1)
    refine ⟨.int _, H, I.kept hk, ⟨_, rfl⟩, q _ ?_ fun a ha => ?_⟩
    · rw [numAt_eq]; exact PySem.getD_mem (by rw [List.length_map, Array.length_toList]; omega)
    · obtain ⟨j, hj, rfl⟩ := mem_getD ha
      rw [List.length_map, Array.length_toList] at hj
      rw [← numAt_eq]; exact h2 j (by omega)
theorem isqrt_sq (n : Nat) : Float64.isqrt (n * n) = n := by
  obtain ⟨h1, h2⟩ := PySem.Float64.isqrt_spec (n * n)
  have a : Float64.isqrt (n * n) ≤ n := Nat.le_of_not_lt fun h => absurd (Nat.lt_of_lt_of_le (Nat.mul_self_lt_mul_self h) h1) (Nat.lt_irrefl _)
  have b : n < Float64.isqrt (n * n) + 1 := Nat.lt_of_not_le fun h => absurd (Nat.lt_of_lt_of_le h2 (Nat.mul_self_le_mul_self h)) (Nat.lt_irrefl _)
  omega
/-- isqrt of a square -/
def rIsqrt : List V → Hp → VK → Prop := fun vs H Q => ∃ (k : Int) (n : Nat), vs = [.int k] ∧ k = (n : Int) * n ∧ n < 2 ^ 32 ∧ Q (.int n) H
theorem cr_isqrt : CallR X (.builtin "math.isqrt") rIsqrt := by
  intro pins s σ H vs us Q I r h
  obtain ⟨k, n, rfl, rfl, hn, q⟩ := h
  cases r with
  | cons r rr =>
    cases rr
    obtain ⟨t, rfl⟩ := r
    refine PySem.W.mg_isqrt_v (c := (n : Int)) (Int.mul_nonneg (by omega) (by omega)) ?_ ?_ ⟨.int _, H, I.tok _, ⟨_, rfl⟩, q⟩
    · have : (n : Int) * n < (2 ^ 32) * (2 ^ 32) := by
        have h1 : n * n < 2 ^ 32 * 2 ^ 32 := Nat.mul_lt_mul'' hn hn
        exact_mod_cast h1
      have e : (2 : Int) ^ 32 * 2 ^ 32 = 2 ^ 64 := by decide
      omega
    · have e : ((n : Int) * n).toNat = n * n := by
        rw [← Int.natCast_mul]
        exact Int.toNat_natCast _
      rw [e, isqrt_sq]
/-- the first place of an int in a tuple of ints -/
def rTIndex (K : PySem.W.Frag) : V → List V → Hp → VK → Prop := fun x xs H Q => ∃ (a : Addr) (ns : List Int) (y : Int), x = V.ref a ∧ xs = [.int y] ∧ SqT K H a (vi ns) ∧ y ∈ ns ∧ Q (.int (ns.idxOf y : Nat)) H
theorem flat_vi (ns : List Int) : (vi ns).all flatV = true := by
  rw [List.all_eq_true]
  intro v hv
  obtain ⟨i, _, rfl⟩ := List.mem_map.mp hv
  rfl
theorem mt_tindex : MtR X "tuple.index" (rTIndex X.K) := by
  intro pins s σ H x xs v us Q I rx rxs h
  obtain ⟨a, ns, y, rfl, rfl, hs, hm, q⟩ := h
  cases rx
  cases rxs with
  | cons ry rt =>
    rename_i uy ut
    cases rt
    obtain ⟨its, rv, hT, hlen⟩ := I.tuple hs
    have hvl := rv.length
    rw [List.length_map] at hvl
    refine SeqAt.call_tuple_index (k := y) (ks := ns) hT ⟨hvl.symm, fun j h1 h2 => ?_⟩ hm ⟨.int _, H, I.tok _, ⟨_, rfl⟩, q⟩
    obtain ⟨u, hu, ru⟩ := rv.get (i := j) (x := V.int ns[j]) (by rw [List.getElem?_map, List.getElem?_eq_getElem h2] <;> rfl)
    obtain ⟨_, hje⟩ := List.getElem?_eq_some_iff.mp hu
    rw [hje]
    have z := eqAt_V (A := X.A.in1) (s := s) ru ry rfl rfl
    have e : eqV (V.int ns[j]) (V.int y) = decide (ns[j] = y) := by
      show (ns[j] == y) = _
      rw [Bool.eq_iff_iff]; simp
    rw [e] at z
    exact z
/-- tuples whose own object is known -/
def tTupB (t : TA) : TE := fun σ H Q => t σ H fun xs H1 => xs.length ≤ sizeLine ∧ ∀ (o : Obj) (p : Addr), o.dict = none → H1 p = none → Q (.ref p) (upd H1 p (.frz o (.tup xs)))
theorem pe_tupB {es : List Expr} {t : TA} {x1} {pos : Pos} (h : PA X es t) : PE X (.Tuple es x1 pos) (tTupB t) := by
  refine ⟨fun pins s σ H Q I hq => ?_⟩
  refine wpAny_Tuple_spliced (wpAny_mono (h.run pos pins s σ H _ I hq) (fun us s1 hh => ?_) fun _ _ z => z)
  obtain ⟨xs, H1, I1, r, z, q⟩ := hh
  refine ⟨by rw [← r.length]; exact z, ?_⟩
  have hf : H1 s1.heap.objs.size = none := I1.hok.fresh (Nat.le_refl _)
  refine ⟨.ref s1.heap.objs.size, upd H1 s1.heap.objs.size (.frz { cls := .type "tuple", data := .seq us.toArray } (.tup xs)), I1.laid (t' := s1.toks) (fun b u e => Heap.get?_push_of_some _ e) (Nat.le_refl _) ?_, rfl, q _ _ rfl hf⟩
  exact ⟨Heap.get?_push_size _ rfl, z, us, r, ⟨_, Heap.get?_push_size _ rfl, rfl, _, rfl⟩⟩
theorem call_tuple_ofB : CallR X (.type "tuple") (fun xs H Q => ∃ p ys, xs = [.ref p] ∧ ((SqL X.K H p ys ∧ ∀ (o : Obj) l, o.dict = none → H l = none → Q (.ref l) (upd H l (.frz o (.tup ys)))) ∨ (SqT X.K H p ys ∧ Q (.ref p) H))) := by
  intro pins s σ H xs us Q I r h
  obtain ⟨p, ys, rfl, h⟩ := h
  obtain ⟨u, rfl, rx⟩ := vals1 r
  cases rx
  rcases h with ⟨hq, q⟩ | ⟨hq, q⟩
  · obtain ⟨its, r', pl, hz⟩ := I.list hq
    have hlen := r'.length
    refine call_tuple_list pl.isList (fun h' kp => ?_) (by simp only [List.size_toArray] <;> omega)
    have I1 : Inv X pins σ H { s with heap := h' } := I.kept (t' := s.toks) kp
    have I2 : Inv X pins σ (upd H h'.objs.size (.frz { cls := .type "tuple", data := .seq its.toArray } (.tup ys))) { s with heap := h'.push { cls := .type "tuple", data := .seq its.toArray } } :=
      I1.laid (t' := s.toks) (fun b o e => Heap.get?_push_of_some _ e) (Nat.le_refl _) ⟨Heap.get?_push_size _ rfl, hz, its, r', ⟨_, Heap.get?_push_size _ rfl, rfl, _, rfl⟩⟩
    exact ⟨.ref h'.objs.size, _, I2, rfl, q _ _ rfl (I1.hok.fresh (Nat.le_refl _))⟩
  · obtain ⟨its, r', pl, hz⟩ := I.tuple hq
    exact call_tuple_same pl ⟨.ref p, H, I, rfl, q⟩
def tBMB (r : V → List V → Hp → VK → Prop) (to : TE) (t : TA) : TE := fun σ H Q => to σ H fun x H1 => (∃ a xs, x = .ref a ∧ Bq H1 a xs) ∧ t σ H1 fun xs H2 => r x xs H2 Q
/-- t.m(e, ..), t such a tuple -/
theorem pe_bmB {o e : Expr} {es : List Expr} {to : TE} {t : TA} {name : Str} {apos cpos : Pos} {id : String} {r : V → List V → Hp → VK → Prop} (pa : PlainAttrs "tuple") (slot : Slot "tuple" name id) (hty : typeOf (.builtin id) = pure (.type "method_descriptor")) (hm : MtR X id r) (ho : PE X o to) (ha : PA X (e :: es) t)
    (hbase : attributeBase o name X.env (eval o X.env) = eval o X.env := by rfl)
    (hfew : ((backTo cpos (starEach (e :: es) X.env)).all (fun x => !x.1) && (backToKw cpos (keywordEach [] X.env)).all (fun x => x.1.isSome)
      && decide ((e :: es).length + ([] : List Keyword).length + (if ([] : List Keyword).isEmpty then 0 else 1) < 30)) = true := by rfl)
    (hline : (apos.endLine == cpos.line) = true := by rfl) (hs : starEach (e :: es) X.env = (false, eval e X.env) :: starEach es X.env := by rfl) (hplain : (backTo cpos (starEach es X.env)).any (·.1) = false := by rfl) :
    PE X (.Call (.Attribute o name apos) (e :: es) [] cpos) (tBMB r to t) := by
  refine ⟨fun pins s σ H Q I h => ?_⟩
  refine wpAny_Call_method_late hbase hfew hline rfl (wpAny_mono (ho.run pins s σ H _ I h) (fun v s1 hh => ?_) fun _ _ z => z)
  obtain ⟨x, H1, I1, r1, ⟨a, xs, ex, ob, hd, hb⟩, q1⟩ := hh
  subst ex
  cases r1
  obtain ⟨g1, hz, its, rv, o2, g2, hc, _⟩ := (show ObjOk X.prog X.w H1 s1.heap a (.frz ob (.tup xs)) from I1.hok a _ hb)
  have h1 : s1.TypeIs (.ref a) "tuple" := ⟨o2, g2, hc⟩
  refine ⟨"tuple", id, pa, slot, hty, h1, fun b eb => by cases eb; exact ⟨ob, g1, hd⟩, ?_⟩
  have hA := ha.run cpos pins s1 σ H1 _ I1 q1
  rw [hs] at hA ⊢
  refine Calls.callWith_builtin (by show (false || (backTo cpos (starEach es X.env)).any (·.1)) = false; rw [hplain] <;> rfl) (Calls.evalArgs_plain ?_)
  refine wpAny_mono hA (fun us s2 hh => ?_) fun _ _ z => z
  obtain ⟨vs, H2, I2, r2, q2⟩ := hh
  exact hm pins s2 σ H2 (.ref a) vs _ us Q I2 rfl r2 q2
/-- % and // by a positive divisor -/
theorem op_modP : OpR X (binaryOp .Mod) (rI (fun _ j => 0 < j) fun i j => .int (i % j)) := by
  intro pins s σ H x y v u Q I rx ry h
  obtain ⟨i, j, rfl, rfl, hc, q⟩ := h
  refine op_modN pins s σ H _ _ v u Q I rx ry ⟨i, j, rfl, rfl, by omega, ?_⟩
  show Q (.int (i.fmod j)) H
  rw [Int.fmod_eq_emod_of_nonneg i (by omega)]
  exact q
theorem op_divP : OpR X (binaryOp .FloorDiv) (rI (fun _ j => 0 < j ∧ j < 1073741824) fun i j => .int (i / j)) := by
  intro pins s σ H x y v u Q I rx ry h
  obtain ⟨i, j, rfl, rfl, hc, q⟩ := h
  refine op_fdivN pins s σ H _ _ v u Q I rx ry ⟨i, j, rfl, rfl, ⟨by omega, by omega⟩, ?_⟩
  show Q (.int (i.fdiv j)) H
  rw [Int.fdiv_eq_ediv_of_nonneg i (by omega)]
  exact q
end
/-! ### enumerate(tuple) -/
def IteT (K : PySem.W.Frag) (a : Addr) : It :=
  ⟨fun i H => ∃ (xs : List V) (x : V), SqT K H a xs ∧ xs[i]? = some x, fun i H v H' => ∃ T x, v = .ref T ∧ H T = none ∧ H' = upd H T (.tup [.int (i : Nat), x]) ∧ ∀ xs, SqT K H a xs → xs[i]? = some x, fun i H => ∃ xs : List V, SqT K H a xs ∧ xs.length = i⟩
theorem turn_enumT {P : Program} {w : World} {K : PySem.W.Frag} {elts : List Expr} {kk : Nat} {tpos : Pos} (a e it : Addr) :
    Turn P w K (.Tuple elts kk tpos) (IteT K a) [e, it] e (fun i h => (∃ old, IsEnum h e it ((i : Nat) : Int) old) ∧ h.IsTupleIter it a i ∧ e ≠ it ∧ a ≠ it) where
  mem := by simp
  obj := fun i h st b hb => by
    obtain ⟨⟨old, he⟩, ⟨o, ho, hc, hd⟩, _⟩ := st
    have e' : b = e ∨ b = it := by simpa using hb
    rcases e' with z | z
    · rw [z]; exact ⟨_, he, fun v q => nomatch q⟩
    · rw [z]; exact ⟨o, ho, fun v q => by rw [hd] at q; cases q⟩
  keep := fun i h h' st k => let ⟨⟨old, he⟩, hi, hne, hni⟩ := st; ⟨⟨old, k e (by simp) _ he⟩, hi.at fun o q => k it (by simp) o q, hne, hni⟩
  item := by
    intro X hP hw hK hc i pins s σ H E I hf st hg
    subst hP hw hK
    obtain ⟨⟨old, he⟩, hit, hne, hni⟩ := st
    obtain ⟨xs, x, hq, hx⟩ := hg
    obtain ⟨its, rv, p, hz⟩ := I.tuple hq
    obtain ⟨u, hu, ru⟩ := rv.get hx
    have hel : e < s.heap.objs.size := Heap.lt_size he
    have hil : it < s.heap.objs.size := by obtain ⟨_, q, _⟩ := hit; exact Heap.lt_size q
    have hea : e ≠ a := fun z => by
      subst z
      obtain ⟨o, q, c, _⟩ := p
      rw [he] at q
      cases q
      simp at c
    have D := Draws.tuple (prog := X.prog) (w := X.w) (A := X.A.in1) (I.ok.hd hc) it a hni its.toArray
    obtain ⟨hlt, hxe⟩ := List.getElem?_eq_some_iff.mp hu
    refine wpAny_pyNext_enum_itemD D he (⟨hit, show s.heap.IsTuple a its.toArray from p⟩ : s.heap.IsTupleIter it a i ∧ s.heap.IsTuple a its.toArray) (by simpa using hlt) hne (by simp [hne, hea]) fun y h' tk hy ho hst' hT hsz hk => ?_
    have ey : y = u := by
      have hy2 : its.toArray[i]? = some y := hy
      have hy3 : its[i]? = some y := by simpa using hy2
      exact Option.some.inj (hy3.symm.trans hu)
    subst ey
    obtain ⟨hit', _⟩ := hst'
    refine ⟨_, rfl, wpAny_letOwnedTupleGo_enum (s := { s with heap := h', toks := tk + 1 }) ho fun h'' he' sb => ?_⟩
    have hT2 : h''.get? s.heap.objs.size = some { cls := .type "tuple", data := .seq #[.int i tk, y] } := (sb.2 _ (Nat.ne_of_gt hel)).trans hT
    have new : ObjOk X.prog X.w (upd H s.heap.objs.size (.tup [.int (i : Nat), x])) h'' s.heap.objs.size (.tup [.int (i : Nat), x]) :=
      ⟨by show 2 ≤ sizeLine; decide, [.int i tk, y], .cons ⟨_, rfl⟩ (.cons ru .nil), ⟨_, hT2, rfl, _, rfl⟩⟩
    have I1 : Inv X pins σ (upd H s.heap.objs.size (.tup [.int (i : Nat), x])) { s with heap := h'', toks := tk + 1 } :=
      I.turnedNew (ch := [e, it]) (fun b ob hb q => (sb.2 b (fun z => hb (by simp [z]))).trans (hk b ob (fun z => hb (by simp [z])) (fun z => hb (by simp [z])) q)) hf (Nat.le_refl _) new
    refine ⟨.ref s.heap.objs.size, _, I1, rfl, ⟨_, x, rfl, I.hok.fresh (Nat.le_refl _), rfl, fun ys hy => by rw [I.tuple_inj hy hq]; exact hx⟩, ⟨⟨y, ?_⟩, hit'.at fun o q => (sb.2 it (Ne.symm hne)).trans q, hne, hni⟩, fun b hb => ?_⟩
    · have e1 : ((i + 1 : Nat) : Int) = (i : Int) + 1 := by omega
      rw [e1]; exact he'
    · have hb' : b < s.heap.objs.size := by
        have e' : b = e ∨ b = it := by simpa using hb
        rcases e' with z | z
        · rw [z]; exact hel
        · rw [z]; exact hil
      rw [upd_ne (Nat.ne_of_lt hb')]
      exact (hf b hb).1
  done := by
    intro X hP hw hK hc i pins s σ H E I hf st hg
    subst hP hw hK
    obtain ⟨⟨old, he⟩, hit, hne, hni⟩ := st
    obtain ⟨xs, hq, hx⟩ := hg
    obtain ⟨its, rv, p, hz⟩ := I.tuple hq
    obtain ⟨f0, f1, f2, f3, f4, f5⟩ := hf it (by simp)
    have hl := rv.length
    have D := Draws.tuple (prog := X.prog) (w := X.w) (A := X.A.in1) (I.ok.hd hc) it a hni its.toArray
    have e : its.toArray.size = i := by rw [List.size_toArray, ← hl, hx]
    refine wpAny_pyNext_enum_endD D he (e ▸ (⟨hit, show s.heap.IsTuple a its.toArray from p⟩ : s.heap.IsTupleIter it a i ∧ s.heap.IsTuple a its.toArray)) fun h' eb => ⟨rfl, I.turned (t' := s.toks) (fun b o hb q => eb b o hb q) f0 f1 f3 f4 f5⟩
  self := fun A i s Q E st h => let ⟨⟨_, he⟩, _⟩ := st; wpAny_pyIter_enum he h
def iEnumT (K : PySem.W.Frag) (ta : TA) : TI := fun σ H R => ta σ H fun vs H1 => ∃ a xs, vs = [.ref a] ∧ SqT K H1 a xs ∧ R (IteT K a) H1
theorem pi_enumT {X : Cx} {e : Expr} {ta : TA} {p pos tpos : Pos} {elts : List Expr} {kk : Nat} (hg : Gl X "enumerate") (hm : X.mg "enumerate" = none) (ha : PA X [e] ta) (hs : starEach [e] X.env = [(false, eval e X.env)] := by rfl) :
    PI X (.Tuple elts kk tpos) (.Call (.Name "enumerate" p) [e] [] pos) (iEnumT X.K ta) := by
  refine ⟨fun pins s σ H R I h => ?_⟩
  refine Call_ (ld_blt I hg hm boot_enumerate (PyProof.Rows.callWith_type1 (thn (ha.run pos pins s σ H _ I h) fun us s1 ⟨vs, H1, I1, r1, q1⟩ => ?_) hs rfl))
  obtain ⟨a, xs, ex, hq, q⟩ := q1
  subst ex
  cases r1 with
  | cons r rr =>
    cases rr
    cases r
    obtain ⟨its, rv, p', hz⟩ := I1.tuple hq
    have hlt : a < s1.heap.objs.size := by
      obtain ⟨_, e, _⟩ := p'
      exact Heap.lt_size e
    refine call_enumerate_tuple (show s1.heap.IsTuple a its.toArray from p') fun h' he hit hsz hk => wpAny_pyIter_enum he ?_
    have I2 : Inv X pins σ H1 { s1 with heap := h' } := I1.kept (t' := s1.toks) hk
    refine ⟨s1.heap.objs.size + 1, [s1.heap.objs.size + 1, s1.heap.objs.size], _, _, H1, rfl, I2, turn_enumT a (s1.heap.objs.size + 1) s1.heap.objs.size, ⟨⟨.none, he⟩, hit, Nat.succ_ne_self _, Nat.ne_of_lt hlt⟩, fun b hb => ?_, q⟩
    have e' : b = s1.heap.objs.size + 1 ∨ b = s1.heap.objs.size := by simpa using hb
    have hle : s1.heap.objs.size ≤ b := by
      rcases e' with z | z
      · rw [z]; exact Nat.le_add_right _ _
      · rw [z]; exact Nat.le_refl _
    exact I1.fpOk hle (I1.hok.fresh hle)
/-- the loop over enumerate(t), t a tuple that stands -/
theorem for_enumT {K : PySem.W.Frag} {a : Addr} {xs : List V} {g : TG} {tb : TS} {D : Ends} {σ : L2.St} {H : Hp} (Pv : Nat → L2.St → Hp → Prop) (h0 : Pv 0 σ H) (hl : ∀ i σ H, Pv i σ H → SqT K H a xs)
    (hs : ∀ i x σ H T, xs[i]? = some x → H T = none → Pv i σ H → g (.ref T) σ (upd H T (.tup [.int (i : Nat), x])) fun σ2 H2 => tb { D with nx := Pv (i + 1), ct := Pv (i + 1), bk := D.nx } σ2 H2) (hd : ∀ σ H, Pv xs.length σ H → D.nx σ H) :
    ∃ W : Nat → Nat → L2.St → Hp → Prop, (∃ m, W 0 m σ H) ∧ ∀ i m σ H, W i m σ H →
      ((IteT K a).stop i H ∧ D.nx σ H) ∨ ((IteT K a).go i H ∧ ∃ N : L2.St → Hp → Prop, (∀ σ' H', N σ' H' → ∃ m', m' < m ∧ W (i + 1) m' σ' H') ∧ ∀ x H', (IteT K a).yld i H x H' → g x σ H' fun σ2 H2 => tb { D with nx := N, ct := N, bk := D.nx } σ2 H2) := by
  refine ⟨fun i m σ H => m = xs.length - i ∧ i ≤ xs.length ∧ Pv i σ H, ⟨xs.length, by simp, Nat.zero_le _, h0⟩, ?_⟩
  rintro i m σ H ⟨rfl, hi, p⟩
  have q := hl i σ H p
  by_cases hlt : i < xs.length
  · refine .inr ⟨⟨xs, xs[i], q, List.getElem?_eq_getElem hlt⟩, Pv (i + 1), fun σ' H' p' => ⟨xs.length - (i + 1), by omega, rfl, hlt, p'⟩, fun x H' y => ?_⟩
    obtain ⟨T, z, rfl, nT, rfl, f⟩ := y
    exact hs i z σ H T (f xs q) nT p
  · have e : i = xs.length := by omega
    subst e
    exact .inl ⟨⟨xs, q, rfl⟩, hd σ H p⟩
end Bh

/-! WT -/
set_option maxHeartbeats 4000000
namespace Bh
open PySem PySem.Spec PyProof.Rows L2
theorem dT {p A B : Prop} [Decidable p] (h : p) (a : A) : if decide p = true then A else B := by rw [if_pos (decide_eq_true h)]; exact a
theorem dF {p A B : Prop} [Decidable p] (h : ¬p) (b : B) : if decide p = true then A else B := by rw [if_neg (fun z => h (of_decide_eq_true z))]; exact b
theorem dB {p A B : Prop} [Decidable p] (h1 : p → A) (h2 : ¬p → B) : if decide p = true then A else B := by
  by_cases h : p
  · exact dT h (h1 h)
  · exact dF h (h2 h)
theorem nT {p A B : Prop} [Decidable p] (h : ¬p) (a : A) : if (!decide p) = true then A else B := by rw [if_pos (by simp [h])]; exact a
theorem nF {p A B : Prop} [Decidable p] (h : p) (b : B) : if (!decide p) = true then A else B := by rw [if_neg (by simp [h])]; exact b
theorem nB {p A B : Prop} [Decidable p] (h1 : ¬p → A) (h2 : p → B) : if (!decide p) = true then A else B := by
  by_cases h : p
  · exact nF h (h2 h)
  · exact nT h (h1 h)
theorem vi_inj {i j : Int} : V.int i = V.int j ↔ i = j := ⟨fun h => V.int.inj h, fun h => h ▸ rfl⟩
theorem eT {i j : Int} {A B : Prop} (h : i = j) (a : A) : if decide (V.int i = V.int j) = true then A else B := dT (vi_inj.mpr h) a
theorem eF {i j : Int} {A B : Prop} (h : i ≠ j) (b : B) : if decide (V.int i = V.int j) = true then A else B := dF (fun z => h (vi_inj.mp z)) b
theorem eB {i j : Int} {A B : Prop} (h1 : i = j → A) (h2 : i ≠ j → B) : if decide (V.int i = V.int j) = true then A else B := dB (fun z => h1 (vi_inj.mp z)) fun z => h2 fun e => z (vi_inj.mpr e)
theorem neT {i j : Int} {A B : Prop} (h : i ≠ j) (a : A) : if (!decide (V.int i = V.int j)) = true then A else B := nT (fun z => h (vi_inj.mp z)) a
theorem neF {i j : Int} {A B : Prop} (h : i = j) (b : B) : if (!decide (V.int i = V.int j)) = true then A else B := nF (vi_inj.mpr h) b
theorem neB {i j : Int} {A B : Prop} (h1 : i ≠ j → A) (h2 : i = j → B) : if (!decide (V.int i = V.int j)) = true then A else B := nB (fun z => h1 fun e => z (vi_inj.mpr e)) fun z => h2 (vi_inj.mp z)
theorem bB {b : Bool} {A B : Prop} (h1 : b = true → A) (h2 : b = false → B) : if b = true then A else B := by cases b with
  | true => exact iteT (h1 rfl)
  | false => exact iteF (h2 rfl)
theorem bN {b : Bool} {A B : Prop} (h1 : b = false → A) (h2 : b = true → B) : if (!b) = true then A else B := by cases b with
  | true => exact iteF (h2 rfl)
  | false => exact iteT (h1 rfl)
theorem cut_take (xs : List V) {i : Nat} (h : i ≤ xs.length) : cutV xs none (some (i : Int)) = xs.take i := by
  unfold cutV
  rw [HT.sIx_nat, HT.sIx_none, List.drop_zero, Nat.sub_zero, Nat.min_eq_left h]
theorem cut_drop (xs : List V) {i : Nat} (h : i ≤ xs.length) : cutV xs (some (i : Int)) none = xs.drop i := by
  unfold cutV
  rw [HT.sIx_nat, HT.sIx_none, Nat.min_eq_left h]
  exact List.take_of_length_le (by simp)
theorem new_same {H H1 : Hp} {p : Addr} {o : HO} (e : upd H p o = H1) (n : H p = none) : Same H H1 := by rw [← e]; exact same_new n
theorem new_at {H H1 : Hp} {p : Addr} {o : HO} (e : upd H p o = H1) : H1 p = some o := by rw [← e]; exact upd_same
theorem new_bq {H H1 : Hp} {p : Addr} {o : Obj} {xs : List V} (e : upd H p (.frz o (.tup xs)) = H1) (h : o.dict = none) : Bq H1 p xs := ⟨o, h, new_at e⟩
/-! ### walks over a list or a tuple -/
def iSq (K : PySem.W.Frag) (tl : TE) : TI := fun σ H R => tl σ H fun x H1 => ∃ a, x = .ref a ∧ (((∃ xs, SqL K H1 a xs) ∧ R (Itl K a) H1) ∨ ((∃ xs, SqT K H1 a xs) ∧ R (Itt K a) H1))
theorem pi_sq {X : Cx} {tg l : Expr} {tl : TE} (hl : PE X l tl) : PI X tg l (iSq X.K tl) := by
  refine ⟨fun pins s σ H R I h => ?_⟩
  refine wpAny_mono (hl.run pins s σ H _ I h) (fun v s1 hv => ?_) fun _ _ z => z
  obtain ⟨x, H1, I1, r1, a, e, q⟩ := hv
  subst e
  rcases q with ⟨⟨xs, hq⟩, q⟩ | ⟨⟨xs, hq⟩, q⟩
  · cases r1
    obtain ⟨its, rv, p, hz⟩ := I1.list hq
    refine wpAny_pyIter_list p.isList ?_
    refine ⟨s1.heap.objs.size, [s1.heap.objs.size], _, _, H1, rfl, I1.kept (t' := s1.toks) fun b o e => Heap.get?_push_of_some _ e, turn_list a _, ⟨_, Heap.get?_push_size _ rfl, rfl, rfl⟩, fun b hb => ?_, q⟩
    have e' : b = s1.heap.objs.size := by simpa using hb
    subst e'
    exact I1.fpOk (Nat.le_refl _) (I1.hok.fresh (Nat.le_refl _))
  · cases r1
    obtain ⟨its, rv, p, hz⟩ := I1.tuple hq
    refine wpAny_pyIter_tuple (show s1.heap.IsTuple a its.toArray from p) ?_
    refine ⟨s1.heap.objs.size, [s1.heap.objs.size], _, _, H1, rfl, I1.kept (t' := s1.toks) fun b o e => Heap.get?_push_of_some _ e, turn_tuple a _, ⟨_, Heap.get?_push_size _ rfl, rfl, rfl⟩, fun b hb => ?_, q⟩
    have e' : b = s1.heap.objs.size := by simpa using hb
    subst e'
    exact I1.fpOk (Nat.le_refl _) (I1.hok.fresh (Nat.le_refl _))
/-- the loop's reading over a list or a tuple that stands since H0 -/
theorem for_sq {K : PySem.W.Frag} {a : Addr} {xs : List V} {g : TG} {tb : TS} {D : Ends} {σ : L2.St} {H H0 : Hp} (sq : Sq H0 a xs) (Pv : Nat → L2.St → Hp → Prop) (h0 : Pv 0 σ H) (hl : ∀ i σ H, Pv i σ H → Same H0 H)
    (hs : ∀ i x σ H, xs[i]? = some x → Pv i σ H → g x σ H fun σ2 H2 => tb { D with nx := Pv (i + 1), ct := Pv (i + 1), bk := D.nx } σ2 H2) (hd : ∀ σ H, Pv xs.length σ H → D.nx σ H) :
    (((∃ xs, SqL K H a xs) ∧ ∃ W : Nat → Nat → L2.St → Hp → Prop, (∃ m, W 0 m σ H) ∧ ∀ i m σ H, W i m σ H →
      ((Itl K a).stop i H ∧ D.nx σ H) ∨ ((Itl K a).go i H ∧ ∃ N : L2.St → Hp → Prop, (∀ σ' H', N σ' H' → ∃ m', m' < m ∧ W (i + 1) m' σ' H') ∧ ∀ x H', (Itl K a).yld i H x H' → g x σ H' fun σ2 H2 => tb { D with nx := N, ct := N, bk := D.nx } σ2 H2))
    ∨ ((∃ xs, SqT K H a xs) ∧ ∃ W : Nat → Nat → L2.St → Hp → Prop, (∃ m, W 0 m σ H) ∧ ∀ i m σ H, W i m σ H →
      ((Itt K a).stop i H ∧ D.nx σ H) ∨ ((Itt K a).go i H ∧ ∃ N : L2.St → Hp → Prop, (∀ σ' H', N σ' H' → ∃ m', m' < m ∧ W (i + 1) m' σ' H') ∧ ∀ x H', (Itt K a).yld i H x H' → g x σ H' fun σ2 H2 => tb { D with nx := N, ct := N, bk := D.nx } σ2 H2))) := by
  rcases sq with sq | sq
  · exact .inl ⟨⟨xs, sqL (hl 0 _ _ h0 _ _ sq)⟩, for_list (xs := xs) Pv h0 (fun i σ H _ p => sqL (hl i _ _ p _ _ sq)) hs hd⟩
  · exact .inr ⟨⟨xs, (sq.same (hl 0 _ _ h0)).sqT⟩, for_tup (xs := xs) Pv h0 (fun i σ H _ p => (sq.same (hl i _ _ p)).sqT) hs hd⟩
theorem lc_sq {K : PySem.W.Frag} {a : Addr} {xs : List V} {g : TG} {tt : TT} {te : TE} {vs : List Nat} {σ : L2.St} {H1 H0 : Hp} {Qd : Addr → Hp → Prop} (sq : Sq H0 a xs) (s01 : Same H0 H1)
    (hD : ∀ D, H1 D = none → ∃ Pv : Nat → Hp → Prop, Pv 0 (upd H1 D (.lst [])) ∧ (∀ i H, Pv i H → Same H0 H) ∧ 
      (∀ i x H, xs[i]? = some x → Pv i H → g x (wipe σ vs) H fun σ2 H2 => wipe σ2 vs = wipe σ vs ∧ tt σ2 H2 fun b H3 =>
      if b = true then te σ2 H3 fun y H4 => ∃ acc, H4 D = some (.lst acc) ∧ acc.length < sizeLine ∧ Pv (i + 1) (upd H4 D (.lst (acc ++ [y]))) else Pv (i + 1) H3) ∧ ∀ H, Pv xs.length H → Qd D H) :
    (((∃ xs, SqL K H1 a xs) ∧ ∀ D, H1 D = none → ∃ W : Nat → Nat → Hp → Prop, (∃ m, W 0 m (upd H1 D (.lst []))) ∧ ∀ i m H, W i m H →
      ((Itl K a).stop i H ∧ Qd D H) ∨ ((Itl K a).go i H ∧ ∃ Nx : Hp → Prop, (∀ H', Nx H' → ∃ m', m' < m ∧ W (i + 1) m' H') ∧ ∀ x H', (Itl K a).yld i H x H' → g x (wipe σ vs) H' fun σ2 H2 => wipe σ2 vs = wipe σ vs ∧ tt σ2 H2 fun b H3 =>
        if b = true then te σ2 H3 fun y H4 => ∃ acc, H4 D = some (.lst acc) ∧ acc.length < sizeLine ∧ Nx (upd H4 D (.lst (acc ++ [y]))) else Nx H3))
    ∨ ((∃ xs, SqT K H1 a xs) ∧ ∀ D, H1 D = none → ∃ W : Nat → Nat → Hp → Prop, (∃ m, W 0 m (upd H1 D (.lst []))) ∧ ∀ i m H, W i m H →
      ((Itt K a).stop i H ∧ Qd D H) ∨ ((Itt K a).go i H ∧ ∃ Nx : Hp → Prop, (∀ H', Nx H' → ∃ m', m' < m ∧ W (i + 1) m' H') ∧ ∀ x H', (Itt K a).yld i H x H' → g x (wipe σ vs) H' fun σ2 H2 => wipe σ2 vs = wipe σ vs ∧ tt σ2 H2 fun b H3 =>
        if b = true then te σ2 H3 fun y H4 => ∃ acc, H4 D = some (.lst acc) ∧ acc.length < sizeLine ∧ Nx (upd H4 D (.lst (acc ++ [y]))) else Nx H3))) := by
  rcases sq with sq | sq
  · refine .inl ⟨⟨xs, sqL (s01 _ _ sq)⟩, fun D hn => ?_⟩
    obtain ⟨Pv, h0, hl, hs, hd⟩ := hD D hn
    exact lc_list (xs := xs) Pv h0 (fun i H _ p => sqL (hl i _ p _ _ sq)) hs hd
  · refine .inr ⟨⟨xs, (sq.same s01).sqT⟩, fun D hn => ?_⟩
    obtain ⟨Pv, h0, hl, hs, hd⟩ := hD D hn
    exact lc_tup (xs := xs) Pv h0 (fun i H _ p => (sq.same (hl i _ p)).sqT) hs hd
end Bh

/-! W1 -/
set_option maxHeartbeats 4000000
namespace Bh
open PySem PySem.Spec PyProof.Rows L2
section
variable {P : Program} {w : World} {K : PySem.W.Frag} {mg : Str → Option Value} {base : Heap}
theorem sc_is_integer : FnScope ["value"] ["value"] (defScope (top 17)) := ⟨rfl, rfl, rfl, by decide +kernel, rfl, by decide +kernel, by decide +kernel⟩
def spIsInteger : Sp := fun vs H Q _ => ∃ n : Int, vs = [.int n] ∧ Q (.bl true) H
theorem ok_is_integer (T : Tx K mg) : Fx P w K mg base CX0 1 "is_integer" spIsInteger := by
  refine Fx.of T.g_is_integer T.f_is_integer (fnr0 (N := ["value"]) (ps := ["value"]) T.f_is_integer sc_is_integer (fun _ _ _ _ _ _ us hl => match us, hl with | [_], _ => rfl) (by intro vs H Q E h; repeat (first | (obtain ⟨e, _⟩ := h; subst e; rfl) | (obtain ⟨_, h⟩ := h))) fun cdv A outer s H vs Q E hr h => ?_)
  obtain ⟨n, rfl, q⟩ := h
  refine ⟨_, (pss_one (ps_ret (pe_and (pe_callB call_isi (by rfl) T.m_isinstance (by decide +kernel) (pa_cons (pv 0) (pa_cons (pe_bltn (v := .ty "int") (by rfl) T.m_int (by decide +kernel) rfl) pa_nil))) (pe_one (pe_not (pe_callB call_isi (by rfl) T.m_isinstance (by decide +kernel) (pa_cons (pv 0) (pa_cons (pe_bltn (v := .ty "bool") (by rfl) T.m_bool (by decide +kernel) rfl) pa_nil)))))))), ?_⟩
  repeat (first | refine ⟨_, rfl, ?_⟩ | refine ⟨_, _, rfl, rfl, ?_⟩ | refine ⟨rfl, ?_⟩ | refine ⟨_, _, rfl, ?_⟩ | refine ⟨_, _, _, rfl, ?_⟩ | refine ⟨small_le (by simp), ?_⟩ | refine ⟨Or.inl ⟨by decide, by decide⟩, ?_⟩ | refine ⟨⟨by decide, by decide⟩, ?_⟩ | refine ⟨by show (0 : Int) < _; decide, ?_⟩)
  refine ⟨_, _, _, _, true, rfl, .ty _, .base (.int n), kit_ty (by decide +kernel), ?_⟩
  repeat (first | refine ⟨_, rfl, ?_⟩ | refine ⟨_, _, rfl, rfl, ?_⟩ | refine ⟨rfl, ?_⟩ | refine ⟨_, _, rfl, ?_⟩ | refine ⟨_, _, _, rfl, ?_⟩ | refine ⟨small_le (by simp), ?_⟩ | refine ⟨Or.inl ⟨by decide, by decide⟩, ?_⟩ | refine ⟨⟨by decide, by decide⟩, ?_⟩ | refine ⟨by show (0 : Int) < _; decide, ?_⟩)
  refine ⟨_, _, _, _, false, rfl, .ty _, .base (.int n), kit_ty (by decide +kernel), ?_⟩
  repeat (first | refine ⟨_, rfl, ?_⟩ | refine ⟨_, _, rfl, rfl, ?_⟩ | refine ⟨rfl, ?_⟩ | refine ⟨_, _, rfl, ?_⟩ | refine ⟨_, _, _, rfl, ?_⟩ | refine ⟨small_le (by simp), ?_⟩ | refine ⟨Or.inl ⟨by decide, by decide⟩, ?_⟩ | refine ⟨⟨by decide, by decide⟩, ?_⟩ | refine ⟨by show (0 : Int) < _; decide, ?_⟩)
  exact q
theorem tyx_sq {K : PySem.W.Frag} {H : Hp} {a : Addr} {xs : List V} (h : Sq H a xs) : ∃ t, TyX K H (.ref a) t ∧ PySem.W.kitAny K t [.type "list", .type "tuple"] = some true := by
  have tt : PySem.W.kitAny K (.type "tuple") [.type "list", .type "tuple"] = some true := kitAny_cons (kit_ty (b := "list") (r := false) (by decide +kernel)) (fun _ => kitAny_cons (kit_ty (b := "tuple") (r := true) (by decide +kernel)) (fun z => nomatch z) (fun _ => rfl)) (fun _ => rfl)
  rcases h with h | h | ⟨o, _, h⟩
  · exact ⟨_, .base (.lst h), kitAny_cons (kit_ty (b := "list") (r := true) (by decide +kernel)) (fun z => nomatch z) (fun _ => rfl)⟩
  · exact ⟨_, .base (.tup h), tt⟩
  · exact ⟨_, .fTuple h, tt⟩
def oI : Option Int → V
  | none => .non
  | some i => .int i
def loO (n : Int) : Option Int → Bool
  | none => true
  | some l => decide (l ≤ n)
def hiO (n : Int) : Option Int → Bool
  | none => true
  | some m => decide (n ≤ m)
def inO (n : Int) (lo hi : Option Int) : Bool := loO n lo && hiO n hi
theorem sc_is_within : FnScope ["value", "least", "most"] ["value", "least", "most"] (defScope (top 18)) := ⟨rfl, rfl, rfl, by decide +kernel, rfl, by decide +kernel, by decide +kernel⟩
def spIsWithin : Sp := fun vs H Q _ => ∃ (n : Int) (lo hi : Option Int), vs = [.int n, oI lo, oI hi] ∧ Q (.bl (inO n lo hi)) H
theorem ok_is_within (T : Tx K mg) : Fx P w K mg base CX0 2 "is_within" spIsWithin := by
  refine Fx.of T.g_is_within T.f_is_within (fnr0 (N := ["value", "least", "most"]) (ps := ["value", "least", "most"]) T.f_is_within sc_is_within (fun _ _ _ _ _ _ us hl => match us, hl with | [_, _, _], _ => rfl) (by intro vs H Q E h; repeat (first | (obtain ⟨e, _⟩ := h; subst e; rfl) | (obtain ⟨_, h⟩ := h))) fun cdv A outer s H vs Q E hr h => ?_)
  obtain ⟨n, lo, hi, rfl, q⟩ := h
  refine ⟨_, (pss_cons (ps_if (pt_not (pt_val (pc (ok_is_integer T) (hr.mono (by decide)) (by first | exact pass0 | exact passL) (pa_cons (pv 0) pa_nil)))) (pss_one (ps_ret pe_bl)) pss_nil)
      (pss_one (ps_ret (pe_and (pe_or (pe_cmpR op_isN (pv 1) pe_non (nomark _)) (pe_one (pe_cmpR op_ge (pv 0) (pv 1) (nomark _)))) (pe_one (pe_or (pe_cmpR op_isN (pv 2) pe_non (nomark _)) (pe_one (pe_cmpR op_le (pv 0) (pv 2) (nomark _))))))))), ?_⟩
  repeat (first | refine ⟨_, rfl, ?_⟩ | refine ⟨_, _, rfl, rfl, ?_⟩ | refine ⟨rfl, ?_⟩ | refine ⟨_, _, rfl, ?_⟩ | refine ⟨_, _, _, rfl, ?_⟩ | refine ⟨small_le (by simp), ?_⟩ | refine ⟨Or.inl ⟨by decide, by decide⟩, ?_⟩ | refine ⟨⟨by decide, by decide⟩, ?_⟩ | refine ⟨by show (0 : Int) < _; decide, ?_⟩)
  have hi_ok : Q (.bl (hiO n hi)) H → (if decide (oI hi = V.non) = true then Q (.bl true) H else tOp (rI0 fun i j => V.bl (decide (i ≤ j))) (tVar 0) (tVar 2) (L2.start ["value", "least", "most"] [V.int n, oI lo, oI hi]) H Q) := by
    intro q
    cases hi with
    | none => exact dT rfl q
    | some m =>
      refine dF (fun z => nomatch z) ?_
      repeat (first | refine ⟨_, rfl, ?_⟩ | refine ⟨_, _, rfl, rfl, ?_⟩ | refine ⟨rfl, ?_⟩ | refine ⟨_, _, rfl, ?_⟩ | refine ⟨_, _, _, rfl, ?_⟩ | refine ⟨small_le (by simp), ?_⟩ | refine ⟨Or.inl ⟨by decide, by decide⟩, ?_⟩ | refine ⟨⟨by decide, by decide⟩, ?_⟩ | refine ⟨by show (0 : Int) < _; decide, ?_⟩)
      exact q
  cases lo with
  | none =>
    refine dT rfl ?_
    repeat (first | refine ⟨_, rfl, ?_⟩ | refine ⟨_, _, rfl, rfl, ?_⟩ | refine ⟨rfl, ?_⟩ | refine ⟨_, _, rfl, ?_⟩ | refine ⟨_, _, _, rfl, ?_⟩ | refine ⟨small_le (by simp), ?_⟩ | refine ⟨Or.inl ⟨by decide, by decide⟩, ?_⟩ | refine ⟨⟨by decide, by decide⟩, ?_⟩ | refine ⟨by show (0 : Int) < _; decide, ?_⟩)
    exact hi_ok q
  | some l =>
    refine dF (fun z => nomatch z) ?_
    repeat (first | refine ⟨_, rfl, ?_⟩ | refine ⟨_, _, rfl, rfl, ?_⟩ | refine ⟨rfl, ?_⟩ | refine ⟨_, _, rfl, ?_⟩ | refine ⟨_, _, _, rfl, ?_⟩ | refine ⟨small_le (by simp), ?_⟩ | refine ⟨Or.inl ⟨by decide, by decide⟩, ?_⟩ | refine ⟨⟨by decide, by decide⟩, ?_⟩ | refine ⟨by show (0 : Int) < _; decide, ?_⟩)
    refine dB (fun e => ?_) (fun e => ?_)
    · repeat (first | refine ⟨_, rfl, ?_⟩ | refine ⟨_, _, rfl, rfl, ?_⟩ | refine ⟨rfl, ?_⟩ | refine ⟨_, _, rfl, ?_⟩ | refine ⟨_, _, _, rfl, ?_⟩ | refine ⟨small_le (by simp), ?_⟩ | refine ⟨Or.inl ⟨by decide, by decide⟩, ?_⟩ | refine ⟨⟨by decide, by decide⟩, ?_⟩ | refine ⟨by show (0 : Int) < _; decide, ?_⟩)
      refine hi_ok ?_
      simpa [inO, loO, e] using q
    · simpa [inO, loO, e] using q
theorem sc_is_place : FnScope ["value"] ["value"] (defScope (top 19)) := ⟨rfl, rfl, rfl, by decide +kernel, rfl, by decide +kernel, by decide +kernel⟩
def spIsPlace : Sp := fun vs H Q _ => ∃ n : Int, vs = [.int n] ∧ Q (.bl (inO n (some 0) (some 3))) H
theorem ok_is_place (T : Tx K mg) : Fx P w K mg base CX0 3 "is_place" spIsPlace := by
  refine Fx.of T.g_is_place T.f_is_place (fnr0 (N := ["value"]) (ps := ["value"]) T.f_is_place sc_is_place (fun _ _ _ _ _ _ us hl => match us, hl with | [_], _ => rfl) (by intro vs H Q E h; repeat (first | (obtain ⟨e, _⟩ := h; subst e; rfl) | (obtain ⟨_, h⟩ := h))) fun cdv A outer s H vs Q E hr h => ?_)
  obtain ⟨n, rfl, q⟩ := h
  refine ⟨_, (pss_one (ps_ret (pc (ok_is_within T) (hr.mono (by decide)) (by first | exact pass0 | exact passL) (pa_cons (pv 0) (pa_cons pe_int (pa_cons (pe_op op_sub (pe_glob (v := .int 4) rfl T.i_PLACES.choose_spec ⟨_, rfl⟩) pe_int) pa_nil)))))), ?_⟩
  repeat (first | refine ⟨_, rfl, ?_⟩ | refine ⟨_, _, rfl, rfl, ?_⟩ | refine ⟨rfl, ?_⟩ | refine ⟨_, _, rfl, ?_⟩ | refine ⟨_, _, _, rfl, ?_⟩ | refine ⟨small_le (by simp), ?_⟩ | refine ⟨Or.inl ⟨by decide, by decide⟩, ?_⟩ | refine ⟨⟨by decide, by decide⟩, ?_⟩ | refine ⟨by show (0 : Int) < _; decide, ?_⟩)
  exact ⟨n, some 0, some 3, rfl, q⟩
theorem take_all (bs : List Bool) (h : ∀ b ∈ bs, b = true) : bs.all id = true := List.all_eq_true.mpr h
theorem lc_same {H0 H1 : Hp} {D : Addr} {o o' : HO} (s : Same H0 H1) (n : H0 D = none) : Same H0 (upd H1 D o) := same_mut s n
theorem sc_are_integers : FnScope ["value", "each"] ["value"] (defScope (top 20)) := ⟨rfl, rfl, rfl, by decide +kernel, rfl, by decide +kernel, by decide +kernel⟩
def spAreIntegers : Sp := fun vs H Q _ => ∃ (a : Addr) (ns : List Int), vs = [.ref a] ∧ Sq H a (vi ns) ∧ ns.length < 1000 ∧ ∀ H', Same H H' → Q (.bl true) H'
theorem ok_are_integers (T : Tx K mg) : Fx P w K mg base CX0 2 "are_integers" spAreIntegers := by
  refine Fx.of T.g_are_integers T.f_are_integers (fnr0 (N := ["value", "each"]) (ps := ["value"]) T.f_are_integers sc_are_integers (fun _ _ _ _ _ _ us hl => match us, hl with | [_], _ => rfl) (by intro vs H Q E h; repeat (first | (obtain ⟨e, _⟩ := h; subst e; rfl) | (obtain ⟨_, h⟩ := h))) fun cdv A outer s H vs Q E hr h => ?_)
  obtain ⟨a, ns, rfl, hs, hz, q⟩ := h
  refine ⟨_, (pss_one (ps_ret (pe_and (pe_callB call_isiT (by rfl) T.m_isinstance (by decide +kernel) (pa_cons (pv 0) (pa_cons (pe_tup (pa_cons (pe_bltn (v := .ty "list") (by rfl) T.m_list (by decide +kernel) rfl) (pa_cons (pe_bltn (v := .ty "tuple") (by rfl) T.m_tuple (by decide +kernel) rfl) pa_nil))) pa_nil))) (pe_one (pe_callB (cr_all rfl) (by rfl) T.m_all (by decide +kernel) (pa_cons (pe_lc (own := [("each", 1)]) rfl sc_are_integers.nd (pi_sq (pv 0)) (blkOk_by (own := [("each", 1)]) (N := ["value", "each"]) (sc := defScope (top 20)) (by decide +kernel)) (fun _ _ _ _ _ => (pg_name (i := 1) sc_are_integers.nd rfl (Or.inl rfl))) (fun _ _ _ _ _ => pts_nil) (fun _ _ _ _ _ => (pc (ok_is_integer T) (hr.mono (by decide)) (by first | exact pass0 | exact passL) (pa_cons (pv 1) pa_nil)))) pa_nil)))))), ?_⟩
  repeat (first | refine ⟨_, rfl, ?_⟩ | refine ⟨_, _, rfl, rfl, ?_⟩ | refine ⟨rfl, ?_⟩ | refine ⟨_, _, rfl, ?_⟩ | refine ⟨_, _, _, rfl, ?_⟩ | refine ⟨small_le (by simp), ?_⟩ | refine ⟨Or.inl ⟨by decide, by decide⟩, ?_⟩ | refine ⟨⟨by decide, by decide⟩, ?_⟩ | refine ⟨by show (0 : Int) < _; decide, ?_⟩)
  intro p np
  have s1 := same_new (o := .tup [V.ty "list", V.ty "tuple"]) np
  obtain ⟨t, ht, hk⟩ := tyx_sq (K := K) (hs.same s1)
  refine ⟨_, p, _, t, [.type "list", .type "tuple"], true, rfl, upd_same, .cons (.ty _) (.cons (.ty _) .nil), ht, hk, ?_⟩
  generalize upd H p (.tup [V.ty "list", V.ty "tuple"]) = H1 at s1 ⊢
  repeat (first | refine ⟨_, rfl, ?_⟩ | refine ⟨_, _, rfl, rfl, ?_⟩ | refine ⟨rfl, ?_⟩ | refine ⟨_, _, rfl, ?_⟩ | refine ⟨_, _, _, rfl, ?_⟩ | refine ⟨small_le (by simp), ?_⟩ | refine ⟨Or.inl ⟨by decide, by decide⟩, ?_⟩ | refine ⟨⟨by decide, by decide⟩, ?_⟩ | refine ⟨by show (0 : Int) < _; decide, ?_⟩)
  refine lc_sq (vs := [1]) (hs.same s1) (Same.refl _) fun D nD => ⟨fun i H' => Same H1 H' ∧ H' D = some (.lst ((List.replicate i true).map V.bl)), ⟨same_new nD, upd_same⟩, fun _ _ p => p.1, fun i x H2 hx hp => ?_, fun H2 hp => ?_⟩
  · obtain ⟨p1, p2⟩ := hp
    rw [List.getElem?_map] at hx
    obtain ⟨y, hy, rfl⟩ := Option.map_eq_some_iff.mp hx
    refine ⟨rfl, ?_⟩
    repeat (first | refine ⟨_, rfl, ?_⟩ | refine ⟨_, _, rfl, rfl, ?_⟩ | refine ⟨rfl, ?_⟩ | refine ⟨_, _, rfl, ?_⟩ | refine ⟨_, _, _, rfl, ?_⟩ | refine ⟨small_le (by simp), ?_⟩ | refine ⟨Or.inl ⟨by decide, by decide⟩, ?_⟩ | refine ⟨⟨by decide, by decide⟩, ?_⟩ | refine ⟨by show (0 : Int) < _; decide, ?_⟩)
    have hi : i < ns.length := (List.getElem?_eq_some_iff.mp hy).1
    refine ⟨_, p2, small_lt (by simp; omega), same_mut p1 nD, ?_⟩
    rw [upd_same, List.replicate_succ', List.map_append]
    rfl
  · obtain ⟨p1, p2⟩ := hp
    refine ⟨D, _, rfl, sqL p2, ?_⟩
    rw [take_all _ (fun b hb => List.eq_of_mem_replicate hb)]
    exact q _ (s1.trans p1)

def gcdL (ns : List Int) : Int := ns.foldl (fun g x => ((Nat.gcd g.natAbs x.natAbs : Nat) : Int)) 0
theorem sc_measure : FnScope ["values", "found", "value"] ["values"] (defScope (top 24)) := ⟨rfl, rfl, rfl, by decide +kernel, rfl, by decide +kernel, by decide +kernel⟩
def spMeasure : Sp := fun vs H Q _ => ∃ (a : Addr) (ns : List Int), vs = [.ref a] ∧ Sq H a (vi ns) ∧ Q (.int (gcdL ns)) H
theorem ok_measure (T : Tx K mg) : Fx P w K mg base CX0 1 "measure" spMeasure := by
  refine Fx.of T.g_measure T.f_measure (fnr0 (N := ["values", "found", "value"]) (ps := ["values"]) T.f_measure sc_measure (fun _ _ _ _ _ _ us hl => match us, hl with | [_], _ => rfl) (by intro vs H Q E h; repeat (first | (obtain ⟨e, _⟩ := h; subst e; rfl) | (obtain ⟨_, h⟩ := h))) fun cdv A outer s H vs Q E hr h => ?_)
  obtain ⟨a, ns, rfl, hs, q⟩ := h
  refine ⟨_, (pss_cons (ps_set (i := 1) sc_measure.nd rfl (Or.inl rfl) pe_int)
      (pss_cons (ps_for PassesOwn.never rfl (pi_sq (pv 0)) (pg_name (i := 2) sc_measure.nd rfl (Or.inl rfl)) (pss_one (ps_set (i := 1) sc_measure.nd rfl (Or.inl rfl) (pe_callBfun cr_gcd rfl T.gcd (pa_cons (pv 1) (pa_cons (pv 2) pa_nil))))))
      (pss_one (ps_ret (pv 1))))), ?_⟩
  repeat (first | refine ⟨_, rfl, ?_⟩ | refine ⟨_, _, rfl, rfl, ?_⟩ | refine ⟨rfl, ?_⟩ | refine ⟨_, _, rfl, ?_⟩ | refine ⟨_, _, _, rfl, ?_⟩ | refine ⟨small_le (by simp), ?_⟩ | refine ⟨Or.inl ⟨by decide, by decide⟩, ?_⟩ | refine ⟨⟨by decide, by decide⟩, ?_⟩ | refine ⟨by show (0 : Int) < _; decide, ?_⟩)
  refine for_sq hs (fun i σ H' => H' = H ∧ ∃ y, σ = [some (.ref a), some (.int (gcdL (ns.take i))), y]) ⟨rfl, _, rfl⟩ (fun _ _ _ p => p.1 ▸ Same.refl _) (fun i x σ H2 hx hp => ?_) (fun σ H2 hp => ?_)
  · obtain ⟨rfl, y, rfl⟩ := hp
    rw [List.getElem?_map] at hx
    obtain ⟨y, hy, rfl⟩ := Option.map_eq_some_iff.mp hx
    repeat (first | refine ⟨_, rfl, ?_⟩ | refine ⟨_, _, rfl, rfl, ?_⟩ | refine ⟨rfl, ?_⟩ | refine ⟨_, _, rfl, ?_⟩ | refine ⟨_, _, _, rfl, ?_⟩ | refine ⟨small_le (by simp), ?_⟩ | refine ⟨Or.inl ⟨by decide, by decide⟩, ?_⟩ | refine ⟨⟨by decide, by decide⟩, ?_⟩ | refine ⟨by show (0 : Int) < _; decide, ?_⟩)
    refine ⟨some (.int y), ?_⟩
    have e : ns.take (i + 1) = ns.take i ++ [y] := by rw [List.take_add_one, hy]; rfl
    have e2 : gcdL (ns.take (i + 1)) = ((Nat.gcd (gcdL (ns.take i)).natAbs y.natAbs : Nat) : Int) := by rw [e]; unfold gcdL; rw [List.foldl_append]; rfl
    rw [e2]
    rfl
  · obtain ⟨rfl, y, rfl⟩ := hp
    repeat (first | refine ⟨_, rfl, ?_⟩ | refine ⟨_, _, rfl, rfl, ?_⟩ | refine ⟨rfl, ?_⟩ | refine ⟨_, _, rfl, ?_⟩ | refine ⟨_, _, _, rfl, ?_⟩ | refine ⟨small_le (by simp), ?_⟩ | refine ⟨Or.inl ⟨by decide, by decide⟩, ?_⟩ | refine ⟨⟨by decide, by decide⟩, ?_⟩ | refine ⟨by show (0 : Int) < _; decide, ?_⟩)
    rw [List.length_map, List.take_length]
    exact q
theorem sc_root_of : FnScope ["number", "found"] ["number"] (defScope (top 25)) := ⟨rfl, rfl, rfl, by decide +kernel, rfl, by decide +kernel, by decide +kernel⟩
def spRootOf : Sp := fun vs H Q _ => ∃ (n : Int) (k : Nat), vs = [.int n] ∧ n = (k : Int) * k ∧ k < 2 ^ 32 ∧ Q (.int k) H
theorem ok_root_of (T : Tx K mg) : Fx P w K mg base CX0 1 "root_of" spRootOf := by
  refine Fx.of T.g_root_of T.f_root_of (fnr0 (N := ["number", "found"]) (ps := ["number"]) T.f_root_of sc_root_of (fun _ _ _ _ _ _ us hl => match us, hl with | [_], _ => rfl) (by intro vs H Q E h; repeat (first | (obtain ⟨e, _⟩ := h; subst e; rfl) | (obtain ⟨_, h⟩ := h))) fun cdv A outer s H vs Q E hr h => ?_)
  obtain ⟨n, k, rfl, e, hk, q⟩ := h
  refine ⟨_, (pss_cons (ps_if (pt_cmpR op_lt (pv 0) pe_int (nomark _)) (pss_one (ps_ret pe_non)) pss_nil)
      (pss_cons (ps_set (i := 1) sc_root_of.nd rfl (Or.inl rfl) (pe_callBfun cr_isqrt rfl T.isqrt (pa_cons (pv 0) pa_nil)))
      (pss_one (ps_ret (pe_ifExp (pt_cmpR op_eq (pe_op op_mulW (pv 1) (pv 1)) (pv 0) (nomark _)) (pv 1) pe_non))))), ?_⟩
  have h0 : 0 ≤ n := by rw [e]; exact Int.mul_nonneg (by omega) (by omega)
  repeat (first | refine ⟨_, rfl, ?_⟩ | refine ⟨_, _, rfl, rfl, ?_⟩ | refine ⟨rfl, ?_⟩ | refine ⟨_, _, rfl, ?_⟩ | refine ⟨_, _, _, rfl, ?_⟩ | refine ⟨small_le (by simp), ?_⟩ | refine ⟨Or.inl ⟨by decide, by decide⟩, ?_⟩ | refine ⟨⟨by decide, by decide⟩, ?_⟩ | refine ⟨by show (0 : Int) < _; decide, ?_⟩)
  refine dF (by omega) ?_
  repeat (first | refine ⟨_, rfl, ?_⟩ | refine ⟨_, _, rfl, rfl, ?_⟩ | refine ⟨rfl, ?_⟩ | refine ⟨_, _, rfl, ?_⟩ | refine ⟨_, _, _, rfl, ?_⟩ | refine ⟨small_le (by simp), ?_⟩ | refine ⟨Or.inl ⟨by decide, by decide⟩, ?_⟩ | refine ⟨⟨by decide, by decide⟩, ?_⟩ | refine ⟨by show (0 : Int) < _; decide, ?_⟩)
  refine ⟨n, k, rfl, e, hk, ?_⟩
  repeat (first | refine ⟨_, rfl, ?_⟩ | refine ⟨_, _, rfl, rfl, ?_⟩ | refine ⟨rfl, ?_⟩ | refine ⟨_, _, rfl, ?_⟩ | refine ⟨_, _, _, rfl, ?_⟩ | refine ⟨small_le (by simp), ?_⟩ | refine ⟨Or.inl ⟨by decide, by decide⟩, ?_⟩ | refine ⟨⟨by decide, by decide⟩, ?_⟩ | refine ⟨by show (0 : Int) < _; decide, ?_⟩)
  refine ⟨wide_mul (a := 32) (b := 32) (by omega) (by omega) (by decide) (by decide) (by decide), ?_⟩
  repeat (first | refine ⟨_, rfl, ?_⟩ | refine ⟨_, _, rfl, rfl, ?_⟩ | refine ⟨rfl, ?_⟩ | refine ⟨_, _, rfl, ?_⟩ | refine ⟨_, _, _, rfl, ?_⟩ | refine ⟨small_le (by simp), ?_⟩ | refine ⟨Or.inl ⟨by decide, by decide⟩, ?_⟩ | refine ⟨⟨by decide, by decide⟩, ?_⟩ | refine ⟨by show (0 : Int) < _; decide, ?_⟩)
  refine eT e.symm ?_
  repeat (first | refine ⟨_, rfl, ?_⟩ | refine ⟨_, _, rfl, rfl, ?_⟩ | refine ⟨rfl, ?_⟩ | refine ⟨_, _, rfl, ?_⟩ | refine ⟨_, _, _, rfl, ?_⟩ | refine ⟨small_le (by simp), ?_⟩ | refine ⟨Or.inl ⟨by decide, by decide⟩, ?_⟩ | refine ⟨⟨by decide, by decide⟩, ?_⟩ | refine ⟨by show (0 : Int) < _; decide, ?_⟩)
  exact q
theorem sc_need_number : FnScope ["value", "part", "least", "most"] ["value", "part", "least", "most"] (defScope (top 21)) := ⟨rfl, rfl, rfl, by decide +kernel, rfl, by decide +kernel, by decide +kernel⟩
def spNeedNumber : Sp := fun vs H Q _ => ∃ (n : Int) (p : V) (lo hi : Option Int), vs = [.int n, p, oI lo, oI hi] ∧ inO n lo hi = true ∧ Q .non H
theorem ok_need_number (T : Tx K mg) : Fx P w K mg base CX0 3 "need_number" spNeedNumber := by
  refine Fx.of T.g_need_number T.f_need_number (fnr0 (N := ["value", "part", "least", "most"]) (ps := ["value", "part", "least", "most"]) T.f_need_number sc_need_number (fun _ _ _ _ _ _ us hl => match us, hl with | [_, _, _, _], _ => rfl) (by intro vs H Q E h; repeat (first | (obtain ⟨e, _⟩ := h; subst e; rfl) | (obtain ⟨_, h⟩ := h))) fun cdv A outer s H vs Q E hr h => ?_)
  obtain ⟨n, p, lo, hi, rfl, e, q⟩ := h
  refine ⟨_, (pss_one (ps_if (pt_not (pt_val (pc (ok_is_within T) (hr.mono (by decide)) (by first | exact pass0 | exact passL) (pa_cons (pv 0) (pa_cons (pv 2) (pa_cons (pv 3) pa_nil)))))) (pss_one ps_never) pss_nil)), ?_⟩
  repeat (first | refine ⟨_, rfl, ?_⟩ | refine ⟨_, _, rfl, rfl, ?_⟩ | refine ⟨rfl, ?_⟩ | refine ⟨_, _, rfl, ?_⟩ | refine ⟨_, _, _, rfl, ?_⟩ | refine ⟨small_le (by simp), ?_⟩ | refine ⟨Or.inl ⟨by decide, by decide⟩, ?_⟩ | refine ⟨⟨by decide, by decide⟩, ?_⟩ | refine ⟨by show (0 : Int) < _; decide, ?_⟩)
  rw [e]
  exact q
theorem sc_need_place : FnScope ["value"] ["value"] (defScope (top 22)) := ⟨rfl, rfl, rfl, by decide +kernel, rfl, by decide +kernel, by decide +kernel⟩
def spNeedPlace : Sp := fun vs H Q _ => ∃ n : Nat, vs = [.int n] ∧ n < 4 ∧ Q .non H
theorem ok_need_place (T : Tx K mg) : Fx P w K mg base CX0 4 "need_place" spNeedPlace := by
  refine Fx.of T.g_need_place T.f_need_place (fnr0 (N := ["value"]) (ps := ["value"]) T.f_need_place sc_need_place (fun _ _ _ _ _ _ us hl => match us, hl with | [_], _ => rfl) (by intro vs H Q E h; repeat (first | (obtain ⟨e, _⟩ := h; subst e; rfl) | (obtain ⟨_, h⟩ := h))) fun cdv A outer s H vs Q E hr h => ?_)
  obtain ⟨n, rfl, hn, q⟩ := h
  refine ⟨_, (pss_one (ps_if (pt_not (pt_val (pc (ok_is_place T) (hr.mono (by decide)) (by first | exact pass0 | exact passL) (pa_cons (pv 0) pa_nil)))) (pss_one ps_never) pss_nil)), ?_⟩
  repeat (first | refine ⟨_, rfl, ?_⟩ | refine ⟨_, _, rfl, rfl, ?_⟩ | refine ⟨rfl, ?_⟩ | refine ⟨_, _, rfl, ?_⟩ | refine ⟨_, _, _, rfl, ?_⟩ | refine ⟨small_le (by simp), ?_⟩ | refine ⟨Or.inl ⟨by decide, by decide⟩, ?_⟩ | refine ⟨⟨by decide, by decide⟩, ?_⟩ | refine ⟨by show (0 : Int) < _; decide, ?_⟩)
  have e : inO n (some 0) (some 3) = true := by simp [inO, loO, hiO]; omega
  rw [e]
  exact q
theorem sc_need_places : FnScope ["place", "other"] ["place", "other"] (defScope (top 23)) := ⟨rfl, rfl, rfl, by decide +kernel, rfl, by decide +kernel, by decide +kernel⟩
def spNeedPlaces : Sp := fun vs H Q _ => ∃ n m : Nat, vs = [.int n, .int m] ∧ n < 4 ∧ m < 4 ∧ n ≠ m ∧ Q .non H
theorem ok_need_places (T : Tx K mg) : Fx P w K mg base CX0 5 "need_places" spNeedPlaces := by
  refine Fx.of T.g_need_places T.f_need_places (fnr0 (N := ["place", "other"]) (ps := ["place", "other"]) T.f_need_places sc_need_places (fun _ _ _ _ _ _ us hl => match us, hl with | [_, _], _ => rfl) (by intro vs H Q E h; repeat (first | (obtain ⟨e, _⟩ := h; subst e; rfl) | (obtain ⟨_, h⟩ := h))) fun cdv A outer s H vs Q E hr h => ?_)
  obtain ⟨n, m, rfl, hn, hm, hne, q⟩ := h
  refine ⟨_, (pss_cons (ps_expr (pc (ok_need_place T) (hr.mono (by decide)) (by first | exact pass0 | exact passL) (pa_cons (pv 0) pa_nil)))
      (pss_cons (ps_expr (pc (ok_need_place T) (hr.mono (by decide)) (by first | exact pass0 | exact passL) (pa_cons (pv 1) pa_nil)))
      (pss_one (ps_if (pt_cmpR op_eq (pv 0) (pv 1) (nomark _)) (pss_one ps_never) pss_nil)))), ?_⟩
  repeat (first | refine ⟨_, rfl, ?_⟩ | refine ⟨_, _, rfl, rfl, ?_⟩ | refine ⟨rfl, ?_⟩ | refine ⟨_, _, rfl, ?_⟩ | refine ⟨_, _, _, rfl, ?_⟩ | refine ⟨small_le (by simp), ?_⟩ | refine ⟨Or.inl ⟨by decide, by decide⟩, ?_⟩ | refine ⟨⟨by decide, by decide⟩, ?_⟩ | refine ⟨by show (0 : Int) < _; decide, ?_⟩)
  refine ⟨hn, ?_⟩
  repeat (first | refine ⟨_, rfl, ?_⟩ | refine ⟨_, _, rfl, rfl, ?_⟩ | refine ⟨rfl, ?_⟩ | refine ⟨_, _, rfl, ?_⟩ | refine ⟨_, _, _, rfl, ?_⟩ | refine ⟨small_le (by simp), ?_⟩ | refine ⟨Or.inl ⟨by decide, by decide⟩, ?_⟩ | refine ⟨⟨by decide, by decide⟩, ?_⟩ | refine ⟨by show (0 : Int) < _; decide, ?_⟩)
  refine ⟨hm, ?_⟩
  repeat (first | refine ⟨_, rfl, ?_⟩ | refine ⟨_, _, rfl, rfl, ?_⟩ | refine ⟨rfl, ?_⟩ | refine ⟨_, _, rfl, ?_⟩ | refine ⟨_, _, _, rfl, ?_⟩ | refine ⟨small_le (by simp), ?_⟩ | refine ⟨Or.inl ⟨by decide, by decide⟩, ?_⟩ | refine ⟨⟨by decide, by decide⟩, ?_⟩ | refine ⟨by show (0 : Int) < _; decide, ?_⟩)
  refine eF (by omega) ?_
  exact q
/-! ### exchanges -/
def letIn (ns : List Int) (i : Nat) : Int := 2 * (ns.sum - ns.getD i 0) - ns.getD i 0
theorem atI_vi {ns : List Int} {i : Nat} (h : i < ns.length) : atI (vi ns) (i : Int) = some (.int (ns.getD i 0)) := by
  refine atI_nat ?_
  rw [List.getElem?_map, List.getElem?_eq_getElem h, List.getD_eq_getElem?_getD, List.getElem?_eq_getElem h]
  rfl
theorem sc_let_in : FnScope ["bends", "place"] ["bends", "place"] (defScope (top 40)) := ⟨rfl, rfl, rfl, by decide +kernel, rfl, by decide +kernel, by decide +kernel⟩
def spLetIn : Sp := fun vs H Q _ => ∃ (a : Addr) (ns : List Int) (i : Nat), vs = [.ref a, .int i] ∧ Tq H a (vi ns) ∧ i < ns.length ∧ Q (.int (letIn ns i)) H
theorem ok_let_in (T : Tx K mg) : Fx P w K mg base CX0 1 "let_in" spLetIn := by
  refine Fx.of T.g_let_in T.f_let_in (fnr0 (N := ["bends", "place"]) (ps := ["bends", "place"]) T.f_let_in sc_let_in (fun _ _ _ _ _ _ us hl => match us, hl with | [_, _], _ => rfl) (by intro vs H Q E h; repeat (first | (obtain ⟨e, _⟩ := h; subst e; rfl) | (obtain ⟨_, h⟩ := h))) fun cdv A outer s H vs Q E hr h => ?_)
  obtain ⟨a, ns, i, rfl, hs, hi, q⟩ := h
  refine ⟨_, (pss_one (ps_ret (pe_op op_sub (pe_op op_mul pe_int (pe_op op_sub (pe_callB (cr_sumX rfl) (by rfl) T.m_sum (by decide +kernel) (pa_cons (pv 0) pa_nil)) (pe_ix ix_tup (pv 0) (pv 1) (fun _ _ => rfl)))) (pe_ix ix_tup (pv 0) (pv 1) (fun _ _ => rfl))))), ?_⟩
  repeat (first | refine ⟨_, rfl, ?_⟩ | refine ⟨_, _, rfl, rfl, ?_⟩ | refine ⟨rfl, ?_⟩ | refine ⟨_, _, rfl, ?_⟩ | refine ⟨_, _, _, rfl, ?_⟩ | refine ⟨small_le (by simp), ?_⟩ | refine ⟨Or.inl ⟨by decide, by decide⟩, ?_⟩ | refine ⟨⟨by decide, by decide⟩, ?_⟩ | refine ⟨by show (0 : Int) < _; decide, ?_⟩)
  refine ⟨a, ns, rfl, .inr hs.sqT, ?_⟩
  repeat (first | refine ⟨_, rfl, ?_⟩ | refine ⟨_, _, rfl, rfl, ?_⟩ | refine ⟨rfl, ?_⟩ | refine ⟨_, _, rfl, ?_⟩ | refine ⟨_, _, _, rfl, ?_⟩ | refine ⟨small_le (by simp), ?_⟩ | refine ⟨Or.inl ⟨by decide, by decide⟩, ?_⟩ | refine ⟨⟨by decide, by decide⟩, ?_⟩ | refine ⟨by show (0 : Int) < _; decide, ?_⟩)
  refine ⟨a, _, i, _, rfl, rfl, hs.sqT, atI_vi hi, ?_⟩
  repeat (first | refine ⟨_, rfl, ?_⟩ | refine ⟨_, _, rfl, rfl, ?_⟩ | refine ⟨rfl, ?_⟩ | refine ⟨_, _, rfl, ?_⟩ | refine ⟨_, _, _, rfl, ?_⟩ | refine ⟨small_le (by simp), ?_⟩ | refine ⟨Or.inl ⟨by decide, by decide⟩, ?_⟩ | refine ⟨⟨by decide, by decide⟩, ?_⟩ | refine ⟨by show (0 : Int) < _; decide, ?_⟩)
  refine ⟨a, _, i, _, rfl, rfl, hs.sqT, atI_vi hi, ?_⟩
  repeat (first | refine ⟨_, rfl, ?_⟩ | refine ⟨_, _, rfl, rfl, ?_⟩ | refine ⟨rfl, ?_⟩ | refine ⟨_, _, rfl, ?_⟩ | refine ⟨_, _, _, rfl, ?_⟩ | refine ⟨small_le (by simp), ?_⟩ | refine ⟨Or.inl ⟨by decide, by decide⟩, ?_⟩ | refine ⟨⟨by decide, by decide⟩, ?_⟩ | refine ⟨by show (0 : Int) < _; decide, ?_⟩)
  exact q

/-- the four with the place exchanged -/
def exch (ns : List Int) (i : Nat) : List Int := ns.take i ++ [letIn ns i] ++ ns.drop (i + 1)
theorem exch_len {ns : List Int} {i : Nat} (h : i < ns.length) : (exch ns i).length = ns.length := by
  simp [exch]; omega
theorem sc_exchanged_at : FnScope ["bends", "place"] ["bends", "place"] (defScope (top 41)) := ⟨rfl, rfl, rfl, by decide +kernel, rfl, by decide +kernel, by decide +kernel⟩
def spExchangedAt : Sp := fun vs H Q _ => ∃ (a : Addr) (ns : List Int) (i : Nat), vs = [.ref a, .int i] ∧ Tq H a (vi ns) ∧ i < ns.length ∧ ns.length = 4 ∧
  ∀ H' p, Same H H' → H p = none → Bq H' p (vi (exch ns i)) → Q (.ref p) H'
theorem ok_exchanged_at (T : Tx K mg) : Fx P w K mg base CX0 2 "exchanged_at" spExchangedAt := by
  refine Fx.of T.g_exchanged_at T.f_exchanged_at (fnr0 (N := ["bends", "place"]) (ps := ["bends", "place"]) T.f_exchanged_at sc_exchanged_at (fun _ _ _ _ _ _ us hl => match us, hl with | [_, _], _ => rfl) (by intro vs H Q E h; repeat (first | (obtain ⟨e, _⟩ := h; subst e; rfl) | (obtain ⟨_, h⟩ := h))) fun cdv A outer s H vs Q E hr h => ?_)
  obtain ⟨a, ns, i, rfl, hs, hi, h4, q⟩ := h
  have hl : (vi ns).length = 4 := by rw [List.length_map, h4]
  refine ⟨_, (pss_one (ps_ret (pe_tupB (StX.pa_star (pe_slice sl_tup (pv 0) po_none (po_some (pv 1))) (pa_cons (pc (ok_let_in T) (hr.mono (by decide)) (by first | exact pass0 | exact passL) (pa_cons (pv 0) (pa_cons (pv 1) pa_nil))) (StX.pa_star (pe_slice sl_tup (pv 0) (po_some (pe_op op_add (pv 1) pe_int)) po_none) pa_nil)))))), ?_⟩
  repeat (first | refine ⟨_, rfl, ?_⟩ | refine ⟨_, _, rfl, rfl, ?_⟩ | refine ⟨rfl, ?_⟩ | refine ⟨_, _, rfl, ?_⟩ | refine ⟨_, _, _, rfl, ?_⟩ | refine ⟨small_le (by simp), ?_⟩ | refine ⟨Or.inl ⟨by decide, by decide⟩, ?_⟩ | refine ⟨⟨by decide, by decide⟩, ?_⟩ | refine ⟨by show (0 : Int) < _; decide, ?_⟩)
  refine ⟨a, _, rfl, hs.sqT, fun z => ?_, ?_⟩
  · have := z.2
    rw [HT.sIx_nat] at this
    omega
  (intro p np; generalize hqZ : upd _ p _ = H1; have s1 := new_same hqZ np; have e1 := new_at hqZ; clear hqZ)
  rw [cut_take _ (by omega)] at e1
  refine ⟨p, _, rfl, .inl (sqT e1), ?_⟩
  repeat (first | refine ⟨_, rfl, ?_⟩ | refine ⟨_, _, rfl, rfl, ?_⟩ | refine ⟨rfl, ?_⟩ | refine ⟨_, _, rfl, ?_⟩ | refine ⟨_, _, _, rfl, ?_⟩ | refine ⟨small_le (by simp), ?_⟩ | refine ⟨Or.inl ⟨by decide, by decide⟩, ?_⟩ | refine ⟨⟨by decide, by decide⟩, ?_⟩ | refine ⟨by show (0 : Int) < _; decide, ?_⟩)
  refine ⟨a, ns, i, rfl, hs.same s1, hi, ?_⟩
  repeat (first | refine ⟨_, rfl, ?_⟩ | refine ⟨_, _, rfl, rfl, ?_⟩ | refine ⟨rfl, ?_⟩ | refine ⟨_, _, rfl, ?_⟩ | refine ⟨_, _, _, rfl, ?_⟩ | refine ⟨small_le (by simp), ?_⟩ | refine ⟨Or.inl ⟨by decide, by decide⟩, ?_⟩ | refine ⟨⟨by decide, by decide⟩, ?_⟩ | refine ⟨by show (0 : Int) < _; decide, ?_⟩)
  refine ⟨a, _, rfl, (hs.same s1).sqT, fun z => ?_, ?_⟩
  · have := z.1
    rw [show ((i : Int) + 1) = ((i + 1 : Nat) : Int) from rfl, HT.sIx_nat] at this
    omega
  (intro p2 np2; generalize hqZ : upd _ p2 _ = H2; have s2 := new_same hqZ np2; have e2 := new_at hqZ; clear hqZ)
  rw [show ((i : Int) + 1) = ((i + 1 : Nat) : Int) from rfl, cut_drop _ (by omega)] at e2
  refine ⟨p2, _, rfl, .inl (sqT e2), ?_⟩
  refine ⟨small_le (by simp; omega), ?_⟩
  (intro oZ p3 hoZ np3; generalize hqZ : upd _ p3 _ = H3; have s3 := new_same hqZ np3; have e3 := new_bq hqZ hoZ; clear hqZ hoZ)
  refine q H3 p3 (s1.trans (s2.trans s3)) ((s1.trans s2).free np3) ?_
  refine Eq.mp ?_ e3
  simp [exch, vi, List.map_take, List.map_drop]
theorem sc_others_of : FnScope ["place", "other"] ["place"] (defScope (top 44)) := ⟨rfl, rfl, rfl, by decide +kernel, rfl, by decide +kernel, by decide +kernel⟩
def spOthersOf : Sp := fun vs H Q _ => ∃ i : Nat, vs = [.int i] ∧ ∀ H' p, Same H H' → H p = none → H' p = some (.lst (vi (((List.range 4).filter (· != i)).map fun (k : Nat) => ((k : Nat) : Int)))) → Q (.ref p) H'
theorem ok_others_of (T : Tx K mg) : Fx P w K mg base CX0 1 "others_of" spOthersOf := by
  refine Fx.of T.g_others_of T.f_others_of (fnr0 (N := ["place", "other"]) (ps := ["place"]) T.f_others_of sc_others_of (fun _ _ _ _ _ _ us hl => match us, hl with | [_], _ => rfl) (by intro vs H Q E h; repeat (first | (obtain ⟨e, _⟩ := h; subst e; rfl) | (obtain ⟨_, h⟩ := h))) fun cdv A outer s H vs Q E hr h => ?_)
  obtain ⟨i, rfl, q⟩ := h
  refine ⟨_, (pss_one (ps_ret (pe_lc (own := [("other", 1)]) rfl sc_others_of.nd (pi_range1 (by rfl) T.m_range (pa_cons (pe_glob (v := .int 4) rfl T.i_PLACES.choose_spec ⟨_, rfl⟩) pa_nil)) (blkOk_by (own := [("other", 1)]) (N := ["place", "other"]) (sc := defScope (top 44)) (by decide +kernel)) (fun _ _ _ _ _ => (pg_name (i := 1) sc_others_of.nd rfl (Or.inl rfl))) (fun _ _ _ _ _ => (pts_one (pt_cmpR op_ne (pv 1) (pv 0) (nomark _)))) (fun _ _ _ _ _ => (pv 1))))), ?_⟩
  repeat (first | refine ⟨_, rfl, ?_⟩ | refine ⟨_, _, rfl, rfl, ?_⟩ | refine ⟨rfl, ?_⟩ | refine ⟨_, _, rfl, ?_⟩ | refine ⟨_, _, _, rfl, ?_⟩ | refine ⟨small_le (by simp), ?_⟩ | refine ⟨Or.inl ⟨by decide, by decide⟩, ?_⟩ | refine ⟨⟨by decide, by decide⟩, ?_⟩ | refine ⟨by show (0 : Int) < _; decide, ?_⟩)
  refine ⟨by decide, by decide, fun D nD => ?_⟩
  refine lc_range (lo := 0) (n := 4) (fun k H' => Same H H' ∧ H' D = some (.lst (vi (((List.range k).filter (· != i)).map fun (k : Nat) => ((k : Nat) : Int))))) ⟨same_new nD, upd_same⟩ (fun k H' hk hp => ?_) (fun H' hp => q H' D hp.1 nD hp.2)
  obtain ⟨p1, p2⟩ := hp
  refine ⟨rfl, ?_⟩
  repeat (first | refine ⟨_, rfl, ?_⟩ | refine ⟨_, _, rfl, rfl, ?_⟩ | refine ⟨rfl, ?_⟩ | refine ⟨_, _, rfl, ?_⟩ | refine ⟨_, _, _, rfl, ?_⟩ | refine ⟨small_le (by simp), ?_⟩ | refine ⟨Or.inl ⟨by decide, by decide⟩, ?_⟩ | refine ⟨⟨by decide, by decide⟩, ?_⟩ | refine ⟨by show (0 : Int) < _; decide, ?_⟩)
  have hz : ((List.range k).filter (· != i)).length ≤ 4 := Nat.le_trans (List.length_filter_le _ _) (by simp; omega)
  refine neB (fun e => ?_) (fun e => ?_)
  · repeat (first | refine ⟨_, rfl, ?_⟩ | refine ⟨_, _, rfl, rfl, ?_⟩ | refine ⟨rfl, ?_⟩ | refine ⟨_, _, rfl, ?_⟩ | refine ⟨_, _, _, rfl, ?_⟩ | refine ⟨small_le (by simp), ?_⟩ | refine ⟨Or.inl ⟨by decide, by decide⟩, ?_⟩ | refine ⟨⟨by decide, by decide⟩, ?_⟩ | refine ⟨by show (0 : Int) < _; decide, ?_⟩)
    refine ⟨_, p2, small_lt (by simp at hz ⊢; omega), same_mut p1 nD, ?_⟩
    rw [upd_same, List.range_succ, List.filter_append, List.map_append]
    have : k ≠ i := by omega
    simp [this]
  · refine ⟨p1, ?_⟩
    rw [p2, List.range_succ, List.filter_append, List.map_append]
    have : k = i := by omega
    simp [this]
end
end Bh

/-! WR2 -/
set_option maxHeartbeats 4000000
/-! a, b = xs (xs a list); o.f as a target -/
namespace Bh
open PySem PySem.Spec PyProof.Rows L2
section
variable {prog : Program} {w : World} {A : Around} {E : Value → Shared → Prop} {s : Shared}
theorem draw_listU {it t : Addr} {items : Array Value} (hne : t ≠ it) : ∀ (n i : Nat) (s : Shared) (Q : List Value → Shared → Prop), s.heap.IsListIter it t i → s.heap.IsList t items → i + n ≤ items.size →
    (∀ h' : Heap, h'.IsListIter it t (i + n) → Heap.SameBut it s.heap h' → Q ((items.toList.drop i).take n) { s with heap := h' }) → wpAny (model prog w) A (draw (.ref it) n) Q E s
  | 0, i, s, Q, hit, _, _, hQ => by
    show wpAny _ _ (pure []) Q E s
    exact wpAny_pure (by simpa using hQ s.heap hit (Heap.SameBut.refl ..))
  | n + 1, i, s, Q, hit, ht, hle, hQ => by
    have hlt : i < items.size := by omega
    show wpAny _ _ (pyNext (.ref it) >>= _) Q E s
    refine wpAny_bind (wpAny_pyNext_list_item hit ht (x := items[i]) (by simp [hlt]) fun h₁ hit₁ hs₁ => ?_)
    refine wpAny_bind (wpAny_holding (draw_listU hne n (i + 1) _ _ hit₁ (ht.extBut hs₁.extBut hne) (by omega) fun h₂ hit₂ hs₂ => wpAny_pure ?_))
    have hd : items.toList.drop i = items[i] :: items.toList.drop (i + 1) := by simp [List.drop_eq_getElem_cons, hlt]
    have := hQ h₂ (by rw [show i + (n + 1) = i + 1 + n by omega]; exact hit₂) (hs₁.trans hs₂)
    rw [hd, List.take_succ_cons] at this
    exact this
theorem unpackItems_listU {t : Addr} {items : Array Value} {Q : List Value → Shared → Prop} (hh : A.handled = none) (ht : s.heap.IsList t items)
    (hQ : ∀ h', Heap.ExtBut s.heap.objs.size s.heap h' → Q items.toList { s with heap := h' }) : wpAny (model prog w) A (unpackItems (.ref t) items.size none) Q E s := by
  have hlt : t ≠ s.heap.objs.size := by obtain ⟨o, ho, _⟩ := ht; exact Nat.ne_of_lt (Heap.lt_size ho)
  unfold unpackItems
  refine wpAny_bind ?_
  · unfold notIterableAtAll
    refine wpAny_bind (wpAny_specialOf ht.typeIs PySem.F.slot_list_iter.lookup ?_)
    refine wpAny_pure ?_
    simp only [Bool.false_eq_true, if_false]
    refine wpAny_bind (wpAny_holding (wpAny_pyIter_list ht ?_))
    refine wpAny_bind (wpAny_holding (draw_listU hlt items.size 0 _ _ ⟨_, Heap.get?_push_size _ rfl, rfl, rfl⟩ (ht.push _) (by omega) fun h₁ hit₁ hs₁ => ?_))
    have hall : List.take items.size (List.drop 0 items.toList) = items.toList := by
      rw [List.drop_zero]; exact List.take_of_length_le (by simp)
    rw [hall]
    rw [if_neg (by simp)]
    have ht₁ : h₁.IsList t items := (ht.push _).extBut hs₁.extBut hlt
    refine wpAny_bind (wpAny_holding (wpAny_pyNext_list_end hh hit₁ ht₁ (by simp) fun h₂ he₂ => ?_))
    simp only [Option.isSome_none, Bool.false_eq_true, if_false]
    refine wpAny_pure (hQ h₂ fun b o hb e => he₂ b o hb (hs₁.extBut b o hb (Heap.get?_push_of_some _ e)))
theorem assign_Tuple_listU {env : Env} {elts : List Expr} {x1} {pos : Pos} {t : Addr} {items : Array Value} {Q : Unit → Shared → Prop} (hh : A.handled = none) (ht : s.heap.IsList t items)
    (hn : (assignEach elts env).length = items.size) (hstar : (assignEach elts env).findIdx? (·.1) = none)
    (h : ∀ h', Heap.ExtBut s.heap.objs.size s.heap h' → wpAny (model prog w) A (assignInOrder ((assignEach elts env).map (·.2)) items.toList) Q E { s with heap := h' }) :
    wpAny (model prog w) A (assign (.Tuple elts x1 pos) env (.ref t)) Q E s := by
  rw [assign_Tuple]
  refine wpAny_bind (wpAny_standAt ?_)
  unfold unpack
  rw [hn, hstar]
  exact wpAny_bind (wpAny_holding (unpackItems_listU hh ht h))
end
section
variable {X : Cx}
def gTupL (K : PySem.W.Frag) (n : Nat) (t : TGs) : TG := fun v σ H Q => ∃ a xs, v = .ref a ∧ SqL K H a xs ∧ xs.length = n ∧ t xs σ H Q
theorem pg_tupL {es : List Expr} {k : Nat} {t : TGs} {n : Nat} {pos : Pos} (hc : X.calm = true) (h : PGs X es t)
    (hn : (assignEach es X.env).length = n := by rfl) (hst : (assignEach es X.env).findIdx? (·.1) = none := by rfl) : PG X (.Tuple es k pos) (gTupL X.K n t) := by
  refine ⟨fun pins s σ H v u Q I r hw => ?_⟩
  obtain ⟨a, xs, e1, hq, hl, hw⟩ := hw
  subst e1
  cases r
  obtain ⟨its, rv, ht, hz⟩ := I.list hq
  refine assign_Tuple_listU (I.ok.hd hc) ht.isList (by simp [hn, ← hl, rv.length]) hst fun h' hx => ?_
  have I1 : Inv X pins σ H { s with heap := h' } := I.kept (t' := s.toks) fun b o e => hx b o (Nat.ne_of_lt (Heap.lt_size e)) e
  exact h.run pins _ σ H xs _ Q I1 (by simpa using rv) hw
/-- o.f as a target -/
def gFld (K : PySem.W.Frag) (ta : TE) (f : Str) : TG := fun v σ H Q => ta σ H fun x H2 => ∃ a C dx fs, x = .ref a ∧ H2 a = some (.ins C dx fs) ∧ Cls K C ∧ NoAttr K C f ∧ fs.length < 1000 ∧ Q σ (upd H2 a (.ins C dx (putF f v fs)))
theorem pg_fld {o : Expr} {ta : TE} {f : Str} {pos : Pos} (ha : PE X o ta) : PG X (.Attribute o f pos) (gFld X.K ta f) := by
  refine ⟨fun pins s σ H v u Q I r hw => ?_⟩
  refine PySem.W.kas_attr (wpAny_mono (ha.run pins s σ H _ I hw) (fun ov s2 h => ?_) fun _ _ z => z)
  obtain ⟨x, H2, I2, rx, a, C, dx, fs, ex, ea, c, n, l, q2⟩ := h
  subst ex
  obtain rfl : ov = Value.ref a := rx
  exact setattr_ok I2 ea c n l r fun s3 I3 => ⟨σ, _, I3, q2⟩
theorem ix_tupK {K : PySem.W.Frag} (h : X.K = K) : IxR X (rIxT K) := h ▸ ix_tup
theorem op_notIn_seqK {K : PySem.W.Frag} (h : X.K = K) : OpR X (compareOp .NotIn) (rIn K true) := h ▸ op_notIn_seq
theorem ix_listK {K : PySem.W.Frag} (h : X.K = K) : IxR X (rIxL K) := h ▸ ix_list
theorem cr_sumXK {K : PySem.W.Frag} (h : X.K = K) (hc : X.calm = true) : CallR X (.builtin "sum") (rSumX K) := h ▸ cr_sumX hc
theorem pg_tupK {K : PySem.W.Frag} (hK : X.K = K) {es : List Expr} {k : Nat} {t : TGs} {n : Nat} {pos : Pos} (hc : X.calm = true) (h : PGs X es t)
    (hn : (assignEach es X.env).length = n := by rfl) (hst : (assignEach es X.env).findIdx? (·.1) = none := by rfl) : PG X (.Tuple es k pos) (gTup K n t) := hK ▸ pg_tup hc h hn hst
end
end Bh

/-! W2 -/
set_option maxHeartbeats 4000000
namespace Bh
open PySem PySem.Spec PyProof.Rows L2
section
variable {P : Program} {w : World} {K : PySem.W.Frag} {mg : Str → Option Value} {base : Heap}
/-- the three places that are not i, in order -/
def oth (i : Nat) : List Nat := (List.range 4).filter (· != i)
def numsAt (ns : List Int) (i : Nat) : List Int :=
  let g := fun j => ns.getD ((oth i).getD j 0) 0
  [ns.getD i 0 + g 0, (ns.getD i 0 + g 0 + g 1 - g 2) / 2, ns.getD i 0 + g 1]
theorem oth_len {i : Nat} (h : i < 4) : (oth i).length = 3 := by
  have : ∀ i : Fin 4, (oth i).length = 3 := by decide
  exact this ⟨i, h⟩
theorem oth_lt {i j : Nat} (h : j ∈ oth i) : j < 4 := by simpa using (List.mem_filter.mp h).1
theorem sc_numbers_at : FnScope ["bends", "place", "here", "one", "other", "last", "spot"] ["bends", "place"] (defScope (top 45)) := ⟨rfl, rfl, rfl, by decide +kernel, rfl, by decide +kernel, by decide +kernel⟩
def spNumbersAt : Sp := fun vs H Q _ => ∃ (a : Addr) (ns : List Int) (i : Nat), vs = [.ref a, .int i] ∧ Tq H a (vi ns) ∧ i < 4 ∧ ns.length = 4 ∧ ∀ H' p, Same H H' → H p = none → H' p = some (.tup (vi (numsAt ns i))) → Q (.ref p) H'
theorem ok_numbers_at (T : Tx K mg) : Fx P w K mg base CX0 2 "numbers_at" spNumbersAt := by
  refine Fx.of T.g_numbers_at T.f_numbers_at (fnr0 (N := ["bends", "place", "here", "one", "other", "last", "spot"]) (ps := ["bends", "place"]) T.f_numbers_at sc_numbers_at (fun _ _ _ _ _ _ us hl => match us, hl with | [_, _], _ => rfl) (by intro vs H Q E h; repeat (first | (obtain ⟨e, _⟩ := h; subst e; rfl) | (obtain ⟨_, h⟩ := h))) fun cdv A outer s H vs Q E hr h => ?_)
  obtain ⟨a, ns, i, rfl, hs, hi, h4, q⟩ := h
  refine ⟨_, (pss_cons (ps_set (i := 2) sc_numbers_at.nd rfl (Or.inl rfl) (pe_ix ix_tup (pv 0) (pv 1) (fun _ _ => rfl)))
      (pss_cons (ps_asg (pe_lc (own := [("spot", 6)]) rfl sc_numbers_at.nd (pi_list (pc (ok_others_of T) (hr.mono (by decide)) (by first | exact pass0 | exact passL) (pa_cons (pv 1) pa_nil))) (blkOk_by (own := [("spot", 6)]) (N := ["bends", "place", "here", "one", "other", "last", "spot"]) (sc := defScope (top 45)) (by decide +kernel)) (fun _ _ _ _ _ => (pg_name (i := 6) sc_numbers_at.nd rfl (Or.inl rfl))) (fun _ _ _ _ _ => pts_nil) (fun _ _ _ _ _ => (pe_ix (ix_tupK (K := K) rfl) (pv 0) (pv 6) (fun _ _ => rfl)))) (pg_tupL rfl (pgs_cons (pg_name (i := 3) sc_numbers_at.nd rfl (Or.inl rfl)) (pgs_cons (pg_name (i := 4) sc_numbers_at.nd rfl (Or.inl rfl)) (pgs_cons (pg_name (i := 5) sc_numbers_at.nd rfl (Or.inl rfl)) pgs_nil)))))
      (pss_one (ps_ret (pe_tup (pa_cons (pe_op op_add (pv 2) (pv 3)) (pa_cons (pe_op op_divP (pe_op op_sub (pe_op op_add (pe_op op_add (pv 2) (pv 3)) (pv 4)) (pv 5)) pe_int) (pa_cons (pe_op op_add (pv 2) (pv 4)) pa_nil)))))))), ?_⟩
  repeat (first | refine ⟨_, rfl, ?_⟩ | refine ⟨_, _, rfl, rfl, ?_⟩ | refine ⟨rfl, ?_⟩ | refine ⟨_, _, rfl, ?_⟩ | refine ⟨_, _, _, rfl, ?_⟩ | refine ⟨small_le (by simp), ?_⟩ | refine ⟨Or.inl ⟨by decide, by decide⟩, ?_⟩ | refine ⟨⟨by decide, by decide⟩, ?_⟩ | refine ⟨by show (0 : Int) < _; decide, ?_⟩)
  refine ⟨a, _, i, _, rfl, rfl, hs.sqT, atI_vi (by omega), ?_⟩
  repeat (first | refine ⟨_, rfl, ?_⟩ | refine ⟨_, _, rfl, rfl, ?_⟩ | refine ⟨rfl, ?_⟩ | refine ⟨_, _, rfl, ?_⟩ | refine ⟨_, _, _, rfl, ?_⟩ | refine ⟨small_le (by simp), ?_⟩ | refine ⟨Or.inl ⟨by decide, by decide⟩, ?_⟩ | refine ⟨⟨by decide, by decide⟩, ?_⟩ | refine ⟨by show (0 : Int) < _; decide, ?_⟩)
  refine fun H1 p s1 np e1 => ?_
  repeat (first | refine ⟨_, rfl, ?_⟩ | refine ⟨_, _, rfl, rfl, ?_⟩ | refine ⟨rfl, ?_⟩ | refine ⟨_, _, rfl, ?_⟩ | refine ⟨_, _, _, rfl, ?_⟩ | refine ⟨small_le (by simp), ?_⟩ | refine ⟨Or.inl ⟨by decide, by decide⟩, ?_⟩ | refine ⟨⟨by decide, by decide⟩, ?_⟩ | refine ⟨by show (0 : Int) < _; decide, ?_⟩)
  refine ⟨⟨_, sqL e1⟩, fun D nD => ?_⟩
  have el := oth_len hi
  refine lc_list (xs := vi ((oth i).map fun (k : Nat) => ((k : Nat) : Int))) (fun k H' => Same H1 H' ∧ H' D = some (.lst (vi (((oth i).take k).map fun j => ns.getD j 0)))) ⟨same_new nD, upd_same⟩ (fun k H' _ p => sqL (p.1 _ _ e1)) (fun k x H' hx hp => ?_) (fun H' hp => ?_)
  · obtain ⟨p1, p2⟩ := hp
    rw [List.getElem?_map, List.getElem?_map] at hx
    obtain ⟨y, hy, rfl⟩ := Option.map_eq_some_iff.mp hx
    obtain ⟨z, hz, rfl⟩ := Option.map_eq_some_iff.mp hy
    have hz4 := oth_lt (List.mem_of_getElem? hz)
    refine ⟨rfl, ?_⟩
    repeat (first | refine ⟨_, rfl, ?_⟩ | refine ⟨_, _, rfl, rfl, ?_⟩ | refine ⟨rfl, ?_⟩ | refine ⟨_, _, rfl, ?_⟩ | refine ⟨_, _, _, rfl, ?_⟩ | refine ⟨small_le (by simp), ?_⟩ | refine ⟨Or.inl ⟨by decide, by decide⟩, ?_⟩ | refine ⟨⟨by decide, by decide⟩, ?_⟩ | refine ⟨by show (0 : Int) < _; decide, ?_⟩)
    refine ⟨a, _, z, _, rfl, rfl, ((hs.same s1).same p1).sqT, atI_vi (by omega), ?_⟩
    refine ⟨_, p2, small_lt ?_, same_mut p1 nD, ?_⟩
    · simp; omega
    · rw [upd_same, List.take_add_one, hz, List.map_append]
      simp [vi]
  · obtain ⟨p1, p2⟩ := hp
    obtain ⟨x, y, z, exyz⟩ : ∃ x y z, oth i = [x, y, z] := by
      match oth i, el with
      | [x, y, z], _ => exact ⟨x, y, z, rfl⟩
    have e5 : (vi ((oth i).map fun (k : Nat) => ((k : Nat) : Int))).length = 3 := by simp [el]
    rw [e5, exyz] at p2
    refine ⟨D, vi [ns.getD x 0, ns.getD y 0, ns.getD z 0], rfl, sqL p2, rfl, ?_⟩
    repeat (first | refine ⟨_, rfl, ?_⟩ | refine ⟨_, _, rfl, rfl, ?_⟩ | refine ⟨rfl, ?_⟩ | refine ⟨_, _, rfl, ?_⟩ | refine ⟨_, _, _, rfl, ?_⟩ | refine ⟨small_le (by simp), ?_⟩ | refine ⟨Or.inl ⟨by decide, by decide⟩, ?_⟩ | refine ⟨⟨by decide, by decide⟩, ?_⟩ | refine ⟨by show (0 : Int) < _; decide, ?_⟩)
    (intro p3 np3; generalize hqZ : upd _ p3 _ = H3; have s3 := new_same hqZ np3; have e3 := new_at hqZ; clear hqZ)
    refine q H3 p3 (s1.trans (p1.trans s3)) ((s1.trans p1).free np3) ?_
    rw [e3]
    simp [numsAt, exyz, vi]

/-! ### fours -/
/-- the bits of a bend -/
@[irreducible] def BIG : Nat := 3000
theorem big_le : BIG ≤ 3000 ∧ 0 < BIG := by unfold BIG; decide

/-- what a four is made of: four whole numbers, the touching, the sum, the divisor -/
structure Four4 (ns : List Int) : Prop where
  len : ns.length = 4
  touch : 2 * (ns.map fun b => b * b).sum = ns.sum * ns.sum
  pos : 0 < ns.sum
  prim : gcdL ns ≤ 1
  size : ∀ b ∈ ns, b.natAbs < 2 ^ BIG
theorem getD_size {ns : List Int} (h : ∀ b ∈ ns, b.natAbs < 2 ^ BIG) (i : Nat) : (ns.getD i 0).natAbs < 2 ^ BIG := by
  rw [List.getD_eq_getElem?_getD]
  cases e : ns[i]? with
  | none => exact Nat.two_pow_pos _
  | some x => exact h x (List.mem_of_getElem? e)
theorem sum_size {ns : List Int} (h : ∀ b ∈ ns, b.natAbs < 2 ^ BIG) (h4 : ns.length = 4) : ns.sum.natAbs < 2 ^ (BIG + 2) := by
  obtain ⟨a, b, c, d, rfl⟩ : ∃ a b c d, ns = [a, b, c, d] := by
    match ns, h4 with
    | [a, b, c, d], _ => exact ⟨a, b, c, d, rfl⟩
  have ha := h a (by simp)
  have hb := h b (by simp)
  have hc := h c (by simp)
  have hd := h d (by simp)
  have e : (2 : Nat) ^ (BIG + 2) = 4 * 2 ^ BIG := by rw [Nat.pow_add]; omega
  simp only [List.sum_cons, List.sum_nil]
  omega
theorem sc_need_bends : FnScope ["bends", "total", "bend"] ["bends"] (defScope (top 38)) := ⟨rfl, rfl, rfl, by decide +kernel, rfl, by decide +kernel, by decide +kernel⟩
def spNeedBends : Sp := fun vs H Q _ => ∃ (a : Addr) (ns : List Int), vs = [.ref a] ∧ Sq H a (vi ns) ∧ Four4 ns ∧ ∀ H', Same H H' → Q .non H'
theorem ok_need_bends (T : Tx K mg) : Fx P w K mg base CX0 3 "need_bends" spNeedBends := by
  refine Fx.of T.g_need_bends T.f_need_bends (fnr0 (N := ["bends", "total", "bend"]) (ps := ["bends"]) T.f_need_bends sc_need_bends (fun _ _ _ _ _ _ us hl => match us, hl with | [_], _ => rfl) (by intro vs H Q E h; repeat (first | (obtain ⟨e, _⟩ := h; subst e; rfl) | (obtain ⟨_, h⟩ := h))) fun cdv A outer s H vs Q E hr h => ?_)
  obtain ⟨a, ns, rfl, hs, F, q⟩ := h
  have h4 := F.len
  refine ⟨_, (pss_cons (ps_if (PW.pt (pw_or (pt_not (pt_val (pc (ok_are_integers T) (hr.mono (by decide)) (by first | exact pass0 | exact passL) (pa_cons (pv 0) pa_nil)))) (pw_or1 (pt_cmpR op_ne (pe_callB call_len_seq (by rfl) T.m_len PySem.boot_len (pa_cons (pv 0) pa_nil)) (pe_glob (v := .int 4) rfl T.i_PLACES.choose_spec ⟨_, rfl⟩) (nomark _))))) (pss_one ps_never) pss_nil)
      (pss_cons (ps_set (i := 1) sc_need_bends.nd rfl (Or.inl rfl) (pe_callB (cr_sumX rfl) (by rfl) T.m_sum (by decide +kernel) (pa_cons (pv 0) pa_nil)))
      (pss_cons (ps_if (pt_cmpR op_ne (pe_op op_mul pe_int (pe_callB (cr_sumX rfl) (by rfl) T.m_sum (by decide +kernel) (pa_cons (pe_lc (own := [("bend", 2)]) rfl sc_need_bends.nd (pi_sq (pv 0)) (blkOk_by (own := [("bend", 2)]) (N := ["bends", "total", "bend"]) (sc := defScope (top 38)) (by decide +kernel)) (fun _ _ _ _ _ => (pg_name (i := 2) sc_need_bends.nd rfl (Or.inl rfl))) (fun _ _ _ _ _ => pts_nil) (fun _ _ _ _ _ => (pe_op op_mulW (pv 2) (pv 2)))) pa_nil))) (pe_op op_mulW (pv 1) (pv 1)) (nomark _)) (pss_one ps_never) pss_nil)
      (pss_cons (ps_if (pt_cmpR op_le (pv 1) pe_int (nomark _)) (pss_one ps_never) pss_nil)
      (pss_one (ps_if (pt_cmpR op_gt (pc (ok_measure T) (hr.mono (by decide)) (by first | exact pass0 | exact passL) (pa_cons (pv 0) pa_nil)) pe_int (nomark _)) (pss_one ps_never) pss_nil)))))), ?_⟩
  repeat (first | refine ⟨_, rfl, ?_⟩ | refine ⟨_, _, rfl, rfl, ?_⟩ | refine ⟨rfl, ?_⟩ | refine ⟨_, _, rfl, ?_⟩ | refine ⟨_, _, _, rfl, ?_⟩ | refine ⟨small_le (by simp), ?_⟩ | refine ⟨Or.inl ⟨by decide, by decide⟩, ?_⟩ | refine ⟨⟨by decide, by decide⟩, ?_⟩ | refine ⟨by show (0 : Int) < _; decide, ?_⟩)
  refine ⟨a, ns, rfl, hs, by omega, fun H1 s1 => ?_⟩
  have hsq : ∀ {H'}, Same H H' → (SqL K H' a (vi ns) ∨ SqT K H' a (vi ns)) := fun s' => (hs.same s').or
  have hlv : (vi ns).length = 4 := by rw [List.length_map, h4]
  have hb := big_le
  repeat (first | refine ⟨_, rfl, ?_⟩ | refine ⟨_, _, rfl, rfl, ?_⟩ | refine ⟨rfl, ?_⟩ | refine ⟨_, _, rfl, ?_⟩ | refine ⟨_, _, _, rfl, ?_⟩ | refine ⟨small_le (by simp), ?_⟩ | refine ⟨Or.inl ⟨by decide, by decide⟩, ?_⟩ | refine ⟨⟨by decide, by decide⟩, ?_⟩ | refine ⟨by show (0 : Int) < _; decide, ?_⟩)
  refine ⟨a, _, rfl, hsq s1, ?_⟩
  repeat (first | refine ⟨_, rfl, ?_⟩ | refine ⟨_, _, rfl, rfl, ?_⟩ | refine ⟨rfl, ?_⟩ | refine ⟨_, _, rfl, ?_⟩ | refine ⟨_, _, _, rfl, ?_⟩ | refine ⟨small_le (by simp), ?_⟩ | refine ⟨Or.inl ⟨by decide, by decide⟩, ?_⟩ | refine ⟨⟨by decide, by decide⟩, ?_⟩ | refine ⟨by show (0 : Int) < _; decide, ?_⟩)
  refine neF (by rw [hlv]; rfl) ?_
  repeat (first | refine ⟨_, rfl, ?_⟩ | refine ⟨_, _, rfl, rfl, ?_⟩ | refine ⟨rfl, ?_⟩ | refine ⟨_, _, rfl, ?_⟩ | refine ⟨_, _, _, rfl, ?_⟩ | refine ⟨small_le (by simp), ?_⟩ | refine ⟨Or.inl ⟨by decide, by decide⟩, ?_⟩ | refine ⟨⟨by decide, by decide⟩, ?_⟩ | refine ⟨by show (0 : Int) < _; decide, ?_⟩)
  refine ⟨a, ns, rfl, hsq s1, ?_⟩
  repeat (first | refine ⟨_, rfl, ?_⟩ | refine ⟨_, _, rfl, rfl, ?_⟩ | refine ⟨rfl, ?_⟩ | refine ⟨_, _, rfl, ?_⟩ | refine ⟨_, _, _, rfl, ?_⟩ | refine ⟨small_le (by simp), ?_⟩ | refine ⟨Or.inl ⟨by decide, by decide⟩, ?_⟩ | refine ⟨⟨by decide, by decide⟩, ?_⟩ | refine ⟨by show (0 : Int) < _; decide, ?_⟩)
  refine lc_sq (vs := [2]) (hs.same s1) (Same.refl _) fun D nD => ⟨fun i H' => Same H1 H' ∧ H' D = some (.lst (vi ((ns.take i).map fun b => b * b))), ⟨same_new nD, upd_same⟩, fun _ _ p => p.1, fun i x H2 hx hp => ?_, fun H2 hp => ?_⟩
  · obtain ⟨p1, p2⟩ := hp
    rw [List.getElem?_map] at hx
    obtain ⟨y, hy, rfl⟩ := Option.map_eq_some_iff.mp hx
    have hy2 := F.size y (List.mem_of_getElem? hy)
    refine ⟨rfl, ?_⟩
    repeat (first | refine ⟨_, rfl, ?_⟩ | refine ⟨_, _, rfl, rfl, ?_⟩ | refine ⟨rfl, ?_⟩ | refine ⟨_, _, rfl, ?_⟩ | refine ⟨_, _, _, rfl, ?_⟩ | refine ⟨small_le (by simp), ?_⟩ | refine ⟨Or.inl ⟨by decide, by decide⟩, ?_⟩ | refine ⟨⟨by decide, by decide⟩, ?_⟩ | refine ⟨by show (0 : Int) < _; decide, ?_⟩)
    refine ⟨wide_mul hy2 hy2 (by omega) (by omega) (by omega), ?_⟩
    refine ⟨_, p2, small_lt (by simp; omega), same_mut p1 nD, ?_⟩
    rw [upd_same, List.take_add_one, hy, List.map_append]
    simp [vi]
  · obtain ⟨p1, p2⟩ := hp
    rw [hlv, ← h4, List.take_length] at p2
    refine ⟨D, _, rfl, .inl (sqL p2), ?_⟩
    repeat (first | refine ⟨_, rfl, ?_⟩ | refine ⟨_, _, rfl, rfl, ?_⟩ | refine ⟨rfl, ?_⟩ | refine ⟨_, _, rfl, ?_⟩ | refine ⟨_, _, _, rfl, ?_⟩ | refine ⟨small_le (by simp), ?_⟩ | refine ⟨Or.inl ⟨by decide, by decide⟩, ?_⟩ | refine ⟨⟨by decide, by decide⟩, ?_⟩ | refine ⟨by show (0 : Int) < _; decide, ?_⟩)
    have hz := sum_size F.size h4
    refine ⟨wide_mul hz hz (by omega) (by omega) (by omega), ?_⟩
    repeat (first | refine ⟨_, rfl, ?_⟩ | refine ⟨_, _, rfl, rfl, ?_⟩ | refine ⟨rfl, ?_⟩ | refine ⟨_, _, rfl, ?_⟩ | refine ⟨_, _, _, rfl, ?_⟩ | refine ⟨small_le (by simp), ?_⟩ | refine ⟨Or.inl ⟨by decide, by decide⟩, ?_⟩ | refine ⟨⟨by decide, by decide⟩, ?_⟩ | refine ⟨by show (0 : Int) < _; decide, ?_⟩)
    refine neF F.touch ?_
    repeat (first | refine ⟨_, rfl, ?_⟩ | refine ⟨_, _, rfl, rfl, ?_⟩ | refine ⟨rfl, ?_⟩ | refine ⟨_, _, rfl, ?_⟩ | refine ⟨_, _, _, rfl, ?_⟩ | refine ⟨small_le (by simp), ?_⟩ | refine ⟨Or.inl ⟨by decide, by decide⟩, ?_⟩ | refine ⟨⟨by decide, by decide⟩, ?_⟩ | refine ⟨by show (0 : Int) < _; decide, ?_⟩)
    refine dF (by have := F.pos; omega) ?_
    repeat (first | refine ⟨_, rfl, ?_⟩ | refine ⟨_, _, rfl, rfl, ?_⟩ | refine ⟨rfl, ?_⟩ | refine ⟨_, _, rfl, ?_⟩ | refine ⟨_, _, _, rfl, ?_⟩ | refine ⟨small_le (by simp), ?_⟩ | refine ⟨Or.inl ⟨by decide, by decide⟩, ?_⟩ | refine ⟨⟨by decide, by decide⟩, ?_⟩ | refine ⟨by show (0 : Int) < _; decide, ?_⟩)
    refine ⟨a, ns, rfl, hs.same (s1.trans p1), ?_⟩
    repeat (first | refine ⟨_, rfl, ?_⟩ | refine ⟨_, _, rfl, rfl, ?_⟩ | refine ⟨rfl, ?_⟩ | refine ⟨_, _, rfl, ?_⟩ | refine ⟨_, _, _, rfl, ?_⟩ | refine ⟨small_le (by simp), ?_⟩ | refine ⟨Or.inl ⟨by decide, by decide⟩, ?_⟩ | refine ⟨⟨by decide, by decide⟩, ?_⟩ | refine ⟨by show (0 : Int) < _; decide, ?_⟩)
    refine dF (by have := F.prim; omega) ?_
    exact q _ (s1.trans p1)
theorem sc_Four_init : FnScope ["self", "bends"] ["self", "bends"] (defScope (inClass (top 42) 0)) := ⟨rfl, rfl, rfl, by decide +kernel, rfl, by decide +kernel, by decide +kernel⟩
def fourHO (C dx t : Addr) (n : Int) : HO := .ins C dx [("bends", .ref t), ("total", .int n)]
/-- all but x as it was -/
def SameX (x : Addr) (H H' : Hp) : Prop := ∀ b o, b ≠ x → H b = some o → H' b = some o
theorem SameX.same {x : Addr} {H H1 H2 : Hp} (h : SameX x H H1) (s : Same H1 H2) : SameX x H H2 := fun b o n e => s _ _ (h b o n e)
theorem SameX.set {x : Addr} {H H1 : Hp} {o : HO} (h : SameX x H H1) : SameX x H (upd H1 x o) := fun b u n e => by
  rw [upd_ne n]
  exact h b u n e
theorem Same.x {x : Addr} {H H1 : Hp} (s : Same H H1) : SameX x H H1 := fun b o _ e => s b o e
/-- a four stands at x -/
def FourAt (K : PySem.W.Frag) (H : Hp) (x : Addr) (ns : List Int) : Prop := ∃ dx t, H x = some (.ins (He.ga K "Four") dx [("bends", .ref t), ("total", .int ns.sum)]) ∧ Bq H t (vi ns)
theorem FourAt.same {H H' : Hp} {x : Addr} {ns : List Int} (h : FourAt K H x ns) (s : Same H H') : FourAt K H' x ns := by
  obtain ⟨dx, t, h1, h2⟩ := h
  exact ⟨dx, t, s _ _ h1, h2.same s⟩
def spFourInit (K : PySem.W.Frag) : Sp := fun vs H Q _ => ∃ (x dx a : Addr) (ns : List Int), vs = [.ref x, .ref a] ∧ H x = some (.ins (He.ga K "Four") dx []) ∧ (H a = some (.lst (vi ns)) ∨ Bq H a (vi ns)) ∧ Four4 ns ∧ ∀ H', SameX x H H' → FourAt K H' x ns → Q .non H'
theorem ok_Four_init (T : Tx K mg) : FnR P w K mg base CX0 4 (He.ma K (He.ga K "Four") "__init__") (spFourInit K) := by
  refine (fnr0 (N := ["self", "bends"]) (ps := ["self", "bends"]) T.f_Four_init sc_Four_init (fun _ _ _ _ _ _ us hl => match us, hl with | [_, _], _ => rfl) (by intro vs H Q E h; repeat (first | (obtain ⟨e, _⟩ := h; subst e; rfl) | (obtain ⟨_, h⟩ := h))) fun cdv A outer s H vs Q E hr h => ?_)
  obtain ⟨x, dx, a, ns, rfl, hx, hs, F, q⟩ := h
  refine ⟨_, (pss_cons (ps_expr (pc (ok_need_bends T) (hr.mono (by decide)) (by first | exact pass0 | exact passL) (pa_cons (pv 1) pa_nil)))
      (pss_cons (ps_fld (pv 0) (pe_callTy call_tuple_ofB (by rfl) T.m_tuple (by decide +kernel) (pa_cons (pv 1) pa_nil)) rfl)
      (pss_one (ps_fld (pv 0) (pe_callB (cr_sumX rfl) (by rfl) T.m_sum (by decide +kernel) (pa_cons (pv 1) pa_nil)) rfl)))), ?_⟩
  repeat (first | refine ⟨_, rfl, ?_⟩ | refine ⟨_, _, rfl, rfl, ?_⟩ | refine ⟨rfl, ?_⟩ | refine ⟨_, _, rfl, ?_⟩ | refine ⟨_, _, _, rfl, ?_⟩ | refine ⟨small_le (by simp), ?_⟩ | refine ⟨Or.inl ⟨by decide, by decide⟩, ?_⟩ | refine ⟨⟨by decide, by decide⟩, ?_⟩ | refine ⟨by show (0 : Int) < _; decide, ?_⟩)
  have hsq0 : Sq H a (vi ns) := hs.imp id Bq.t
  refine ⟨a, ns, rfl, hsq0, F, fun H1 s1 => ?_⟩
  repeat (first | refine ⟨_, rfl, ?_⟩ | refine ⟨_, _, rfl, rfl, ?_⟩ | refine ⟨rfl, ?_⟩ | refine ⟨_, _, rfl, ?_⟩ | refine ⟨_, _, _, rfl, ?_⟩ | refine ⟨small_le (by simp), ?_⟩ | refine ⟨Or.inl ⟨by decide, by decide⟩, ?_⟩ | refine ⟨⟨by decide, by decide⟩, ?_⟩ | refine ⟨by show (0 : Int) < _; decide, ?_⟩)
  have hax : a ≠ x := by
    rcases hs with hs | ⟨o, _, hs⟩ <;> exact ne_of hs hx (by intro z; cases z)
  have hsq : Sq H a (vi ns) := hs.imp id Bq.t
  -- what follows, from the tuple at t on
  have go : ∀ (t : Addr) (H2 : Hp), Same H1 H2 → t ≠ x → Bq H2 t (vi ns) → (tVar 0) (L2.start ["self", "bends"] [V.ref x, V.ref a]) H2 fun x_2 H3 =>
      ∃ a_1 C dx fs, x_2 = V.ref a_1 ∧ H3 a_1 = some (HO.ins C dx fs) ∧ Cls K C ∧ NoAttr K C "bends" ∧ fs.length < 1000 ∧
        sFld K (tVar 0) (tCB (rSumX K) (tCons (tVar 1) tNil)) "total" { nx := fun _ H' => Q V.non H', rt := Q } (L2.start ["self", "bends"] [V.ref x, V.ref a]) (upd H3 a_1 (HO.ins C dx (putF "bends" (V.ref t) fs))) := by
    intro t H2 s2 ht h2
    repeat (first | refine ⟨_, rfl, ?_⟩ | refine ⟨_, _, rfl, rfl, ?_⟩ | refine ⟨rfl, ?_⟩ | refine ⟨_, _, rfl, ?_⟩ | refine ⟨_, _, _, rfl, ?_⟩ | refine ⟨small_le (by simp), ?_⟩ | refine ⟨Or.inl ⟨by decide, by decide⟩, ?_⟩ | refine ⟨⟨by decide, by decide⟩, ?_⟩ | refine ⟨by show (0 : Int) < _; decide, ?_⟩)
    refine ⟨x, _, dx, [], rfl, s2 _ _ (s1 _ _ hx), T.cls_Four, T.noat_Four_bends, by decide, ?_⟩
    have x2 : SameX x H (upd H2 x (.ins (He.ga K "Four") dx (putF "bends" (V.ref t) []))) := SameX.set (Same.x (s1.trans s2))
    repeat (first | refine ⟨_, rfl, ?_⟩ | refine ⟨_, _, rfl, rfl, ?_⟩ | refine ⟨rfl, ?_⟩ | refine ⟨_, _, rfl, ?_⟩ | refine ⟨_, _, _, rfl, ?_⟩ | refine ⟨small_le (by simp), ?_⟩ | refine ⟨Or.inl ⟨by decide, by decide⟩, ?_⟩ | refine ⟨⟨by decide, by decide⟩, ?_⟩ | refine ⟨by show (0 : Int) < _; decide, ?_⟩)
    refine ⟨a, ns, rfl, ?_, ?_⟩
    · rcases hs with z | ⟨o, ho, z⟩
      · exact .inl (sqL (x2 _ _ hax z))
      · exact .inr (Bq.sqT ⟨o, ho, x2 _ _ hax z⟩)
    repeat (first | refine ⟨_, rfl, ?_⟩ | refine ⟨_, _, rfl, rfl, ?_⟩ | refine ⟨rfl, ?_⟩ | refine ⟨_, _, rfl, ?_⟩ | refine ⟨_, _, _, rfl, ?_⟩ | refine ⟨small_le (by simp), ?_⟩ | refine ⟨Or.inl ⟨by decide, by decide⟩, ?_⟩ | refine ⟨⟨by decide, by decide⟩, ?_⟩ | refine ⟨by show (0 : Int) < _; decide, ?_⟩)
    refine ⟨x, _, dx, _, rfl, upd_same, T.cls_Four, T.noat_Four_total, (by show 1 < 1000; decide), ?_⟩
    refine q _ x2.set ⟨dx, t, upd_same, ?_⟩
    obtain ⟨o, ho, h2⟩ := h2
    refine ⟨o, ho, ?_⟩
    rw [upd_ne ht, upd_ne ht]
    exact h2
  rcases hs with hs | hs
  · refine ⟨a, _, rfl, .inl ⟨sqL (s1 _ _ hs), ?_⟩⟩
    (intro oZ t hoZ nt; generalize hqZ : upd _ t _ = H2; have s2 := new_same hqZ nt; have e2 := new_bq hqZ hoZ; clear hqZ hoZ)
    exact go t H2 s2 (fun z => by rw [z, s1 _ _ hx] at nt; cases nt) e2
  · refine ⟨a, _, rfl, .inr ⟨(hs.same s1).sqT, ?_⟩⟩
    exact go a H1 (Same.refl _) hax (hs.same s1)
theorem mk_four {H : Hp} {G : Addr → Hp → Prop} {E : XK} {a : Addr} {ns : List Int} (hs : H a = some (.lst (vi ns)) ∨ Bq H a (vi ns)) (F : Four4 ns) (q : ∀ H' x, Same H H' → H x = none → FourAt K H' x ns → G x H') :
    ∀ x dx, H x = none → H dx = none → dx ≠ x → spFourInit K (V.ref x :: [V.ref a]) (upd (upd H dx (.own x)) x (.ins (He.ga K "Four") dx [])) (fun v H2 => v = .non ∧ G x H2) E := by
  intro x dx hx hdx ne
  have s1 : Same H (upd (upd H dx (.own x)) x (.ins (He.ga K "Four") dx [])) := same_mut (same_new hdx) hx
  refine ⟨x, dx, a, ns, rfl, upd_same, hs.imp (s1 _ _) (·.same s1), F, fun H' h1 h2 => ⟨rfl, q H' x (fun b o e => h1 b o (fun z => by rw [z, hx] at e; cases e) (s1 _ _ e)) hx h2⟩⟩
end
end Bh

/-! W3 -/
set_option maxHeartbeats 4000000
namespace Bh
open PySem PySem.Spec PyProof.Rows L2
section
variable {P : Program} {w : World} {K : PySem.W.Frag} {mg : Str → Option Value} {base : Heap}
/-- what a form is made of -/
structure Form3 (A B C : Int) (n : Nat) : Prop where
  a0 : 0 < A
  c0 : 0 < C
  det : A * C - B * B = (n : Int) * n
  n0 : 0 < n
  n1 : n < 2 ^ 32
  prim : gcdL [A, B, C] ≤ 1
  as : A.natAbs < 2 ^ BIG
  bs : B.natAbs < 2 ^ BIG
  cs : C.natAbs < 2 ^ BIG
theorem sc_need_numbers : FnScope ["numbers", "first", "half", "last", "side"] ["numbers"] (defScope (top 31)) := ⟨rfl, rfl, rfl, by decide +kernel, rfl, by decide +kernel, by decide +kernel⟩
def spNeedNumbers : Sp := fun vs H Q _ => ∃ (a : Addr) (A B C : Int) (n : Nat), vs = [.ref a] ∧ H a = some (.tup (vi [A, B, C])) ∧ Form3 A B C n ∧ ∀ H', Same H H' → Q .non H'
theorem ok_need_numbers (T : Tx K mg) : Fx P w K mg base CX0 3 "need_numbers" spNeedNumbers := by
  refine Fx.of T.g_need_numbers T.f_need_numbers (fnr0 (N := ["numbers", "first", "half", "last", "side"]) (ps := ["numbers"]) T.f_need_numbers sc_need_numbers (fun _ _ _ _ _ _ us hl => match us, hl with | [_], _ => rfl) (by intro vs H Q E h; repeat (first | (obtain ⟨e, _⟩ := h; subst e; rfl) | (obtain ⟨_, h⟩ := h))) fun cdv A outer s H vs Q E hr h => ?_)
  obtain ⟨a, A, B, C, n, rfl, hs, F, q⟩ := h
  refine ⟨_, (pss_cons (ps_if (pt_not (pt_val (pc (ok_are_integers T) (hr.mono (by decide)) (by first | exact pass0 | exact passL) (pa_cons (pv 0) pa_nil)))) (pss_one ps_never) pss_nil)
      (pss_cons (ps_asg (pv 0) (pg_tup rfl (pgs_cons (pg_name (i := 1) sc_need_numbers.nd rfl (Or.inl rfl)) (pgs_cons (pg_name (i := 2) sc_need_numbers.nd rfl (Or.inl rfl)) (pgs_cons (pg_name (i := 3) sc_need_numbers.nd rfl (Or.inl rfl)) pgs_nil)))))
      (pss_cons (ps_if (PW.pt (pw_or (pt_cmpR op_le (pv 1) pe_int (nomark _)) (pw_or1 (pt_cmpR op_le (pv 3) pe_int (nomark _))))) (pss_one ps_never) pss_nil)
      (pss_cons (ps_set (i := 4) sc_need_numbers.nd rfl (Or.inl rfl) (pc (ok_root_of T) (hr.mono (by decide)) (by first | exact pass0 | exact passL) (pa_cons (pe_op op_sub (pe_op op_mulW (pv 1) (pv 3)) (pe_op op_mulW (pv 2) (pv 2))) pa_nil)))
      (pss_cons (ps_if (PW.pt (pw_or (pt_cmpR op_isN (pv 4) pe_non (nomark _)) (pw_or1 (pt_cmpR op_eq (pv 4) pe_int (nomark _))))) (pss_one ps_never) pss_nil)
      (pss_one (ps_if (pt_cmpR op_gt (pc (ok_measure T) (hr.mono (by decide)) (by first | exact pass0 | exact passL) (pa_cons (pv 0) pa_nil)) pe_int (nomark _)) (pss_one ps_never) pss_nil))))))), ?_⟩
  have hb := big_le
  have a0 := F.a0
  have c0 := F.c0
  repeat (first | refine ⟨_, rfl, ?_⟩ | refine ⟨_, _, rfl, rfl, ?_⟩ | refine ⟨rfl, ?_⟩ | refine ⟨_, _, rfl, ?_⟩ | refine ⟨_, _, _, rfl, ?_⟩ | refine ⟨small_le (by simp), ?_⟩ | refine ⟨Or.inl ⟨by decide, by decide⟩, ?_⟩ | refine ⟨⟨by decide, by decide⟩, ?_⟩ | refine ⟨by show (0 : Int) < _; decide, ?_⟩)
  refine ⟨a, [A, B, C], rfl, .inr (.inl hs), (by simp), fun H1 s1 => ?_⟩
  repeat (first | refine ⟨_, rfl, ?_⟩ | refine ⟨_, _, rfl, rfl, ?_⟩ | refine ⟨rfl, ?_⟩ | refine ⟨_, _, rfl, ?_⟩ | refine ⟨_, _, _, rfl, ?_⟩ | refine ⟨small_le (by simp), ?_⟩ | refine ⟨Or.inl ⟨by decide, by decide⟩, ?_⟩ | refine ⟨⟨by decide, by decide⟩, ?_⟩ | refine ⟨by show (0 : Int) < _; decide, ?_⟩)
  refine ⟨a, _, rfl, sqT (s1 _ _ hs), rfl, ?_⟩
  repeat (first | refine ⟨_, rfl, ?_⟩ | refine ⟨_, _, rfl, rfl, ?_⟩ | refine ⟨rfl, ?_⟩ | refine ⟨_, _, rfl, ?_⟩ | refine ⟨_, _, _, rfl, ?_⟩ | refine ⟨small_le (by simp), ?_⟩ | refine ⟨Or.inl ⟨by decide, by decide⟩, ?_⟩ | refine ⟨⟨by decide, by decide⟩, ?_⟩ | refine ⟨by show (0 : Int) < _; decide, ?_⟩)
  refine dF (by omega) ?_
  repeat (first | refine ⟨_, rfl, ?_⟩ | refine ⟨_, _, rfl, rfl, ?_⟩ | refine ⟨rfl, ?_⟩ | refine ⟨_, _, rfl, ?_⟩ | refine ⟨_, _, _, rfl, ?_⟩ | refine ⟨small_le (by simp), ?_⟩ | refine ⟨Or.inl ⟨by decide, by decide⟩, ?_⟩ | refine ⟨⟨by decide, by decide⟩, ?_⟩ | refine ⟨by show (0 : Int) < _; decide, ?_⟩)
  refine dF (by omega) ?_
  repeat (first | refine ⟨_, rfl, ?_⟩ | refine ⟨_, _, rfl, rfl, ?_⟩ | refine ⟨rfl, ?_⟩ | refine ⟨_, _, rfl, ?_⟩ | refine ⟨_, _, _, rfl, ?_⟩ | refine ⟨small_le (by simp), ?_⟩ | refine ⟨Or.inl ⟨by decide, by decide⟩, ?_⟩ | refine ⟨⟨by decide, by decide⟩, ?_⟩ | refine ⟨by show (0 : Int) < _; decide, ?_⟩)
  refine ⟨wide_mul F.as F.cs (by omega) (by omega) (by omega), ?_⟩
  repeat (first | refine ⟨_, rfl, ?_⟩ | refine ⟨_, _, rfl, rfl, ?_⟩ | refine ⟨rfl, ?_⟩ | refine ⟨_, _, rfl, ?_⟩ | refine ⟨_, _, _, rfl, ?_⟩ | refine ⟨small_le (by simp), ?_⟩ | refine ⟨Or.inl ⟨by decide, by decide⟩, ?_⟩ | refine ⟨⟨by decide, by decide⟩, ?_⟩ | refine ⟨by show (0 : Int) < _; decide, ?_⟩)
  refine ⟨wide_mul F.bs F.bs (by omega) (by omega) (by omega), ?_⟩
  repeat (first | refine ⟨_, rfl, ?_⟩ | refine ⟨_, _, rfl, rfl, ?_⟩ | refine ⟨rfl, ?_⟩ | refine ⟨_, _, rfl, ?_⟩ | refine ⟨_, _, _, rfl, ?_⟩ | refine ⟨small_le (by simp), ?_⟩ | refine ⟨Or.inl ⟨by decide, by decide⟩, ?_⟩ | refine ⟨⟨by decide, by decide⟩, ?_⟩ | refine ⟨by show (0 : Int) < _; decide, ?_⟩)
  refine ⟨_, n, rfl, F.det, F.n1, ?_⟩
  repeat (first | refine ⟨_, rfl, ?_⟩ | refine ⟨_, _, rfl, rfl, ?_⟩ | refine ⟨rfl, ?_⟩ | refine ⟨_, _, rfl, ?_⟩ | refine ⟨_, _, _, rfl, ?_⟩ | refine ⟨small_le (by simp), ?_⟩ | refine ⟨Or.inl ⟨by decide, by decide⟩, ?_⟩ | refine ⟨⟨by decide, by decide⟩, ?_⟩ | refine ⟨by show (0 : Int) < _; decide, ?_⟩)
  refine eF (by have := F.n0; omega) ?_
  repeat (first | refine ⟨_, rfl, ?_⟩ | refine ⟨_, _, rfl, rfl, ?_⟩ | refine ⟨rfl, ?_⟩ | refine ⟨_, _, rfl, ?_⟩ | refine ⟨_, _, _, rfl, ?_⟩ | refine ⟨small_le (by simp), ?_⟩ | refine ⟨Or.inl ⟨by decide, by decide⟩, ?_⟩ | refine ⟨⟨by decide, by decide⟩, ?_⟩ | refine ⟨by show (0 : Int) < _; decide, ?_⟩)
  refine ⟨a, [A, B, C], rfl, .inr (.inl (s1 _ _ hs)), ?_⟩
  repeat (first | refine ⟨_, rfl, ?_⟩ | refine ⟨_, _, rfl, rfl, ?_⟩ | refine ⟨rfl, ?_⟩ | refine ⟨_, _, rfl, ?_⟩ | refine ⟨_, _, _, rfl, ?_⟩ | refine ⟨small_le (by simp), ?_⟩ | refine ⟨Or.inl ⟨by decide, by decide⟩, ?_⟩ | refine ⟨⟨by decide, by decide⟩, ?_⟩ | refine ⟨by show (0 : Int) < _; decide, ?_⟩)
  refine dF (by have := F.prim; omega) ?_
  exact q _ s1
theorem sc_Form_init : FnScope ["self", "first", "half", "last"] ["self", "first", "half", "last"] (defScope (inClass (top 36) 0)) := ⟨rfl, rfl, rfl, by decide +kernel, rfl, by decide +kernel, by decide +kernel⟩
def FormAt (K : PySem.W.Frag) (H : Hp) (x : Addr) (A B C : Int) (n : Nat) : Prop := ∃ dx t, H x = some (.ins (He.ga K "Form") dx [("numbers", .ref t), ("side", .int n)]) ∧ H t = some (.tup (vi [A, B, C]))
theorem FormAt.same {H H' : Hp} {x : Addr} {A B C : Int} {n : Nat} (h : FormAt K H x A B C n) (s : Same H H') : FormAt K H' x A B C n := by
  obtain ⟨dx, t, h1, h2⟩ := h
  exact ⟨dx, t, s _ _ h1, s _ _ h2⟩
def spFormInit (K : PySem.W.Frag) : Sp := fun vs H Q _ => ∃ (x dx : Addr) (A B C : Int) (n : Nat), vs = [.ref x, .int A, .int B, .int C] ∧ H x = some (.ins (He.ga K "Form") dx []) ∧ Form3 A B C n ∧ ∀ H', SameX x H H' → FormAt K H' x A B C n → Q .non H'
theorem ok_Form_init (T : Tx K mg) : FnR P w K mg base CX0 4 (He.ma K (He.ga K "Form") "__init__") (spFormInit K) := by
  refine (fnr0 (N := ["self", "first", "half", "last"]) (ps := ["self", "first", "half", "last"]) T.f_Form_init sc_Form_init (fun _ _ _ _ _ _ us hl => match us, hl with | [_, _, _, _], _ => rfl) (by intro vs H Q E h; repeat (first | (obtain ⟨e, _⟩ := h; subst e; rfl) | (obtain ⟨_, h⟩ := h))) fun cdv A outer s H vs Q E hr h => ?_)
  obtain ⟨x, dx, A, B, C, n, rfl, hx, F, q⟩ := h
  have hb := big_le
  refine ⟨_, (pss_cons (ps_expr (pc (ok_need_numbers T) (hr.mono (by decide)) (by first | exact pass0 | exact passL) (pa_cons (pe_tup (pa_cons (pv 1) (pa_cons (pv 2) (pa_cons (pv 3) pa_nil)))) pa_nil)))
      (pss_cons (ps_fld (pv 0) (pe_tup (pa_cons (pv 1) (pa_cons (pv 2) (pa_cons (pv 3) pa_nil)))) rfl)
      (pss_one (ps_fld (pv 0) (pc (ok_root_of T) (hr.mono (by decide)) (by first | exact pass0 | exact passL) (pa_cons (pe_op op_sub (pe_op op_mulW (pv 1) (pv 3)) (pe_op op_mulW (pv 2) (pv 2))) pa_nil)) rfl)))), ?_⟩
  repeat (first | refine ⟨_, rfl, ?_⟩ | refine ⟨_, _, rfl, rfl, ?_⟩ | refine ⟨rfl, ?_⟩ | refine ⟨_, _, rfl, ?_⟩ | refine ⟨_, _, _, rfl, ?_⟩ | refine ⟨small_le (by simp), ?_⟩ | refine ⟨Or.inl ⟨by decide, by decide⟩, ?_⟩ | refine ⟨⟨by decide, by decide⟩, ?_⟩ | refine ⟨by show (0 : Int) < _; decide, ?_⟩)
  (intro t nt; generalize hqZ : upd _ t _ = H1; have s1 := new_same hqZ nt; have e1 := new_at hqZ; clear hqZ)
  repeat (first | refine ⟨_, rfl, ?_⟩ | refine ⟨_, _, rfl, rfl, ?_⟩ | refine ⟨rfl, ?_⟩ | refine ⟨_, _, rfl, ?_⟩ | refine ⟨_, _, _, rfl, ?_⟩ | refine ⟨small_le (by simp), ?_⟩ | refine ⟨Or.inl ⟨by decide, by decide⟩, ?_⟩ | refine ⟨⟨by decide, by decide⟩, ?_⟩ | refine ⟨by show (0 : Int) < _; decide, ?_⟩)
  refine ⟨t, A, B, C, n, rfl, e1, F, fun H2 s2 => ?_⟩
  repeat (first | refine ⟨_, rfl, ?_⟩ | refine ⟨_, _, rfl, rfl, ?_⟩ | refine ⟨rfl, ?_⟩ | refine ⟨_, _, rfl, ?_⟩ | refine ⟨_, _, _, rfl, ?_⟩ | refine ⟨small_le (by simp), ?_⟩ | refine ⟨Or.inl ⟨by decide, by decide⟩, ?_⟩ | refine ⟨⟨by decide, by decide⟩, ?_⟩ | refine ⟨by show (0 : Int) < _; decide, ?_⟩)
  (intro t2 nt2; generalize hqZ : upd _ t2 _ = H3; have s3 := new_same hqZ nt2; have e3 := new_at hqZ; clear hqZ)
  repeat (first | refine ⟨_, rfl, ?_⟩ | refine ⟨_, _, rfl, rfl, ?_⟩ | refine ⟨rfl, ?_⟩ | refine ⟨_, _, rfl, ?_⟩ | refine ⟨_, _, _, rfl, ?_⟩ | refine ⟨small_le (by simp), ?_⟩ | refine ⟨Or.inl ⟨by decide, by decide⟩, ?_⟩ | refine ⟨⟨by decide, by decide⟩, ?_⟩ | refine ⟨by show (0 : Int) < _; decide, ?_⟩)
  have s03 := s1.trans (s2.trans s3)
  refine ⟨x, _, dx, [], rfl, s03 _ _ hx, T.cls_Form, T.noat_Form_numbers, by decide, ?_⟩
  have x4 : SameX x H (upd H3 x (.ins (He.ga K "Form") dx (putF "numbers" (V.ref t2) []))) := SameX.set (Same.x s03)
  repeat (first | refine ⟨_, rfl, ?_⟩ | refine ⟨_, _, rfl, rfl, ?_⟩ | refine ⟨rfl, ?_⟩ | refine ⟨_, _, rfl, ?_⟩ | refine ⟨_, _, _, rfl, ?_⟩ | refine ⟨small_le (by simp), ?_⟩ | refine ⟨Or.inl ⟨by decide, by decide⟩, ?_⟩ | refine ⟨⟨by decide, by decide⟩, ?_⟩ | refine ⟨by show (0 : Int) < _; decide, ?_⟩)
  refine ⟨wide_mul F.as F.cs (by omega) (by omega) (by omega), ?_⟩
  repeat (first | refine ⟨_, rfl, ?_⟩ | refine ⟨_, _, rfl, rfl, ?_⟩ | refine ⟨rfl, ?_⟩ | refine ⟨_, _, rfl, ?_⟩ | refine ⟨_, _, _, rfl, ?_⟩ | refine ⟨small_le (by simp), ?_⟩ | refine ⟨Or.inl ⟨by decide, by decide⟩, ?_⟩ | refine ⟨⟨by decide, by decide⟩, ?_⟩ | refine ⟨by show (0 : Int) < _; decide, ?_⟩)
  refine ⟨wide_mul F.bs F.bs (by omega) (by omega) (by omega), ?_⟩
  repeat (first | refine ⟨_, rfl, ?_⟩ | refine ⟨_, _, rfl, rfl, ?_⟩ | refine ⟨rfl, ?_⟩ | refine ⟨_, _, rfl, ?_⟩ | refine ⟨_, _, _, rfl, ?_⟩ | refine ⟨small_le (by simp), ?_⟩ | refine ⟨Or.inl ⟨by decide, by decide⟩, ?_⟩ | refine ⟨⟨by decide, by decide⟩, ?_⟩ | refine ⟨by show (0 : Int) < _; decide, ?_⟩)
  refine ⟨_, n, rfl, F.det, F.n1, ?_⟩
  repeat (first | refine ⟨_, rfl, ?_⟩ | refine ⟨_, _, rfl, rfl, ?_⟩ | refine ⟨rfl, ?_⟩ | refine ⟨_, _, rfl, ?_⟩ | refine ⟨_, _, _, rfl, ?_⟩ | refine ⟨small_le (by simp), ?_⟩ | refine ⟨Or.inl ⟨by decide, by decide⟩, ?_⟩ | refine ⟨⟨by decide, by decide⟩, ?_⟩ | refine ⟨by show (0 : Int) < _; decide, ?_⟩)
  refine ⟨x, _, dx, _, rfl, upd_same, T.cls_Form, T.noat_Form_side, (by show 1 < 1000; decide), ?_⟩
  have ht : t2 ≠ x := fun z => by
    rw [z, s2 _ _ (s1 _ _ hx)] at nt2
    cases nt2
  refine q _ x4.set ⟨dx, t2, upd_same, ?_⟩
  rw [upd_ne ht, upd_ne ht]
  exact e3
theorem mk_form {H : Hp} {G : Addr → Hp → Prop} {E : XK} {A B C : Int} {n : Nat} (F : Form3 A B C n) (q : ∀ H' x, Same H H' → H x = none → FormAt K H' x A B C n → G x H') :
    ∀ x dx, H x = none → H dx = none → dx ≠ x → spFormInit K (V.ref x :: [V.int A, V.int B, V.int C]) (upd (upd H dx (.own x)) x (.ins (He.ga K "Form") dx [])) (fun v H2 => v = .non ∧ G x H2) E := by
  intro x dx hx hdx ne
  have s1 : Same H (upd (upd H dx (.own x)) x (.ins (He.ga K "Form") dx [])) := same_mut (same_new hdx) hx
  refine ⟨x, dx, A, B, C, n, rfl, upd_same, F, fun H' h1 h2 => ⟨rfl, q H' x (fun b o e => h1 b o (fun z => by rw [z, hx] at e; cases e) (s1 _ _ e)) hx h2⟩⟩
/-! ### symbols -/
theorem sc_odd_part : FnScope ["number", "many", "left"] ["number"] (defScope (top 65)) := ⟨rfl, rfl, rfl, by decide +kernel, rfl, by decide +kernel, by decide +kernel⟩
def spOddPart : Sp := fun vs H Q _ => ∃ n : Int, vs = [.int n] ∧ n ≠ 0 ∧ ∀ H' p (k : Nat) (s : Int), n = 2 ^ k * s → s % 2 = 1 → Same H H' → H p = none → H' p = some (.tup [.int k, .int s]) → Q (.ref p) H'
theorem ok_odd_part (T : Tx K mg) : Fx P w K mg base CX0 1 "odd_part" spOddPart := by
  refine Fx.of T.g_odd_part T.f_odd_part (fnr0 (N := ["number", "many", "left"]) (ps := ["number"]) T.f_odd_part sc_odd_part (fun _ _ _ _ _ _ us hl => match us, hl with | [_], _ => rfl) (by intro vs H Q E h; repeat (first | (obtain ⟨e, _⟩ := h; subst e; rfl) | (obtain ⟨_, h⟩ := h))) fun cdv A outer s H vs Q E hr h => ?_)
  obtain ⟨n, rfl, hn, q⟩ := h
  refine ⟨_, (pss_cons (ps_par (i := 1) (j := 2) (by rfl) sc_odd_part.nd rfl rfl (by decide) rfl rfl (pa_cons pe_int (pa_cons (pv 0) pa_nil)) (by rfl))
      (pss_cons (ps_while PassesOwn.never (pt_cmpR op_eq (pe_op op_modP (pv 2) pe_int) pe_int (nomark _)) (pss_one (ps_par (i := 1) (j := 2) (by rfl) sc_odd_part.nd rfl rfl (by decide) rfl rfl (pa_cons (pe_op op_add (pv 1) pe_int) (pa_cons (pe_op op_divP (pv 2) pe_int) pa_nil)) (by rfl))))
      (pss_one (ps_ret (pe_tup (pa_cons (pv 1) (pa_cons (pv 2) pa_nil))))))), ?_⟩
  repeat (first | refine ⟨_, rfl, ?_⟩ | refine ⟨_, _, rfl, rfl, ?_⟩ | refine ⟨rfl, ?_⟩ | refine ⟨_, _, rfl, ?_⟩ | refine ⟨_, _, _, rfl, ?_⟩ | refine ⟨small_le (by simp), ?_⟩ | refine ⟨Or.inl ⟨by decide, by decide⟩, ?_⟩ | refine ⟨⟨by decide, by decide⟩, ?_⟩ | refine ⟨by show (0 : Int) < _; decide, ?_⟩)
  refine ⟨fun m σ H' => H' = H ∧ ∃ (k : Nat) (s : Int), n = 2 ^ k * s ∧ s ≠ 0 ∧ m = s.natAbs ∧ σ = [some (.int n), some (.int k), some (.int s)], ⟨_, rfl, 0, n, by omega, hn, rfl, rfl⟩, fun m σ H' hp => ?_⟩
  obtain ⟨rfl, k, s, e, hs, hm, rfl⟩ := hp
  repeat (first | refine ⟨_, rfl, ?_⟩ | refine ⟨_, _, rfl, rfl, ?_⟩ | refine ⟨rfl, ?_⟩ | refine ⟨_, _, rfl, ?_⟩ | refine ⟨_, _, _, rfl, ?_⟩ | refine ⟨small_le (by simp), ?_⟩ | refine ⟨Or.inl ⟨by decide, by decide⟩, ?_⟩ | refine ⟨⟨by decide, by decide⟩, ?_⟩ | refine ⟨by show (0 : Int) < _; decide, ?_⟩)
  refine eB (fun h2 => ?_) (fun h2 => ?_)
  · refine ⟨_, fun _ _ z => z, ?_⟩
    repeat (first | refine ⟨_, rfl, ?_⟩ | refine ⟨_, _, rfl, rfl, ?_⟩ | refine ⟨rfl, ?_⟩ | refine ⟨_, _, rfl, ?_⟩ | refine ⟨_, _, _, rfl, ?_⟩ | refine ⟨small_le (by simp), ?_⟩ | refine ⟨Or.inl ⟨by decide, by decide⟩, ?_⟩ | refine ⟨⟨by decide, by decide⟩, ?_⟩ | refine ⟨by show (0 : Int) < _; decide, ?_⟩)
    refine ⟨(s / 2).natAbs, by omega, rfl, k + 1, s / 2, ?_, by omega, rfl, rfl⟩
    rw [e, Int.pow_succ, Int.mul_assoc]
    congr 1
    omega
  · repeat (first | refine ⟨_, rfl, ?_⟩ | refine ⟨_, _, rfl, rfl, ?_⟩ | refine ⟨rfl, ?_⟩ | refine ⟨_, _, rfl, ?_⟩ | refine ⟨_, _, _, rfl, ?_⟩ | refine ⟨small_le (by simp), ?_⟩ | refine ⟨Or.inl ⟨by decide, by decide⟩, ?_⟩ | refine ⟨⟨by decide, by decide⟩, ?_⟩ | refine ⟨by show (0 : Int) < _; decide, ?_⟩)
    (intro p np; generalize hqZ : upd _ p _ = H1; have s1 := new_same hqZ np; have e1 := new_at hqZ; clear hqZ)
    exact q H1 p k s e (by omega) s1 np e1
theorem sc_is_turned : FnScope ["many", "by", "left", "by_two"] ["many", "by", "left"] (defScope (top 66)) := ⟨rfl, rfl, rfl, by decide +kernel, rfl, by decide +kernel, by decide +kernel⟩
def spIsTurned : Sp := fun vs H Q _ => ∃ (k : Nat) (b l : Int), vs = [.int k, .int b, .int l] ∧ ∀ H', Same H H' → Q (.bl (Bs.turned k b l)) H'
theorem ok_is_turned (T : Tx K mg) : Fx P w K mg base CX0 1 "is_turned" spIsTurned := by
  refine Fx.of T.g_is_turned T.f_is_turned (fnr0 (N := ["many", "by", "left", "by_two"]) (ps := ["many", "by", "left"]) T.f_is_turned sc_is_turned (fun _ _ _ _ _ _ us hl => match us, hl with | [_, _, _], _ => rfl) (by intro vs H Q E h; repeat (first | (obtain ⟨e, _⟩ := h; subst e; rfl) | (obtain ⟨_, h⟩ := h))) fun cdv A outer s H vs Q E hr h => ?_)
  obtain ⟨k, b, l, rfl, q⟩ := h
  refine ⟨_, (pss_cons (ps_set (i := 3) sc_is_turned.nd rfl (Or.inl rfl) (pe_and (pe_cmpR op_eq (pe_op op_modP (pv 0) pe_int) pe_int (nomark _)) (pe_one (pe_cmpR op_in_seq (pe_op op_modP (pv 1) pe_int) (pe_tup (pa_cons pe_int (pa_cons pe_int pa_nil))) (by with_unfolding_all rfl)))))
      (pss_one (ps_ret (pe_cmpR op_ne (pv 3) (pe_and (pe_cmpR op_eq (pe_op op_modP (pv 1) pe_int) pe_int (nomark _)) (pe_one (pe_cmpR op_eq (pe_op op_modP (pv 2) pe_int) pe_int (nomark _)))) (nomark _))))), ?_⟩
  repeat (first | refine ⟨_, rfl, ?_⟩ | refine ⟨_, _, rfl, rfl, ?_⟩ | refine ⟨rfl, ?_⟩ | refine ⟨_, _, rfl, ?_⟩ | refine ⟨_, _, _, rfl, ?_⟩ | refine ⟨small_le (by simp), ?_⟩ | refine ⟨Or.inl ⟨by decide, by decide⟩, ?_⟩ | refine ⟨⟨by decide, by decide⟩, ?_⟩ | refine ⟨by show (0 : Int) < _; decide, ?_⟩)
  -- from by_two on
  have fin : ∀ (c : Bool) (H1 : Hp), Same H H1 → c = (decide ((k : Int) % 2 = 1) && (decide (b % 8 = 3) || decide (b % 8 = 5))) →
      (tRet (tOp rNe (tVar 3) (tAndV (tOp rEq (tOp (rI (fun x j => 0 < j) fun i j => V.int (i % j)) (tVar 1) (L2.tC (V.int 4))) (L2.tC (V.int 3))) (tOp rEq (tOp (rI (fun x j => 0 < j) fun i j => V.int (i % j)) (tVar 2) (L2.tC (V.int 4))) (L2.tC (V.int 3))))) { nx := fun x H' => Q V.non H', rt := Q })
        ((L2.start ["many", "by", "left", "by_two"] [V.int k, V.int b, V.int l]).set 3 (some (.bl c))) H1 := by
    intro c H1 s1 hc
    repeat (first | refine ⟨_, rfl, ?_⟩ | refine ⟨_, _, rfl, rfl, ?_⟩ | refine ⟨rfl, ?_⟩ | refine ⟨_, _, rfl, ?_⟩ | refine ⟨_, _, _, rfl, ?_⟩ | refine ⟨small_le (by simp), ?_⟩ | refine ⟨Or.inl ⟨by decide, by decide⟩, ?_⟩ | refine ⟨⟨by decide, by decide⟩, ?_⟩ | refine ⟨by show (0 : Int) < _; decide, ?_⟩)
    have key : ∀ d : Bool, d = (decide (b % 4 = 3) && decide (l % 4 = 3)) → Q (.bl (!decide (V.bl c = V.bl d))) H1 := by
      intro d hd
      have e : (!decide (V.bl c = V.bl d)) = Bs.turned k b l := by
        unfold Bs.turned
        rw [← hc, ← hd]
        cases c <;> cases d <;> rfl
      rw [e]
      exact q _ s1
    refine eB (fun e => ?_) (fun e => ?_)
    · repeat (first | refine ⟨_, rfl, ?_⟩ | refine ⟨_, _, rfl, rfl, ?_⟩ | refine ⟨rfl, ?_⟩ | refine ⟨_, _, rfl, ?_⟩ | refine ⟨_, _, _, rfl, ?_⟩ | refine ⟨small_le (by simp), ?_⟩ | refine ⟨Or.inl ⟨by decide, by decide⟩, ?_⟩ | refine ⟨⟨by decide, by decide⟩, ?_⟩ | refine ⟨by show (0 : Int) < _; decide, ?_⟩)
      refine key _ ?_
      rw [decide_eq_true e, Bool.true_and]
      by_cases e2 : l % 4 = 3
      · rw [decide_eq_true e2, decide_eq_true (vi_inj.mpr e2)]
      · rw [decide_eq_false e2, decide_eq_false (fun z => e2 (vi_inj.mp z))]
    · repeat (first | refine ⟨_, rfl, ?_⟩ | refine ⟨_, _, rfl, rfl, ?_⟩ | refine ⟨rfl, ?_⟩ | refine ⟨_, _, rfl, ?_⟩ | refine ⟨_, _, _, rfl, ?_⟩ | refine ⟨small_le (by simp), ?_⟩ | refine ⟨Or.inl ⟨by decide, by decide⟩, ?_⟩ | refine ⟨⟨by decide, by decide⟩, ?_⟩ | refine ⟨by show (0 : Int) < _; decide, ?_⟩)
      refine key _ ?_
      rw [decide_eq_false e, Bool.false_and]
  refine eB (fun e => ?_) (fun e => ?_)
  · repeat (first | refine ⟨_, rfl, ?_⟩ | refine ⟨_, _, rfl, rfl, ?_⟩ | refine ⟨rfl, ?_⟩ | refine ⟨_, _, rfl, ?_⟩ | refine ⟨_, _, _, rfl, ?_⟩ | refine ⟨small_le (by simp), ?_⟩ | refine ⟨Or.inl ⟨by decide, by decide⟩, ?_⟩ | refine ⟨⟨by decide, by decide⟩, ?_⟩ | refine ⟨by show (0 : Int) < _; decide, ?_⟩)
    (intro p np; generalize hqZ : upd _ p _ = H1; have s1 := new_same hqZ np; have e1 := new_at hqZ; clear hqZ)
    refine ⟨p, _, rfl, .inr (sqT e1), rfl, rfl, ?_⟩
    refine fin _ H1 s1 ?_
    rw [decide_eq_true e, Bool.true_and]
    simp only [inV, eqV, List.any_cons, List.any_nil, Bool.or_false]
    rw [Bool.eq_iff_iff]
    simp
    omega
  · refine fin _ H (Same.refl _) ?_
    rw [decide_eq_false e, Bool.false_and]

theorem mul_lt_mul_int {a b c d : Int} (h0 : 0 ≤ a) (h : a < b) (h1 : 0 ≤ c) (h2 : c < d) : a * c < b * d :=
  Int.lt_of_le_of_lt (Int.mul_le_mul_of_nonneg_left (Int.le_of_lt h2) h0) (Int.mul_lt_mul_of_pos_right h (by omega))
theorem le_two_pow_mul {k : Nat} {s : Int} (h : 0 < s) : s ≤ 2 ^ k * s := by
  have : (1 : Int) ≤ 2 ^ k := by
    have h2 : (0 : Int) < 2 ^ k := Int.pow_pos (by decide)
    omega
  have h3 := Int.mul_le_mul_of_nonneg_right this (Int.le_of_lt h)
  omega
theorem pos_of_two_pow {k : Nat} {s : Int} (h : 0 < 2 ^ k * s) : 0 < s := by
  have h2 : (0 : Int) < 2 ^ k := Int.pow_pos (by decide)
  rcases Int.lt_or_le 0 s with h3 | h3
  · exact h3
  · have := Int.mul_nonpos_of_nonneg_of_nonpos (Int.le_of_lt h2) h3
    omega
theorem sc_come_down : FnScope ["number", "by", "rows", "value", "under", "left", "many", "odd"] ["number", "by"] (defScope (top 67)) := ⟨rfl, rfl, rfl, by decide +kernel, rfl, by decide +kernel, by decide +kernel⟩
def spComeDown : Sp := fun vs H Q _ => ∃ n b : Int, vs = [.int n, .int b] ∧ Bs.Od b ∧ Bs.Cop n b ∧ b.natAbs < 2 ^ (BIG + 2) ∧ ∀ H' p r, Same H H' → H p = none → H' p = some (.tup [.ref r, .int (Bs.J n b)]) → Q (.ref p) H'
theorem ok_come_down (T : Tx K mg) : Fx P w K mg base CX0 2 "come_down" spComeDown := by
  refine Fx.of T.g_come_down T.f_come_down (fnr0 (N := ["number", "by", "rows", "value", "under", "left", "many", "odd"]) (ps := ["number", "by"]) T.f_come_down sc_come_down (fun _ _ _ _ _ _ us hl => match us, hl with | [_, _], _ => rfl) (by intro vs H Q E h; repeat (first | (obtain ⟨e, _⟩ := h; subst e; rfl) | (obtain ⟨_, h⟩ := h))) fun cdv A outer s H vs Q E hr h => ?_)
  obtain ⟨n, b, rfl, ob, cb, hb, q⟩ := h
  have hB := big_le
  have b0 := ob.pos
  refine ⟨_, (pss_cons (ps_par (i := 2) (j := 3) (by rfl) sc_come_down.nd rfl rfl (by decide) rfl rfl (pa_cons (pe_lst (pa_cons (pe_tup (pa_cons (pv 1) (pa_cons (pe_op op_modP (pv 0) (pv 1)) pa_nil))) pa_nil)) (pa_cons pe_int pa_nil)) (by rfl))
      (pss_cons (ps_while PassesOwn.never (pt_cmpR op_ne (pe_ix ix_tup (pe_ix ix_list (pv 2) (pe_un un_neg pe_int) (fun _ _ => rfl)) pe_int (fun _ _ => rfl)) pe_int (nomark _)) (pss_cons (ps_asg (pe_ix ix_list (pv 2) (pe_un un_neg pe_int) (fun _ _ => rfl)) (pg_tup rfl (pgs_cons (pg_name (i := 4) sc_come_down.nd rfl (Or.inl rfl)) (pgs_cons (pg_name (i := 5) sc_come_down.nd rfl (Or.inl rfl)) pgs_nil))))
      (pss_cons (ps_asg (pc (ok_odd_part T) (hr.mono (by decide)) (by first | exact pass0 | exact passL) (pa_cons (pv 5) pa_nil)) (pg_tup rfl (pgs_cons (pg_name (i := 6) sc_come_down.nd rfl (Or.inl rfl)) (pgs_cons (pg_name (i := 7) sc_come_down.nd rfl (Or.inl rfl)) pgs_nil))))
      (pss_cons (ps_set (i := 3) sc_come_down.nd rfl (Or.inl rfl) (pe_ifExp (pt_val (pc (ok_is_turned T) (hr.mono (by decide)) (by first | exact pass0 | exact passL) (pa_cons (pv 6) (pa_cons (pv 4) (pa_cons (pv 7) pa_nil))))) (pe_un un_neg (pv 3)) (pv 3)))
      (pss_one (ps_expr (pe_bm PySem.F.plainAttrs_list PySem.F.slot_list_append PySem.F.type_list_append mt_append (pv 2) (pa_cons (pe_tup (pa_cons (pv 7) (pa_cons (pe_op op_modP (pv 4) (pv 7)) pa_nil))) pa_nil))))))))
      (pss_one (ps_ret (pe_tup (pa_cons (pv 2) (pa_cons (pe_ifExp (pt_cmpR op_eq (pe_ix ix_tup (pe_ix ix_list (pv 2) (pe_un un_neg pe_int) (fun _ _ => rfl)) pe_int (fun _ _ => rfl)) pe_int (nomark _)) (pv 3) pe_int) pa_nil))))))), ?_⟩
  repeat (first | refine ⟨_, rfl, ?_⟩ | refine ⟨_, _, rfl, rfl, ?_⟩ | refine ⟨rfl, ?_⟩ | refine ⟨_, _, rfl, ?_⟩ | refine ⟨_, _, _, rfl, ?_⟩ | refine ⟨small_le (by simp), ?_⟩ | refine ⟨Or.inl ⟨by decide, by decide⟩, ?_⟩ | refine ⟨⟨by decide, by decide⟩, ?_⟩ | refine ⟨by show (0 : Int) < _; decide, ?_⟩)
  refine ⟨b0, ?_⟩
  repeat (first | refine ⟨_, rfl, ?_⟩ | refine ⟨_, _, rfl, rfl, ?_⟩ | refine ⟨rfl, ?_⟩ | refine ⟨_, _, rfl, ?_⟩ | refine ⟨_, _, _, rfl, ?_⟩ | refine ⟨small_le (by simp), ?_⟩ | refine ⟨Or.inl ⟨by decide, by decide⟩, ?_⟩ | refine ⟨⟨by decide, by decide⟩, ?_⟩ | refine ⟨by show (0 : Int) < _; decide, ?_⟩)
  (intro t nt; generalize hqZ : upd _ t _ = H1; have s1 := new_same hqZ nt; have e1 := new_at hqZ; clear hqZ)
  repeat (first | refine ⟨_, rfl, ?_⟩ | refine ⟨_, _, rfl, rfl, ?_⟩ | refine ⟨rfl, ?_⟩ | refine ⟨_, _, rfl, ?_⟩ | refine ⟨_, _, _, rfl, ?_⟩ | refine ⟨small_le (by simp), ?_⟩ | refine ⟨Or.inl ⟨by decide, by decide⟩, ?_⟩ | refine ⟨⟨by decide, by decide⟩, ?_⟩ | refine ⟨by show (0 : Int) < _; decide, ?_⟩)
  (intro R nR; generalize hqZ : upd _ R _ = H2; have s2 := new_same hqZ nR; have e2 := new_at hqZ; clear hqZ)
  repeat (first | refine ⟨_, rfl, ?_⟩ | refine ⟨_, _, rfl, rfl, ?_⟩ | refine ⟨rfl, ?_⟩ | refine ⟨_, _, rfl, ?_⟩ | refine ⟨_, _, _, rfl, ?_⟩ | refine ⟨small_le (by simp), ?_⟩ | refine ⟨Or.inl ⟨by decide, by decide⟩, ?_⟩ | refine ⟨⟨by decide, by decide⟩, ?_⟩ | refine ⟨by show (0 : Int) < _; decide, ?_⟩)
  have st := Bs.J_start cb
  have n0 : H R = none := (s1.free nR)
  refine ⟨fun m σ H' => Same H H' ∧ ∃ pre t v u val y4 y5 y6 y7, H' R = some (.lst (pre ++ [V.ref t])) ∧ H' t = some (.tup [.int v, .int u]) ∧ Bs.Od v ∧ 0 ≤ u ∧ u < v ∧ Bs.Cop u v ∧ val * Bs.J u v = Bs.J n b ∧ v * u < 2 ^ m ∧ pre.length + m ≤ 2 * BIG + 4 ∧
      σ = [some (.int n), some (.int b), some (.ref R), some (.int val), y4, y5, y6, y7],
    ⟨2 * BIG + 4, s1.trans s2, [], t, b, n % b, 1, none, none, none, none, e2, s2 _ _ e1, ob, Int.emod_nonneg _ (by omega), Int.emod_lt_of_pos _ b0, st.1, by rw [st.2, Int.one_mul], ?_, by simp, rfl⟩, fun m σ H' hp => ?_⟩
  · have h1 : 0 ≤ n % b := Int.emod_nonneg _ (by omega)
    have h2 : n % b < b := Int.emod_lt_of_pos _ b0
    have h3 : b * (n % b) ≤ b * b := Int.mul_le_mul_of_nonneg_left (by omega) (by omega)
    have h4 : b < 2 ^ (BIG + 2) := by
      have : ((b.natAbs : Nat) : Int) < ((2 ^ (BIG + 2) : Nat) : Int) := by exact_mod_cast hb
      rw [Int.natCast_pow] at this
      have e : ((b.natAbs : Nat) : Int) = b := by omega
      rw [e] at this
      exact this
    have h5 : b * b < 2 ^ (BIG + 2) * 2 ^ (BIG + 2) := mul_lt_mul_int (by omega) h4 (by omega) h4
    have e : (2 : Int) ^ (2 * BIG + 4) = 2 ^ (BIG + 2) * 2 ^ (BIG + 2) := by rw [← Int.pow_add]; congr 1; omega
    rw [e]
    omega
  obtain ⟨s3, pre, t, v, u, val, y4, y5, y6, y7, eR, et, ov, u0, uv, cu, ej, hm, hl, rfl⟩ := hp
  have hz : sizeLine = 16777216 := by decide
  repeat (first | refine ⟨_, rfl, ?_⟩ | refine ⟨_, _, rfl, rfl, ?_⟩ | refine ⟨rfl, ?_⟩ | refine ⟨_, _, rfl, ?_⟩ | refine ⟨_, _, _, rfl, ?_⟩ | refine ⟨small_le (by simp), ?_⟩ | refine ⟨Or.inl ⟨by decide, by decide⟩, ?_⟩ | refine ⟨⟨by decide, by decide⟩, ?_⟩ | refine ⟨by show (0 : Int) < _; decide, ?_⟩)
  refine ⟨R, _, -1, _, rfl, rfl, sqL eR, atI_last _ _, ?_⟩
  repeat (first | refine ⟨_, rfl, ?_⟩ | refine ⟨_, _, rfl, rfl, ?_⟩ | refine ⟨rfl, ?_⟩ | refine ⟨_, _, rfl, ?_⟩ | refine ⟨_, _, _, rfl, ?_⟩ | refine ⟨small_le (by simp), ?_⟩ | refine ⟨Or.inl ⟨by decide, by decide⟩, ?_⟩ | refine ⟨⟨by decide, by decide⟩, ?_⟩ | refine ⟨by show (0 : Int) < _; decide, ?_⟩)
  refine ⟨t, _, 1, .int u, rfl, rfl, sqT et, atI_nat (j := 1) rfl, ?_⟩
  repeat (first | refine ⟨_, rfl, ?_⟩ | refine ⟨_, _, rfl, rfl, ?_⟩ | refine ⟨rfl, ?_⟩ | refine ⟨_, _, rfl, ?_⟩ | refine ⟨_, _, _, rfl, ?_⟩ | refine ⟨small_le (by simp), ?_⟩ | refine ⟨Or.inl ⟨by decide, by decide⟩, ?_⟩ | refine ⟨⟨by decide, by decide⟩, ?_⟩ | refine ⟨by show (0 : Int) < _; decide, ?_⟩)
  refine neB (fun hu => ?_) (fun hu => ?_)
  · refine ⟨_, fun _ _ z => z, ?_⟩
    repeat (first | refine ⟨_, rfl, ?_⟩ | refine ⟨_, _, rfl, rfl, ?_⟩ | refine ⟨rfl, ?_⟩ | refine ⟨_, _, rfl, ?_⟩ | refine ⟨_, _, _, rfl, ?_⟩ | refine ⟨small_le (by simp), ?_⟩ | refine ⟨Or.inl ⟨by decide, by decide⟩, ?_⟩ | refine ⟨⟨by decide, by decide⟩, ?_⟩ | refine ⟨by show (0 : Int) < _; decide, ?_⟩)
    refine ⟨R, _, -1, _, rfl, rfl, sqL eR, atI_last _ _, ?_⟩
    refine ⟨t, _, rfl, sqT et, rfl, ?_⟩
    repeat (first | refine ⟨_, rfl, ?_⟩ | refine ⟨_, _, rfl, rfl, ?_⟩ | refine ⟨rfl, ?_⟩ | refine ⟨_, _, rfl, ?_⟩ | refine ⟨_, _, _, rfl, ?_⟩ | refine ⟨small_le (by simp), ?_⟩ | refine ⟨Or.inl ⟨by decide, by decide⟩, ?_⟩ | refine ⟨⟨by decide, by decide⟩, ?_⟩ | refine ⟨by show (0 : Int) < _; decide, ?_⟩)
    refine ⟨hu, fun H4 p k sd esd osd s4 np ep => ?_⟩
    have hs0 : 0 < sd := pos_of_two_pow (k := k) (by omega)
    have hsu : sd ≤ u := by rw [esd]; exact le_two_pow_mul hs0
    have os : Bs.Od sd := ⟨hs0, osd⟩
    obtain ⟨c2, j2⟩ := Bs.J_step ov os esd cu
    have hv := Bs.halves (v := v) (u := u) (s := sd) (k := 0) hs0 hsu uv
    refine ⟨p, _, rfl, sqT ep, rfl, ?_⟩
    repeat (first | refine ⟨_, rfl, ?_⟩ | refine ⟨_, _, rfl, rfl, ?_⟩ | refine ⟨rfl, ?_⟩ | refine ⟨_, _, rfl, ?_⟩ | refine ⟨_, _, _, rfl, ?_⟩ | refine ⟨small_le (by simp), ?_⟩ | refine ⟨Or.inl ⟨by decide, by decide⟩, ?_⟩ | refine ⟨⟨by decide, by decide⟩, ?_⟩ | refine ⟨by show (0 : Int) < _; decide, ?_⟩)
    refine fun H5 s5 => ?_
    repeat (first | refine ⟨_, rfl, ?_⟩ | refine ⟨_, _, rfl, rfl, ?_⟩ | refine ⟨rfl, ?_⟩ | refine ⟨_, _, rfl, ?_⟩ | refine ⟨_, _, _, rfl, ?_⟩ | refine ⟨small_le (by simp), ?_⟩ | refine ⟨Or.inl ⟨by decide, by decide⟩, ?_⟩ | refine ⟨⟨by decide, by decide⟩, ?_⟩ | refine ⟨by show (0 : Int) < _; decide, ?_⟩)
    have up : Same H H5 := s3.trans (s4.trans s5)
    have m1 : 0 < m := by
      rcases Nat.eq_zero_or_pos m with z | z
      · rw [z] at hm
        have : 1 ≤ v * u := Int.mul_pos ov.pos (by omega)
        simp at hm
        omega
      · exact z
    refine bB (fun ht => ?_) (fun ht => ?_)
    all_goals
      repeat (first | refine ⟨_, rfl, ?_⟩ | refine ⟨_, _, rfl, rfl, ?_⟩ | refine ⟨rfl, ?_⟩ | refine ⟨_, _, rfl, ?_⟩ | refine ⟨_, _, _, rfl, ?_⟩ | refine ⟨small_le (by simp), ?_⟩ | refine ⟨Or.inl ⟨by decide, by decide⟩, ?_⟩ | refine ⟨⟨by decide, by decide⟩, ?_⟩ | refine ⟨by show (0 : Int) < _; decide, ?_⟩)
      refine ⟨Or.inl ⟨rfl, _, sqL (s5 _ _ (s4 _ _ eR))⟩, ?_⟩
      repeat (first | refine ⟨_, rfl, ?_⟩ | refine ⟨_, _, rfl, rfl, ?_⟩ | refine ⟨rfl, ?_⟩ | refine ⟨_, _, rfl, ?_⟩ | refine ⟨_, _, _, rfl, ?_⟩ | refine ⟨small_le (by simp), ?_⟩ | refine ⟨Or.inl ⟨by decide, by decide⟩, ?_⟩ | refine ⟨⟨by decide, by decide⟩, ?_⟩ | refine ⟨by show (0 : Int) < _; decide, ?_⟩)
      refine ⟨hs0, ?_⟩
      repeat (first | refine ⟨_, rfl, ?_⟩ | refine ⟨_, _, rfl, rfl, ?_⟩ | refine ⟨rfl, ?_⟩ | refine ⟨_, _, rfl, ?_⟩ | refine ⟨_, _, _, rfl, ?_⟩ | refine ⟨small_le (by simp), ?_⟩ | refine ⟨Or.inl ⟨by decide, by decide⟩, ?_⟩ | refine ⟨⟨by decide, by decide⟩, ?_⟩ | refine ⟨by show (0 : Int) < _; decide, ?_⟩)
      (intro t2 nt2; generalize hqZ : upd _ t2 _ = H6; have s6 := new_same hqZ nt2; have e6 := new_at hqZ; clear hqZ)
      refine ⟨R, _, _, rfl, rfl, s6 _ _ (s5 _ _ (s4 _ _ eR)), ?_, ?_⟩
      · simp
        omega
      refine ⟨m - 1, by omega, same_mut (up.trans s6) n0, pre ++ [V.ref t], t2, sd, v % sd, _, _, _, _, _, upd_same, ?_, os, Int.emod_nonneg _ (by omega), Int.emod_lt_of_pos _ hs0, c2, ?_, ?_, ?_, rfl⟩
      · rw [upd_ne (fun z => by rw [z, s5 _ _ (s4 _ _ eR)] at nt2; cases nt2)]
        exact e6
      · rw [← ej, j2, ht]
        first
          | (simp; done)
          | (simp; grind)
      · have e2 : (2 : Int) ^ m = 2 * 2 ^ (m - 1) := by
          rw [← Int.pow_succ']
          congr 1
          omega
        omega
      · simp
        omega
  · subst hu
    obtain ⟨v1, j1⟩ := Bs.J_zero_end ov cu
    subst v1
    repeat (first | refine ⟨_, rfl, ?_⟩ | refine ⟨_, _, rfl, rfl, ?_⟩ | refine ⟨rfl, ?_⟩ | refine ⟨_, _, rfl, ?_⟩ | refine ⟨_, _, _, rfl, ?_⟩ | refine ⟨small_le (by simp), ?_⟩ | refine ⟨Or.inl ⟨by decide, by decide⟩, ?_⟩ | refine ⟨⟨by decide, by decide⟩, ?_⟩ | refine ⟨by show (0 : Int) < _; decide, ?_⟩)
    refine ⟨R, _, -1, _, rfl, rfl, sqL eR, atI_last _ _, ?_⟩
    repeat (first | refine ⟨_, rfl, ?_⟩ | refine ⟨_, _, rfl, rfl, ?_⟩ | refine ⟨rfl, ?_⟩ | refine ⟨_, _, rfl, ?_⟩ | refine ⟨_, _, _, rfl, ?_⟩ | refine ⟨small_le (by simp), ?_⟩ | refine ⟨Or.inl ⟨by decide, by decide⟩, ?_⟩ | refine ⟨⟨by decide, by decide⟩, ?_⟩ | refine ⟨by show (0 : Int) < _; decide, ?_⟩)
    refine ⟨t, _, 0, .int 1, rfl, rfl, sqT et, atI_nat (j := 0) rfl, ?_⟩
    repeat (first | refine ⟨_, rfl, ?_⟩ | refine ⟨_, _, rfl, rfl, ?_⟩ | refine ⟨rfl, ?_⟩ | refine ⟨_, _, rfl, ?_⟩ | refine ⟨_, _, _, rfl, ?_⟩ | refine ⟨small_le (by simp), ?_⟩ | refine ⟨Or.inl ⟨by decide, by decide⟩, ?_⟩ | refine ⟨⟨by decide, by decide⟩, ?_⟩ | refine ⟨by show (0 : Int) < _; decide, ?_⟩)
    (intro p np; generalize hqZ : upd _ p _ = H4; have s4 := new_same hqZ np; have e4 := new_at hqZ; clear hqZ)
    refine q H4 p R (s3.trans s4) (s3.free np) ?_
    rw [e4, ← ej, j1, Int.mul_one]
theorem sc_own_symbol : FnScope ["number", "by"] ["number", "by"] (defScope (top 68)) := ⟨rfl, rfl, rfl, by decide +kernel, rfl, by decide +kernel, by decide +kernel⟩
def spOwnSymbol : Sp := fun vs H Q _ => ∃ n b : Int, vs = [.int n, .int b] ∧ Bs.Od b ∧ Bs.Cop n b ∧ b.natAbs < 2 ^ (BIG + 2) ∧ ∀ H', Same H H' → Q (.int (Bs.J n b)) H'
theorem ok_own_symbol (T : Tx K mg) : Fx P w K mg base CX0 3 "own_symbol" spOwnSymbol := by
  refine Fx.of T.g_own_symbol T.f_own_symbol (fnr0 (N := ["number", "by"]) (ps := ["number", "by"]) T.f_own_symbol sc_own_symbol (fun _ _ _ _ _ _ us hl => match us, hl with | [_, _], _ => rfl) (by intro vs H Q E h; repeat (first | (obtain ⟨e, _⟩ := h; subst e; rfl) | (obtain ⟨_, h⟩ := h))) fun cdv A outer s H vs Q E hr h => ?_)
  obtain ⟨n, b, rfl, ob, cb, hb, q⟩ := h
  refine ⟨_, (pss_one (ps_ret (pe_ix ix_tup (pc (ok_come_down T) (hr.mono (by decide)) (by first | exact pass0 | exact passL) (pa_cons (pv 0) (pa_cons (pv 1) pa_nil))) pe_int (fun _ _ => rfl)))), ?_⟩
  repeat (first | refine ⟨_, rfl, ?_⟩ | refine ⟨_, _, rfl, rfl, ?_⟩ | refine ⟨rfl, ?_⟩ | refine ⟨_, _, rfl, ?_⟩ | refine ⟨_, _, _, rfl, ?_⟩ | refine ⟨small_le (by simp), ?_⟩ | refine ⟨Or.inl ⟨by decide, by decide⟩, ?_⟩ | refine ⟨⟨by decide, by decide⟩, ?_⟩ | refine ⟨by show (0 : Int) < _; decide, ?_⟩)
  refine ⟨ob, cb, hb, fun H1 p r s1 np ep => ?_⟩
  repeat (first | refine ⟨_, rfl, ?_⟩ | refine ⟨_, _, rfl, rfl, ?_⟩ | refine ⟨rfl, ?_⟩ | refine ⟨_, _, rfl, ?_⟩ | refine ⟨_, _, _, rfl, ?_⟩ | refine ⟨small_le (by simp), ?_⟩ | refine ⟨Or.inl ⟨by decide, by decide⟩, ?_⟩ | refine ⟨⟨by decide, by decide⟩, ?_⟩ | refine ⟨by show (0 : Int) < _; decide, ?_⟩)
  refine ⟨p, _, 1, _, rfl, rfl, sqT ep, atI_nat (j := 1) rfl, ?_⟩
  exact q _ s1
theorem sc_are_coprime : FnScope ["one", "other"] ["one", "other"] (defScope (top 83)) := ⟨rfl, rfl, rfl, by decide +kernel, rfl, by decide +kernel, by decide +kernel⟩
def spAreCoprime : Sp := fun vs H Q _ => ∃ a b : Int, vs = [.int a, .int b] ∧ ∀ H', Same H H' → Q (.bl (decide (Bs.Cop a b))) H'
theorem gcdL_two (a b : Int) : gcdL [a, b] = ((Int.gcd a b : Nat) : Int) := by
  show ((Nat.gcd (((Nat.gcd 0 a.natAbs : Nat) : Int)).natAbs b.natAbs : Nat) : Int) = _
  rw [Nat.gcd_zero_left, Int.natAbs_natCast]
  rfl
theorem ok_are_coprime (T : Tx K mg) : Fx P w K mg base CX0 2 "are_coprime" spAreCoprime := by
  refine Fx.of T.g_are_coprime T.f_are_coprime (fnr0 (N := ["one", "other"]) (ps := ["one", "other"]) T.f_are_coprime sc_are_coprime (fun _ _ _ _ _ _ us hl => match us, hl with | [_, _], _ => rfl) (by intro vs H Q E h; repeat (first | (obtain ⟨e, _⟩ := h; subst e; rfl) | (obtain ⟨_, h⟩ := h))) fun cdv A outer s H vs Q E hr h => ?_)
  obtain ⟨a, b, rfl, q⟩ := h
  refine ⟨_, (pss_one (ps_ret (pe_cmpR op_eq (pc (ok_measure T) (hr.mono (by decide)) (by first | exact pass0 | exact passL) (pa_cons (pe_lst (pa_cons (pv 0) (pa_cons (pv 1) pa_nil))) pa_nil)) pe_int (nomark _)))), ?_⟩
  repeat (first | refine ⟨_, rfl, ?_⟩ | refine ⟨_, _, rfl, rfl, ?_⟩ | refine ⟨rfl, ?_⟩ | refine ⟨_, _, rfl, ?_⟩ | refine ⟨_, _, _, rfl, ?_⟩ | refine ⟨small_le (by simp), ?_⟩ | refine ⟨Or.inl ⟨by decide, by decide⟩, ?_⟩ | refine ⟨⟨by decide, by decide⟩, ?_⟩ | refine ⟨by show (0 : Int) < _; decide, ?_⟩)
  (intro p np; generalize hqZ : upd _ p _ = H1; have s1 := new_same hqZ np; have e1 := new_at hqZ; clear hqZ)
  refine ⟨p, [a, b], rfl, .inl e1, ?_⟩
  repeat (first | refine ⟨_, rfl, ?_⟩ | refine ⟨_, _, rfl, rfl, ?_⟩ | refine ⟨rfl, ?_⟩ | refine ⟨_, _, rfl, ?_⟩ | refine ⟨_, _, _, rfl, ?_⟩ | refine ⟨small_le (by simp), ?_⟩ | refine ⟨Or.inl ⟨by decide, by decide⟩, ?_⟩ | refine ⟨⟨by decide, by decide⟩, ?_⟩ | refine ⟨by show (0 : Int) < _; decide, ?_⟩)
  have e : decide (V.int (gcdL [a, b]) = V.int 1) = decide (Bs.Cop a b) := by
    rw [gcdL_two, decide_eq_decide, vi_inj]
    show _ ↔ Int.gcd a b = 1
    omega
  rw [e]
  exact q _ s1
/-- the places that are neither i nor j -/
def oth2 (i j : Nat) : List Nat := (List.range 4).filter fun k => k != i && k != j
theorem sc_other_places : FnScope ["place", "other", "each"] ["place", "other"] (defScope (top 82)) := ⟨rfl, rfl, rfl, by decide +kernel, rfl, by decide +kernel, by decide +kernel⟩
def spOtherPlaces : Sp := fun vs H Q _ => ∃ i j : Nat, vs = [.int i, .int j] ∧ ∀ H' p, Same H H' → H p = none → H' p = some (.lst (vi ((oth2 i j).map fun (k : Nat) => ((k : Nat) : Int)))) → Q (.ref p) H'
theorem ok_other_places (T : Tx K mg) : Fx P w K mg base CX0 1 "other_places" spOtherPlaces := by
  refine Fx.of T.g_other_places T.f_other_places (fnr0 (N := ["place", "other", "each"]) (ps := ["place", "other"]) T.f_other_places sc_other_places (fun _ _ _ _ _ _ us hl => match us, hl with | [_, _], _ => rfl) (by intro vs H Q E h; repeat (first | (obtain ⟨e, _⟩ := h; subst e; rfl) | (obtain ⟨_, h⟩ := h))) fun cdv A outer s H vs Q E hr h => ?_)
  obtain ⟨i, j, rfl, q⟩ := h
  refine ⟨_, (pss_one (ps_ret (pe_lc (own := [("each", 2)]) rfl sc_other_places.nd (pi_range1 (by rfl) T.m_range (pa_cons (pe_glob (v := .int 4) rfl T.i_PLACES.choose_spec ⟨_, rfl⟩) pa_nil)) (blkOk_by (own := [("each", 2)]) (N := ["place", "other", "each"]) (sc := defScope (top 82)) (by decide +kernel)) (fun _ _ _ _ _ => (pg_name (i := 2) sc_other_places.nd rfl (Or.inl rfl))) (fun _ _ _ _ _ => (pts_one (pt_cmpR (op_notIn_seqK (K := K) rfl) (pv 2) (pe_tup (pa_cons (pv 0) (pa_cons (pv 1) pa_nil))) (by with_unfolding_all rfl)))) (fun _ _ _ _ _ => (pv 2))))), ?_⟩
  repeat (first | refine ⟨_, rfl, ?_⟩ | refine ⟨_, _, rfl, rfl, ?_⟩ | refine ⟨rfl, ?_⟩ | refine ⟨_, _, rfl, ?_⟩ | refine ⟨_, _, _, rfl, ?_⟩ | refine ⟨small_le (by simp), ?_⟩ | refine ⟨Or.inl ⟨by decide, by decide⟩, ?_⟩ | refine ⟨⟨by decide, by decide⟩, ?_⟩ | refine ⟨by show (0 : Int) < _; decide, ?_⟩)
  refine ⟨by decide, by decide, fun D nD => ?_⟩
  refine lc_range (lo := 0) (n := 4) (fun k H' => Same H H' ∧ H' D = some (.lst (vi (((List.range k).filter fun k => k != i && k != j).map fun (k : Nat) => ((k : Nat) : Int))))) ⟨same_new nD, upd_same⟩ (fun k H' hk hp => ?_) (fun H' hp => q H' D hp.1 nD hp.2)
  obtain ⟨p1, p2⟩ := hp
  refine ⟨rfl, ?_⟩
  repeat (first | refine ⟨_, rfl, ?_⟩ | refine ⟨_, _, rfl, rfl, ?_⟩ | refine ⟨rfl, ?_⟩ | refine ⟨_, _, rfl, ?_⟩ | refine ⟨_, _, _, rfl, ?_⟩ | refine ⟨small_le (by simp), ?_⟩ | refine ⟨Or.inl ⟨by decide, by decide⟩, ?_⟩ | refine ⟨⟨by decide, by decide⟩, ?_⟩ | refine ⟨by show (0 : Int) < _; decide, ?_⟩)
  (intro p np; generalize hqZ : upd _ p _ = H2; have s2 := new_same hqZ np; have e2 := new_at hqZ; clear hqZ)
  have p3 := s2 _ _ p2
  have hz : ((List.range k).filter fun k => k != i && k != j).length ≤ 4 := Nat.le_trans (List.length_filter_le _ _) (by simp; omega)
  refine ⟨p, _, rfl, .inr (sqT e2), rfl, rfl, ?_⟩
  repeat (first | refine ⟨_, rfl, ?_⟩ | refine ⟨_, _, rfl, rfl, ?_⟩ | refine ⟨rfl, ?_⟩ | refine ⟨_, _, rfl, ?_⟩ | refine ⟨_, _, _, rfl, ?_⟩ | refine ⟨small_le (by simp), ?_⟩ | refine ⟨Or.inl ⟨by decide, by decide⟩, ?_⟩ | refine ⟨⟨by decide, by decide⟩, ?_⟩ | refine ⟨by show (0 : Int) < _; decide, ?_⟩)
  have ee : (if true = true then !inV (V.int (0 + (k : Int))) [V.int i, V.int j] else inV (V.int (0 + (k : Int))) [V.int i, V.int j]) = (k != i && k != j) := by
    simp only [inV, eqV, List.any_cons, List.any_nil, Bool.or_false, if_true]
    rw [Bool.eq_iff_iff]
    simp
    omega
  rw [ee]
  refine bB (fun e => ?_) (fun e => ?_)
  · repeat (first | refine ⟨_, rfl, ?_⟩ | refine ⟨_, _, rfl, rfl, ?_⟩ | refine ⟨rfl, ?_⟩ | refine ⟨_, _, rfl, ?_⟩ | refine ⟨_, _, _, rfl, ?_⟩ | refine ⟨small_le (by simp), ?_⟩ | refine ⟨Or.inl ⟨by decide, by decide⟩, ?_⟩ | refine ⟨⟨by decide, by decide⟩, ?_⟩ | refine ⟨by show (0 : Int) < _; decide, ?_⟩)
    refine ⟨_, p3, small_lt (by simp at hz ⊢; omega), same_mut (p1.trans s2) nD, ?_⟩
    rw [upd_same, List.range_succ, List.filter_append, List.map_append]
    simp [e]
  · refine ⟨p1.trans s2, ?_⟩
    rw [p3, List.range_succ, List.filter_append, List.map_append]
    simp [e]
theorem sc_sign_of_two : FnScope ["one", "other", "upper", "by"] ["one", "other"] (defScope (top 87)) := ⟨rfl, rfl, rfl, by decide +kernel, rfl, by decide +kernel, by decide +kernel⟩
def spSignOfTwo : Sp := fun vs H Q _ => ∃ a b : Int, vs = [.int a, .int b] ∧ Bs.Cop a b ∧ (a % 2 = 1 ∨ b % 2 = 1) ∧ a.natAbs < 2 ^ (BIG + 2) ∧ b.natAbs < 2 ^ (BIG + 2) ∧ ∀ H', Same H H' → Q (.int (if b % 2 = 1 then Bs.chi a b else Bs.chi b a)) H'
theorem ok_sign_of_two (T : Tx K mg) : Fx P w K mg base CX0 4 "sign_of_two" spSignOfTwo := by
  refine Fx.of T.g_sign_of_two T.f_sign_of_two (fnr0 (N := ["one", "other", "upper", "by"]) (ps := ["one", "other"]) T.f_sign_of_two sc_sign_of_two (fun _ _ _ _ _ _ us hl => match us, hl with | [_, _], _ => rfl) (by intro vs H Q E h; repeat (first | (obtain ⟨e, _⟩ := h; subst e; rfl) | (obtain ⟨_, h⟩ := h))) fun cdv A outer s H vs Q E hr h => ?_)
  obtain ⟨a, b, rfl, c, hab, ha, hb, q⟩ := h
  refine ⟨_, (pss_cons (ps_asg (pe_ifExp (pt_cmpR op_eq (pe_op op_modP (pv 1) pe_int) pe_int (nomark _)) (pe_tup (pa_cons (pv 0) (pa_cons (pv 1) pa_nil))) (pe_tup (pa_cons (pv 1) (pa_cons (pv 0) pa_nil)))) (pg_tup rfl (pgs_cons (pg_name (i := 2) sc_sign_of_two.nd rfl (Or.inl rfl)) (pgs_cons (pg_name (i := 3) sc_sign_of_two.nd rfl (Or.inl rfl)) pgs_nil))))
      (pss_one (ps_ret (pc (ok_own_symbol T) (hr.mono (by decide)) (by first | exact pass0 | exact passL) (pa_cons (pe_ifExp (pt_cmpR op_eq (pe_op op_modP (pv 3) pe_int) pe_int (nomark _)) (pv 2) (pe_op op_mul pe_int (pv 2))) (pa_cons (pe_callB call_abs (by rfl) T.m_abs (by decide +kernel) (pa_cons (pv 3) pa_nil)) pa_nil)))))), ?_⟩
  repeat (first | refine ⟨_, rfl, ?_⟩ | refine ⟨_, _, rfl, rfl, ?_⟩ | refine ⟨rfl, ?_⟩ | refine ⟨_, _, rfl, ?_⟩ | refine ⟨_, _, _, rfl, ?_⟩ | refine ⟨small_le (by simp), ?_⟩ | refine ⟨Or.inl ⟨by decide, by decide⟩, ?_⟩ | refine ⟨⟨by decide, by decide⟩, ?_⟩ | refine ⟨by show (0 : Int) < _; decide, ?_⟩)
  have eabs : ∀ v : Int, (if v < 0 then -v else v) = (v.natAbs : Int) := fun v => by split <;> omega
  refine eB (fun h1 => ?_) (fun h1 => ?_)
  · rw [if_pos h1] at q
    repeat (first | refine ⟨_, rfl, ?_⟩ | refine ⟨_, _, rfl, rfl, ?_⟩ | refine ⟨rfl, ?_⟩ | refine ⟨_, _, rfl, ?_⟩ | refine ⟨_, _, _, rfl, ?_⟩ | refine ⟨small_le (by simp), ?_⟩ | refine ⟨Or.inl ⟨by decide, by decide⟩, ?_⟩ | refine ⟨⟨by decide, by decide⟩, ?_⟩ | refine ⟨by show (0 : Int) < _; decide, ?_⟩)
    (intro p np; generalize hqZ : upd _ p _ = H1; have s1 := new_same hqZ np; have e1 := new_at hqZ; clear hqZ)
    refine ⟨p, _, rfl, sqT e1, rfl, ?_⟩
    repeat (first | refine ⟨_, rfl, ?_⟩ | refine ⟨_, _, rfl, rfl, ?_⟩ | refine ⟨rfl, ?_⟩ | refine ⟨_, _, rfl, ?_⟩ | refine ⟨_, _, _, rfl, ?_⟩ | refine ⟨small_le (by simp), ?_⟩ | refine ⟨Or.inl ⟨by decide, by decide⟩, ?_⟩ | refine ⟨⟨by decide, by decide⟩, ?_⟩ | refine ⟨by show (0 : Int) < _; decide, ?_⟩)
    have od := Bs.od_abs h1
    have c2 : Bs.Cop a (b.natAbs : Int) := Bs.cop_abs c
    refine eB (fun h2 => ?_) (fun h2 => ?_)
    · repeat (first | refine ⟨_, rfl, ?_⟩ | refine ⟨_, _, rfl, rfl, ?_⟩ | refine ⟨rfl, ?_⟩ | refine ⟨_, _, rfl, ?_⟩ | refine ⟨_, _, _, rfl, ?_⟩ | refine ⟨small_le (by simp), ?_⟩ | refine ⟨Or.inl ⟨by decide, by decide⟩, ?_⟩ | refine ⟨⟨by decide, by decide⟩, ?_⟩ | refine ⟨by show (0 : Int) < _; decide, ?_⟩)
      refine ⟨by rw [eabs]; exact od, by rw [eabs]; exact c2, by rw [eabs]; exact hb, fun H' s' => ?_⟩
      have := q _ (s1.trans s')
      rw [Bs.chi, if_pos h2, ← eabs] at this
      exact this
    · repeat (first | refine ⟨_, rfl, ?_⟩ | refine ⟨_, _, rfl, rfl, ?_⟩ | refine ⟨rfl, ?_⟩ | refine ⟨_, _, rfl, ?_⟩ | refine ⟨_, _, _, rfl, ?_⟩ | refine ⟨small_le (by simp), ?_⟩ | refine ⟨Or.inl ⟨by decide, by decide⟩, ?_⟩ | refine ⟨⟨by decide, by decide⟩, ?_⟩ | refine ⟨by show (0 : Int) < _; decide, ?_⟩)
      refine ⟨by rw [eabs]; exact od, by rw [eabs]; exact (Bs.cop_two od.odd).mul c2, by rw [eabs]; exact hb, fun H' s' => ?_⟩
      have := q _ (s1.trans s')
      rw [Bs.chi, if_neg h2, ← eabs] at this
      exact this
  · rw [if_neg h1] at q
    have h1 : a % 2 = 1 := hab.resolve_right h1
    repeat (first | refine ⟨_, rfl, ?_⟩ | refine ⟨_, _, rfl, rfl, ?_⟩ | refine ⟨rfl, ?_⟩ | refine ⟨_, _, rfl, ?_⟩ | refine ⟨_, _, _, rfl, ?_⟩ | refine ⟨small_le (by simp), ?_⟩ | refine ⟨Or.inl ⟨by decide, by decide⟩, ?_⟩ | refine ⟨⟨by decide, by decide⟩, ?_⟩ | refine ⟨by show (0 : Int) < _; decide, ?_⟩)
    (intro p np; generalize hqZ : upd _ p _ = H1; have s1 := new_same hqZ np; have e1 := new_at hqZ; clear hqZ)
    refine ⟨p, _, rfl, sqT e1, rfl, ?_⟩
    repeat (first | refine ⟨_, rfl, ?_⟩ | refine ⟨_, _, rfl, rfl, ?_⟩ | refine ⟨rfl, ?_⟩ | refine ⟨_, _, rfl, ?_⟩ | refine ⟨_, _, _, rfl, ?_⟩ | refine ⟨small_le (by simp), ?_⟩ | refine ⟨Or.inl ⟨by decide, by decide⟩, ?_⟩ | refine ⟨⟨by decide, by decide⟩, ?_⟩ | refine ⟨by show (0 : Int) < _; decide, ?_⟩)
    have od := Bs.od_abs h1
    have c2 : Bs.Cop b (a.natAbs : Int) := Bs.cop_abs c.comm
    refine eB (fun h2 => ?_) (fun h2 => ?_)
    · repeat (first | refine ⟨_, rfl, ?_⟩ | refine ⟨_, _, rfl, rfl, ?_⟩ | refine ⟨rfl, ?_⟩ | refine ⟨_, _, rfl, ?_⟩ | refine ⟨_, _, _, rfl, ?_⟩ | refine ⟨small_le (by simp), ?_⟩ | refine ⟨Or.inl ⟨by decide, by decide⟩, ?_⟩ | refine ⟨⟨by decide, by decide⟩, ?_⟩ | refine ⟨by show (0 : Int) < _; decide, ?_⟩)
      refine ⟨by rw [eabs]; exact od, by rw [eabs]; exact c2, by rw [eabs]; exact ha, fun H' s' => ?_⟩
      have := q _ (s1.trans s')
      rw [Bs.chi, if_pos h2, ← eabs] at this
      exact this
    · repeat (first | refine ⟨_, rfl, ?_⟩ | refine ⟨_, _, rfl, rfl, ?_⟩ | refine ⟨rfl, ?_⟩ | refine ⟨_, _, rfl, ?_⟩ | refine ⟨_, _, _, rfl, ?_⟩ | refine ⟨small_le (by simp), ?_⟩ | refine ⟨Or.inl ⟨by decide, by decide⟩, ?_⟩ | refine ⟨⟨by decide, by decide⟩, ?_⟩ | refine ⟨by show (0 : Int) < _; decide, ?_⟩)
      refine ⟨by rw [eabs]; exact od, by rw [eabs]; exact (Bs.cop_two od.odd).mul c2, by rw [eabs]; exact ha, fun H' s' => ?_⟩
      have := q _ (s1.trans s')
      rw [Bs.chi, if_neg h2, ← eabs] at this
      exact this
end
end Bh

/-! W4 -/
set_option maxHeartbeats 4000000
namespace Bh
open PySem PySem.Spec PyProof.Rows L2
theorem lc_enumT {K : PySem.W.Frag} {a : Addr} {xs : List V} {g : TG} {tt : TT} {te : TE} {vs : List Nat} {σ : L2.St} {H1 : Hp} {D : Addr} {Qd : Hp → Prop} (Pv : Nat → Hp → Prop) (h0 : Pv 0 (upd H1 D (.lst []))) (hl : ∀ i H, Pv i H → SqT K H a xs)
    (hs : ∀ i x H T, xs[i]? = some x → H T = none → Pv i H → g (.ref T) (wipe σ vs) (upd H T (.tup [.int (i : Nat), x])) fun σ2 H2 => wipe σ2 vs = wipe σ vs ∧ tt σ2 H2 fun b H3 =>
      if b = true then te σ2 H3 fun y H4 => ∃ acc, H4 D = some (.lst acc) ∧ acc.length < sizeLine ∧ Pv (i + 1) (upd H4 D (.lst (acc ++ [y]))) else Pv (i + 1) H3) (hd : ∀ H, Pv xs.length H → Qd H) :
    ∃ W : Nat → Nat → Hp → Prop, (∃ m, W 0 m (upd H1 D (.lst []))) ∧ ∀ i m H, W i m H →
      ((IteT K a).stop i H ∧ Qd H) ∨ ((IteT K a).go i H ∧ ∃ Nx : Hp → Prop, (∀ H', Nx H' → ∃ m', m' < m ∧ W (i + 1) m' H') ∧ ∀ x H', (IteT K a).yld i H x H' → g x (wipe σ vs) H' fun σ2 H2 => wipe σ2 vs = wipe σ vs ∧ tt σ2 H2 fun b H3 =>
        if b = true then te σ2 H3 fun y H4 => ∃ acc, H4 D = some (.lst acc) ∧ acc.length < sizeLine ∧ Nx (upd H4 D (.lst (acc ++ [y]))) else Nx H3) := by
  refine ⟨fun i m H => m = xs.length - i ∧ i ≤ xs.length ∧ Pv i H, ⟨xs.length, by simp, Nat.zero_le _, h0⟩, ?_⟩
  rintro i m H ⟨rfl, hi, p⟩
  have q := hl i H p
  by_cases hlt : i < xs.length
  · refine .inr ⟨⟨xs, xs[i], q, List.getElem?_eq_getElem hlt⟩, Pv (i + 1), fun H' p' => ⟨xs.length - (i + 1), by omega, rfl, hlt, p'⟩, fun x H' y => ?_⟩
    obtain ⟨T, z, rfl, nT, rfl, f⟩ := y
    exact hs i z H T (f xs q) nT p
  · have e : i = xs.length := by omega
    subst e
    exact .inl ⟨⟨xs, q, rfl⟩, hd H p⟩
section
variable {P : Program} {w : World} {K : PySem.W.Frag} {mg : Str → Option Value} {base : Heap}
theorem sc_need_four : FnScope ["value", "part"] ["value", "part"] (defScope (top 39)) := ⟨rfl, rfl, rfl, by decide +kernel, rfl, by decide +kernel, by decide +kernel⟩
def spNeedFour (K : PySem.W.Frag) : Sp := fun vs H Q _ => ∃ (x : Addr) (ns : List Int), vs = [.ref x] ∧ FourAt K H x ns ∧ Q .non H
def spNeedFour2 (K : PySem.W.Frag) : Sp := fun vs H Q _ => ∃ (x : Addr) (ns : List Int) (p : V), vs = [.ref x, p] ∧ FourAt K H x ns ∧ Q .non H
theorem need_four_binds {fd : FuncData} (F : FunD K "need_four" "need_four" (defArgs (top 39)) (defBody (top 39)) (defScope (top 39)) (d_need_four.dvs K) [] (He.ga K "need_four") fd) : ∃ ds, Vals [V.str "four"] ds ∧ Binds K fd ["value", "part"] ds := by
  exact F.binds1 (ps := ["value", "part"]) 1 0 (by intro z; cases z) rfl fun T kV doc pm an cdv ct us its hu hi => match us, its, hu, hi with
    | [_], [_], _, _ => ⟨_, rfl, rfl⟩
theorem ok_need_four (T : Tx K mg) : Fx P w K mg base CX0 1 "need_four" (spNeedFour K) := by
  refine Fx.of T.g_need_four T.f_need_four ?_
  obtain ⟨fd, F⟩ := T.f_need_four
  obtain ⟨ds, hd, hb⟩ := need_four_binds F
  refine FnR.imp (fnrD (N := ["value", "part"]) (ps := ["value", "part"]) (sp := spNeedFour2 K) F sc_need_four hb hd (by intro vs H Q E h; repeat (first | (obtain ⟨e, _⟩ := h; subst e; rfl) | (obtain ⟨_, h⟩ := h))) fun cdv A outer s H vs Q E hr h => ?_) fun vs H Q E h => ?_
  · obtain ⟨x, ns, p, rfl, hx, q⟩ := h
    refine ⟨_, PSs.nox (pss_one (ps_if (pt_not (pt_val (pe_callB call_isi (by rfl) T.m_isinstance (by decide +kernel) (pa_cons (pv 0) (pa_cons (pe_glob (v := .ref (He.ga K "Four")) rfl T.g_Four rfl) pa_nil))))) (pss_one ps_never) pss_nil)), ?_⟩
    obtain ⟨dx, t, h1, h2⟩ := hx
    repeat (first | refine ⟨_, rfl, ?_⟩ | refine ⟨_, _, rfl, rfl, ?_⟩ | refine ⟨rfl, ?_⟩ | refine ⟨_, _, rfl, ?_⟩ | refine ⟨_, _, _, rfl, ?_⟩ | refine ⟨small_le (by simp), ?_⟩ | refine ⟨Or.inl ⟨by decide, by decide⟩, ?_⟩ | refine ⟨⟨by decide, by decide⟩, ?_⟩ | refine ⟨by show (0 : Int) < _; decide, ?_⟩)
    refine ⟨_, _, _, _, true, rfl, .own _, .base (.ins h1 T.cls_Four T.x_cls_Four T.x_oc_get T.x_oc_takes T.x_mro_Four), T.x_Four_Four, ?_⟩
    repeat (first | refine ⟨_, rfl, ?_⟩ | refine ⟨_, _, rfl, rfl, ?_⟩ | refine ⟨rfl, ?_⟩ | refine ⟨_, _, rfl, ?_⟩ | refine ⟨_, _, _, rfl, ?_⟩ | refine ⟨small_le (by simp), ?_⟩ | refine ⟨Or.inl ⟨by decide, by decide⟩, ?_⟩ | refine ⟨⟨by decide, by decide⟩, ?_⟩ | refine ⟨by show (0 : Int) < _; decide, ?_⟩)
    exact q
  · obtain ⟨x, ns, rfl, hx, q⟩ := h
    exact ⟨x, ns, _, rfl, hx, q⟩
theorem sc_first_place : FnScope ["bends", "place", "bend"] ["bends"] (defScope (top 88)) := ⟨rfl, rfl, rfl, by decide +kernel, rfl, by decide +kernel, by decide +kernel⟩
def spFirstPlace : Sp := fun vs H Q _ => ∃ (a : Addr) (ns : List Int), vs = [.ref a] ∧ Tq H a (vi ns) ∧ ns.length = 4 ∧ (∃ b ∈ ns, b ≠ 0) ∧ ∀ H' (i : Nat), i < 4 → ns.getD i 0 ≠ 0 → Same H H' → Q (.int i) H'
theorem ok_first_place (T : Tx K mg) : Fx P w K mg base CX0 1 "first_place" spFirstPlace := by
  refine Fx.of T.g_first_place T.f_first_place (fnr0 (N := ["bends", "place", "bend"]) (ps := ["bends"]) T.f_first_place sc_first_place (fun _ _ _ _ _ _ us hl => match us, hl with | [_], _ => rfl) (by intro vs H Q E h; repeat (first | (obtain ⟨e, _⟩ := h; subst e; rfl) | (obtain ⟨_, h⟩ := h))) fun cdv A outer s H vs Q E hr h => ?_)
  obtain ⟨a, ns, rfl, hs, h4, hne, q⟩ := h
  refine ⟨_, (pss_one (ps_ret (pe_ix ix_list (pe_lc (own := [("place", 1), ("bend", 2)]) rfl sc_first_place.nd (pi_enumT (by rfl) T.m_enumerate (pa_cons (pv 0) pa_nil)) (blkOk_by (own := [("place", 1), ("bend", 2)]) (N := ["bends", "place", "bend"]) (sc := defScope (top 88)) (by decide +kernel)) (fun _ _ _ _ _ => (pg_tupK (n := 2) (K := K) rfl rfl (pgs_cons (pg_name (i := 1) sc_first_place.nd rfl (Or.inl rfl)) (pgs_cons (pg_name (i := 2) sc_first_place.nd rfl (Or.inl rfl)) pgs_nil)))) (fun _ _ _ _ _ => (pts_one (pt_cmpR op_ne (pv 2) pe_int (nomark _)))) (fun _ _ _ _ _ => (pv 1))) pe_int (fun _ _ => rfl)))), ?_⟩
  repeat (first | refine ⟨_, rfl, ?_⟩ | refine ⟨_, _, rfl, rfl, ?_⟩ | refine ⟨rfl, ?_⟩ | refine ⟨_, _, rfl, ?_⟩ | refine ⟨_, _, _, rfl, ?_⟩ | refine ⟨small_le (by simp), ?_⟩ | refine ⟨Or.inl ⟨by decide, by decide⟩, ?_⟩ | refine ⟨⟨by decide, by decide⟩, ?_⟩ | refine ⟨by show (0 : Int) < _; decide, ?_⟩)
  refine ⟨a, vi ns, rfl, hs.sqT, fun D nD => ?_⟩
  have hlv : (vi ns).length = 4 := by rw [List.length_map, h4]
  refine lc_enumT (fun k H' => Same H H' ∧ H' D = some (.lst (vi (((List.range k).filter fun j => ns.getD j 0 != 0).map fun (j : Nat) => ((j : Nat) : Int))))) ⟨same_new nD, upd_same⟩ (fun i H' p => (hs.same p.1).sqT) (fun k x H' T hx nT hp => ?_) (fun H' hp => ?_)
  · obtain ⟨p1, p2⟩ := hp
    rw [List.getElem?_map] at hx
    obtain ⟨y, hy, rfl⟩ := Option.map_eq_some_iff.mp hx
    have hk : k < 4 := by have := (List.getElem?_eq_some_iff.mp hy).1; omega
    have ey : ns.getD k 0 = y := by rw [List.getD_eq_getElem?_getD, hy]; rfl
    have s2 := same_new (o := .tup [.int (k : Nat), .int y]) nT
    have e2 : upd H' T (.tup [.int (k : Nat), .int y]) T = _ := upd_same
    generalize upd H' T (.tup [.int (k : Nat), .int y]) = H2 at s2 e2 ⊢
    refine ⟨T, _, rfl, sqT e2, rfl, ?_⟩
    repeat (first | refine ⟨_, rfl, ?_⟩ | refine ⟨_, _, rfl, rfl, ?_⟩ | refine ⟨rfl, ?_⟩ | refine ⟨_, _, rfl, ?_⟩ | refine ⟨_, _, _, rfl, ?_⟩ | refine ⟨small_le (by simp), ?_⟩ | refine ⟨Or.inl ⟨by decide, by decide⟩, ?_⟩ | refine ⟨⟨by decide, by decide⟩, ?_⟩ | refine ⟨by show (0 : Int) < _; decide, ?_⟩)
    have p3 := s2 _ _ p2
    have hz : ((List.range k).filter fun j => ns.getD j 0 != 0).length ≤ 4 := Nat.le_trans (List.length_filter_le _ _) (by simp; omega)
    refine neB (fun e => ?_) (fun e => ?_)
    · repeat (first | refine ⟨_, rfl, ?_⟩ | refine ⟨_, _, rfl, rfl, ?_⟩ | refine ⟨rfl, ?_⟩ | refine ⟨_, _, rfl, ?_⟩ | refine ⟨_, _, _, rfl, ?_⟩ | refine ⟨small_le (by simp), ?_⟩ | refine ⟨Or.inl ⟨by decide, by decide⟩, ?_⟩ | refine ⟨⟨by decide, by decide⟩, ?_⟩ | refine ⟨by show (0 : Int) < _; decide, ?_⟩)
      refine ⟨_, p3, small_lt (by simp at hz ⊢; omega), same_mut (p1.trans s2) nD, ?_⟩
      rw [upd_same, List.range_succ, List.filter_append, List.map_append]
      have e' : (ns.getD k 0 != 0) = true := by rw [ey]; simpa using e
      simp only [List.filter_cons, e', List.filter_nil]
      simp [vi]
    · refine ⟨p1.trans s2, ?_⟩
      rw [p3, List.range_succ, List.filter_append, List.map_append]
      have e' : (ns.getD k 0 != 0) = false := by rw [ey]; simpa using e
      simp only [List.filter_cons, e', List.filter_nil]
      simp
  · obtain ⟨p1, p2⟩ := hp
    rw [hlv] at p2
    obtain ⟨i, r, eir⟩ : ∃ i r, ((List.range 4).filter fun j => ns.getD j 0 != 0) = i :: r := by
      cases e : ((List.range 4).filter fun j => ns.getD j 0 != 0) with
      | cons i r => exact ⟨i, r, rfl⟩
      | nil =>
        obtain ⟨b, hb, hb0⟩ := hne
        obtain ⟨j, hj, ej⟩ := List.mem_iff_getElem.mp hb
        have : j ∈ ((List.range 4).filter fun j => ns.getD j 0 != 0) := List.mem_filter.mpr ⟨by simp; omega, by
          rw [List.getD_eq_getElem?_getD, List.getElem?_eq_getElem hj]
          simpa [ej] using hb0⟩
        rw [e] at this
        cases this
    have hi : i ∈ ((List.range 4).filter fun j => ns.getD j 0 != 0) := by rw [eir]; exact List.mem_cons_self
    obtain ⟨h1, h2⟩ := List.mem_filter.mp hi
    rw [eir] at p2
    repeat (first | refine ⟨_, rfl, ?_⟩ | refine ⟨_, _, rfl, rfl, ?_⟩ | refine ⟨rfl, ?_⟩ | refine ⟨_, _, rfl, ?_⟩ | refine ⟨_, _, _, rfl, ?_⟩ | refine ⟨small_le (by simp), ?_⟩ | refine ⟨Or.inl ⟨by decide, by decide⟩, ?_⟩ | refine ⟨⟨by decide, by decide⟩, ?_⟩ | refine ⟨by show (0 : Int) < _; decide, ?_⟩)
    refine ⟨D, _, 0, _, rfl, rfl, sqL p2, atI_nat (j := 0) rfl, ?_⟩
    exact q H' i (by simpa using h1) (by simpa using h2) p1
end
end Bh

/-! W5 -/
set_option maxHeartbeats 4000000
namespace Bh
open PySem PySem.Spec PyProof.Rows L2
section
variable {P : Program} {w : World} {K : PySem.W.Frag} {mg : Str → Option Value} {base : Heap}
theorem sc_need_asked : FnScope ["number", "by"] ["number", "by"] (defScope (top 64)) := ⟨rfl, rfl, rfl, by decide +kernel, rfl, by decide +kernel, by decide +kernel⟩
def spNeedAsked : Sp := fun vs H Q _ => ∃ n b : Int, vs = [.int n, .int b] ∧ Bs.Od b ∧ Q .non H
theorem ok_need_asked (T : Tx K mg) : Fx P w K mg base CX0 4 "need_asked" spNeedAsked := by
  refine Fx.of T.g_need_asked T.f_need_asked (fnr0 (N := ["number", "by"]) (ps := ["number", "by"]) T.f_need_asked sc_need_asked (fun _ _ _ _ _ _ us hl => match us, hl with | [_, _], _ => rfl) (by intro vs H Q E h; repeat (first | (obtain ⟨e, _⟩ := h; subst e; rfl) | (obtain ⟨_, h⟩ := h))) fun cdv A outer s H vs Q E hr h => ?_)
  obtain ⟨n, b, rfl, ob, q⟩ := h
  refine ⟨_, (pss_cons (ps_expr (pc (ok_need_number T) (hr.mono (by decide)) (by first | exact pass0 | exact passL) (pa_cons (pv 0) (pa_cons pe_str (pa_cons pe_non (pa_cons pe_non pa_nil))))))
      (pss_one (ps_if (PW.pt (pw_or (pt_not (pt_val (pc (ok_is_within T) (hr.mono (by decide)) (by first | exact pass0 | exact passL) (pa_cons (pv 1) (pa_cons pe_int (pa_cons pe_non pa_nil)))))) (pw_or1 (pt_cmpR op_eq (pe_op op_modP (pv 1) pe_int) pe_int (nomark _))))) (pss_one ps_never) pss_nil))), ?_⟩
  repeat (first | refine ⟨_, rfl, ?_⟩ | refine ⟨_, _, rfl, rfl, ?_⟩ | refine ⟨rfl, ?_⟩ | refine ⟨_, _, rfl, ?_⟩ | refine ⟨_, _, _, rfl, ?_⟩ | refine ⟨small_le (by simp), ?_⟩ | refine ⟨Or.inl ⟨by decide, by decide⟩, ?_⟩ | refine ⟨⟨by decide, by decide⟩, ?_⟩ | refine ⟨by show (0 : Int) < _; decide, ?_⟩)
  refine ⟨n, _, none, none, rfl, rfl, ?_⟩
  repeat (first | refine ⟨_, rfl, ?_⟩ | refine ⟨_, _, rfl, rfl, ?_⟩ | refine ⟨rfl, ?_⟩ | refine ⟨_, _, rfl, ?_⟩ | refine ⟨_, _, _, rfl, ?_⟩ | refine ⟨small_le (by simp), ?_⟩ | refine ⟨Or.inl ⟨by decide, by decide⟩, ?_⟩ | refine ⟨⟨by decide, by decide⟩, ?_⟩ | refine ⟨by show (0 : Int) < _; decide, ?_⟩)
  refine ⟨b, some 1, none, rfl, ?_⟩
  have e : inO b (some 1) none = true := by have := ob.pos; simp [inO, loO, hiO]; omega
  rw [e]
  repeat (first | refine ⟨_, rfl, ?_⟩ | refine ⟨_, _, rfl, rfl, ?_⟩ | refine ⟨rfl, ?_⟩ | refine ⟨_, _, rfl, ?_⟩ | refine ⟨_, _, _, rfl, ?_⟩ | refine ⟨small_le (by simp), ?_⟩ | refine ⟨Or.inl ⟨by decide, by decide⟩, ?_⟩ | refine ⟨⟨by decide, by decide⟩, ?_⟩ | refine ⟨by show (0 : Int) < _; decide, ?_⟩)
  refine eF (by have := ob.odd; omega) ?_
  exact q
theorem sc_symbol : FnScope ["number", "by"] ["number", "by"] (defScope (top 69)) := ⟨rfl, rfl, rfl, by decide +kernel, rfl, by decide +kernel, by decide +kernel⟩
theorem ok_symbol (T : Tx K mg) : Fx P w K mg base CX0 5 "symbol" spOwnSymbol := by
  refine Fx.of T.g_symbol T.f_symbol (fnr0 (N := ["number", "by"]) (ps := ["number", "by"]) T.f_symbol sc_symbol (fun _ _ _ _ _ _ us hl => match us, hl with | [_, _], _ => rfl) (by intro vs H Q E h; repeat (first | (obtain ⟨e, _⟩ := h; subst e; rfl) | (obtain ⟨_, h⟩ := h))) fun cdv A outer s H vs Q E hr h => ?_)
  obtain ⟨n, b, rfl, ob, cb, hb, q⟩ := h
  refine ⟨_, (pss_cons (ps_expr (pc (ok_need_asked T) (hr.mono (by decide)) (by first | exact pass0 | exact passL) (pa_cons (pv 0) (pa_cons (pv 1) pa_nil))))
      (pss_one (ps_ret (pc (ok_own_symbol T) (hr.mono (by decide)) (by first | exact pass0 | exact passL) (pa_cons (pv 0) (pa_cons (pv 1) pa_nil)))))), ?_⟩
  repeat (first | refine ⟨_, rfl, ?_⟩ | refine ⟨_, _, rfl, rfl, ?_⟩ | refine ⟨rfl, ?_⟩ | refine ⟨_, _, rfl, ?_⟩ | refine ⟨_, _, _, rfl, ?_⟩ | refine ⟨small_le (by simp), ?_⟩ | refine ⟨Or.inl ⟨by decide, by decide⟩, ?_⟩ | refine ⟨⟨by decide, by decide⟩, ?_⟩ | refine ⟨by show (0 : Int) < _; decide, ?_⟩)
  refine ⟨ob, ?_⟩
  repeat (first | refine ⟨_, rfl, ?_⟩ | refine ⟨_, _, rfl, rfl, ?_⟩ | refine ⟨rfl, ?_⟩ | refine ⟨_, _, rfl, ?_⟩ | refine ⟨_, _, _, rfl, ?_⟩ | refine ⟨small_le (by simp), ?_⟩ | refine ⟨Or.inl ⟨by decide, by decide⟩, ?_⟩ | refine ⟨⟨by decide, by decide⟩, ?_⟩ | refine ⟨by show (0 : Int) < _; decide, ?_⟩)
  exact ⟨ob, cb, hb, q⟩
theorem sc_need_primes : FnScope ["side"] ["side"] (defScope (top 73)) := ⟨rfl, rfl, rfl, by decide +kernel, rfl, by decide +kernel, by decide +kernel⟩
def spNeedPrimes : Sp := fun vs H Q _ => ∃ n : Int, vs = [.int n] ∧ n ≤ 1000000 ∧ Q .non H
theorem ok_need_primes (T : Tx K mg) : Fx P w K mg base CX0 1 "need_primes" spNeedPrimes := by
  refine Fx.of T.g_need_primes T.f_need_primes (fnr0 (N := ["side"]) (ps := ["side"]) T.f_need_primes sc_need_primes (fun _ _ _ _ _ _ us hl => match us, hl with | [_], _ => rfl) (by intro vs H Q E h; repeat (first | (obtain ⟨e, _⟩ := h; subst e; rfl) | (obtain ⟨_, h⟩ := h))) fun cdv A outer s H vs Q E hr h => ?_)
  obtain ⟨n, rfl, hn, q⟩ := h
  refine ⟨_, (pss_one (ps_if (pt_cmpR op_gt (pv 0) (pe_glob (v := .int 1000000) rfl T.i_MOST_SIDE.choose_spec ⟨_, rfl⟩) (nomark _)) (pss_one ps_never) pss_nil)), ?_⟩
  repeat (first | refine ⟨_, rfl, ?_⟩ | refine ⟨_, _, rfl, rfl, ?_⟩ | refine ⟨rfl, ?_⟩ | refine ⟨_, _, rfl, ?_⟩ | refine ⟨_, _, _, rfl, ?_⟩ | refine ⟨small_le (by simp), ?_⟩ | refine ⟨Or.inl ⟨by decide, by decide⟩, ?_⟩ | refine ⟨⟨by decide, by decide⟩, ?_⟩ | refine ⟨by show (0 : Int) < _; decide, ?_⟩)
  refine dF (by omega) ?_
  exact q
theorem sc_worth_beside : FnScope ["form", "prime"] ["form", "prime"] (defScope (top 74)) := ⟨rfl, rfl, rfl, by decide +kernel, rfl, by decide +kernel, by decide +kernel⟩
def spWorthBeside (K : PySem.W.Frag) : Sp := fun vs H Q _ => ∃ (x : Addr) (A B C : Int) (n : Nat) (p : Int), vs = [.ref x, .int p] ∧ FormAt K H x A B C n ∧ 0 < p ∧ Q (.int (Bs.bes A C p)) H
theorem ok_worth_beside (T : Tx K mg) : Fx P w K mg base CX0 1 "worth_beside" (spWorthBeside K) := by
  refine Fx.of T.g_worth_beside T.f_worth_beside (fnr0 (N := ["form", "prime"]) (ps := ["form", "prime"]) T.f_worth_beside sc_worth_beside (fun _ _ _ _ _ _ us hl => match us, hl with | [_, _], _ => rfl) (by intro vs H Q E h; repeat (first | (obtain ⟨e, _⟩ := h; subst e; rfl) | (obtain ⟨_, h⟩ := h))) fun cdv A outer s H vs Q E hr h => ?_)
  obtain ⟨x, A, B, C, n, p, rfl, ⟨dx, t, h1, h2⟩, hp, q⟩ := h
  refine ⟨_, (pss_one (ps_ret (pe_ifExp (pt_cmpR op_ne (pe_op op_modP (pe_ix ix_tup (pe_fld (pv 0) rfl) pe_int (fun _ _ => rfl)) (pv 1)) pe_int (nomark _)) (pe_ix ix_tup (pe_fld (pv 0) rfl) pe_int (fun _ _ => rfl)) (pe_ix ix_tup (pe_fld (pv 0) rfl) pe_int (fun _ _ => rfl))))), ?_⟩
  repeat (first | refine ⟨_, rfl, ?_⟩ | refine ⟨_, _, rfl, rfl, ?_⟩ | refine ⟨rfl, ?_⟩ | refine ⟨_, _, rfl, ?_⟩ | refine ⟨_, _, _, rfl, ?_⟩ | refine ⟨small_le (by simp), ?_⟩ | refine ⟨Or.inl ⟨by decide, by decide⟩, ?_⟩ | refine ⟨⟨by decide, by decide⟩, ?_⟩ | refine ⟨by show (0 : Int) < _; decide, ?_⟩)
  refine ⟨x, _, dx, _, _, rfl, h1, T.cls_Form, T.noat_Form_numbers, rfl, ?_⟩
  repeat (first | refine ⟨_, rfl, ?_⟩ | refine ⟨_, _, rfl, rfl, ?_⟩ | refine ⟨rfl, ?_⟩ | refine ⟨_, _, rfl, ?_⟩ | refine ⟨_, _, _, rfl, ?_⟩ | refine ⟨small_le (by simp), ?_⟩ | refine ⟨Or.inl ⟨by decide, by decide⟩, ?_⟩ | refine ⟨⟨by decide, by decide⟩, ?_⟩ | refine ⟨by show (0 : Int) < _; decide, ?_⟩)
  refine ⟨t, _, 0, _, rfl, rfl, sqT h2, atI_nat (j := 0) rfl, ?_⟩
  repeat (first | refine ⟨_, rfl, ?_⟩ | refine ⟨_, _, rfl, rfl, ?_⟩ | refine ⟨rfl, ?_⟩ | refine ⟨_, _, rfl, ?_⟩ | refine ⟨_, _, _, rfl, ?_⟩ | refine ⟨small_le (by simp), ?_⟩ | refine ⟨Or.inl ⟨by decide, by decide⟩, ?_⟩ | refine ⟨⟨by decide, by decide⟩, ?_⟩ | refine ⟨by show (0 : Int) < _; decide, ?_⟩)
  refine ⟨hp, ?_⟩
  repeat (first | refine ⟨_, rfl, ?_⟩ | refine ⟨_, _, rfl, rfl, ?_⟩ | refine ⟨rfl, ?_⟩ | refine ⟨_, _, rfl, ?_⟩ | refine ⟨_, _, _, rfl, ?_⟩ | refine ⟨small_le (by simp), ?_⟩ | refine ⟨Or.inl ⟨by decide, by decide⟩, ?_⟩ | refine ⟨⟨by decide, by decide⟩, ?_⟩ | refine ⟨by show (0 : Int) < _; decide, ?_⟩)
  refine neB (fun e => ?_) (fun e => ?_)
  · repeat (first | refine ⟨_, rfl, ?_⟩ | refine ⟨_, _, rfl, rfl, ?_⟩ | refine ⟨rfl, ?_⟩ | refine ⟨_, _, rfl, ?_⟩ | refine ⟨_, _, _, rfl, ?_⟩ | refine ⟨small_le (by simp), ?_⟩ | refine ⟨Or.inl ⟨by decide, by decide⟩, ?_⟩ | refine ⟨⟨by decide, by decide⟩, ?_⟩ | refine ⟨by show (0 : Int) < _; decide, ?_⟩)
    refine ⟨x, _, dx, _, _, rfl, h1, T.cls_Form, T.noat_Form_numbers, rfl, ?_⟩
    repeat (first | refine ⟨_, rfl, ?_⟩ | refine ⟨_, _, rfl, rfl, ?_⟩ | refine ⟨rfl, ?_⟩ | refine ⟨_, _, rfl, ?_⟩ | refine ⟨_, _, _, rfl, ?_⟩ | refine ⟨small_le (by simp), ?_⟩ | refine ⟨Or.inl ⟨by decide, by decide⟩, ?_⟩ | refine ⟨⟨by decide, by decide⟩, ?_⟩ | refine ⟨by show (0 : Int) < _; decide, ?_⟩)
    refine ⟨t, _, 0, _, rfl, rfl, sqT h2, atI_nat (j := 0) rfl, ?_⟩
    rw [Bs.bes, if_pos e] at q
    exact q
  · repeat (first | refine ⟨_, rfl, ?_⟩ | refine ⟨_, _, rfl, rfl, ?_⟩ | refine ⟨rfl, ?_⟩ | refine ⟨_, _, rfl, ?_⟩ | refine ⟨_, _, _, rfl, ?_⟩ | refine ⟨small_le (by simp), ?_⟩ | refine ⟨Or.inl ⟨by decide, by decide⟩, ?_⟩ | refine ⟨⟨by decide, by decide⟩, ?_⟩ | refine ⟨by show (0 : Int) < _; decide, ?_⟩)
    refine ⟨x, _, dx, _, _, rfl, h1, T.cls_Form, T.noat_Form_numbers, rfl, ?_⟩
    repeat (first | refine ⟨_, rfl, ?_⟩ | refine ⟨_, _, rfl, rfl, ?_⟩ | refine ⟨rfl, ?_⟩ | refine ⟨_, _, rfl, ?_⟩ | refine ⟨_, _, _, rfl, ?_⟩ | refine ⟨small_le (by simp), ?_⟩ | refine ⟨Or.inl ⟨by decide, by decide⟩, ?_⟩ | refine ⟨⟨by decide, by decide⟩, ?_⟩ | refine ⟨by show (0 : Int) < _; decide, ?_⟩)
    refine ⟨t, _, 2, _, rfl, rfl, sqT h2, atI_nat (j := 2) rfl, ?_⟩
    rw [Bs.bes, if_neg (by omega)] at q
    exact q
theorem sc_sign_alone : FnScope ["rim"] ["rim"] (defScope (top 76)) := ⟨rfl, rfl, rfl, by decide +kernel, rfl, by decide +kernel, by decide +kernel⟩
def spSignAlone : Sp := fun vs H Q _ => ∃ n : Int, vs = [.int n] ∧ Q (.int (Bs.alone n)) H
theorem ok_sign_alone (T : Tx K mg) : Fx P w K mg base CX0 1 "sign_alone" spSignAlone := by
  refine Fx.of T.g_sign_alone T.f_sign_alone (fnr0 (N := ["rim"]) (ps := ["rim"]) T.f_sign_alone sc_sign_alone (fun _ _ _ _ _ _ us hl => match us, hl with | [_], _ => rfl) (by intro vs H Q E h; repeat (first | (obtain ⟨e, _⟩ := h; subst e; rfl) | (obtain ⟨_, h⟩ := h))) fun cdv A outer s H vs Q E hr h => ?_)
  obtain ⟨n, rfl, q⟩ := h
  unfold Bs.alone at q
  refine ⟨_, (pss_cons (ps_if (PW.pt (pw_or (pt_cmpR op_eq (pe_op op_modP (pv 0) pe_int) pe_int (nomark _)) (pw_or1 (pt_cmpR op_eq (pe_op op_modP (pv 0) pe_int) pe_int (nomark _))))) (pss_one (ps_ret pe_int)) pss_nil)
      (pss_cons (ps_if (pt_cmpR op_eq (pe_op op_modP (pv 0) pe_int) pe_int (nomark _)) (pss_one (ps_ret (pe_ifExp (pt_cmpR op_eq (pe_op op_modP (pv 0) (pe_glob (v := .int 8) rfl T.i_EIGHT.choose_spec ⟨_, rfl⟩)) pe_int (nomark _)) pe_int (pe_un un_neg pe_int)))) pss_nil)
      (pss_one (ps_ret (pe_ifExp (pt_cmpR op_eq (pe_op op_modP (pe_op op_divP (pv 0) pe_int) pe_int) pe_int (nomark _)) (pe_un un_neg pe_int) pe_int))))), ?_⟩
  repeat (first | refine ⟨_, rfl, ?_⟩ | refine ⟨_, _, rfl, rfl, ?_⟩ | refine ⟨rfl, ?_⟩ | refine ⟨_, _, rfl, ?_⟩ | refine ⟨_, _, _, rfl, ?_⟩ | refine ⟨small_le (by simp), ?_⟩ | refine ⟨Or.inl ⟨by decide, by decide⟩, ?_⟩ | refine ⟨⟨by decide, by decide⟩, ?_⟩ | refine ⟨by show (0 : Int) < _; decide, ?_⟩)
  refine eB (fun e => ?_) (fun e => ?_)
  · rw [if_pos (.inl e)] at q
    repeat (first | refine ⟨_, rfl, ?_⟩ | refine ⟨_, _, rfl, rfl, ?_⟩ | refine ⟨rfl, ?_⟩ | refine ⟨_, _, rfl, ?_⟩ | refine ⟨_, _, _, rfl, ?_⟩ | refine ⟨small_le (by simp), ?_⟩ | refine ⟨Or.inl ⟨by decide, by decide⟩, ?_⟩ | refine ⟨⟨by decide, by decide⟩, ?_⟩ | refine ⟨by show (0 : Int) < _; decide, ?_⟩)
    exact q
  repeat (first | refine ⟨_, rfl, ?_⟩ | refine ⟨_, _, rfl, rfl, ?_⟩ | refine ⟨rfl, ?_⟩ | refine ⟨_, _, rfl, ?_⟩ | refine ⟨_, _, _, rfl, ?_⟩ | refine ⟨small_le (by simp), ?_⟩ | refine ⟨Or.inl ⟨by decide, by decide⟩, ?_⟩ | refine ⟨⟨by decide, by decide⟩, ?_⟩ | refine ⟨by show (0 : Int) < _; decide, ?_⟩)
  refine eB (fun e2 => ?_) (fun e2 => ?_)
  · rw [if_pos (.inr e2)] at q
    exact q
  rw [if_neg (by omega)] at q
  repeat (first | refine ⟨_, rfl, ?_⟩ | refine ⟨_, _, rfl, rfl, ?_⟩ | refine ⟨rfl, ?_⟩ | refine ⟨_, _, rfl, ?_⟩ | refine ⟨_, _, _, rfl, ?_⟩ | refine ⟨small_le (by simp), ?_⟩ | refine ⟨Or.inl ⟨by decide, by decide⟩, ?_⟩ | refine ⟨⟨by decide, by decide⟩, ?_⟩ | refine ⟨by show (0 : Int) < _; decide, ?_⟩)
  refine eB (fun e3 => ?_) (fun e3 => ?_)
  · rw [if_pos e3] at q
    repeat (first | refine ⟨_, rfl, ?_⟩ | refine ⟨_, _, rfl, rfl, ?_⟩ | refine ⟨rfl, ?_⟩ | refine ⟨_, _, rfl, ?_⟩ | refine ⟨_, _, _, rfl, ?_⟩ | refine ⟨small_le (by simp), ?_⟩ | refine ⟨Or.inl ⟨by decide, by decide⟩, ?_⟩ | refine ⟨⟨by decide, by decide⟩, ?_⟩ | refine ⟨by show (0 : Int) < _; decide, ?_⟩)
    refine eB (fun e4 => ?_) (fun e4 => ?_)
    · rw [if_pos e4] at q
      exact q
    · rw [if_neg e4] at q
      repeat (first | refine ⟨_, rfl, ?_⟩ | refine ⟨_, _, rfl, rfl, ?_⟩ | refine ⟨rfl, ?_⟩ | refine ⟨_, _, rfl, ?_⟩ | refine ⟨_, _, _, rfl, ?_⟩ | refine ⟨small_le (by simp), ?_⟩ | refine ⟨Or.inl ⟨by decide, by decide⟩, ?_⟩ | refine ⟨⟨by decide, by decide⟩, ?_⟩ | refine ⟨by show (0 : Int) < _; decide, ?_⟩)
      exact q
  rw [if_neg e3] at q
  repeat (first | refine ⟨_, rfl, ?_⟩ | refine ⟨_, _, rfl, rfl, ?_⟩ | refine ⟨rfl, ?_⟩ | refine ⟨_, _, rfl, ?_⟩ | refine ⟨_, _, _, rfl, ?_⟩ | refine ⟨small_le (by simp), ?_⟩ | refine ⟨Or.inl ⟨by decide, by decide⟩, ?_⟩ | refine ⟨⟨by decide, by decide⟩, ?_⟩ | refine ⟨by show (0 : Int) < _; decide, ?_⟩)
  refine eB (fun e4 => ?_) (fun e4 => ?_)
  · rw [if_pos e4] at q
    repeat (first | refine ⟨_, rfl, ?_⟩ | refine ⟨_, _, rfl, rfl, ?_⟩ | refine ⟨rfl, ?_⟩ | refine ⟨_, _, rfl, ?_⟩ | refine ⟨_, _, _, rfl, ?_⟩ | refine ⟨small_le (by simp), ?_⟩ | refine ⟨Or.inl ⟨by decide, by decide⟩, ?_⟩ | refine ⟨⟨by decide, by decide⟩, ?_⟩ | refine ⟨by show (0 : Int) < _; decide, ?_⟩)
    exact q
  · rw [if_neg e4] at q
    exact q
theorem sc_need_round : FnScope ["four", "place"] ["four", "place"] (defScope (top 47)) := ⟨rfl, rfl, rfl, by decide +kernel, rfl, by decide +kernel, by decide +kernel⟩
def spNeedRound (K : PySem.W.Frag) : Sp := fun vs H Q _ => ∃ (x : Addr) (ns : List Int) (i : Nat), vs = [.ref x, .int i] ∧ FourAt K H x ns ∧ i < ns.length ∧ ns.getD i 0 ≠ 0 ∧ Q .non H
theorem ok_need_round (T : Tx K mg) : Fx P w K mg base CX0 1 "need_round" (spNeedRound K) := by
  refine Fx.of T.g_need_round T.f_need_round (fnr0 (N := ["four", "place"]) (ps := ["four", "place"]) T.f_need_round sc_need_round (fun _ _ _ _ _ _ us hl => match us, hl with | [_, _], _ => rfl) (by intro vs H Q E h; repeat (first | (obtain ⟨e, _⟩ := h; subst e; rfl) | (obtain ⟨_, h⟩ := h))) fun cdv A outer s H vs Q E hr h => ?_)
  obtain ⟨x, ns, i, rfl, ⟨dx, t, h1, h2⟩, hi, h0, q⟩ := h
  refine ⟨_, (pss_one (ps_if (pt_cmpR op_eq (pe_ix ix_tup (pe_fld (pv 0) rfl) (pv 1) (fun _ _ => rfl)) pe_int (nomark _)) (pss_one ps_never) pss_nil)), ?_⟩
  repeat (first | refine ⟨_, rfl, ?_⟩ | refine ⟨_, _, rfl, rfl, ?_⟩ | refine ⟨rfl, ?_⟩ | refine ⟨_, _, rfl, ?_⟩ | refine ⟨_, _, _, rfl, ?_⟩ | refine ⟨small_le (by simp), ?_⟩ | refine ⟨Or.inl ⟨by decide, by decide⟩, ?_⟩ | refine ⟨⟨by decide, by decide⟩, ?_⟩ | refine ⟨by show (0 : Int) < _; decide, ?_⟩)
  refine ⟨x, _, dx, _, _, rfl, h1, T.cls_Four, T.noat_Four_bends, rfl, ?_⟩
  repeat (first | refine ⟨_, rfl, ?_⟩ | refine ⟨_, _, rfl, rfl, ?_⟩ | refine ⟨rfl, ?_⟩ | refine ⟨_, _, rfl, ?_⟩ | refine ⟨_, _, _, rfl, ?_⟩ | refine ⟨small_le (by simp), ?_⟩ | refine ⟨Or.inl ⟨by decide, by decide⟩, ?_⟩ | refine ⟨⟨by decide, by decide⟩, ?_⟩ | refine ⟨by show (0 : Int) < _; decide, ?_⟩)
  refine ⟨t, _, i, _, rfl, rfl, h2.sqT, atI_vi hi, ?_⟩
  repeat (first | refine ⟨_, rfl, ?_⟩ | refine ⟨_, _, rfl, rfl, ?_⟩ | refine ⟨rfl, ?_⟩ | refine ⟨_, _, rfl, ?_⟩ | refine ⟨_, _, _, rfl, ?_⟩ | refine ⟨small_le (by simp), ?_⟩ | refine ⟨Or.inl ⟨by decide, by decide⟩, ?_⟩ | refine ⟨⟨by decide, by decide⟩, ?_⟩ | refine ⟨by show (0 : Int) < _; decide, ?_⟩)
  refine eF h0 ?_
  exact q
theorem sc_need_bent : FnScope ["four", "place"] ["four", "place"] (defScope (top 46)) := ⟨rfl, rfl, rfl, by decide +kernel, rfl, by decide +kernel, by decide +kernel⟩
def spNeedBent (K : PySem.W.Frag) : Sp := fun vs H Q _ => ∃ (x : Addr) (ns : List Int) (i : Nat), vs = [.ref x, .int i] ∧ FourAt K H x ns ∧ i < 4 ∧ Q .non H
theorem ok_need_bent (T : Tx K mg) : Fx P w K mg base CX0 5 "need_bent" (spNeedBent K) := by
  refine Fx.of T.g_need_bent T.f_need_bent (fnr0 (N := ["four", "place"]) (ps := ["four", "place"]) T.f_need_bent sc_need_bent (fun _ _ _ _ _ _ us hl => match us, hl with | [_, _], _ => rfl) (by intro vs H Q E h; repeat (first | (obtain ⟨e, _⟩ := h; subst e; rfl) | (obtain ⟨_, h⟩ := h))) fun cdv A outer s H vs Q E hr h => ?_)
  obtain ⟨x, ns, i, rfl, hx, hi, q⟩ := h
  refine ⟨_, (pss_cons (ps_expr (pc (ok_need_four T) (hr.mono (by decide)) (by first | exact pass0 | exact passL) (pa_cons (pv 0) pa_nil)))
      (pss_one (ps_expr (pc (ok_need_place T) (hr.mono (by decide)) (by first | exact pass0 | exact passL) (pa_cons (pv 1) pa_nil))))), ?_⟩
  repeat (first | refine ⟨_, rfl, ?_⟩ | refine ⟨_, _, rfl, rfl, ?_⟩ | refine ⟨rfl, ?_⟩ | refine ⟨_, _, rfl, ?_⟩ | refine ⟨_, _, _, rfl, ?_⟩ | refine ⟨small_le (by simp), ?_⟩ | refine ⟨Or.inl ⟨by decide, by decide⟩, ?_⟩ | refine ⟨⟨by decide, by decide⟩, ?_⟩ | refine ⟨by show (0 : Int) < _; decide, ?_⟩)
  refine ⟨x, ns, rfl, hx, ?_⟩
  repeat (first | refine ⟨_, rfl, ?_⟩ | refine ⟨_, _, rfl, rfl, ?_⟩ | refine ⟨rfl, ?_⟩ | refine ⟨_, _, rfl, ?_⟩ | refine ⟨_, _, _, rfl, ?_⟩ | refine ⟨small_le (by simp), ?_⟩ | refine ⟨Or.inl ⟨by decide, by decide⟩, ?_⟩ | refine ⟨⟨by decide, by decide⟩, ?_⟩ | refine ⟨by show (0 : Int) < _; decide, ?_⟩)
  exact ⟨hi, q⟩
theorem sc_form_at : FnScope ["four", "place", "first", "half", "last"] ["four", "place"] (defScope (top 48)) := ⟨rfl, rfl, rfl, by decide +kernel, rfl, by decide +kernel, by decide +kernel⟩
def spFormAt (K : PySem.W.Frag) : Sp := fun vs H Q _ => ∃ (x : Addr) (ns : List Int) (i : Nat) (A B C : Int) (n : Nat), vs = [.ref x, .int i] ∧ FourAt K H x ns ∧ ns.length = 4 ∧ i < 4 ∧ ns.getD i 0 ≠ 0 ∧ numsAt ns i = [A, B, C] ∧ Form3 A B C n ∧ ∀ H' f, Same H H' → H f = none → FormAt K H' f A B C n → Q (.ref f) H'
theorem ok_form_at (T : Tx K mg) : Fx P w K mg base CX0 6 "form_at" (spFormAt K) := by
  refine Fx.of T.g_form_at T.f_form_at (fnr0 (N := ["four", "place", "first", "half", "last"]) (ps := ["four", "place"]) T.f_form_at sc_form_at (fun _ _ _ _ _ _ us hl => match us, hl with | [_, _], _ => rfl) (by intro vs H Q E h; repeat (first | (obtain ⟨e, _⟩ := h; subst e; rfl) | (obtain ⟨_, h⟩ := h))) fun cdv A outer s H vs Q E hr h => ?_)
  obtain ⟨x, ns, i, A, B, C, n, rfl, hx, h4, hi, h0, e, F, q⟩ := h
  refine ⟨_, (pss_cons (ps_expr (pc (ok_need_bent T) (hr.mono (by decide)) (by first | exact pass0 | exact passL) (pa_cons (pv 0) (pa_cons (pv 1) pa_nil))))
      (pss_cons (ps_expr (pc (ok_need_round T) (hr.mono (by decide)) (by first | exact pass0 | exact passL) (pa_cons (pv 0) (pa_cons (pv 1) pa_nil))))
      (pss_cons (ps_asg (pc (ok_numbers_at T) (hr.mono (by decide)) (by first | exact pass0 | exact passL) (pa_cons (pe_fld (pv 0) rfl) (pa_cons (pv 1) pa_nil))) (pg_tup rfl (pgs_cons (pg_name (i := 2) sc_form_at.nd rfl (Or.inl rfl)) (pgs_cons (pg_name (i := 3) sc_form_at.nd rfl (Or.inl rfl)) (pgs_cons (pg_name (i := 4) sc_form_at.nd rfl (Or.inl rfl)) pgs_nil)))))
      (pss_one (ps_ret (StX.pe_makeR T.mkr_Form (ok_Form_init T) (hr.mono (by decide)) rfl T.g_Form (by first | exact pass0 | exact passL) (pa_cons (pv 2) (pa_cons (pv 3) (pa_cons (pv 4) pa_nil))))))))), ?_⟩
  repeat (first | refine ⟨_, rfl, ?_⟩ | refine ⟨_, _, rfl, rfl, ?_⟩ | refine ⟨rfl, ?_⟩ | refine ⟨_, _, rfl, ?_⟩ | refine ⟨_, _, _, rfl, ?_⟩ | refine ⟨small_le (by simp), ?_⟩ | refine ⟨Or.inl ⟨by decide, by decide⟩, ?_⟩ | refine ⟨⟨by decide, by decide⟩, ?_⟩ | refine ⟨by show (0 : Int) < _; decide, ?_⟩)
  refine ⟨x, ns, i, rfl, hx, hi, ?_⟩
  repeat (first | refine ⟨_, rfl, ?_⟩ | refine ⟨_, _, rfl, rfl, ?_⟩ | refine ⟨rfl, ?_⟩ | refine ⟨_, _, rfl, ?_⟩ | refine ⟨_, _, _, rfl, ?_⟩ | refine ⟨small_le (by simp), ?_⟩ | refine ⟨Or.inl ⟨by decide, by decide⟩, ?_⟩ | refine ⟨⟨by decide, by decide⟩, ?_⟩ | refine ⟨by show (0 : Int) < _; decide, ?_⟩)
  refine ⟨x, ns, i, rfl, hx, by omega, h0, ?_⟩
  obtain ⟨dx, t, h1, h2⟩ := hx
  repeat (first | refine ⟨_, rfl, ?_⟩ | refine ⟨_, _, rfl, rfl, ?_⟩ | refine ⟨rfl, ?_⟩ | refine ⟨_, _, rfl, ?_⟩ | refine ⟨_, _, _, rfl, ?_⟩ | refine ⟨small_le (by simp), ?_⟩ | refine ⟨Or.inl ⟨by decide, by decide⟩, ?_⟩ | refine ⟨⟨by decide, by decide⟩, ?_⟩ | refine ⟨by show (0 : Int) < _; decide, ?_⟩)
  refine ⟨x, _, dx, _, _, rfl, h1, T.cls_Four, T.noat_Four_bends, rfl, ?_⟩
  repeat (first | refine ⟨_, rfl, ?_⟩ | refine ⟨_, _, rfl, rfl, ?_⟩ | refine ⟨rfl, ?_⟩ | refine ⟨_, _, rfl, ?_⟩ | refine ⟨_, _, _, rfl, ?_⟩ | refine ⟨small_le (by simp), ?_⟩ | refine ⟨Or.inl ⟨by decide, by decide⟩, ?_⟩ | refine ⟨⟨by decide, by decide⟩, ?_⟩ | refine ⟨by show (0 : Int) < _; decide, ?_⟩)
  refine ⟨t, ns, i, rfl, h2.t, hi, h4, fun H1 p s1 np ep => ?_⟩
  rw [e] at ep
  refine ⟨p, _, rfl, sqT ep, rfl, ?_⟩
  repeat (first | refine ⟨_, rfl, ?_⟩ | refine ⟨_, _, rfl, rfl, ?_⟩ | refine ⟨rfl, ?_⟩ | refine ⟨_, _, rfl, ?_⟩ | refine ⟨_, _, _, rfl, ?_⟩ | refine ⟨small_le (by simp), ?_⟩ | refine ⟨Or.inl ⟨by decide, by decide⟩, ?_⟩ | refine ⟨⟨by decide, by decide⟩, ?_⟩ | refine ⟨by show (0 : Int) < _; decide, ?_⟩)
  exact mk_form F fun H' f s' nf hf => q H' f (s1.trans s') (s1.free nf) hf
theorem sc_gasket_form : FnScope ["four"] ["four"] (defScope (top 62)) := ⟨rfl, rfl, rfl, by decide +kernel, rfl, by decide +kernel, by decide +kernel⟩
def spGasketForm (K : PySem.W.Frag) : Sp := fun vs H Q _ => ∃ (x : Addr) (ns : List Int) (m : Int) (A B C : Int) (n : Nat), vs = [.ref x] ∧ FourAt K H x ns ∧ ns.length = 4 ∧ m ∈ ns ∧ (∀ y ∈ ns, m ≤ y) ∧ m ≠ 0 ∧ numsAt ns (ns.idxOf m) = [A, B, C] ∧ Form3 A B C n ∧ ∀ H' f, Same H H' → H f = none → FormAt K H' f A B C n → Q (.ref f) H'
theorem ok_gasket_form (T : Tx K mg) : Fx P w K mg base CX0 7 "gasket_form" (spGasketForm K) := by
  refine Fx.of T.g_gasket_form T.f_gasket_form (fnr0 (N := ["four"]) (ps := ["four"]) T.f_gasket_form sc_gasket_form (fun _ _ _ _ _ _ us hl => match us, hl with | [_], _ => rfl) (by intro vs H Q E h; repeat (first | (obtain ⟨e, _⟩ := h; subst e; rfl) | (obtain ⟨_, h⟩ := h))) fun cdv A outer s H vs Q E hr h => ?_)
  obtain ⟨x, ns, m, A, B, C, n, rfl, hx, h4, hm, hle, h0, e, F, q⟩ := h
  refine ⟨_, (pss_one (ps_ret (pc (ok_form_at T) (hr.mono (by decide)) (by first | exact pass0 | exact passL) (pa_cons (pv 0) (pa_cons (pe_bmB PySem.F.plainAttrs_tuple PySem.F.slot_tuple_index PySem.F.type_tuple_index mt_tindex (pe_fld (pv 0) rfl) (pa_cons (pe_callB (cr_minX rfl) (by rfl) T.m_min (by decide +kernel) (pa_cons (pe_fld (pv 0) rfl) pa_nil)) pa_nil)) pa_nil))))), ?_⟩
  have hx0 := hx
  obtain ⟨dx, t, h1, h2⟩ := hx
  have hj := List.idxOf_lt_length_iff.mpr hm
  repeat (first | refine ⟨_, rfl, ?_⟩ | refine ⟨_, _, rfl, rfl, ?_⟩ | refine ⟨rfl, ?_⟩ | refine ⟨_, _, rfl, ?_⟩ | refine ⟨_, _, _, rfl, ?_⟩ | refine ⟨small_le (by simp), ?_⟩ | refine ⟨Or.inl ⟨by decide, by decide⟩, ?_⟩ | refine ⟨⟨by decide, by decide⟩, ?_⟩ | refine ⟨by show (0 : Int) < _; decide, ?_⟩)
  refine ⟨x, _, dx, _, _, rfl, h1, T.cls_Four, T.noat_Four_bends, rfl, ?_⟩
  refine ⟨⟨t, _, rfl, h2⟩, ?_⟩
  repeat (first | refine ⟨_, rfl, ?_⟩ | refine ⟨_, _, rfl, rfl, ?_⟩ | refine ⟨rfl, ?_⟩ | refine ⟨_, _, rfl, ?_⟩ | refine ⟨_, _, _, rfl, ?_⟩ | refine ⟨small_le (by simp), ?_⟩ | refine ⟨Or.inl ⟨by decide, by decide⟩, ?_⟩ | refine ⟨⟨by decide, by decide⟩, ?_⟩ | refine ⟨by show (0 : Int) < _; decide, ?_⟩)
  refine ⟨x, _, dx, _, _, rfl, h1, T.cls_Four, T.noat_Four_bends, rfl, ?_⟩
  repeat (first | refine ⟨_, rfl, ?_⟩ | refine ⟨_, _, rfl, rfl, ?_⟩ | refine ⟨rfl, ?_⟩ | refine ⟨_, _, rfl, ?_⟩ | refine ⟨_, _, _, rfl, ?_⟩ | refine ⟨small_le (by simp), ?_⟩ | refine ⟨Or.inl ⟨by decide, by decide⟩, ?_⟩ | refine ⟨⟨by decide, by decide⟩, ?_⟩ | refine ⟨by show (0 : Int) < _; decide, ?_⟩)
  refine ⟨t, ns, rfl, .inr (h2.sqT), by omega, fun m2 hm2 hle2 => ?_⟩
  have em : m2 = m := by have := hle m2 hm2; have := hle2 m hm; omega
  subst em
  refine ⟨t, ns, m2, rfl, rfl, h2.sqT, hm, ?_⟩
  refine ⟨x, ns, ns.idxOf m2, A, B, C, n, rfl, hx0, h4, by omega, ?_, e, F, q⟩
  rw [List.getD_eq_getElem?_getD, List.getElem?_eq_getElem hj, List.getElem_idxOf hj]
  exact h0
end
end Bh

/-! W6 -/
set_option maxHeartbeats 4000000
namespace Bh
open PySem PySem.Spec PyProof.Rows L2
section
variable {P : Program} {w : World} {K : PySem.W.Frag} {mg : Str → Option Value} {base : Heap}
/-- natural numbers as values -/
abbrev vn (l : List Nat) : List V := l.map fun (k : Nat) => V.int ((k : Nat) : Int)
def oN : Option Nat → V
  | none => .non
  | some i => .int i
/-- the place whose exchange lowers the four -/
def lowPl (ns : List Int) : Option Nat := ns.findIdx? fun b => decide (ns.sum < 2 * b)
theorem sc_lowering : FnScope ["bends", "total", "place", "bend"] ["bends"] (defScope (top 58)) := ⟨rfl, rfl, rfl, by decide +kernel, rfl, by decide +kernel, by decide +kernel⟩
def spLowering : Sp := fun vs H Q _ => ∃ (a : Addr) (ns : List Int), vs = [.ref a] ∧ Tq H a (vi ns) ∧ ∀ H', Same H H' → Q (oN (lowPl ns)) H'
theorem ok_lowering (T : Tx K mg) : Fx P w K mg base CX0 1 "lowering" spLowering := by
  refine Fx.of T.g_lowering T.f_lowering (fnr0 (N := ["bends", "total", "place", "bend"]) (ps := ["bends"]) T.f_lowering sc_lowering (fun _ _ _ _ _ _ us hl => match us, hl with | [_], _ => rfl) (by intro vs H Q E h; repeat (first | (obtain ⟨e, _⟩ := h; subst e; rfl) | (obtain ⟨_, h⟩ := h))) fun cdv A outer s H vs Q E hr h => ?_)
  obtain ⟨a, ns, rfl, hs, q⟩ := h
  refine ⟨_, (pss_cons (ps_set (i := 1) sc_lowering.nd rfl (Or.inl rfl) (pe_callB (cr_sumX rfl) (by rfl) T.m_sum (by decide +kernel) (pa_cons (pv 0) pa_nil)))
      (pss_cons (ps_for PassesOwn.never rfl (pi_enumT (by rfl) T.m_enumerate (pa_cons (pv 0) pa_nil)) (pg_tup rfl (pgs_cons (pg_name (i := 2) sc_lowering.nd rfl (Or.inl rfl)) (pgs_cons (pg_name (i := 3) sc_lowering.nd rfl (Or.inl rfl)) pgs_nil))) (pss_one (ps_if (pt_cmpR op_gt (pe_op op_mul pe_int (pv 3)) (pv 1) (nomark _)) (pss_one (ps_ret (pv 2))) pss_nil)))
      (pss_one (ps_ret pe_non)))), ?_⟩
  repeat (first | refine ⟨_, rfl, ?_⟩ | refine ⟨_, _, rfl, rfl, ?_⟩ | refine ⟨rfl, ?_⟩ | refine ⟨_, _, rfl, ?_⟩ | refine ⟨_, _, _, rfl, ?_⟩ | refine ⟨small_le (by simp), ?_⟩ | refine ⟨Or.inl ⟨by decide, by decide⟩, ?_⟩ | refine ⟨⟨by decide, by decide⟩, ?_⟩ | refine ⟨by show (0 : Int) < _; decide, ?_⟩)
  refine ⟨a, ns, rfl, .inr hs.sqT, ?_⟩
  repeat (first | refine ⟨_, rfl, ?_⟩ | refine ⟨_, _, rfl, rfl, ?_⟩ | refine ⟨rfl, ?_⟩ | refine ⟨_, _, rfl, ?_⟩ | refine ⟨_, _, _, rfl, ?_⟩ | refine ⟨small_le (by simp), ?_⟩ | refine ⟨Or.inl ⟨by decide, by decide⟩, ?_⟩ | refine ⟨⟨by decide, by decide⟩, ?_⟩ | refine ⟨by show (0 : Int) < _; decide, ?_⟩)
  refine ⟨a, vi ns, rfl, hs.sqT, ?_⟩
  refine for_enumT (fun i σ H' => Same H H' ∧ (∀ j, j < i → ∀ b, ns[j]? = some b → ¬ ns.sum < 2 * b) ∧ ∃ y z, σ = [some (.ref a), some (.int ns.sum), y, z]) ⟨Same.refl _, fun j hj => by omega, none, none, rfl⟩ (fun i σ H' p => (hs.same p.1).sqT) (fun i x σ H' T hx nT hp => ?_) (fun σ H' hp => ?_)
  · obtain ⟨p1, p2, y, z, rfl⟩ := hp
    rw [List.getElem?_map] at hx
    obtain ⟨b, hb, rfl⟩ := Option.map_eq_some_iff.mp hx
    have s2 := same_new (o := .tup [.int (i : Nat), .int b]) nT
    have e2 : upd H' T (.tup [.int (i : Nat), .int b]) T = _ := upd_same
    generalize upd H' T (.tup [.int (i : Nat), .int b]) = H2 at s2 e2 ⊢
    refine ⟨T, _, rfl, sqT e2, rfl, ?_⟩
    repeat (first | refine ⟨_, rfl, ?_⟩ | refine ⟨_, _, rfl, rfl, ?_⟩ | refine ⟨rfl, ?_⟩ | refine ⟨_, _, rfl, ?_⟩ | refine ⟨_, _, _, rfl, ?_⟩ | refine ⟨small_le (by simp), ?_⟩ | refine ⟨Or.inl ⟨by decide, by decide⟩, ?_⟩ | refine ⟨⟨by decide, by decide⟩, ?_⟩ | refine ⟨by show (0 : Int) < _; decide, ?_⟩)
    refine dB (fun e => ?_) (fun e => ?_)
    · repeat (first | refine ⟨_, rfl, ?_⟩ | refine ⟨_, _, rfl, rfl, ?_⟩ | refine ⟨rfl, ?_⟩ | refine ⟨_, _, rfl, ?_⟩ | refine ⟨_, _, _, rfl, ?_⟩ | refine ⟨small_le (by simp), ?_⟩ | refine ⟨Or.inl ⟨by decide, by decide⟩, ?_⟩ | refine ⟨⟨by decide, by decide⟩, ?_⟩ | refine ⟨by show (0 : Int) < _; decide, ?_⟩)
      have hi := (List.getElem?_eq_some_iff.mp hb).1
      have el : lowPl ns = some i := by
        unfold lowPl
        rw [List.findIdx?_eq_some_iff_getElem]
        refine ⟨hi, ?_, fun j hj => ?_⟩
        · rw [(List.getElem?_eq_some_iff.mp hb).2]
          simpa using e
        · have := p2 j hj _ (List.getElem?_eq_getElem (by omega))
          simpa using this
      rw [el] at q
      exact q _ (p1.trans s2)
    · refine ⟨p1.trans s2, fun j hj b' hb' => ?_, _, _, rfl⟩
      by_cases ej : j = i
      · subst ej
        rw [hb] at hb'
        cases hb'
        exact e
      · exact p2 j (by omega) b' hb'
  · obtain ⟨p1, p2, y, z, rfl⟩ := hp
    repeat (first | refine ⟨_, rfl, ?_⟩ | refine ⟨_, _, rfl, rfl, ?_⟩ | refine ⟨rfl, ?_⟩ | refine ⟨_, _, rfl, ?_⟩ | refine ⟨_, _, _, rfl, ?_⟩ | refine ⟨small_le (by simp), ?_⟩ | refine ⟨Or.inl ⟨by decide, by decide⟩, ?_⟩ | refine ⟨⟨by decide, by decide⟩, ?_⟩ | refine ⟨by show (0 : Int) < _; decide, ?_⟩)
    have el : lowPl ns = none := by
      unfold lowPl
      rw [List.findIdx?_eq_none_iff]
      intro b hb
      obtain ⟨j, hj, rfl⟩ := List.mem_iff_getElem.mp hb
      have := p2 j (by rw [List.length_map]; exact hj) _ (List.getElem?_eq_getElem hj)
      simpa using this
    rw [el] at q
    exact q _ p1
/-- the way down -/
inductive Down : List Int → List Nat → List Int → Prop where
  | done {ms : List Int} (h : lowPl ms = none) : Down ms [] ms
  | step {ns ms : List Int} {i : Nat} {path : List Nat} (h : lowPl ns = some i) (r : Down (exch ns i) path ms) : Down ns (i :: path) ms
theorem lowPl_lt {ns : List Int} {i : Nat} (h : lowPl ns = some i) : i < ns.length := by
  unfold lowPl at h
  exact (List.findIdx?_eq_some_iff_getElem.mp h).1
theorem sc_down : FnScope ["bends", "letters", "place"] ["bends"] (defScope (top 59)) := ⟨rfl, rfl, rfl, by decide +kernel, rfl, by decide +kernel, by decide +kernel⟩
def spDown : Sp := fun vs H Q _ => ∃ (a : Addr) (ns ms : List Int) (path : List Nat), vs = [.ref a] ∧ Bq H a (vi ns) ∧ ns.length = 4 ∧ Down ns path ms ∧ path.length ≤ 200 ∧
  ∀ H' p b l, Same H H' → H p = none → H' p = some (.tup [.ref b, .ref l]) → Bq H' b (vi ms) → Bq H' l (vn path.reverse) → Q (.ref p) H'
theorem ok_down (T : Tx K mg) : Fx P w K mg base CX0 3 "down" spDown := by
  refine Fx.of T.g_down T.f_down (fnr0 (N := ["bends", "letters", "place"]) (ps := ["bends"]) T.f_down sc_down (fun _ _ _ _ _ _ us hl => match us, hl with | [_], _ => rfl) (by intro vs H Q E h; repeat (first | (obtain ⟨e, _⟩ := h; subst e; rfl) | (obtain ⟨_, h⟩ := h))) fun cdv A outer s H vs Q E hr h => ?_)
  obtain ⟨a, ns, ms, path, rfl, hs, h4, hd, hl, q⟩ := h
  refine ⟨_, (pss_cons (ps_par (i := 1) (j := 2) (by rfl) sc_down.nd rfl rfl (by decide) rfl rfl (pa_cons (pe_lst pa_nil) (pa_cons (pc (ok_lowering T) (hr.mono (by decide)) (by first | exact pass0 | exact passL) (pa_cons (pv 0) pa_nil)) pa_nil)) (by rfl))
      (pss_cons (ps_while PassesOwn.never (pt_cmpR op_notN (pv 2) pe_non (nomark _)) (pss_cons (ps_expr (pe_bm PySem.F.plainAttrs_list PySem.F.slot_list_append PySem.F.type_list_append mt_append (pv 1) (pa_cons (pv 2) pa_nil)))
      (pss_cons (ps_if (pt_cmpR op_gt (pe_callB call_len_seq (by rfl) T.m_len PySem.boot_len (pa_cons (pv 1) pa_nil)) (pe_glob (v := .int 200) rfl T.i_MOST_LETTERS.choose_spec ⟨_, rfl⟩) (nomark _)) (pss_one ps_never) pss_nil)
      (pss_cons (ps_set (i := 0) sc_down.nd rfl (Or.inl rfl) (pc (ok_exchanged_at T) (hr.mono (by decide)) (by first | exact pass0 | exact passL) (pa_cons (pv 0) (pa_cons (pv 2) pa_nil))))
      (pss_one (ps_set (i := 2) sc_down.nd rfl (Or.inl rfl) (pc (ok_lowering T) (hr.mono (by decide)) (by first | exact pass0 | exact passL) (pa_cons (pv 0) pa_nil))))))))
      (pss_one (ps_ret (pe_tup (pa_cons (pe_callTy call_tuple_ofB (by rfl) T.m_tuple (by decide +kernel) (pa_cons (pv 0) pa_nil)) (pa_cons (pe_callTy call_tuple_ofB (by rfl) T.m_tuple (by decide +kernel) (pa_cons (pe_revL (pv 1)) pa_nil)) pa_nil))))))), ?_⟩
  repeat (first | refine ⟨_, rfl, ?_⟩ | refine ⟨_, _, rfl, rfl, ?_⟩ | refine ⟨rfl, ?_⟩ | refine ⟨_, _, rfl, ?_⟩ | refine ⟨_, _, _, rfl, ?_⟩ | refine ⟨small_le (by simp), ?_⟩ | refine ⟨Or.inl ⟨by decide, by decide⟩, ?_⟩ | refine ⟨⟨by decide, by decide⟩, ?_⟩ | refine ⟨by show (0 : Int) < _; decide, ?_⟩)
  (intro L nLH; generalize hqZ : upd _ L _ = H1; have s1 := new_same hqZ nLH; have e1 := new_at hqZ; clear hqZ)
  repeat (first | refine ⟨_, rfl, ?_⟩ | refine ⟨_, _, rfl, rfl, ?_⟩ | refine ⟨rfl, ?_⟩ | refine ⟨_, _, rfl, ?_⟩ | refine ⟨_, _, _, rfl, ?_⟩ | refine ⟨small_le (by simp), ?_⟩ | refine ⟨Or.inl ⟨by decide, by decide⟩, ?_⟩ | refine ⟨⟨by decide, by decide⟩, ?_⟩ | refine ⟨by show (0 : Int) < _; decide, ?_⟩)
  refine ⟨a, ns, rfl, (hs.same s1).t, fun H2 s2 => ?_⟩
  repeat (first | refine ⟨_, rfl, ?_⟩ | refine ⟨_, _, rfl, rfl, ?_⟩ | refine ⟨rfl, ?_⟩ | refine ⟨_, _, rfl, ?_⟩ | refine ⟨_, _, _, rfl, ?_⟩ | refine ⟨small_le (by simp), ?_⟩ | refine ⟨Or.inl ⟨by decide, by decide⟩, ?_⟩ | refine ⟨⟨by decide, by decide⟩, ?_⟩ | refine ⟨by show (0 : Int) < _; decide, ?_⟩)
  refine ⟨fun m σ H' => Same H H' ∧ ∃ b cur dn rest, Bq H' b (vi cur) ∧ cur.length = 4 ∧ H' L = some (.lst (vn dn)) ∧ path = dn ++ rest ∧ Down cur rest ms ∧ m = rest.length ∧ σ = [some (.ref b), some (.ref L), some (oN (lowPl cur))],
    ⟨_, s1.trans s2, a, ns, [], path, (hs.same s1).same s2, h4, s2 _ _ e1, rfl, hd, rfl, rfl⟩, fun m σ H' hp => ?_⟩
  obtain ⟨s3, b, cur, dn, rest, hb, hc, eL, ep, hdn, hm, rfl⟩ := hp
  repeat (first | refine ⟨_, rfl, ?_⟩ | refine ⟨_, _, rfl, rfl, ?_⟩ | refine ⟨rfl, ?_⟩ | refine ⟨_, _, rfl, ?_⟩ | refine ⟨_, _, _, rfl, ?_⟩ | refine ⟨small_le (by simp), ?_⟩ | refine ⟨Or.inl ⟨by decide, by decide⟩, ?_⟩ | refine ⟨⟨by decide, by decide⟩, ?_⟩ | refine ⟨by show (0 : Int) < _; decide, ?_⟩)
  cases hdn with
  | done hno =>
    rw [hno]
    refine nF rfl ?_
    repeat (first | refine ⟨_, rfl, ?_⟩ | refine ⟨_, _, rfl, rfl, ?_⟩ | refine ⟨rfl, ?_⟩ | refine ⟨_, _, rfl, ?_⟩ | refine ⟨_, _, _, rfl, ?_⟩ | refine ⟨small_le (by simp), ?_⟩ | refine ⟨Or.inl ⟨by decide, by decide⟩, ?_⟩ | refine ⟨⟨by decide, by decide⟩, ?_⟩ | refine ⟨by show (0 : Int) < _; decide, ?_⟩)
    refine ⟨b, _, rfl, .inr ⟨hb.sqT, ?_⟩⟩
    repeat (first | refine ⟨_, rfl, ?_⟩ | refine ⟨_, _, rfl, rfl, ?_⟩ | refine ⟨rfl, ?_⟩ | refine ⟨_, _, rfl, ?_⟩ | refine ⟨_, _, _, rfl, ?_⟩ | refine ⟨small_le (by simp), ?_⟩ | refine ⟨Or.inl ⟨by decide, by decide⟩, ?_⟩ | refine ⟨⟨by decide, by decide⟩, ?_⟩ | refine ⟨by show (0 : Int) < _; decide, ?_⟩)
    refine ⟨L, _, rfl, sqL eL, ?_⟩
    (intro R nR; generalize hqZ : upd _ R _ = H4; have s4 := new_same hqZ nR; have e4 := new_at hqZ; clear hqZ)
    refine ⟨R, _, rfl, .inl ⟨sqL e4, ?_⟩⟩
    (intro oZ l hoZ nl; generalize hqZ : upd _ l _ = H5; have s5 := new_same hqZ nl; have e5 := new_bq hqZ hoZ; clear hqZ hoZ)
    repeat (first | refine ⟨_, rfl, ?_⟩ | refine ⟨_, _, rfl, rfl, ?_⟩ | refine ⟨rfl, ?_⟩ | refine ⟨_, _, rfl, ?_⟩ | refine ⟨_, _, _, rfl, ?_⟩ | refine ⟨small_le (by simp), ?_⟩ | refine ⟨Or.inl ⟨by decide, by decide⟩, ?_⟩ | refine ⟨⟨by decide, by decide⟩, ?_⟩ | refine ⟨by show (0 : Int) < _; decide, ?_⟩)
    (intro p np; generalize hqZ : upd _ p _ = H6; have s6 := new_same hqZ np; have e6 := new_at hqZ; clear hqZ)
    have up := s3.trans (s4.trans (s5.trans s6))
    refine q H6 p b l up ((s3.trans (s4.trans s5)).free np) e6 (hb.same (s4.trans (s5.trans s6))) ?_
    have ep2 : path = dn := by simpa using ep
    rw [ep2]
    refine Eq.mp ?_ (e5.same s6)
    rw [vn, vn, List.map_reverse]
  | step hlo hr2 =>
    rename_i i path2
    rw [hlo]
    refine nT (fun z => nomatch z) ?_
    refine ⟨_, fun _ _ z => z, ?_⟩
    have hi := lowPl_lt hlo
    have hl2 : dn.length + (path2.length + 1) ≤ 200 := by
      have := congrArg List.length ep
      simp at this
      omega
    repeat (first | refine ⟨_, rfl, ?_⟩ | refine ⟨_, _, rfl, rfl, ?_⟩ | refine ⟨rfl, ?_⟩ | refine ⟨_, _, rfl, ?_⟩ | refine ⟨_, _, _, rfl, ?_⟩ | refine ⟨small_le (by simp), ?_⟩ | refine ⟨Or.inl ⟨by decide, by decide⟩, ?_⟩ | refine ⟨⟨by decide, by decide⟩, ?_⟩ | refine ⟨by show (0 : Int) < _; decide, ?_⟩)
    refine ⟨Or.inl ⟨rfl, _, sqL eL⟩, ?_⟩
    repeat (first | refine ⟨_, rfl, ?_⟩ | refine ⟨_, _, rfl, rfl, ?_⟩ | refine ⟨rfl, ?_⟩ | refine ⟨_, _, rfl, ?_⟩ | refine ⟨_, _, _, rfl, ?_⟩ | refine ⟨small_le (by simp), ?_⟩ | refine ⟨Or.inl ⟨by decide, by decide⟩, ?_⟩ | refine ⟨⟨by decide, by decide⟩, ?_⟩ | refine ⟨by show (0 : Int) < _; decide, ?_⟩)
    refine ⟨L, _, _, rfl, rfl, eL, small_lt (by simp; omega), ?_⟩
    have s4 : Same H (upd H' L (.lst (vn dn ++ [oN (some i)]))) := same_mut s3 nLH
    have s34 : ∀ {x xs}, Bq H' x xs → Bq (upd H' L (.lst (vn dn ++ [oN (some i)]))) x xs := fun {x xs} ⟨o, ho, hx⟩ => ⟨o, ho, by rw [upd_ne (ne_of hx eL (by intro z; cases z))]; exact hx⟩
    have e4 : (upd H' L (.lst (vn dn ++ [oN (some i)]))) L = _ := upd_same
    generalize upd H' L (.lst (vn dn ++ [oN (some i)])) = H4 at s4 s34 e4 ⊢
    repeat (first | refine ⟨_, rfl, ?_⟩ | refine ⟨_, _, rfl, rfl, ?_⟩ | refine ⟨rfl, ?_⟩ | refine ⟨_, _, rfl, ?_⟩ | refine ⟨_, _, _, rfl, ?_⟩ | refine ⟨small_le (by simp), ?_⟩ | refine ⟨Or.inl ⟨by decide, by decide⟩, ?_⟩ | refine ⟨⟨by decide, by decide⟩, ?_⟩ | refine ⟨by show (0 : Int) < _; decide, ?_⟩)
    refine ⟨L, _, rfl, .inl (sqL e4), ?_⟩
    repeat (first | refine ⟨_, rfl, ?_⟩ | refine ⟨_, _, rfl, rfl, ?_⟩ | refine ⟨rfl, ?_⟩ | refine ⟨_, _, rfl, ?_⟩ | refine ⟨_, _, _, rfl, ?_⟩ | refine ⟨small_le (by simp), ?_⟩ | refine ⟨Or.inl ⟨by decide, by decide⟩, ?_⟩ | refine ⟨⟨by decide, by decide⟩, ?_⟩ | refine ⟨by show (0 : Int) < _; decide, ?_⟩)
    refine dF (by simp; omega) ?_
    repeat (first | refine ⟨_, rfl, ?_⟩ | refine ⟨_, _, rfl, rfl, ?_⟩ | refine ⟨rfl, ?_⟩ | refine ⟨_, _, rfl, ?_⟩ | refine ⟨_, _, _, rfl, ?_⟩ | refine ⟨small_le (by simp), ?_⟩ | refine ⟨Or.inl ⟨by decide, by decide⟩, ?_⟩ | refine ⟨⟨by decide, by decide⟩, ?_⟩ | refine ⟨by show (0 : Int) < _; decide, ?_⟩)
    refine ⟨b, cur, i, rfl, (s34 hb).t, hi, hc, fun H5 b2 s5 nb2 eb2 => ?_⟩
    repeat (first | refine ⟨_, rfl, ?_⟩ | refine ⟨_, _, rfl, rfl, ?_⟩ | refine ⟨rfl, ?_⟩ | refine ⟨_, _, rfl, ?_⟩ | refine ⟨_, _, _, rfl, ?_⟩ | refine ⟨small_le (by simp), ?_⟩ | refine ⟨Or.inl ⟨by decide, by decide⟩, ?_⟩ | refine ⟨⟨by decide, by decide⟩, ?_⟩ | refine ⟨by show (0 : Int) < _; decide, ?_⟩)
    refine ⟨b2, _, rfl, eb2.t, fun H6 s6 => ?_⟩
    refine ⟨path2.length, by simp at hm; omega, s4.trans (s5.trans s6), b2, _, dn ++ [i], path2, eb2.same s6, by rw [exch_len hi]; exact hc, ?_, by rw [ep]; simp, hr2, rfl, rfl⟩
    rw [s6 _ _ (s5 _ _ e4)]
    simp [vn, oN]
theorem sc_need_form : FnScope ["value", "part"] ["value", "part"] (defScope (top 32)) := ⟨rfl, rfl, rfl, by decide +kernel, rfl, by decide +kernel, by decide +kernel⟩
def spNeedForm (K : PySem.W.Frag) : Sp := fun vs H Q _ => ∃ (x : Addr) (A B C : Int) (n : Nat), vs = [.ref x] ∧ FormAt K H x A B C n ∧ Q .non H
def spNeedForm2 (K : PySem.W.Frag) : Sp := fun vs H Q _ => ∃ (x : Addr) (A B C : Int) (n : Nat) (p : V), vs = [.ref x, p] ∧ FormAt K H x A B C n ∧ Q .non H
theorem ok_need_form (T : Tx K mg) : Fx P w K mg base CX0 1 "need_form" (spNeedForm K) := by
  refine Fx.of T.g_need_form T.f_need_form ?_
  obtain ⟨fd, F⟩ := T.f_need_form
  obtain ⟨ds, hd, hb⟩ : ∃ ds, Vals [V.str "form"] ds ∧ Binds K fd ["value", "part"] ds := F.binds1 (ps := ["value", "part"]) 1 0 (by intro z; cases z) rfl fun T kV doc pm an cdv ct us its hu hi => match us, its, hu, hi with
    | [_], [_], _, _ => ⟨_, rfl, rfl⟩
  refine FnR.imp (fnrD (N := ["value", "part"]) (ps := ["value", "part"]) (sp := spNeedForm2 K) F sc_need_form hb hd (by intro vs H Q E h; repeat (first | (obtain ⟨e, _⟩ := h; subst e; rfl) | (obtain ⟨_, h⟩ := h))) fun cdv A outer s H vs Q E hr h => ?_) fun vs H Q E h => ?_
  · obtain ⟨x, A, B, C, n, p, rfl, hx, q⟩ := h
    refine ⟨_, PSs.nox (pss_one (ps_if (pt_not (pt_val (pe_callB call_isi (by rfl) T.m_isinstance (by decide +kernel) (pa_cons (pv 0) (pa_cons (pe_glob (v := .ref (He.ga K "Form")) rfl T.g_Form rfl) pa_nil))))) (pss_one ps_never) pss_nil)), ?_⟩
    obtain ⟨dx, t, h1, h2⟩ := hx
    repeat (first | refine ⟨_, rfl, ?_⟩ | refine ⟨_, _, rfl, rfl, ?_⟩ | refine ⟨rfl, ?_⟩ | refine ⟨_, _, rfl, ?_⟩ | refine ⟨_, _, _, rfl, ?_⟩ | refine ⟨small_le (by simp), ?_⟩ | refine ⟨Or.inl ⟨by decide, by decide⟩, ?_⟩ | refine ⟨⟨by decide, by decide⟩, ?_⟩ | refine ⟨by show (0 : Int) < _; decide, ?_⟩)
    refine ⟨_, _, _, _, true, rfl, .own _, .base (.ins h1 T.cls_Form T.x_cls_Form T.x_oc_get T.x_oc_takes T.x_mro_Form), T.x_Form_Form, ?_⟩
    repeat (first | refine ⟨_, rfl, ?_⟩ | refine ⟨_, _, rfl, rfl, ?_⟩ | refine ⟨rfl, ?_⟩ | refine ⟨_, _, rfl, ?_⟩ | refine ⟨_, _, _, rfl, ?_⟩ | refine ⟨small_le (by simp), ?_⟩ | refine ⟨Or.inl ⟨by decide, by decide⟩, ?_⟩ | refine ⟨⟨by decide, by decide⟩, ?_⟩ | refine ⟨by show (0 : Int) < _; decide, ?_⟩)
    exact q
  · obtain ⟨x, A, B, C, n, rfl, hx, q⟩ := h
    exact ⟨x, A, B, C, n, _, rfl, hx, q⟩
theorem sc_need_fan : FnScope ["four", "place", "other"] ["four", "place", "other"] (defScope (top 81)) := ⟨rfl, rfl, rfl, by decide +kernel, rfl, by decide +kernel, by decide +kernel⟩
def spNeedFan (K : PySem.W.Frag) : Sp := fun vs H Q _ => ∃ (x : Addr) (ns : List Int) (i j : Nat), vs = [.ref x, .int i, .int j] ∧ FourAt K H x ns ∧ i < 4 ∧ j < 4 ∧ i ≠ j ∧ Q .non H
theorem ok_need_fan (T : Tx K mg) : Fx P w K mg base CX0 6 "need_fan" (spNeedFan K) := by
  refine Fx.of T.g_need_fan T.f_need_fan (fnr0 (N := ["four", "place", "other"]) (ps := ["four", "place", "other"]) T.f_need_fan sc_need_fan (fun _ _ _ _ _ _ us hl => match us, hl with | [_, _, _], _ => rfl) (by intro vs H Q E h; repeat (first | (obtain ⟨e, _⟩ := h; subst e; rfl) | (obtain ⟨_, h⟩ := h))) fun cdv A outer s H vs Q E hr h => ?_)
  obtain ⟨x, ns, i, j, rfl, hx, hi, hj, hij, q⟩ := h
  refine ⟨_, (pss_cons (ps_expr (pc (ok_need_four T) (hr.mono (by decide)) (by first | exact pass0 | exact passL) (pa_cons (pv 0) pa_nil)))
      (pss_one (ps_expr (pc (ok_need_places T) (hr.mono (by decide)) (by first | exact pass0 | exact passL) (pa_cons (pv 1) (pa_cons (pv 2) pa_nil)))))), ?_⟩
  repeat (first | refine ⟨_, rfl, ?_⟩ | refine ⟨_, _, rfl, rfl, ?_⟩ | refine ⟨rfl, ?_⟩ | refine ⟨_, _, rfl, ?_⟩ | refine ⟨_, _, _, rfl, ?_⟩ | refine ⟨small_le (by simp), ?_⟩ | refine ⟨Or.inl ⟨by decide, by decide⟩, ?_⟩ | refine ⟨⟨by decide, by decide⟩, ?_⟩ | refine ⟨by show (0 : Int) < _; decide, ?_⟩)
  refine ⟨x, ns, rfl, hx, ?_⟩
  repeat (first | refine ⟨_, rfl, ?_⟩ | refine ⟨_, _, rfl, rfl, ?_⟩ | refine ⟨rfl, ?_⟩ | refine ⟨_, _, rfl, ?_⟩ | refine ⟨_, _, _, rfl, ?_⟩ | refine ⟨small_le (by simp), ?_⟩ | refine ⟨Or.inl ⟨by decide, by decide⟩, ?_⟩ | refine ⟨⟨by decide, by decide⟩, ?_⟩ | refine ⟨by show (0 : Int) < _; decide, ?_⟩)
  exact ⟨hi, hj, hij, q⟩
/-! ### fixed -/
/-- what is not a sequence -/
def Leaf (K : PySem.W.Frag) (H : Hp) (v : V) : Prop := (∃ i : Int, v = .int i) ∨ ∃ x ns, v = .ref x ∧ FourAt K H x ns
theorem Leaf.same {H H' : Hp} {v : V} (h : Leaf K H v) (s : Same H H') : Leaf K H' v := by
  rcases h with h | ⟨x, ns, e, h⟩
  · exact .inl h
  · exact .inr ⟨x, ns, e, h.same s⟩
theorem Leaf.no (T : Tx K mg) {H : Hp} {v : V} (h : Leaf K H v) : ∃ t, TyX K H v t ∧ PySem.W.kitAny K t [.type "list", .type "tuple"] = some false := by
  rcases h with ⟨i, rfl⟩ | ⟨x, ns, rfl, dx, t, h1, h2⟩
  · exact ⟨_, .base (.int i), kitAny_cons (kit_ty (b := "list") (r := false) (by decide +kernel)) (fun _ => kitAny_cons (kit_ty (b := "tuple") (r := false) (by decide +kernel)) (fun _ => rfl) (fun z => nomatch z)) (fun z => nomatch z)⟩
  · exact ⟨_, .base (.ins h1 T.cls_Four T.x_cls_Four T.x_oc_get T.x_oc_takes T.x_mro_Four), T.x_Four_seq⟩
/-- a tuple of numbers -/
def Nums (H : Hp) (v : V) (ns : List Int) : Prop := ∃ a, v = .ref a ∧ Tq H a (vi ns) ∧ ns.length < 16770000
theorem sc_fixed : FnScope ["value", "part"] ["value"] (defScope (top 50)) := ⟨rfl, rfl, rfl, by decide +kernel, rfl, by decide +kernel, by decide +kernel⟩
def spFixed0 (K : PySem.W.Frag) : Sp := fun vs H Q _ => ∃ v, vs = [v] ∧ Leaf K H v ∧ ∀ H', Same H H' → Q v H'
def spFixed1 (K : PySem.W.Frag) : Sp := fun vs H Q _ => ∃ v, vs = [v] ∧ ((Leaf K H v ∧ ∀ H', Same H H' → Q v H') ∨ ∃ ns, Nums H v ns ∧ ∀ H' w, Same H H' → Nums H' w ns → Q w H')
/-- a part and its copy -/
def Cpy (K : PySem.W.Frag) (H : Hp) (v w : V) : Prop := (Leaf K H v ∧ w = v) ∨ ∃ ns, Nums H v ns ∧ Nums H w ns
def spFixed2 (K : PySem.W.Frag) : Sp := fun vs H Q _ => ∃ a xs, vs = [.ref a] ∧ Tq H a xs ∧ xs.length ≤ 10 ∧ (∀ v ∈ xs, Leaf K H v ∨ ∃ ns, Nums H v ns) ∧ ∀ H' b ws, Same H H' → Tq H' b ws → Paired (Cpy K H') xs ws → Q (.ref b) H'
theorem Nums.same {H H' : Hp} {v : V} {ns : List Int} (h : Nums H v ns) (s : Same H H') : Nums H' v ns := let ⟨a, e, h1, h2⟩ := h; ⟨a, e, h1.same s, h2⟩
theorem Cpy.same {H H' : Hp} {v w : V} (h : Cpy K H v w) (s : Same H H') : Cpy K H' v w := by
  rcases h with ⟨h, e⟩ | ⟨ns, h1, h2⟩
  · exact .inl ⟨h.same s, e⟩
  · exact .inr ⟨ns, h1.same s, h2.same s⟩
theorem fixed_leaf (T : Tx K mg) : Fx P w K mg base CX0 1 "fixed" (spFixed0 K) := by
  refine Fx.of T.g_fixed T.f_fixed (fnr0 (N := ["value", "part"]) (ps := ["value"]) T.f_fixed sc_fixed (fun _ _ _ _ _ _ us hl => match us, hl with | [_], _ => rfl) (by intro vs H Q E h; repeat (first | (obtain ⟨e, _⟩ := h; subst e; rfl) | (obtain ⟨_, h⟩ := h))) fun cdv A outer s H vs Q E hr h => ?_)
  obtain ⟨v, rfl, hv, q⟩ := h
  refine ⟨_, (pss_cons (ps_if (pt_val (pe_callB call_isiT (by rfl) T.m_isinstance (by decide +kernel) (pa_cons (pv 0) (pa_cons (pe_tup (pa_cons (pe_bltn (v := .ty "list") (by rfl) T.m_list (by decide +kernel) rfl) (pa_cons (pe_bltn (v := .ty "tuple") (by rfl) T.m_tuple (by decide +kernel) rfl) pa_nil))) pa_nil)))) pss_never pss_nil)
      (pss_one (ps_ret (pv 0)))), ?_⟩
  repeat (first | refine ⟨_, rfl, ?_⟩ | refine ⟨_, _, rfl, rfl, ?_⟩ | refine ⟨rfl, ?_⟩ | refine ⟨_, _, rfl, ?_⟩ | refine ⟨_, _, _, rfl, ?_⟩ | refine ⟨small_le (by simp), ?_⟩ | refine ⟨Or.inl ⟨by decide, by decide⟩, ?_⟩ | refine ⟨⟨by decide, by decide⟩, ?_⟩ | refine ⟨by show (0 : Int) < _; decide, ?_⟩)
  (intro p np; generalize hqZ : upd _ p _ = H1; have s1 := new_same hqZ np; have e1 := new_at hqZ; clear hqZ)
  obtain ⟨t, ht, hk⟩ := (hv.same s1).no T
  refine ⟨_, p, _, t, [.type "list", .type "tuple"], false, rfl, e1, .cons (.ty _) (.cons (.ty _) .nil), ht, hk, ?_⟩
  repeat (first | refine ⟨_, rfl, ?_⟩ | refine ⟨_, _, rfl, rfl, ?_⟩ | refine ⟨rfl, ?_⟩ | refine ⟨_, _, rfl, ?_⟩ | refine ⟨_, _, _, rfl, ?_⟩ | refine ⟨small_le (by simp), ?_⟩ | refine ⟨Or.inl ⟨by decide, by decide⟩, ?_⟩ | refine ⟨⟨by decide, by decide⟩, ?_⟩ | refine ⟨by show (0 : Int) < _; decide, ?_⟩)
  exact q _ s1
theorem paired_snoc {R : V → V → Prop} : ∀ {xs ws : List V} {x w : V}, Paired R xs ws → R x w → Paired R (xs ++ [x]) (ws ++ [w])
  | _, _, _, _, .nil, h => .cons h .nil
  | _, _, _, _, .cons a t, h => .cons a (paired_snoc t h)
theorem paired_imp {R S : V → V → Prop} (f : ∀ x w, R x w → S x w) : ∀ {xs ws : List V}, Paired R xs ws → Paired S xs ws
  | _, _, .nil => .nil
  | _, _, .cons a t => .cons (f _ _ a) (paired_imp f t)
theorem fixed_1 (T : Tx K mg) : Fx P w K mg base CX0 2 "fixed" (spFixed1 K) := by
  refine Fx.of T.g_fixed T.f_fixed (fnr0 (N := ["value", "part"]) (ps := ["value"]) T.f_fixed sc_fixed (fun _ _ _ _ _ _ us hl => match us, hl with | [_], _ => rfl) (by intro vs H Q E h; repeat (first | (obtain ⟨e, _⟩ := h; subst e; rfl) | (obtain ⟨_, h⟩ := h))) fun cdv A outer s H vs Q E hr h => ?_)
  obtain ⟨v, rfl, h⟩ := h
  have ok_fixed := fun (_ : Tx K mg) => fixed_leaf (P := P) (w := w) (base := base) T
  rcases h with ⟨hv, q⟩ | ⟨ns, hv, q⟩
  · refine ⟨_, (pss_cons (ps_if (pt_val (pe_callB call_isiT (by rfl) T.m_isinstance (by decide +kernel) (pa_cons (pv 0) (pa_cons (pe_tup (pa_cons (pe_bltn (v := .ty "list") (by rfl) T.m_list (by decide +kernel) rfl) (pa_cons (pe_bltn (v := .ty "tuple") (by rfl) T.m_tuple (by decide +kernel) rfl) pa_nil))) pa_nil)))) pss_never pss_nil)
      (pss_one (ps_ret (pv 0)))), ?_⟩
    repeat (first | refine ⟨_, rfl, ?_⟩ | refine ⟨_, _, rfl, rfl, ?_⟩ | refine ⟨rfl, ?_⟩ | refine ⟨_, _, rfl, ?_⟩ | refine ⟨_, _, _, rfl, ?_⟩ | refine ⟨small_le (by simp), ?_⟩ | refine ⟨Or.inl ⟨by decide, by decide⟩, ?_⟩ | refine ⟨⟨by decide, by decide⟩, ?_⟩ | refine ⟨by show (0 : Int) < _; decide, ?_⟩)
    (intro p np; generalize hqZ : upd _ p _ = H1; have s1 := new_same hqZ np; have e1 := new_at hqZ; clear hqZ)
    obtain ⟨t, ht, hk⟩ := (hv.same s1).no T
    refine ⟨_, p, _, t, [.type "list", .type "tuple"], false, rfl, e1, .cons (.ty _) (.cons (.ty _) .nil), ht, hk, ?_⟩
    repeat (first | refine ⟨_, rfl, ?_⟩ | refine ⟨_, _, rfl, rfl, ?_⟩ | refine ⟨rfl, ?_⟩ | refine ⟨_, _, rfl, ?_⟩ | refine ⟨_, _, _, rfl, ?_⟩ | refine ⟨small_le (by simp), ?_⟩ | refine ⟨Or.inl ⟨by decide, by decide⟩, ?_⟩ | refine ⟨⟨by decide, by decide⟩, ?_⟩ | refine ⟨by show (0 : Int) < _; decide, ?_⟩)
    exact q _ s1
  · obtain ⟨a, rfl, ha, hz⟩ := hv
    refine ⟨_, (pss_cons (ps_if (pt_val (pe_callB call_isiT (by rfl) T.m_isinstance (by decide +kernel) (pa_cons (pv 0) (pa_cons (pe_tup (pa_cons (pe_bltn (v := .ty "list") (by rfl) T.m_list (by decide +kernel) rfl) (pa_cons (pe_bltn (v := .ty "tuple") (by rfl) T.m_tuple (by decide +kernel) rfl) pa_nil))) pa_nil)))) (pss_one (ps_ret (pe_callTy call_tuple_ofB (by rfl) T.m_tuple (by decide +kernel) (pa_cons (pe_lc (own := [("part", 1)]) rfl sc_fixed.nd (pi_tup (pv 0)) (blkOk_by (own := [("part", 1)]) (N := ["value", "part"]) (sc := defScope (top 50)) (by decide +kernel)) (fun _ _ _ _ _ => (pg_name (i := 1) sc_fixed.nd rfl (Or.inl rfl))) (fun _ _ _ _ _ => pts_nil) (fun _ _ _ _ _ => (pc (ok_fixed T) (hr.mono (by decide)) (by first | exact pass0 | exact passL) (pa_cons (pv 1) pa_nil)))) pa_nil)))) pss_nil)
      (pss_one (ps_ret (pv 0)))), ?_⟩
    repeat (first | refine ⟨_, rfl, ?_⟩ | refine ⟨_, _, rfl, rfl, ?_⟩ | refine ⟨rfl, ?_⟩ | refine ⟨_, _, rfl, ?_⟩ | refine ⟨_, _, _, rfl, ?_⟩ | refine ⟨small_le (by simp), ?_⟩ | refine ⟨Or.inl ⟨by decide, by decide⟩, ?_⟩ | refine ⟨⟨by decide, by decide⟩, ?_⟩ | refine ⟨by show (0 : Int) < _; decide, ?_⟩)
    (intro p np; generalize hqZ : upd _ p _ = H1; have s1 := new_same hqZ np; have e1 := new_at hqZ; clear hqZ)
    obtain ⟨t, ht, hk⟩ := tyx_sq (K := K) (.inr (ha.same s1))
    refine ⟨_, p, _, t, [.type "list", .type "tuple"], true, rfl, e1, .cons (.ty _) (.cons (.ty _) .nil), ht, hk, ?_⟩
    repeat (first | refine ⟨_, rfl, ?_⟩ | refine ⟨_, _, rfl, rfl, ?_⟩ | refine ⟨rfl, ?_⟩ | refine ⟨_, _, rfl, ?_⟩ | refine ⟨_, _, _, rfl, ?_⟩ | refine ⟨small_le (by simp), ?_⟩ | refine ⟨Or.inl ⟨by decide, by decide⟩, ?_⟩ | refine ⟨⟨by decide, by decide⟩, ?_⟩ | refine ⟨by show (0 : Int) < _; decide, ?_⟩)
    refine ⟨⟨_, (ha.same s1).sqT⟩, fun D nD => ?_⟩
    refine lc_tup (xs := vi ns) (fun i H' => Same H1 H' ∧ H' D = some (.lst (vi (ns.take i)))) ⟨same_new nD, upd_same⟩ (fun i H' _ p => ((ha.same s1).same p.1).sqT) (fun i x H2 hx hp => ?_) (fun H2 hp => ?_)
    · obtain ⟨p1, p2⟩ := hp
      rw [List.getElem?_map] at hx
      obtain ⟨y, hy, rfl⟩ := Option.map_eq_some_iff.mp hx
      have hi := (List.getElem?_eq_some_iff.mp hy).1
      refine ⟨rfl, ?_⟩
      repeat (first | refine ⟨_, rfl, ?_⟩ | refine ⟨_, _, rfl, rfl, ?_⟩ | refine ⟨rfl, ?_⟩ | refine ⟨_, _, rfl, ?_⟩ | refine ⟨_, _, _, rfl, ?_⟩ | refine ⟨small_le (by simp), ?_⟩ | refine ⟨Or.inl ⟨by decide, by decide⟩, ?_⟩ | refine ⟨⟨by decide, by decide⟩, ?_⟩ | refine ⟨by show (0 : Int) < _; decide, ?_⟩)
      refine ⟨.inl ⟨y, rfl⟩, fun H3 s3 => ?_⟩
      refine ⟨_, s3 _ _ p2, ?_, same_mut (p1.trans s3) nD, ?_⟩
      · have hz : sizeLine = 16777216 := by decide
        simp
        omega
      · rw [upd_same, List.take_add_one, hy]
        simp [vi]
    · obtain ⟨p1, p2⟩ := hp
      rw [List.length_map, List.take_length] at p2
      refine ⟨D, _, rfl, .inl ⟨sqL p2, ?_⟩⟩
      (intro oZ b hoZ nb; generalize hqZ : upd _ b _ = H4; have s4 := new_same hqZ nb; have e4 := new_bq hqZ hoZ; clear hqZ hoZ)
      exact q H4 _ (s1.trans (p1.trans s4)) ⟨b, rfl, e4.t, hz⟩
theorem ok_fixed (T : Tx K mg) : Fx P w K mg base CX0 3 "fixed" (spFixed2 K) := by
  refine Fx.of T.g_fixed T.f_fixed (fnr0 (N := ["value", "part"]) (ps := ["value"]) T.f_fixed sc_fixed (fun _ _ _ _ _ _ us hl => match us, hl with | [_], _ => rfl) (by intro vs H Q E h; repeat (first | (obtain ⟨e, _⟩ := h; subst e; rfl) | (obtain ⟨_, h⟩ := h))) fun cdv A outer s H vs Q E hr h => ?_)
  obtain ⟨a, xs, rfl, ha, hz, hx, q⟩ := h
  have ok_fixed := fun (_ : Tx K mg) => fixed_1 (P := P) (w := w) (base := base) T
  refine ⟨_, (pss_cons (ps_if (pt_val (pe_callB call_isiT (by rfl) T.m_isinstance (by decide +kernel) (pa_cons (pv 0) (pa_cons (pe_tup (pa_cons (pe_bltn (v := .ty "list") (by rfl) T.m_list (by decide +kernel) rfl) (pa_cons (pe_bltn (v := .ty "tuple") (by rfl) T.m_tuple (by decide +kernel) rfl) pa_nil))) pa_nil)))) (pss_one (ps_ret (pe_callTy call_tuple_ofB (by rfl) T.m_tuple (by decide +kernel) (pa_cons (pe_lc (own := [("part", 1)]) rfl sc_fixed.nd (pi_tup (pv 0)) (blkOk_by (own := [("part", 1)]) (N := ["value", "part"]) (sc := defScope (top 50)) (by decide +kernel)) (fun _ _ _ _ _ => (pg_name (i := 1) sc_fixed.nd rfl (Or.inl rfl))) (fun _ _ _ _ _ => pts_nil) (fun _ _ _ _ _ => (pc (ok_fixed T) (hr.mono (by decide)) (by first | exact pass0 | exact passL) (pa_cons (pv 1) pa_nil)))) pa_nil)))) pss_nil)
      (pss_one (ps_ret (pv 0)))), ?_⟩
  repeat (first | refine ⟨_, rfl, ?_⟩ | refine ⟨_, _, rfl, rfl, ?_⟩ | refine ⟨rfl, ?_⟩ | refine ⟨_, _, rfl, ?_⟩ | refine ⟨_, _, _, rfl, ?_⟩ | refine ⟨small_le (by simp), ?_⟩ | refine ⟨Or.inl ⟨by decide, by decide⟩, ?_⟩ | refine ⟨⟨by decide, by decide⟩, ?_⟩ | refine ⟨by show (0 : Int) < _; decide, ?_⟩)
  (intro p np; generalize hqZ : upd _ p _ = H1; have s1 := new_same hqZ np; have e1 := new_at hqZ; clear hqZ)
  obtain ⟨t, ht, hk⟩ := tyx_sq (K := K) (.inr (ha.same s1))
  refine ⟨_, p, _, t, [.type "list", .type "tuple"], true, rfl, e1, .cons (.ty _) (.cons (.ty _) .nil), ht, hk, ?_⟩
  repeat (first | refine ⟨_, rfl, ?_⟩ | refine ⟨_, _, rfl, rfl, ?_⟩ | refine ⟨rfl, ?_⟩ | refine ⟨_, _, rfl, ?_⟩ | refine ⟨_, _, _, rfl, ?_⟩ | refine ⟨small_le (by simp), ?_⟩ | refine ⟨Or.inl ⟨by decide, by decide⟩, ?_⟩ | refine ⟨⟨by decide, by decide⟩, ?_⟩ | refine ⟨by show (0 : Int) < _; decide, ?_⟩)
  refine ⟨⟨_, (ha.same s1).sqT⟩, fun D nD => ?_⟩
  refine lc_tup (xs := xs) (fun i H' => Same H1 H' ∧ ∃ ws, H' D = some (.lst ws) ∧ Paired (Cpy K H') (xs.take i) ws) ⟨same_new nD, [], upd_same, .nil⟩ (fun i H' _ p => ((ha.same s1).same p.1).sqT) (fun i x H2 hxi hp => ?_) (fun H2 hp => ?_)
  · obtain ⟨p1, ws, p2, p3⟩ := hp
    have hi := (List.getElem?_eq_some_iff.mp hxi).1
    have hm := hx x (List.mem_of_getElem? hxi)
    have s02 : Same H H2 := s1.trans p1
    have hl := p3.length
    -- the part's copy is w
    have go : ∀ H3 wv, Same H2 H3 → Cpy K H3 x wv → ∃ acc, H3 D = some (.lst acc) ∧ acc.length < sizeLine ∧ (fun (i : Nat) (H' : Hp) => Same H1 H' ∧ ∃ ws, H' D = some (.lst ws) ∧ Paired (Cpy K H') (xs.take i) ws) (i + 1) (upd H3 D (.lst (acc ++ [wv]))) := by
      intro H3 wv s3 hc
      have sf : Same H (upd H3 D (.lst (ws ++ [wv]))) := same_mut (s02.trans s3) (s1.free nD)
      refine ⟨ws, s3 _ _ p2, small_lt ?_, same_mut (p1.trans s3) nD, _, upd_same, ?_⟩
      · rw [← hl, List.length_take]
        omega
      · have keep : ∀ v wv', Cpy K H3 v wv' → Cpy K (upd H3 D (.lst (ws ++ [wv]))) v wv' := by
          have kq : ∀ {y : Addr} {ys : List V}, Tq H3 y ys → Tq (upd H3 D (.lst (ws ++ [wv]))) y ys := fun {y ys} hy => by
            have hne : y ≠ D := hy.ne (s3 _ _ p2) (fun _ z => by cases z) (fun _ _ z => by cases z)
            rcases hy with hy | ⟨o, ho, hy⟩
            · exact .inl (by rw [upd_ne hne]; exact hy)
            · exact .inr ⟨o, ho, by rw [upd_ne hne]; exact hy⟩
          rintro v wv' (⟨hv, e⟩ | ⟨ns, ⟨y, rfl, h1, h2⟩, ⟨y', rfl, h1', h2'⟩⟩)
          · refine .inl ⟨?_, e⟩
            rcases hv with hv | ⟨xx, nn, ev, dx, tt, f1, f2⟩
            · exact .inl hv
            · refine .inr ⟨xx, nn, ev, dx, tt, ?_, ?_⟩
              · rw [upd_ne (ne_of f1 (s3 _ _ p2) (by intro z; cases z))]
                exact f1
              · obtain ⟨o, ho, f2⟩ := f2
                exact ⟨o, ho, by rw [upd_ne (ne_of f2 (s3 _ _ p2) (by intro z; cases z))]; exact f2⟩
          · exact .inr ⟨ns, ⟨y, rfl, kq h1, h2⟩, ⟨y', rfl, kq h1', h2'⟩⟩
        have ex : xs.take (i + 1) = xs.take i ++ [x] := by rw [List.take_add_one, hxi]; rfl
        rw [ex]
        exact paired_snoc (paired_imp (fun v wv' hc' => keep _ _ (hc'.same s3)) p3) (keep _ _ hc)
    refine ⟨rfl, ?_⟩
    repeat (first | refine ⟨_, rfl, ?_⟩ | refine ⟨_, _, rfl, rfl, ?_⟩ | refine ⟨rfl, ?_⟩ | refine ⟨_, _, rfl, ?_⟩ | refine ⟨_, _, _, rfl, ?_⟩ | refine ⟨small_le (by simp), ?_⟩ | refine ⟨Or.inl ⟨by decide, by decide⟩, ?_⟩ | refine ⟨⟨by decide, by decide⟩, ?_⟩ | refine ⟨by show (0 : Int) < _; decide, ?_⟩)
    rcases hm with hm | ⟨ns, hm⟩
    · refine .inl ⟨hm.same s02, fun H3 s3 => ?_⟩
      exact go H3 x s3 (.inl ⟨hm.same (s02.trans s3), rfl⟩)
    · refine .inr ⟨ns, hm.same s02, fun H3 wv s3 hw => ?_⟩
      exact go H3 wv s3 (.inr ⟨ns, hm.same (s02.trans s3), hw⟩)
  · obtain ⟨p1, ws, p2, p3⟩ := hp
    rw [List.take_length] at p3
    refine ⟨D, _, rfl, .inl ⟨sqL p2, ?_⟩⟩
    (intro oZ b hoZ nb; generalize hqZ : upd _ b _ = H4; have s4 := new_same hqZ nb; have e4 := new_bq hqZ hoZ; clear hqZ hoZ)
    exact q H4 b ws (s1.trans (p1.trans s4)) e4.t (paired_imp (fun _ _ h => h.same s4) p3)
end
end Bh

/-! WS -/
set_option maxHeartbeats 4000000
/-! a def whose body begins with super().__init__(..) -/
namespace Bh
open PySem PySem.Spec PyProof.Rows L2
open NdefX (NF envF ncx NScope startF inv_startN CellsAt)
/-- what K holds of a class's __init__ that says super() -/
structure SupD (P : Program) (K : PySem.W.Frag) (f C : Addr) (name qual : Str) (params : Arguments) (body : List Stmt) (scope : Scope) (cc cda : Addr) : Prop where
  at_ : ∃ (oc : Value) (od : Option Addr) (osl : Array (Option Value)) (kV doc pm ct : Value) (an : Option Addr), K.lookup f = some ⟨oc, od, .func (PySem.W.fnX name qual params body scope [("__class__", cc)] .none kV doc pm an (.ref cda) ct), osl⟩
  code : PySem.W.codeIn K (.ref cda) qual = true
  file : ∃ (ccl : Value) (cdd : Option Addr) (vs : Array Value) (ccs : Array (Option Value)) (file : Str) (tf : Tok), K.lookup cda = some ⟨ccl, cdd, .fields vs, ccs⟩ ∧ vs[2]? = some (.str file tf) ∧ ((P.main.file : Str) == file) = true
  cell : ∃ (cl : Value) (cld : Option Addr) (csl : Array (Option Value)), K.lookup cc = some ⟨cl, cld, .cell (some (.ref C)), csl⟩
  cls : ∃ cd, PySem.W.clsIn K C = some cd
  sub : PySem.W.mroIn K C (.ref C) = some true
/-- .. from the head's facts -/
theorem supD_of {K : PySem.W.Frag} {f C : Addr} {d : DefC} (h : supB K f C d.qual = true) (e : fnC K f = d.val) : ∃ cc cda, SupD R.prog K f C d.name d.qual d.params d.body d.scope cc cda := by
  unfold fnC at e
  unfold supB at h
  cases q : K.lookup f with
  | none =>
    rw [q] at h
    cases h
  | some o =>
    obtain ⟨oc, od, dt, osl⟩ := o
    rw [q] at h e
    cases dt with
    | func fd =>
      obtain ⟨n1, n2, n3, n4, n5, n6, n7, n8, n9, n10, n11, n12, n13, n14, n15⟩ := fd
      have e2 : (some (n1, n2, n3, n4, n5, n6, n7.map (·.1), n8, n15) : Bh.FnC) = some (d.name, d.qual, d.params, FuncBody.stmts d.body, d.scope, mainGlobals, [("__class__" : Str)], Value.none, builtinsNs) := e
      simp only [Option.some.injEq, Prod.mk.injEq] at e2
      obtain ⟨h1, h2, h3, h4, h5, h6, h7, h8, h9⟩ := e2
      subst h1 h2 h3 h4 h5 h6 h8 h9
      obtain ⟨k1, h⟩ := He.ba h
      obtain ⟨k2, h⟩ := He.ba h
      obtain ⟨k3, h⟩ := He.ba h
      obtain ⟨k4, k5⟩ := He.ba h
      cases n13 with
      | ref cda =>
        match n7, h7 with
        | [(x, cc)], h7 =>
          have hx : x = "__class__" := by
            have := List.cons.inj h7
            exact this.1
          subst hx
          refine ⟨cc, cda, ⟨oc, od, osl, n9, n10, n11, n14, n12, q⟩, k1, ?_, ?_, Option.isSome_iff_exists.mp k4, of_decide_eq_true k5⟩
          · cases q2 : K.lookup cda with
            | none =>
              simp only [q2] at k2
              cases k2
            | some o2 =>
              obtain ⟨oc2, od2, dt2, osl2⟩ := o2
              simp only [q2] at k2
              cases dt2 with
              | fields vs =>
                cases q3 : (vs[2]? : Option Value) with
                | none =>
                  simp only [q3] at k2
                  cases k2
                | some v =>
                  simp only [q3] at k2
                  cases v with
                  | str file tf => exact ⟨_, _, vs, _, file, tf, rfl, q3, k2⟩
                  | _ => cases k2
              | _ => cases k2
          · have k3' : (match K.lookup cc with
                | some ⟨_, _, .cell (some (.ref D)), _⟩ => decide (D = C)
                | _ => false) = true := k3
            cases q2 : K.lookup cc with
            | none =>
              rw [q2] at k3'
              cases k3'
            | some o2 =>
              obtain ⟨oc2, od2, dt2, osl2⟩ := o2
              rw [q2] at k3'
              cases dt2 with
              | cell c =>
                cases c with
                | none => cases k3'
                | some v =>
                  cases v with
                  | ref D =>
                    have e3 : D = C := of_decide_eq_true k3'
                    subst e3
                    exact ⟨_, _, _, rfl⟩
                  | _ => cases k3'
              | _ => cases k3'
      | _ => cases k2
    | _ => cases h
section
variable {P : Program} {w : World} {K : PySem.W.Frag} {mg : Str → Option Value} {base : Heap} {CX : CXT} {name qual : Str} {params : Arguments} {scope : Scope} {f C g cc cda : Addr} {N ps : List Str} {k : Nat} {sp spP : Sp}
theorem fnr_super {e : Expr} {es : List Expr} {rest : List Stmt} {p0 p1 p2 p3 p4 : Pos} {ar : Arg} {pl : Sem Bool}
    (S : SupD P K f C name qual params (.Expr (.Call (.Attribute (.Call (.Name "super" p0) [] [] p1) "__init__" p2) (e :: es) [] p3) p4 :: rest) scope cc cda) (ms : mg "super" = none) (htop : (P.main.scope.names.lookup ("super" : Str)).isSome = false) (opq : PySem.W.nsIn K cStatics "thirdparty.any" = some none) (hsup : PySem.W.ks_superIn K C C "__init__" = some (some (.ref g))) (hty : PySem.W.typeIn K (.ref g) = some (.type "function")) (hfi : PySem.W.fnIn K g = true)
    (Sc : NScope N ps ["__class__"] scope) (hp : (params.posonlyargs ++ params.args).head? = some ar) (hp0 : ps.head? = some ar.arg)
    (hks : scope.names.lookup ("super" : Str) = some .globalImplicit) (hka : scope.names.lookup ar.arg = some .local)
    (hb : ∀ (kV doc pm : Value) (an : Option Addr) (ct : Value) (us : List Value), us.length = ps.length → bindArgs (PySem.W.fnX name qual params (.Expr (.Call (.Attribute (.Call (.Name "super" p0) [] [] p1) "__init__" p2) (e :: es) [] p3) p4 :: rest) scope [("__class__", cc)] .none kV doc pm an (.ref cda) ct) ⟨us, []⟩ = pure (ps.zip us))
    (len : ∀ vs H Q E, sp vs H Q E → vs.length = ps.length) (FP : FnR P w K mg base CX k g spP) (hCX : ∀ (outer : List Env) (env : Env) (s : Shared) (H : Hp) (E : XK) (u : Value) (s' : Shared), ¬ CX outer H s E u s')
    (he : ∀ (L : Addr), eval (.Call (.Attribute (.Call (.Name "super" p0) [] [] p1) "__init__" p2) (e :: es) [] p3) (envF ⟨name, qual, params, rest, scope, [("__class__", cc)], cda⟩ f L) = (do
      let ov ← attributeBase (.Call (.Name "super" p0) [] [] p1) "__init__" (envF ⟨name, qual, params, rest, scope, [("__class__", cc)], cda⟩ f L) (eval (.Call (.Name "super" p0) [] [] p1) (envF ⟨name, qual, params, rest, scope, [("__class__", cc)], cda⟩ f L))
      standAt p2.atName
      let (fx, first) ← holding [ov] (getMethod ov "__init__" pl)
      callWith p3 fx first (backTo p3 (starEach (e :: es) (envF ⟨name, qual, params, rest, scope, [("__class__", cc)], cda⟩ f L))) []))
    (hsw : ∀ (L : Addr), swapsWith (.Call (.Attribute (.Call (.Name "super" p0) [] [] p1) "__init__" p2) (e :: es) [] p3) none p4.line (envF ⟨name, qual, params, rest, scope, [("__class__", cc)], cda⟩ f L) = pure false)
    (hst : ∀ (L : Addr), starEach (e :: es) (envF ⟨name, qual, params, rest, scope, [("__class__", cc)], cda⟩ f L) = (false, eval e (envF ⟨name, qual, params, rest, scope, [("__class__", cc)], cda⟩ f L)) :: starEach es (envF ⟨name, qual, params, rest, scope, [("__class__", cc)], cda⟩ f L))
    (hpl : ∀ (L : Addr), (backTo p3 (starEach es (envF ⟨name, qual, params, rest, scope, [("__class__", cc)], cda⟩ f L))).any (·.1) = false)
    (hbody : ∀ (A : Around) (outer : List Env) (s : Shared) (H : Hp) (vs : List V) (Q : VK) (E : XK), Room k (A.deeper (envF ⟨name, qual, params, rest, scope, [("__class__", cc)], cda⟩ f s.heap.objs.size)) → sp vs H Q E →
      ∃ t tr, PA (ncx CX P w K mg base N ⟨name, qual, params, rest, scope, [("__class__", cc)], cda⟩ f A outer s H E) (e :: es) t ∧ PSs (ncx CX P w K mg base N ⟨name, qual, params, rest, scope, [("__class__", cc)], cda⟩ f A outer s H E) rest tr ∧
        ∃ x dx fs, vs[0]? = some (.ref x) ∧ H x = some (.ins C dx fs) ∧ ∀ q, H q = none → t (startF N vs [some (.ref C)]) (upd H q (.met g x)) fun ws H1 => H1 q = some (.met g x) ∧ spP (.ref x :: ws) H1 (fun v H2 => tr { nx := fun _ H' => Q .non H', rt := Q } (startF N vs [some (.ref C)]) H2) E) :
    FnR P w K mg base CX (k + 1) f sp := by
  intro A outer s H us vs Q E hr e0 r hsp
  obtain ⟨oc, od, osl, kV, doc, pm, ct, an, lk⟩ := S.at_
  have KX : K.In s.heap := e0.mod.kin.keeps fun b o z => (e0.bs b o z).1
  have lim : s.heap.NoLimit := e0.mod.nolimit.keeps fun b o z => (e0.bs b o z).1
  have hl := len _ _ _ _ hsp
  have KB : K.In base := e0.mod.kin
  obtain ⟨ccl, cdd, vs2, ccs, file, tf, hcda, hv2, hfile⟩ := S.file
  obtain ⟨cl, cld, csl, hcell⟩ := S.cell
  obtain ⟨cdD, hD⟩ := S.cls
  have hcc : H cc = none := (e0.bs _ _ (KB _ _ hcell)).2
  have C0 : CellsAt [("__class__", cc)] ["__class__"] [some (V.ref C)] s.heap H := by
    have e1 : ∀ (y : Str) (c : Addr), ([("__class__", cc)] : List (Str × Addr)).lookup y = some c → y = "__class__" ∧ c = cc := by
      intro y c z
      by_cases hy : y = "__class__"
      · subst hy
        exact ⟨rfl, (Option.some.inj z).symm⟩
      · have hb : (y == ("__class__" : Str)) = false := beq_eq_false_iff_ne.mpr hy
        simp [List.lookup, hb] at z
    refine ⟨rfl, fun y c z => ?_, fun x y c z1 z2 => ?_, fun i y z => ?_⟩
    · obtain ⟨_, rfl⟩ := e1 y c z
      exact ⟨hcc, _, _, KX _ _ hcell, rfl⟩
    · rw [(e1 x c z1).1, (e1 y c z2).1]
    · have hi : i = 0 ∧ y = "__class__" := by
        match i, z with
        | 0, z => exact ⟨rfl, (Option.some.inj z).symm⟩
      obtain ⟨rfl, rfl⟩ := hi
      refine ⟨cc, rfl, fun v z => ⟨.ref C, ?_, _, KX _ _ hcell, rfl⟩⟩
      have : v = V.ref C := (Option.some.inj (Option.some.inj z)).symm
      subst this
      rfl
  obtain ⟨t, tr, hA, hR, x, dx, fs, hx0, hxH, hq⟩ := hbody A outer s H vs Q E (hr.deeper _) hsp
  refine ks_codeAny_call_defAt (fd := PySem.W.fnX name qual params (.Expr (.Call (.Attribute (.Call (.Name "super" p0) [] [] p1) "__init__" p2) (e :: es) [] p3) p4 :: rest) scope [("__class__", cc)] .none kV doc pm an (.ref cda) ct)
    (body := .Expr (.Call (.Attribute (.Call (.Name "super" p0) [] [] p1) "__init__" p2) (e :: es) [] p3) p4 :: rest) (binds := ps.zip us) hr.depth (KX _ _ lk) rfl lim (PySem.W.codeRec_of KX S.code) rfl (.of_eq (hb kV doc pm an ct us (by rw [← r.length]; exact hl)))
    Sc.nocell (fun y hy => Sc.par y.1 (List.of_mem_zip hy).1) (fun h₁ hns kp => ?_) Sc.co Sc.gen Sc.kind
  have I : L2.Inv (ncx CX P w K mg base N ⟨name, qual, params, rest, scope, [("__class__", cc)], cda⟩ f A outer s H E) [] (startF N vs [some (V.ref C)]) H { s with heap := h₁, toks := s.toks + (ps.zip us).length } :=
    inv_startN Sc hr.hd e0 hl r C0 hns kp
  have K1 : K.In h₁ := KX.keeps kp
  have hkc : scope.names.lookup ("__class__" : Str) = some .free := Sc.frk _ (by simp)
  -- self
  have hself : (ps.zip us).reverse.lookup ar.arg = some (Value.ref x) := by
    obtain ⟨u, hu, ru⟩ := r.get hx0
    have eu : u = Value.ref x := ru
    subst eu
    have h0 : ps[0]? = some ar.arg := by rw [← List.head?_eq_getElem?]; exact hp0
    have hpn : ps.Nodup := by
      have q := Sc.nd.sublist (List.take_sublist (ps.length + 1) N)
      have e2 := Sc.pre
      simp only [List.length_cons, List.length_nil] at e2
      rw [e2] at q
      exact (List.nodup_append.mp q).1
    exact NdefX.zip_look hpn h0 hu
  obtain ⟨mA, O, _, _, _, _⟩ := ins_get I.hok hxH
  obtain ⟨odx, J, _⟩ := O.look
  obtain ⟨oD, hD1, hD2⟩ : ∃ oD, h₁.get? C = some oD ∧ oD.data = .cls cdD := by
    unfold PySem.W.clsIn at hD
    split at hD
    · rename_i c d cd' sl ho
      cases hD
      exact ⟨_, K1 _ _ ho, rfl⟩
    · cases hD
  refine ks_wpAt_execs_cons (ks_wpAt_Expr_any (ks_wpAt_MethodCall (pl := pl) ?_ (he _)) I.quiet (hsw _))
  refine ks_wpAt_super_base (env := envF ⟨name, qual, params, rest, scope, [("__class__", cc)], cda⟩ f s.heap.objs.size) hks hkc (by decide) rfl (K1 _ _ lk) rfl hp rfl (K1 _ _ hcda) rfl hv2 hfile htop ?_
  obtain ⟨mb, hb1, hb2⟩ := I.mod.blt
  refine PySem.W.ks_loadName_global Sc.kind hks (PySem.Calls.loadGlobal_builtin (env := envF ⟨name, qual, params, rest, scope, [("__class__", cc)], cda⟩ f s.heap.objs.size) (I.mod.glob.keeps I.bk) ms (hb1.keeps I.bk) ((hb2 _ (by decide)).trans (by decide +kernel : bootBuiltins "super" = some (.type "super"))) ⟨rfl, ?_⟩)
  refine wpAny_loadName_free Sc.kind hkc rfl ⟨_, K1 _ _ hcell, rfl⟩ ?_
  refine wpAny_loadName_local Sc.kind hka hns hself ?_
  refine ks_wpAny_isType_cls hD1 hD2 ⟨rfl, ?_⟩
  refine ks_wpAny_call_super hD1 hD2 J.at_ J.cls (fun c z => ?_) (PySem.W.looks_mroIn K1 S.sub) (fun h2 e2 k2 => ?_)
  · have := J.no
    unfold PySem.W.notCls at this
    rw [z] at this
    exact Bool.noConfusion this
  have I2 := I.kept (t' := s.toks + (ps.zip us).length) k2
  have K2 : K.In h2 := K1.keeps k2
  obtain ⟨of, hof, hofc⟩ : ∃ of, h2.get? g = some of ∧ of.cls = .type "function" := by
    have ht' : (K.lookup g).map (·.cls) = some (.type "function") := hty
    cases z : K.lookup g with
    | none => rw [z] at ht'; cases ht'
    | some of => rw [z] at ht'; exact ⟨of, K2 _ _ z, Option.some.inj ht'⟩
  unfold PySem.W.ks_superIn at hsup
  cases hcC : PySem.W.clsIn K C with
  | none => rw [hcC] at hsup; cases hsup
  | some cdC =>
    rw [hcC, Option.bind_some] at hsup
    refine ks_wpAny_getMethod_super e2 (PySem.W.looks_opaque K2 opq) (l₀ := cdC.mro) ?_ rfl K2 hsup hof hofc (PySem.W.ks_ne K1 J hcC) (by decide) ?_
    · exact fun A Q E s k q => wpAny_bind ((PySem.W.looks_clsIn K2 hcC) A _ E s k (wpAny_pure q))
    have nq : H h2.objs.size = none := I2.hok.fresh (Nat.le_refl _)
    have I3 : L2.Inv (ncx CX P w K mg base N ⟨name, qual, params, rest, scope, [("__class__", cc)], cda⟩ f A outer s H E) [] (startF N vs [some (V.ref C)]) (upd H h2.objs.size (.met g x)) { s with heap := h2.push (PySem.W.methodObj (.ref g) (.ref x)), toks := s.toks + (ps.zip us).length + 1 } :=
      I2.laid (t' := s.toks + (ps.zip us).length + 1) (a := h2.objs.size) (o := .met g x) (fun b u z => Heap.get?_push_of_some _ z) (Nat.le_refl _)
        (show (h2.push (PySem.W.methodObj (.ref g) (.ref x))).get? h2.objs.size = some (PySem.W.methodObj (.ref g) (.ref x)) from Heap.get?_push_size h2 rfl)
    have hA2 := hA.run p3 [] _ (startF N vs [some (V.ref C)]) _ _ I3 (hq _ nq)
    change wpAny _ _ (callWith p3 (.ref h2.objs.size) [] (backTo p3 (starEach (e :: es) (envF ⟨name, qual, params, rest, scope, [("__class__", cc)], cda⟩ f s.heap.objs.size))) []) _ _ _
    change wpAny _ _ (spliced (backTo p3 (starEach (e :: es) (envF ⟨name, qual, params, rest, scope, [("__class__", cc)], cda⟩ f s.heap.objs.size)))) _ _ _ at hA2
    rw [hst] at hA2 ⊢
    refine callwith_met (a := x) (X := ncx CX P w K mg base N ⟨name, qual, params, rest, scope, [("__class__", cc)], cda⟩ f A outer s H E) (by
      show ((false || (backTo p3 (starEach es (envF ⟨name, qual, params, rest, scope, [("__class__", cc)], cda⟩ f s.heap.objs.size))).any (·.1)) || false) = false
      rw [hpl]; rfl) hfi (PySem.Calls.evalArgs_plain ?_)
    refine wpAny_mono hA2 (fun us2 s4 h4 => ?_) fun _ _ z => z
    obtain ⟨ws, H4, I4, rw4, hm4, hsp4⟩ := h4
    refine ⟨met_P I4 hm4, ?_⟩
    refine wpAny_call (PySem.W.method_call (met_P I4 hm4).1 (codeAny_mono (run_fnR (us := Value.ref x :: us2) (vs := V.ref x :: ws) FP (hr.deeper _) (fun _ _ _ _ _ _ _ z => absurd z (hCX _ (envF ⟨name, qual, params, rest, scope, [("__class__", cc)], cda⟩ f s.heap.objs.size) _ _ _ _ _)) I4 (.cons rfl rw4) hsp4) fun r5 s5 h5 => ?_))
    cases r5 with
    | error e5 => exact h5
    | ok fl5 =>
      cases fl5 with
      | ret u5 =>
        obtain ⟨v5, H5, I5, rv5, hq5⟩ := h5
        refine PySem.wpAt_of_wpAny ?_
        refine wpAny_mono (hR.run [] _ (startF N vs [some (V.ref C)]) H5 _ I5 hq5) (fun fl s' hs => ?_) fun e s' hs => hs
        have fin : ∀ {σ' : L2.St} {H' : Hp} {v : V} {u : Value}, L2.Inv (ncx CX P w K mg base N ⟨name, qual, params, rest, scope, [("__class__", cc)], cda⟩ f A outer s H E) [] σ' H' s' → L2.RelV v u → Q v H' → CE outer P w H s Q u s' :=
          fun {σ' H' v u} J rv q => ⟨v, H', J.os, J.bare, J.base, J.hok, rv, q⟩
        cases fl with
        | ret u =>
          obtain ⟨v, σ', H', J, rv, q⟩ := hs
          exact fin J rv q
        | next =>
          obtain ⟨σ', H', J, q⟩ := hs
          exact fin (v := V.non) (u := Value.none) J rfl q
        | brk =>
          obtain ⟨_, _, _, q⟩ := hs
          exact False.elim q
        | cont =>
          obtain ⟨_, _, _, q⟩ := hs
          exact False.elim q
      | next => exact False.elim h5
      | brk => exact False.elim h5
      | cont => exact False.elim h5
end
end Bh

/-! W7 -/
set_option maxHeartbeats 4000000
namespace Bh
open PySem PySem.Spec PyProof.Rows L2
open NdefX (NF envF ncx NScope startF nscope_by nscB)
section
variable {P : Program} {w : World} {K : PySem.W.Frag} {mg : Str → Option Value} {base : Heap}
/-! ### Paper, Least, Sign -/
theorem sc_Paper_init : FnScope ["self", "word", "parts"] ["self", "word", "parts"] (defScope (inClass (top 51) 0)) := ⟨rfl, rfl, rfl, by decide +kernel, rfl, by decide +kernel, by decide +kernel⟩
/-- a new instance's two fields -/
def PapAt (H : Hp) (x C dx : Addr) (wd : Str) (b : Addr) : Prop := H x = some (.ins C dx [("word", .str wd), ("parts", .ref b)])
def spPaper (K : PySem.W.Frag) : Sp := fun vs H Q _ => ∃ (x C dx t : Addr) (wd : Str) (xs : List V), vs = [.ref x, .str wd, .ref t] ∧ H x = some (.ins C dx []) ∧ Cls K C ∧ NoAttr K C "word" ∧ NoAttr K C "parts" ∧ Tq H t xs ∧ xs.length ≤ 10 ∧ (∀ v ∈ xs, Leaf K H v ∨ ∃ ns, Nums H v ns) ∧
  ∀ H' b ws, SameX x H H' → PapAt H' x C dx wd b → Tq H' b ws → Paired (Cpy K H') xs ws → Q .non H'
def spPaperV (K : PySem.W.Frag) : Sp := fun vs H Q E => ∃ ws rest, vs = ws ++ rest ∧ ws.length = 2 ∧ rest.length ≤ sizeLine ∧ ∀ p, H p = none → spPaper K (ws ++ [V.ref p]) (upd H p (.tup rest)) Q E
theorem paper_bind {kV doc pm cdv ct : Value} {an : Option Addr} : ∀ us rest : List Value, us.length = (["self", "word"] : List Str).length →
    bindArgs (PySem.W.fnOf "__init__" "Paper.__init__" (defArgs (inClass (top 51) 0)) (defBody (inClass (top 51) 0)) (defScope (inClass (top 51) 0)) .none kV doc pm an cdv ct) ⟨us ++ rest, []⟩ = (newTuple rest >>= fun t => pure ((["self", "word"] : List Str).zip us ++ [(("parts" : Str), t)])) :=
  StX.bind_star2 (B := fun l => bindArgs (PySem.W.fnOf "__init__" "Paper.__init__" (defArgs (inClass (top 51) 0)) (defBody (inClass (top 51) 0)) (defScope (inClass (top 51) 0)) .none kV doc pm an cdv ct) ⟨l, []⟩) (p1 := "self") (p2 := "word") (pv := "parts") (fun a b => rfl) (fun a b r rs => rfl)
theorem ok_Paper_init (T : Tx K mg) : FnR P w K mg base CX0 4 (He.ma K (He.ga K "Paper") "__init__") (spPaperV K) := by
  obtain ⟨fd, F⟩ := T.f_Paper_init
  obtain ⟨oc, od, dV, kV, doc, pm, an, cdv, ct, osl, rfl, lk, hcd, hd, _⟩ := F.ex
  have e0 : dV = .none := by
    rcases hd with ⟨_, e⟩ | ⟨hd, _⟩
    · exact e
    · exact absurd rfl hd
  subst e0
  refine StX.fn_star (N := ["self", "word", "parts"]) (ps := ["self", "word"]) (pv := "parts") (sp := spPaper K) lk hcd sc_Paper_init StX.cxUp_none paper_bind fun A outer s H vs Q E hr h => ?_
  obtain ⟨x, C, dx, t, wd, xs, rfl, hx, cl, n1, n2, ht, hz, hl, q⟩ := h
  refine ⟨_, PSs.nox (pss_cons (ps_fld (pv 0) (pv 1) rfl)
      (pss_one (ps_fld (pv 0) (pc (ok_fixed T) (hr.mono (by decide)) (by first | exact pass0 | exact passL) (pa_cons (pv 2) pa_nil)) rfl))), ?_⟩
  repeat (first | refine ⟨_, rfl, ?_⟩ | refine ⟨_, _, rfl, rfl, ?_⟩ | refine ⟨rfl, ?_⟩ | refine ⟨_, _, rfl, ?_⟩ | refine ⟨_, _, _, rfl, ?_⟩ | refine ⟨small_le (by simp), ?_⟩ | refine ⟨Or.inl ⟨by decide, by decide⟩, ?_⟩ | refine ⟨⟨by decide, by decide⟩, ?_⟩ | refine ⟨by show (0 : Int) < _; decide, ?_⟩)
  refine ⟨x, C, dx, [], rfl, hx, cl, n1, by decide, ?_⟩
  have htx : t ≠ x := ht.ne hx (fun _ z => by cases z) (fun _ _ z => by cases z)
  have x1 : SameX x H (upd H x (.ins C dx (putF "word" (.str wd) []))) := SameX.set (Same.x (Same.refl H))
  have e1 : (upd H x (.ins C dx (putF "word" (.str wd) []))) x = _ := upd_same
  generalize upd H x (.ins C dx (putF "word" (.str wd) [])) = H1 at x1 e1 ⊢
  have tqx : ∀ {H1 : Hp} {a : Addr} {ys : List V}, SameX x H H1 → Tq H a ys → Tq H1 a ys := fun {H1 a ys} hx1 h => by
    have hne : a ≠ x := h.ne hx (fun _ z => by cases z) (fun _ _ z => by cases z)
    rcases h with h | ⟨o, ho, h⟩
    · exact .inl (hx1 _ _ hne h)
    · exact .inr ⟨o, ho, hx1 _ _ hne h⟩
  repeat (first | refine ⟨_, rfl, ?_⟩ | refine ⟨_, _, rfl, rfl, ?_⟩ | refine ⟨rfl, ?_⟩ | refine ⟨_, _, rfl, ?_⟩ | refine ⟨_, _, _, rfl, ?_⟩ | refine ⟨small_le (by simp), ?_⟩ | refine ⟨Or.inl ⟨by decide, by decide⟩, ?_⟩ | refine ⟨⟨by decide, by decide⟩, ?_⟩ | refine ⟨by show (0 : Int) < _; decide, ?_⟩)
  refine ⟨t, xs, rfl, tqx x1 ht, hz, fun v hv => ?_, fun H2 b ws s2 tb pr => ?_⟩
  · rcases hl v hv with (⟨i, e⟩ | ⟨y, ns, e, dy, ty, f1, f2⟩) | ⟨ns, a, e, f1, f2⟩
    · exact .inl (.inl ⟨i, e⟩)
    · refine .inl (.inr ⟨y, ns, e, dy, ty, x1 _ _ (fun z => ?_) f1, ?_⟩)
      · rw [z, hx] at f1
        cases f1
      · obtain ⟨o, ho, f2⟩ := f2
        exact ⟨o, ho, x1 _ _ (ne_of f2 hx (by intro z; cases z)) f2⟩
    · exact .inr ⟨ns, a, e, tqx x1 f1, f2⟩
  repeat (first | refine ⟨_, rfl, ?_⟩ | refine ⟨_, _, rfl, rfl, ?_⟩ | refine ⟨rfl, ?_⟩ | refine ⟨_, _, rfl, ?_⟩ | refine ⟨_, _, _, rfl, ?_⟩ | refine ⟨small_le (by simp), ?_⟩ | refine ⟨Or.inl ⟨by decide, by decide⟩, ?_⟩ | refine ⟨⟨by decide, by decide⟩, ?_⟩ | refine ⟨by show (0 : Int) < _; decide, ?_⟩)
  refine ⟨x, C, dx, _, rfl, s2 _ _ e1, cl, n2, (by show 1 < 1000; decide), ?_⟩
  have hx2 : H2 x = some (.ins C dx (putF "word" (.str wd) [])) := s2 _ _ e1
  have tq2 : ∀ {a : Addr} {ys : List V}, Tq H2 a ys → Tq (upd H2 x (.ins C dx (putF "parts" (.ref b) (putF "word" (.str wd) [])))) a ys := fun {a ys} h => by
    have hne : a ≠ x := h.ne hx2 (fun _ z => by cases z) (fun _ _ z => by cases z)
    rcases h with h | ⟨o, ho, h⟩
    · exact .inl (by rw [upd_ne hne]; exact h)
    · exact .inr ⟨o, ho, by rw [upd_ne hne]; exact h⟩
  refine q _ b ws (SameX.set (x1.same s2)) upd_same (tq2 tb) (paired_imp (fun v v' hc => ?_) pr)
  rcases hc with ⟨hc, e⟩ | ⟨ns, ⟨a, e, f1, f2⟩, ⟨a', e', f1', f2'⟩⟩
  · refine .inl ⟨?_, e⟩
    rcases hc with hc | ⟨y, ns, e, dy, ty, f1, f2⟩
    · exact .inl hc
    · refine .inr ⟨y, ns, e, dy, ty, ?_, ?_⟩
      · rw [upd_ne (fun z => ?_)]
        · exact f1
        · rw [z, hx2] at f1
          cases f1
      · obtain ⟨o, ho, f2⟩ := f2
        exact ⟨o, ho, by rw [upd_ne (ne_of f2 hx2 (by intro z; cases z))]; exact f2⟩
  · exact .inr ⟨ns, ⟨a, e, tq2 f1, f2⟩, ⟨a', e', tq2 f1', f2'⟩⟩

theorem no_super : (R.prog.main.scope.names.lookup ("super" : Str)).isSome = false := by decide +kernel
def LeastAt (K : PySem.W.Frag) (H : Hp) (x : Addr) (ns : List Int) : Prop := ∃ dx wd p y l, H x = some (.ins (He.ga K "Least") dx [("word", wd), ("parts", p), ("four", .ref y), ("letters", l)]) ∧ FourAt K H y ns
theorem LeastAt.same {H H' : Hp} {x : Addr} {ns : List Int} (h : LeastAt K H x ns) (s : Same H H') : LeastAt K H' x ns := by
  obtain ⟨dx, wd, p, y, l, h1, h2⟩ := h
  exact ⟨dx, wd, p, y, l, s _ _ h1, h2.same s⟩
def spLeastInit (K : PySem.W.Frag) : Sp := fun vs H Q _ => ∃ (x dx y l : Addr) (ns ls : List Int), vs = [.ref x, .ref y, .ref l] ∧ H x = some (.ins (He.ga K "Least") dx []) ∧ FourAt K H y ns ∧ Tq H l (vi ls) ∧ ls.length < 16770000 ∧ ∀ H', SameX x H H' → LeastAt K H' x ns → Q .non H'
theorem four_x {H H1 : Hp} {x y : Addr} {ns : List Int} {u : HO} (h : FourAt K H y ns) (hx : H x = some u) (d1 : ∀ dy t n, u ≠ .ins (He.ga K "Four") dy [("bends", .ref t), ("total", .int n)]) (d2 : ∀ o xs, u ≠ .frz o (.tup xs)) (s : SameX x H H1) : FourAt K H1 y ns := by
  obtain ⟨dy, t, h1, o, ho, h2⟩ := h
  exact ⟨dy, t, s _ _ (ne_of h1 hx fun z => d1 _ _ _ z.symm) h1, o, ho, s _ _ (ne_of h2 hx fun z => d2 _ _ z.symm) h2⟩
theorem ok_Least_init (T : Tx K mg) : FnR R.prog w K mg base CX0 5 (He.ma K (He.ga K "Least") "__init__") (spLeastInit K) := by
  obtain ⟨cc, cda, S⟩ := supD_of (d := c_Least_init) T.x_sup_Least T.cs_Least
  refine fnr_super (N := ["self", "four", "letters", "__class__"]) (ps := ["self", "four", "letters"]) S T.m_super no_super T.x_opq T.x_super_Least T.x_ty_Paper_init T.x_fi_Paper (nscope_by (by decide +kernel)) rfl rfl (by decide +kernel) (by decide +kernel)
    (fun _ _ _ _ _ us hl => match us, hl with | [_, _, _], _ => rfl) (by intro vs H Q E h; repeat (first | (obtain ⟨e, _⟩ := h; subst e; rfl) | (obtain ⟨_, h⟩ := h))) (ok_Paper_init (P := R.prog) T) (fun _ _ _ _ _ _ _ z => z) (fun _ => rfl) (fun _ => rfl) (fun _ => rfl) (fun _ => rfl) fun A outer s H vs Q E hr h => ?_
  obtain ⟨x, dx, y, l, ns, ls, rfl, hx, hy, hl, hz, q⟩ := h
  refine ⟨_, _, (pa_cons pe_str (pa_cons (pv 1) (pa_cons (pv 2) pa_nil))), (pss_one (ps_asg (pe_fld (pv 0) rfl) (pg_tup rfl (pgs_cons (pg_fld (pv 0)) (pgs_cons (pg_fld (pv 0)) pgs_nil))))), x, dx, [], rfl, hx, fun m nm => ?_⟩
  have s1 := same_new (o := .met (He.ma K (He.ga K "Paper") "__init__") x) nm
  have em : (upd H m (.met (He.ma K (He.ga K "Paper") "__init__") x)) m = _ := upd_same
  generalize upd H m (.met (He.ma K (He.ga K "Paper") "__init__") x) = H1 at s1 em ⊢
  repeat (first | refine ⟨_, rfl, ?_⟩ | refine ⟨_, _, rfl, rfl, ?_⟩ | refine ⟨rfl, ?_⟩ | refine ⟨_, _, rfl, ?_⟩ | refine ⟨_, _, _, rfl, ?_⟩ | refine ⟨small_le (by simp), ?_⟩ | refine ⟨Or.inl ⟨by decide, by decide⟩, ?_⟩ | refine ⟨⟨by decide, by decide⟩, ?_⟩ | refine ⟨by show (0 : Int) < _; decide, ?_⟩)
  refine ⟨em, [.ref x, .str "least"], [.ref y, .ref l], rfl, rfl, small_le (by simp), fun p np => ?_⟩
  have s2 := same_new (o := .tup [.ref y, .ref l]) np
  have e2 : (upd H1 p (.tup [.ref y, .ref l])) p = _ := upd_same
  generalize upd H1 p (.tup [.ref y, .ref l]) = H2 at s2 e2 ⊢
  have s02 := s1.trans s2
  refine ⟨x, _, dx, p, "least", _, rfl, s02 _ _ hx, T.cls_Least, T.noat_Least_word, T.noat_Least_parts, .inl e2, by simp, fun v hv => ?_, fun H3 b ws x3 hp3 hb3 pr => ?_⟩
  · simp only [List.mem_cons, List.mem_nil_iff, or_false] at hv
    rcases hv with rfl | rfl
    · exact .inl (.inr ⟨y, ns, rfl, hy.same s02⟩)
    · exact .inr ⟨ls, l, rfl, hl.same s02, hz⟩
  have hy3 : FourAt K H3 y ns := four_x (hy.same s02) (s02 _ _ hx) (fun _ _ _ z => by injection z with _ _ h; cases h) (fun _ _ z => by cases z) x3
  cases pr with
  | cons c1 pr =>
    cases pr with
    | cons c2 pr =>
      cases pr
      rename_i w1 w2
      have e1 : w1 = .ref y := by
        rcases c1 with ⟨_, e⟩ | ⟨_, ⟨a, ea, f, _⟩, _⟩
        · exact e
        · cases ea
          obtain ⟨dy, t, g1, _⟩ := hy3
          exact absurd rfl (f.ne g1 (fun _ z => by cases z) (fun _ _ z => by cases z))
      subst e1
      obtain ⟨l2, rfl⟩ : ∃ l2, w2 = .ref l2 := by
        rcases c2 with ⟨_, e⟩ | ⟨_, _, ⟨a, ea, _⟩⟩
        · exact ⟨l, e⟩
        · exact ⟨a, ea⟩
      have hb : b ≠ x := hb3.ne hp3 (fun _ z => by cases z) (fun _ _ z => by cases z)
      repeat (first | refine ⟨_, rfl, ?_⟩ | refine ⟨_, _, rfl, rfl, ?_⟩ | refine ⟨rfl, ?_⟩ | refine ⟨_, _, rfl, ?_⟩ | refine ⟨_, _, _, rfl, ?_⟩ | refine ⟨small_le (by simp), ?_⟩ | refine ⟨Or.inl ⟨by decide, by decide⟩, ?_⟩ | refine ⟨⟨by decide, by decide⟩, ?_⟩ | refine ⟨by show (0 : Int) < _; decide, ?_⟩)
      refine ⟨x, _, dx, _, _, rfl, hp3, T.cls_Least, T.noat_Least_parts, rfl, ?_⟩
      refine ⟨b, _, rfl, hb3.sqT, rfl, ?_⟩
      repeat (first | refine ⟨_, rfl, ?_⟩ | refine ⟨_, _, rfl, rfl, ?_⟩ | refine ⟨rfl, ?_⟩ | refine ⟨_, _, rfl, ?_⟩ | refine ⟨_, _, _, rfl, ?_⟩ | refine ⟨small_le (by simp), ?_⟩ | refine ⟨Or.inl ⟨by decide, by decide⟩, ?_⟩ | refine ⟨⟨by decide, by decide⟩, ?_⟩ | refine ⟨by show (0 : Int) < _; decide, ?_⟩)
      refine ⟨x, _, dx, _, rfl, hp3, T.cls_Least, T.noat_Least_four, (by show 2 < 1000; decide), ?_⟩
      repeat (first | refine ⟨_, rfl, ?_⟩ | refine ⟨_, _, rfl, rfl, ?_⟩ | refine ⟨rfl, ?_⟩ | refine ⟨_, _, rfl, ?_⟩ | refine ⟨_, _, _, rfl, ?_⟩ | refine ⟨small_le (by simp), ?_⟩ | refine ⟨Or.inl ⟨by decide, by decide⟩, ?_⟩ | refine ⟨⟨by decide, by decide⟩, ?_⟩ | refine ⟨by show (0 : Int) < _; decide, ?_⟩)
      refine ⟨x, _, dx, _, rfl, upd_same, T.cls_Least, T.noat_Least_letters, (by show 3 < 1000; decide), ?_⟩
      have x5 := (SameX.set (o := .ins (He.ga K "Least") dx (putF "letters" (V.ref l2) (putF "four" (V.ref y) [("word", V.str "least"), ("parts", V.ref b)]))) (SameX.set (o := .ins (He.ga K "Least") dx (putF "four" (V.ref y) [("word", V.str "least"), ("parts", V.ref b)])) x3))
      refine ⟨rfl, ?_⟩
      refine q _ (fun c o n e => x5 c o n (s02 c o e)) ⟨dx, .str "least", .ref b, y, .ref l2, upd_same, ?_⟩
      exact four_x (hy.same s02) (s02 _ _ hx) (fun _ _ _ z => by injection z with _ _ h; cases h) (fun _ _ z => by cases z) x5
theorem mk_least {H : Hp} {G : Addr → Hp → Prop} {E : XK} {y l : Addr} {ns ls : List Int} (hy : FourAt K H y ns) (hl : Tq H l (vi ls)) (hz : ls.length < 16770000) (q : ∀ H' x, Same H H' → H x = none → LeastAt K H' x ns → G x H') :
    ∀ x dx, H x = none → H dx = none → dx ≠ x → spLeastInit K (V.ref x :: [V.ref y, V.ref l]) (upd (upd H dx (.own x)) x (.ins (He.ga K "Least") dx [])) (fun v H2 => v = .non ∧ G x H2) E := by
  intro x dx hx hdx ne
  have s1 : Same H (upd (upd H dx (.own x)) x (.ins (He.ga K "Least") dx [])) := same_mut (same_new hdx) hx
  exact ⟨x, dx, y, l, ns, ls, rfl, upd_same, hy.same s1, hl.same s1, hz, fun H' h1 h2 => ⟨rfl, q H' x (fun b o e => h1 b o (fun z => by rw [z, hx] at e; cases e) (s1 _ _ e)) hx h2⟩⟩
/-! ### Sign -/
/-- a sign at x: its value -/
def SignAt (K : PySem.W.Frag) (H : Hp) (x : Addr) (v : Int) : Prop := ∃ dx wd p l i j, H x = some (.ins (He.ga K "Sign") dx [("word", wd), ("parts", p), ("value", .int v), ("letters", l), ("place", i), ("at", j)])
theorem SignAt.same {H H' : Hp} {x : Addr} {v : Int} (h : SignAt K H x v) (s : Same H H') : SignAt K H' x v := by
  obtain ⟨dx, wd, p, l, i, j, h1⟩ := h
  exact ⟨dx, wd, p, l, i, j, s _ _ h1⟩
def spSignInit (K : PySem.W.Frag) : Sp := fun vs H Q _ => ∃ (x dx l : Addr) (v i j : Int) (ls : List Int), vs = [.ref x, .int v, .ref l, .int i, .int j] ∧ H x = some (.ins (He.ga K "Sign") dx []) ∧ Tq H l (vi ls) ∧ ls.length < 16770000 ∧ ∀ H', SameX x H H' → SignAt K H' x v → Q .non H'
theorem ok_Sign_init (T : Tx K mg) : FnR R.prog w K mg base CX0 5 (He.ma K (He.ga K "Sign") "__init__") (spSignInit K) := by
  obtain ⟨cc, cda, S⟩ := supD_of (d := c_Sign_init) T.x_sup_Sign T.cs_Sign
  refine fnr_super (N := ["self", "value", "letters", "place", "at", "__class__"]) (ps := ["self", "value", "letters", "place", "at"]) S T.m_super no_super T.x_opq T.x_super_Sign T.x_ty_Paper_init T.x_fi_Paper (nscope_by (by decide +kernel)) rfl rfl (by decide +kernel) (by decide +kernel)
    (fun _ _ _ _ _ us hl => match us, hl with | [_, _, _, _, _], _ => rfl) (by intro vs H Q E h; repeat (first | (obtain ⟨e, _⟩ := h; subst e; rfl) | (obtain ⟨_, h⟩ := h))) (ok_Paper_init (P := R.prog) T) (fun _ _ _ _ _ _ _ z => z) (fun _ => rfl) (fun _ => rfl) (fun _ => rfl) (fun _ => rfl) fun A outer s H vs Q E hr h => ?_
  obtain ⟨x, dx, l, v, i, j, ls, rfl, hx, hl, hz, q⟩ := h
  refine ⟨_, _, (pa_cons pe_str (pa_cons (pv 1) (pa_cons (pv 2) (pa_cons (pv 3) (pa_cons (pv 4) pa_nil))))), (pss_one (ps_asg (pe_fld (pv 0) rfl) (pg_tup rfl (pgs_cons (pg_fld (pv 0)) (pgs_cons (pg_fld (pv 0)) (pgs_cons (pg_fld (pv 0)) (pgs_cons (pg_fld (pv 0)) pgs_nil))))))), x, dx, [], rfl, hx, fun m nm => ?_⟩
  have s1 := same_new (o := .met (He.ma K (He.ga K "Paper") "__init__") x) nm
  have em : (upd H m (.met (He.ma K (He.ga K "Paper") "__init__") x)) m = _ := upd_same
  generalize upd H m (.met (He.ma K (He.ga K "Paper") "__init__") x) = H1 at s1 em ⊢
  repeat (first | refine ⟨_, rfl, ?_⟩ | refine ⟨_, _, rfl, rfl, ?_⟩ | refine ⟨rfl, ?_⟩ | refine ⟨_, _, rfl, ?_⟩ | refine ⟨_, _, _, rfl, ?_⟩ | refine ⟨small_le (by simp), ?_⟩ | refine ⟨Or.inl ⟨by decide, by decide⟩, ?_⟩ | refine ⟨⟨by decide, by decide⟩, ?_⟩ | refine ⟨by show (0 : Int) < _; decide, ?_⟩)
  refine ⟨em, [.ref x, .str "sign"], [.int v, .ref l, .int i, .int j], rfl, rfl, small_le (by simp), fun p np => ?_⟩
  have s2 := same_new (o := .tup [.int v, .ref l, .int i, .int j]) np
  have e2 : (upd H1 p (.tup [.int v, .ref l, .int i, .int j])) p = _ := upd_same
  generalize upd H1 p (.tup [.int v, .ref l, .int i, .int j]) = H2 at s2 e2 ⊢
  have s02 := s1.trans s2
  refine ⟨x, _, dx, p, "sign", _, rfl, s02 _ _ hx, T.cls_Sign, T.noat_Sign_word, T.noat_Sign_parts, .inl e2, by simp, fun u hu => ?_, fun H3 b ws x3 hp3 hb3 pr => ?_⟩
  · simp only [List.mem_cons, List.mem_nil_iff, or_false] at hu
    rcases hu with rfl | rfl | rfl | rfl
    · exact .inl (.inl ⟨v, rfl⟩)
    · exact .inr ⟨ls, l, rfl, hl.same s02, hz⟩
    · exact .inl (.inl ⟨i, rfl⟩)
    · exact .inl (.inl ⟨j, rfl⟩)
  cases pr with
  | cons c1 pr =>
    cases pr with
    | cons c2 pr =>
      cases pr with
      | cons c3 pr =>
        cases pr with
        | cons c4 pr =>
          cases pr
          rename_i w1 w2 w3 w4
          have e1 : w1 = .int v := by
            rcases c1 with ⟨_, e⟩ | ⟨_, ⟨a, ea, f, _⟩, _⟩
            · exact e
            · cases ea
          subst e1
          repeat (first | refine ⟨_, rfl, ?_⟩ | refine ⟨_, _, rfl, rfl, ?_⟩ | refine ⟨rfl, ?_⟩ | refine ⟨_, _, rfl, ?_⟩ | refine ⟨_, _, _, rfl, ?_⟩ | refine ⟨small_le (by simp), ?_⟩ | refine ⟨Or.inl ⟨by decide, by decide⟩, ?_⟩ | refine ⟨⟨by decide, by decide⟩, ?_⟩ | refine ⟨by show (0 : Int) < _; decide, ?_⟩)
          refine ⟨x, _, dx, _, _, rfl, hp3, T.cls_Sign, T.noat_Sign_parts, rfl, ?_⟩
          refine ⟨b, _, rfl, hb3.sqT, rfl, ?_⟩
          repeat (first | refine ⟨_, rfl, ?_⟩ | refine ⟨_, _, rfl, rfl, ?_⟩ | refine ⟨rfl, ?_⟩ | refine ⟨_, _, rfl, ?_⟩ | refine ⟨_, _, _, rfl, ?_⟩ | refine ⟨small_le (by simp), ?_⟩ | refine ⟨Or.inl ⟨by decide, by decide⟩, ?_⟩ | refine ⟨⟨by decide, by decide⟩, ?_⟩ | refine ⟨by show (0 : Int) < _; decide, ?_⟩)
          refine ⟨x, _, dx, _, rfl, hp3, T.cls_Sign, T.noat_Sign_value, (by show 2 < 1000; decide), ?_⟩
          repeat (first | refine ⟨_, rfl, ?_⟩ | refine ⟨_, _, rfl, rfl, ?_⟩ | refine ⟨rfl, ?_⟩ | refine ⟨_, _, rfl, ?_⟩ | refine ⟨_, _, _, rfl, ?_⟩ | refine ⟨small_le (by simp), ?_⟩ | refine ⟨Or.inl ⟨by decide, by decide⟩, ?_⟩ | refine ⟨⟨by decide, by decide⟩, ?_⟩ | refine ⟨by show (0 : Int) < _; decide, ?_⟩)
          refine ⟨x, _, dx, _, rfl, upd_same, T.cls_Sign, T.noat_Sign_letters, (by show 3 < 1000; decide), ?_⟩
          repeat (first | refine ⟨_, rfl, ?_⟩ | refine ⟨_, _, rfl, rfl, ?_⟩ | refine ⟨rfl, ?_⟩ | refine ⟨_, _, rfl, ?_⟩ | refine ⟨_, _, _, rfl, ?_⟩ | refine ⟨small_le (by simp), ?_⟩ | refine ⟨Or.inl ⟨by decide, by decide⟩, ?_⟩ | refine ⟨⟨by decide, by decide⟩, ?_⟩ | refine ⟨by show (0 : Int) < _; decide, ?_⟩)
          refine ⟨x, _, dx, _, rfl, upd_same, T.cls_Sign, T.noat_Sign_place, (by show 4 < 1000; decide), ?_⟩
          repeat (first | refine ⟨_, rfl, ?_⟩ | refine ⟨_, _, rfl, rfl, ?_⟩ | refine ⟨rfl, ?_⟩ | refine ⟨_, _, rfl, ?_⟩ | refine ⟨_, _, _, rfl, ?_⟩ | refine ⟨small_le (by simp), ?_⟩ | refine ⟨Or.inl ⟨by decide, by decide⟩, ?_⟩ | refine ⟨⟨by decide, by decide⟩, ?_⟩ | refine ⟨by show (0 : Int) < _; decide, ?_⟩)
          refine ⟨x, _, dx, _, rfl, upd_same, T.cls_Sign, T.noat_Sign_at, (by show 5 < 1000; decide), ?_⟩
          have x5 : SameX x H2 (upd (upd (upd (upd H3 x (.ins (He.ga K "Sign") dx (putF "value" (V.int v) [("word", V.str "sign"), ("parts", V.ref b)]))) x (.ins (He.ga K "Sign") dx (putF "letters" w2 (putF "value" (V.int v) [("word", V.str "sign"), ("parts", V.ref b)])))) x (.ins (He.ga K "Sign") dx (putF "place" w3 (putF "letters" w2 (putF "value" (V.int v) [("word", V.str "sign"), ("parts", V.ref b)]))))) x (.ins (He.ga K "Sign") dx (putF "at" w4 (putF "place" w3 (putF "letters" w2 (putF "value" (V.int v) [("word", V.str "sign"), ("parts", V.ref b)])))))) := x3.set.set.set.set
          refine ⟨rfl, ?_⟩
          exact q _ (fun c o n e => x5 c o n (s02 c o e)) ⟨dx, .str "sign", .ref b, w2, w3, w4, upd_same⟩
theorem mk_sign {H : Hp} {G : Addr → Hp → Prop} {E : XK} {l : Addr} {v i j : Int} {ls : List Int} (hl : Tq H l (vi ls)) (hz : ls.length < 16770000) (q : ∀ H' x, Same H H' → H x = none → SignAt K H' x v → G x H') :
    ∀ x dx, H x = none → H dx = none → dx ≠ x → spSignInit K (V.ref x :: [V.int v, V.ref l, V.int i, V.int j]) (upd (upd H dx (.own x)) x (.ins (He.ga K "Sign") dx [])) (fun v H2 => v = .non ∧ G x H2) E := by
  intro x dx hx hdx ne
  have s1 : Same H (upd (upd H dx (.own x)) x (.ins (He.ga K "Sign") dx [])) := same_mut (same_new hdx) hx
  exact ⟨x, dx, l, v, i, j, ls, rfl, upd_same, hl.same s1, hz, fun H' h1 h2 => ⟨rfl, q H' x (fun b o e => h1 b o (fun z => by rw [z, hx] at e; cases e) (s1 _ _ e)) hx h2⟩⟩
/-! ### least -/
theorem sc_least : FnScope ["four", "bends", "letters"] ["four"] (defScope (top 60)) := ⟨rfl, rfl, rfl, by decide +kernel, rfl, by decide +kernel, by decide +kernel⟩
def spLeast (K : PySem.W.Frag) : Sp := fun vs H Q _ => ∃ (x : Addr) (ns ms : List Int) (path : List Nat), vs = [.ref x] ∧ FourAt K H x ns ∧ ns.length = 4 ∧ Down ns path ms ∧ path.length ≤ 200 ∧ Four4 ms ∧ ∀ H' z, Same H H' → H z = none → LeastAt K H' z ms → Q (.ref z) H'
theorem ok_least (T : Tx K mg) : Fx R.prog w K mg base CX0 7 "least" (spLeast K) := by
  refine Fx.of T.g_least T.f_least (fnr0 (N := ["four", "bends", "letters"]) (ps := ["four"]) T.f_least sc_least (fun _ _ _ _ _ _ us hl => match us, hl with | [_], _ => rfl) (by intro vs H Q E h; repeat (first | (obtain ⟨e, _⟩ := h; subst e; rfl) | (obtain ⟨_, h⟩ := h))) fun cdv A outer s H vs Q E hr h => ?_)
  obtain ⟨x, ns, ms, path, rfl, hx, h4, hd, hz, F4, q⟩ := h
  refine ⟨_, (pss_cons (ps_expr (pc (ok_need_four T) (hr.mono (by decide)) (by first | exact pass0 | exact passL) (pa_cons (pv 0) pa_nil)))
      (pss_cons (ps_asg (pc (ok_down T) (hr.mono (by decide)) (by first | exact pass0 | exact passL) (pa_cons (pe_fld (pv 0) rfl) pa_nil)) (pg_tup rfl (pgs_cons (pg_name (i := 1) sc_least.nd rfl (Or.inl rfl)) (pgs_cons (pg_name (i := 2) sc_least.nd rfl (Or.inl rfl)) pgs_nil))))
      (pss_one (ps_ret (StX.pe_makeR T.mkr_Least (ok_Least_init T) (hr.mono (by decide)) rfl T.g_Least (by first | exact pass0 | exact passL) (pa_cons (StX.pe_makeR T.mkr_Four (ok_Four_init T) (hr.mono (by decide)) rfl T.g_Four (by first | exact pass0 | exact passL) (pa_cons (pv 1) pa_nil)) (pa_cons (pv 2) pa_nil))))))), ?_⟩
  repeat (first | refine ⟨_, rfl, ?_⟩ | refine ⟨_, _, rfl, rfl, ?_⟩ | refine ⟨rfl, ?_⟩ | refine ⟨_, _, rfl, ?_⟩ | refine ⟨_, _, _, rfl, ?_⟩ | refine ⟨small_le (by simp), ?_⟩ | refine ⟨Or.inl ⟨by decide, by decide⟩, ?_⟩ | refine ⟨⟨by decide, by decide⟩, ?_⟩ | refine ⟨by show (0 : Int) < _; decide, ?_⟩)
  refine ⟨x, ns, rfl, hx, ?_⟩
  have hx0 := hx
  obtain ⟨dx, t, h1, h2⟩ := hx
  repeat (first | refine ⟨_, rfl, ?_⟩ | refine ⟨_, _, rfl, rfl, ?_⟩ | refine ⟨rfl, ?_⟩ | refine ⟨_, _, rfl, ?_⟩ | refine ⟨_, _, _, rfl, ?_⟩ | refine ⟨small_le (by simp), ?_⟩ | refine ⟨Or.inl ⟨by decide, by decide⟩, ?_⟩ | refine ⟨⟨by decide, by decide⟩, ?_⟩ | refine ⟨by show (0 : Int) < _; decide, ?_⟩)
  refine ⟨x, _, dx, _, _, rfl, h1, T.cls_Four, T.noat_Four_bends, rfl, ?_⟩
  repeat (first | refine ⟨_, rfl, ?_⟩ | refine ⟨_, _, rfl, rfl, ?_⟩ | refine ⟨rfl, ?_⟩ | refine ⟨_, _, rfl, ?_⟩ | refine ⟨_, _, _, rfl, ?_⟩ | refine ⟨small_le (by simp), ?_⟩ | refine ⟨Or.inl ⟨by decide, by decide⟩, ?_⟩ | refine ⟨⟨by decide, by decide⟩, ?_⟩ | refine ⟨by show (0 : Int) < _; decide, ?_⟩)
  refine ⟨t, ns, ms, path, rfl, h2, h4, hd, hz, fun H1 p b l s1 np ep eb el => ?_⟩
  refine ⟨p, _, rfl, sqT ep, rfl, ?_⟩
  repeat (first | refine ⟨_, rfl, ?_⟩ | refine ⟨_, _, rfl, rfl, ?_⟩ | refine ⟨rfl, ?_⟩ | refine ⟨_, _, rfl, ?_⟩ | refine ⟨_, _, _, rfl, ?_⟩ | refine ⟨small_le (by simp), ?_⟩ | refine ⟨Or.inl ⟨by decide, by decide⟩, ?_⟩ | refine ⟨⟨by decide, by decide⟩, ?_⟩ | refine ⟨by show (0 : Int) < _; decide, ?_⟩)
  refine mk_four (.inr eb) F4 fun H2 y s2 ny ey => ?_
  repeat (first | refine ⟨_, rfl, ?_⟩ | refine ⟨_, _, rfl, rfl, ?_⟩ | refine ⟨rfl, ?_⟩ | refine ⟨_, _, rfl, ?_⟩ | refine ⟨_, _, _, rfl, ?_⟩ | refine ⟨small_le (by simp), ?_⟩ | refine ⟨Or.inl ⟨by decide, by decide⟩, ?_⟩ | refine ⟨⟨by decide, by decide⟩, ?_⟩ | refine ⟨by show (0 : Int) < _; decide, ?_⟩)
  have el2 : Tq H2 l (vi (path.reverse.map fun (k : Nat) => ((k : Nat) : Int))) := by
    have e : vn path.reverse = vi (path.reverse.map fun (k : Nat) => ((k : Nat) : Int)) := by simp [vn, vi, Function.comp_def]
    rw [← e]
    exact (el.same s2).t
  refine mk_least ey el2 (by simp; omega) fun H3 z s3 nz ez => q H3 z (s1.trans (s2.trans s3)) ((s1.trans s2).free nz) ez
end
end Bh

/-! W8 -/
set_option maxHeartbeats 4000000
namespace Bh
open PySem PySem.Spec PyProof.Rows L2 Bs
section
variable {P : Program} {w : World} {K : PySem.W.Frag} {mg : Str → Option Value} {base : Heap}
/-! ### prime powers -/
theorem pairedS {α β : Type} {R : α → β → Prop} : ∀ {xs : List α} {ws : List β} {x : α} {w : β}, Paired R xs ws → R x w → Paired R (xs ++ [x]) (ws ++ [w])
  | _, _, _, _, .nil, h => .cons h .nil
  | _, _, _, _, .cons a t, h => .cons a (pairedS t h)
theorem pairedI {α β : Type} {R S : α → β → Prop} (f : ∀ x w, R x w → S x w) : ∀ {xs : List α} {ws : List β}, Paired R xs ws → Paired S xs ws
  | _, _, .nil => .nil
  | _, _, .cons a t => .cons (f _ _ a) (pairedI f t)
/-- a prime with its power -/
def PrAt (H : Hp) (v : V) (f : Nat × Nat) : Prop := ∃ t, v = .ref t ∧ H t = some (.tup [.int (f.1 : Nat), .int (f.2 : Nat)])
theorem PrAt.same {H H' : Hp} {v : V} {f : Nat × Nat} (h : PrAt H v f) (s : Same H H') : PrAt H' v f := let ⟨t, e, h1⟩ := h; ⟨t, e, s _ _ h1⟩
theorem sc_primes_in : FnScope ["number", "found", "left", "prime", "power"] ["number"] (defScope (top 54)) := ⟨rfl, rfl, rfl, by decide +kernel, rfl, by decide +kernel, by decide +kernel⟩
def spPrimesIn : Sp := fun vs H Q _ => ∃ n : Nat, vs = [.int n] ∧ 1 ≤ n ∧ n ≤ 1000000 ∧ ∀ H' a xs fs, Same H H' → H a = none → Tq H' a xs → Paired (PrAt H') xs fs → PF n fs → Q (.ref a) H'
theorem ok_primes_in (T : Tx K mg) : Fx P w K mg base CX0 1 "primes_in" spPrimesIn := by
  refine Fx.of T.g_primes_in T.f_primes_in (fnr0 (N := ["number", "found", "left", "prime", "power"]) (ps := ["number"]) T.f_primes_in sc_primes_in (fun _ _ _ _ _ _ us hl => match us, hl with | [_], _ => rfl) (by intro vs H Q E h; repeat (first | (obtain ⟨e, _⟩ := h; subst e; rfl) | (obtain ⟨_, h⟩ := h))) fun cdv A outer s H vs Q E hr h => ?_)
  obtain ⟨n, rfl, hn1, hn2, q⟩ := h
  refine ⟨_, (pss_cons (ps_par3 (i := 1) (j := 2) (l := 3) (by rfl) sc_primes_in.nd rfl rfl rfl (by decide) (by decide) (by decide) rfl rfl rfl (pa_cons (pe_lst pa_nil) (pa_cons (pv 0) (pa_cons pe_int pa_nil))) (by rfl))
      (pss_cons (ps_while PassesOwn.never (pt_cmpR op_gt (pv 2) pe_int (nomark _)) (pss_cons (ps_if (pt_cmpR op_gt (pe_op op_mulW (pv 3) (pv 3)) (pv 2) (nomark _)) (pss_one (ps_set (i := 3) sc_primes_in.nd rfl (Or.inl rfl) (pv 2))) pss_nil)
      (pss_cons (ps_set (i := 4) sc_primes_in.nd rfl (Or.inl rfl) pe_int)
      (pss_cons (ps_while PassesOwn.never (pt_cmpR op_eq (pe_op op_modP (pv 2) (pv 3)) pe_int (nomark _)) (pss_one (ps_par (i := 2) (j := 4) (by rfl) sc_primes_in.nd rfl rfl (by decide) rfl rfl (pa_cons (pe_op op_divP (pv 2) (pv 3)) (pa_cons (pe_op op_add (pv 4) pe_int) pa_nil)) (by rfl))))
      (pss_cons (ps_if (pt_cmpR op_gt (pv 4) pe_int (nomark _)) (pss_one (ps_expr (pe_bm PySem.F.plainAttrs_list PySem.F.slot_list_append PySem.F.type_list_append mt_append (pv 1) (pa_cons (pe_tup (pa_cons (pv 3) (pa_cons (pv 4) pa_nil))) pa_nil)))) pss_nil)
      (pss_one (ps_set (i := 3) sc_primes_in.nd rfl (Or.inl rfl) (pe_op op_add (pv 3) pe_int))))))))
      (pss_one (ps_ret (pe_callTy call_tuple_ofB (by rfl) T.m_tuple (by decide +kernel) (pa_cons (pv 1) pa_nil)))))), ?_⟩
  repeat (first | refine ⟨_, rfl, ?_⟩ | refine ⟨_, _, rfl, rfl, ?_⟩ | refine ⟨rfl, ?_⟩ | refine ⟨_, _, rfl, ?_⟩ | refine ⟨_, _, _, rfl, ?_⟩ | refine ⟨small_le (by simp), ?_⟩ | refine ⟨Or.inl ⟨by decide, by decide⟩, ?_⟩ | refine ⟨⟨by decide, by decide⟩, ?_⟩ | refine ⟨by show (0 : Int) < _; decide, ?_⟩)
  (intro F nF; generalize hqZ : upd _ F _ = H1; have s1 := new_same hqZ nF; have e1 := new_at hqZ; clear hqZ)
  repeat (first | refine ⟨_, rfl, ?_⟩ | refine ⟨_, _, rfl, rfl, ?_⟩ | refine ⟨rfl, ?_⟩ | refine ⟨_, _, rfl, ?_⟩ | refine ⟨_, _, _, rfl, ?_⟩ | refine ⟨small_le (by simp), ?_⟩ | refine ⟨Or.inl ⟨by decide, by decide⟩, ?_⟩ | refine ⟨⟨by decide, by decide⟩, ?_⟩ | refine ⟨by show (0 : Int) < _; decide, ?_⟩)
  refine ⟨fun m σ H' => Same H H' ∧ ∃ (xs : List V) (fs : List (Nat × Nat)) (L p : Nat) (z : Option V), H' F = some (.lst xs) ∧ Paired (PrAt H') xs fs ∧ n = pprod fs * L ∧ 1 ≤ L ∧ NoDiv L p ∧ 2 ≤ p ∧ p ≤ 1000001 ∧ (∀ f ∈ fs, Pr f.1 ∧ 0 < f.2 ∧ f.1 < p) ∧ (fs.map (·.1)).Nodup ∧ fs.length ≤ p ∧ m = L + 1 - p ∧ σ = [some (.int n), some (.ref F), some (.int L), some (.int p), z],
    ⟨_, s1, [], [], n, 2, none, e1, .nil, by simp [pprod], hn1, .two n, by omega, by omega, by simp, by simp, by simp, rfl, rfl⟩, fun m σ H' hp => ?_⟩
  obtain ⟨s2, xs, fs, L, p, z, eF, hpr, hn, hL, hnd, hp2, hp3, hfs, hdu, hlen, hm, rfl⟩ := hp
  have hLn : L ≤ n := Nat.le_of_dvd (by omega) ⟨pprod fs, by rw [hn, Nat.mul_comm]⟩
  repeat (first | refine ⟨_, rfl, ?_⟩ | refine ⟨_, _, rfl, rfl, ?_⟩ | refine ⟨rfl, ?_⟩ | refine ⟨_, _, rfl, ?_⟩ | refine ⟨_, _, _, rfl, ?_⟩ | refine ⟨small_le (by simp), ?_⟩ | refine ⟨Or.inl ⟨by decide, by decide⟩, ?_⟩ | refine ⟨⟨by decide, by decide⟩, ?_⟩ | refine ⟨by show (0 : Int) < _; decide, ?_⟩)
  refine dB (fun e => ?_) (fun e => ?_)
  · refine ⟨_, fun _ _ z => z, ?_⟩
    have hL2 : 2 ≤ L := by omega
    have hpL := hnd.le hL2
    repeat (first | refine ⟨_, rfl, ?_⟩ | refine ⟨_, _, rfl, rfl, ?_⟩ | refine ⟨rfl, ?_⟩ | refine ⟨_, _, rfl, ?_⟩ | refine ⟨_, _, _, rfl, ?_⟩ | refine ⟨small_le (by simp), ?_⟩ | refine ⟨Or.inl ⟨by decide, by decide⟩, ?_⟩ | refine ⟨⟨by decide, by decide⟩, ?_⟩ | refine ⟨by show (0 : Int) < _; decide, ?_⟩)
    have b20 : (2:Nat) ^ 20 = 1048576 := by decide
    have hpb : ((p : Nat) : Int).natAbs < 2 ^ 20 := by omega
    refine ⟨wide_mul hpb hpb (by decide) (by decide) (by decide), ?_⟩
    repeat (first | refine ⟨_, rfl, ?_⟩ | refine ⟨_, _, rfl, rfl, ?_⟩ | refine ⟨rfl, ?_⟩ | refine ⟨_, _, rfl, ?_⟩ | refine ⟨_, _, _, rfl, ?_⟩ | refine ⟨small_le (by simp), ?_⟩ | refine ⟨Or.inl ⟨by decide, by decide⟩, ?_⟩ | refine ⟨⟨by decide, by decide⟩, ?_⟩ | refine ⟨by show (0 : Int) < _; decide, ?_⟩)
    refine dB (fun e2 => ?_) (fun e2 => ?_)
    all_goals (repeat (first | refine ⟨_, rfl, ?_⟩ | refine ⟨_, _, rfl, rfl, ?_⟩ | refine ⟨rfl, ?_⟩ | refine ⟨_, _, rfl, ?_⟩ | refine ⟨_, _, _, rfl, ?_⟩ | refine ⟨small_le (by simp), ?_⟩ | refine ⟨Or.inl ⟨by decide, by decide⟩, ?_⟩ | refine ⟨⟨by decide, by decide⟩, ?_⟩ | refine ⟨by show (0 : Int) < _; decide, ?_⟩))
    all_goals first
      | (obtain ⟨r, hst, hr2, hpr1, hrL, hrd, hrp⟩ : ∃ r : Nat, (([some (V.int n), some (V.ref F), some (V.int L), some (V.int p), z] : L2.St).set 3 (some (V.int L))) = [some (V.int n), some (V.ref F), some (V.int L), some (V.int r), z] ∧ 2 ≤ r ∧ p ≤ r ∧ r ≤ L ∧ NoDiv L r ∧ (r ∣ L → Pr r) := by
          have hlt : L < p * p := by
            have := Int.natCast_mul p p
            omega
          have hLp := hnd.pr_self hL2 hlt
          exact ⟨L, rfl, hL2, hpL, Nat.le_refl L, hLp.noDiv, fun _ => hLp⟩
         unfold gName
         rw [hst])
      | (obtain ⟨r, hst, hr2, hpr1, hrL, hrd, hrp⟩ : ∃ r : Nat, ([some (V.int n), some (V.ref F), some (V.int L), some (V.int p), z] : L2.St) = [some (V.int n), some (V.ref F), some (V.int L), some (V.int r), z] ∧ 2 ≤ r ∧ p ≤ r ∧ r ≤ L ∧ NoDiv L r ∧ (r ∣ L → Pr r) := ⟨p, rfl, hp2, Nat.le_refl p, hpL, hnd, fun z => hnd.pr_dvd hp2 z⟩
         rw [hst])
    all_goals
      repeat (first | refine ⟨_, rfl, ?_⟩ | refine ⟨_, _, rfl, rfl, ?_⟩ | refine ⟨rfl, ?_⟩ | refine ⟨_, _, rfl, ?_⟩ | refine ⟨_, _, _, rfl, ?_⟩ | refine ⟨small_le (by simp), ?_⟩ | refine ⟨Or.inl ⟨by decide, by decide⟩, ?_⟩ | refine ⟨⟨by decide, by decide⟩, ?_⟩ | refine ⟨by show (0 : Int) < _; decide, ?_⟩)
      refine ⟨fun m' σ' H'' => H'' = H' ∧ ∃ (L' e : Nat), L = L' * r ^ e ∧ 1 ≤ L' ∧ m' = L' ∧ σ' = [some (.int n), some (.ref F), some (.int L'), some (.int r), some (.int e)], ⟨L, rfl, L, 0, by simp, hL, rfl, rfl⟩, fun m' σ' H'' hp' => ?_⟩
      obtain ⟨rfl, L', ex, hLe, hL', hm', rfl⟩ := hp'
      have hLL : L' ≤ L := Nat.le_of_dvd (by omega) ⟨r ^ ex, hLe⟩
      repeat (first | refine ⟨_, rfl, ?_⟩ | refine ⟨_, _, rfl, rfl, ?_⟩ | refine ⟨rfl, ?_⟩ | refine ⟨_, _, rfl, ?_⟩ | refine ⟨_, _, _, rfl, ?_⟩ | refine ⟨small_le (by simp), ?_⟩ | refine ⟨Or.inl ⟨by decide, by decide⟩, ?_⟩ | refine ⟨⟨by decide, by decide⟩, ?_⟩ | refine ⟨by show (0 : Int) < _; decide, ?_⟩)
      refine ⟨by show (0 : Int) < (r : Int); omega, ?_⟩
      repeat (first | refine ⟨_, rfl, ?_⟩ | refine ⟨_, _, rfl, rfl, ?_⟩ | refine ⟨rfl, ?_⟩ | refine ⟨_, _, rfl, ?_⟩ | refine ⟨_, _, _, rfl, ?_⟩ | refine ⟨small_le (by simp), ?_⟩ | refine ⟨Or.inl ⟨by decide, by decide⟩, ?_⟩ | refine ⟨⟨by decide, by decide⟩, ?_⟩ | refine ⟨by show (0 : Int) < _; decide, ?_⟩)
      refine eB (fun e3 => ?_) (fun e3 => ?_)
      · refine ⟨_, fun _ _ z => z, ?_⟩
        repeat (first | refine ⟨_, rfl, ?_⟩ | refine ⟨_, _, rfl, rfl, ?_⟩ | refine ⟨rfl, ?_⟩ | refine ⟨_, _, rfl, ?_⟩ | refine ⟨_, _, _, rfl, ?_⟩ | refine ⟨small_le (by simp), ?_⟩ | refine ⟨Or.inl ⟨by decide, by decide⟩, ?_⟩ | refine ⟨⟨by decide, by decide⟩, ?_⟩ | refine ⟨by show (0 : Int) < _; decide, ?_⟩)
        refine ⟨⟨by show (0 : Int) < (r : Int); omega, by show (r : Int) < 1073741824; omega⟩, ?_⟩
        repeat (first | refine ⟨_, rfl, ?_⟩ | refine ⟨_, _, rfl, rfl, ?_⟩ | refine ⟨rfl, ?_⟩ | refine ⟨_, _, rfl, ?_⟩ | refine ⟨_, _, _, rfl, ?_⟩ | refine ⟨small_le (by simp), ?_⟩ | refine ⟨Or.inl ⟨by decide, by decide⟩, ?_⟩ | refine ⟨⟨by decide, by decide⟩, ?_⟩ | refine ⟨by show (0 : Int) < _; decide, ?_⟩)
        have hd : r ∣ L' := by
          have : ((L' % r : Nat) : Int) = 0 := by rw [Int.natCast_emod]; exact e3
          exact Nat.dvd_of_mod_eq_zero (by omega)
        obtain ⟨k, hk⟩ := hd
        have hk1 : 1 ≤ k := Nat.pos_of_ne_zero fun z => by subst z; omega
        have hkk : L' / r = k := by rw [hk]; exact Nat.mul_div_cancel_left k (by omega)
        refine ⟨k, ?_, rfl, k, ex + 1, ?_, hk1, rfl, ?_⟩
        · rw [hm', hk]
          have := Nat.mul_le_mul_right k hr2
          omega
        · rw [hLe, hk, Nat.pow_succ, Nat.mul_comm r k, Nat.mul_assoc, Nat.mul_comm r]
        · rw [← hkk]
          rfl
      · have hnd' : ¬ r ∣ L' := fun hd => e3 (by
          have := Nat.mod_eq_zero_of_dvd hd
          rw [← Int.natCast_emod, this]
          rfl)
        have hND : NoDiv L' (r + 1) := (hrd.dvd ⟨r ^ ex, hLe⟩).next hnd'
        repeat (first | refine ⟨_, rfl, ?_⟩ | refine ⟨_, _, rfl, rfl, ?_⟩ | refine ⟨rfl, ?_⟩ | refine ⟨_, _, rfl, ?_⟩ | refine ⟨_, _, _, rfl, ?_⟩ | refine ⟨small_le (by simp), ?_⟩ | refine ⟨Or.inl ⟨by decide, by decide⟩, ?_⟩ | refine ⟨⟨by decide, by decide⟩, ?_⟩ | refine ⟨by show (0 : Int) < _; decide, ?_⟩)
        refine dB (fun e4 => ?_) (fun e4 => ?_)
        · repeat (first | refine ⟨_, rfl, ?_⟩ | refine ⟨_, _, rfl, rfl, ?_⟩ | refine ⟨rfl, ?_⟩ | refine ⟨_, _, rfl, ?_⟩ | refine ⟨_, _, _, rfl, ?_⟩ | refine ⟨small_le (by simp), ?_⟩ | refine ⟨Or.inl ⟨by decide, by decide⟩, ?_⟩ | refine ⟨⟨by decide, by decide⟩, ?_⟩ | refine ⟨by show (0 : Int) < _; decide, ?_⟩)
          refine ⟨Or.inl ⟨rfl, _, sqL eF⟩, ?_⟩
          repeat (first | refine ⟨_, rfl, ?_⟩ | refine ⟨_, _, rfl, rfl, ?_⟩ | refine ⟨rfl, ?_⟩ | refine ⟨_, _, rfl, ?_⟩ | refine ⟨_, _, _, rfl, ?_⟩ | refine ⟨small_le (by simp), ?_⟩ | refine ⟨Or.inl ⟨by decide, by decide⟩, ?_⟩ | refine ⟨⟨by decide, by decide⟩, ?_⟩ | refine ⟨by show (0 : Int) < _; decide, ?_⟩)
          (intro t nt; generalize hqZ : upd _ t _ = H3; have s3 := new_same hqZ nt; have e5 := new_at hqZ; clear hqZ)
          repeat (first | refine ⟨_, rfl, ?_⟩ | refine ⟨_, _, rfl, rfl, ?_⟩ | refine ⟨rfl, ?_⟩ | refine ⟨_, _, rfl, ?_⟩ | refine ⟨_, _, _, rfl, ?_⟩ | refine ⟨small_le (by simp), ?_⟩ | refine ⟨Or.inl ⟨by decide, by decide⟩, ?_⟩ | refine ⟨⟨by decide, by decide⟩, ?_⟩ | refine ⟨by show (0 : Int) < _; decide, ?_⟩)
          have hxl := hpr.length
          refine ⟨F, _, _, rfl, rfl, s3 _ _ eF, (by rw [show sizeLine = 16777216 by decide]; omega), ?_⟩
          have sA : ∀ {v f}, PrAt H3 v f → PrAt (upd H3 F (.lst (xs ++ [V.ref t]))) v f := fun {v f} ⟨t, e, h⟩ => ⟨t, e, by rw [upd_ne (ne_of h (s3 _ _ eF) (by intro z; cases z))]; exact h⟩
          have sF : Same H (upd H3 F (.lst (xs ++ [V.ref t]))) := same_mut (s2.trans s3) nF
          repeat (first | refine ⟨_, rfl, ?_⟩ | refine ⟨_, _, rfl, rfl, ?_⟩ | refine ⟨rfl, ?_⟩ | refine ⟨_, _, rfl, ?_⟩ | refine ⟨_, _, _, rfl, ?_⟩ | refine ⟨small_le (by simp), ?_⟩ | refine ⟨Or.inl ⟨by decide, by decide⟩, ?_⟩ | refine ⟨⟨by decide, by decide⟩, ?_⟩ | refine ⟨by show (0 : Int) < _; decide, ?_⟩)
          have hrP : Pr r := hrp (by
            obtain ⟨k, rfl⟩ : ∃ k, ex = k + 1 := ⟨ex - 1, by omega⟩
            have h1 : L = r * (r ^ k * L') := by rw [hLe, Nat.pow_succ, Nat.mul_comm L', Nat.mul_comm (r ^ k) r, Nat.mul_assoc]
            exact ⟨_, h1⟩)
          refine ⟨L' + 1 - (r + 1), by omega, sF, xs ++ [V.ref t], fs ++ [(r, ex)], L', r + 1, some (.int ex), upd_same, ?_, ?_, hL', hND, by omega, by omega, ?_, ?_, by simp; omega, rfl, rfl⟩
          · exact pairedS (pairedI (fun _ _ h => sA (h.same s3)) hpr) (sA ⟨t, rfl, e5⟩)
          · rw [pprod_snoc, hn, hLe, Nat.mul_assoc, Nat.mul_comm L']
          · intro f hf
            rcases List.mem_append.mp hf with hf | hf
            · obtain ⟨h1, h2, h3⟩ := hfs f hf
              exact ⟨h1, h2, by omega⟩
            · rw [List.mem_singleton.mp hf]
              exact ⟨hrP, by show 0 < ex; omega, by show r < r + 1; omega⟩
          · rw [List.map_append, List.nodup_append]
            refine ⟨hdu, by simp, fun a ha b hb => ?_⟩
            obtain ⟨f, hf, rfl⟩ := List.mem_map.mp ha
            have := (hfs f hf).2.2
            simp at hb
            omega
        · repeat (first | refine ⟨_, rfl, ?_⟩ | refine ⟨_, _, rfl, rfl, ?_⟩ | refine ⟨rfl, ?_⟩ | refine ⟨_, _, rfl, ?_⟩ | refine ⟨_, _, _, rfl, ?_⟩ | refine ⟨small_le (by simp), ?_⟩ | refine ⟨Or.inl ⟨by decide, by decide⟩, ?_⟩ | refine ⟨⟨by decide, by decide⟩, ?_⟩ | refine ⟨by show (0 : Int) < _; decide, ?_⟩)
          have ex0 : ex = 0 := by omega
          subst ex0
          have hLL' : L = L' := by rw [hLe]; simp
          refine ⟨L' + 1 - (r + 1), by omega, s2, xs, fs, L', r + 1, some (.int (0 : Nat)), eF, hpr, by rw [hn, hLL'], hL', hND, by omega, by omega, fun f hf => ⟨(hfs f hf).1, (hfs f hf).2.1, by have := (hfs f hf).2.2; omega⟩, hdu, by omega, rfl, rfl⟩
  · repeat (first | refine ⟨_, rfl, ?_⟩ | refine ⟨_, _, rfl, rfl, ?_⟩ | refine ⟨rfl, ?_⟩ | refine ⟨_, _, rfl, ?_⟩ | refine ⟨_, _, _, rfl, ?_⟩ | refine ⟨small_le (by simp), ?_⟩ | refine ⟨Or.inl ⟨by decide, by decide⟩, ?_⟩ | refine ⟨⟨by decide, by decide⟩, ?_⟩ | refine ⟨by show (0 : Int) < _; decide, ?_⟩)
    have hL1 : L = 1 := by omega
    refine ⟨F, _, rfl, .inl ⟨sqL eF, ?_⟩⟩
    (intro oZ b hoZ nb; generalize hqZ : upd _ b _ = H4; have s4 := new_same hqZ nb; have e4 := new_bq hqZ hoZ; clear hqZ hoZ)
    exact q H4 b xs fs (s2.trans s4) (s2.free nb) e4.t (pairedI (fun _ _ h => h.same s4) hpr) ⟨by rw [hn, hL1, Nat.mul_one], fun f hf => ⟨(hfs f hf).1, (hfs f hf).2.1⟩, hdu⟩
theorem sc_prime_powers : FnScope ["number"] ["number"] (defScope (top 55)) := ⟨rfl, rfl, rfl, by decide +kernel, rfl, by decide +kernel, by decide +kernel⟩
def spPrimePowers : Sp := spPrimesIn
theorem ok_prime_powers (T : Tx K mg) : Fx P w K mg base CX0 4 "prime_powers" spPrimePowers := by
  refine Fx.of T.g_prime_powers T.f_prime_powers (fnr0 (N := ["number"]) (ps := ["number"]) T.f_prime_powers sc_prime_powers (fun _ _ _ _ _ _ us hl => match us, hl with | [_], _ => rfl) (by intro vs H Q E h; repeat (first | (obtain ⟨e, _⟩ := h; subst e; rfl) | (obtain ⟨_, h⟩ := h))) fun cdv A outer s H vs Q E hr h => ?_)
  obtain ⟨n, rfl, hn1, hn2, q⟩ := h
  refine ⟨_, (pss_cons (ps_expr (pc (ok_need_number T) (hr.mono (by decide)) (by first | exact pass0 | exact passL) (pa_cons (pv 0) (pa_cons pe_str (pa_cons pe_int (pa_cons (pe_glob (v := .int 1000000) rfl T.i_MOST_COUNTED.choose_spec ⟨_, rfl⟩) pa_nil))))))
      (pss_one (ps_ret (pc (ok_primes_in T) (hr.mono (by decide)) (by first | exact pass0 | exact passL) (pa_cons (pv 0) pa_nil))))), ?_⟩
  repeat (first | refine ⟨_, rfl, ?_⟩ | refine ⟨_, _, rfl, rfl, ?_⟩ | refine ⟨rfl, ?_⟩ | refine ⟨_, _, rfl, ?_⟩ | refine ⟨_, _, _, rfl, ?_⟩ | refine ⟨small_le (by simp), ?_⟩ | refine ⟨Or.inl ⟨by decide, by decide⟩, ?_⟩ | refine ⟨⟨by decide, by decide⟩, ?_⟩ | refine ⟨by show (0 : Int) < _; decide, ?_⟩)
  have h1 : (1 : Int) ≤ n := by omega
  have h2 : (n : Int) ≤ 1000000 := by omega
  refine ⟨n, _, some 1, some 1000000, rfl, by simp [inO, loO, hiO, h1, h2], ?_⟩
  repeat (first | refine ⟨_, rfl, ?_⟩ | refine ⟨_, _, rfl, rfl, ?_⟩ | refine ⟨rfl, ?_⟩ | refine ⟨_, _, rfl, ?_⟩ | refine ⟨_, _, _, rfl, ?_⟩ | refine ⟨small_le (by simp), ?_⟩ | refine ⟨Or.inl ⟨by decide, by decide⟩, ?_⟩ | refine ⟨⟨by decide, by decide⟩, ?_⟩ | refine ⟨by show (0 : Int) < _; decide, ?_⟩)
  exact ⟨hn1, hn2, q⟩
/-! ### the local signs -/
theorem pprod_len : ∀ {fs : List (Nat × Nat)}, (∀ f ∈ fs, Pr f.1 ∧ 0 < f.2) → fs.length < pprod fs
  | [], _ => by decide
  | f :: r, h => by
    have ih := pprod_len fun g hg => h g (List.mem_cons_of_mem _ hg)
    obtain ⟨h1, h2⟩ := h f List.mem_cons_self
    have h3 : 2 ≤ f.1 ^ f.2 := by
      obtain ⟨k, e⟩ : ∃ k, f.2 = k + 1 := ⟨f.2 - 1, by omega⟩
      rw [e, Nat.pow_succ]
      have := Nat.mul_le_mul (Nat.pow_pos (n := k) (by have := h1.two; omega : 0 < f.1)) h1.two
      omega
    have h4 := Nat.mul_le_mul_right (pprod r) h3
    show r.length + 1 < f.1 ^ f.2 * pprod r
    omega
theorem _root_.Bs.PF.len {n : Nat} {fs : List (Nat × Nat)} (F : PF n fs) : fs.length < n := F.prod ▸ pprod_len F.pr

def sgn0 (A C : Int) (n : Nat) : List (Int × Int) := if (n : Int) % 4 = 0 then [(8, e8 A C)] else []
def sgn1 (A C : Int) (fs : List (Nat × Nat)) : List (Int × Int) := (fs.filter fun f => f.1 ≠ 2).map fun f => ((f.1 : Int), J (bes A C f.1) f.1)
theorem sgn1_snoc {A C : Int} {fs : List (Nat × Nat)} {i : Nat} {f : Nat × Nat} (h : fs[i]? = some f) : sgn1 A C (fs.take (i + 1)) = sgn1 A C (fs.take i) ++ (if f.1 ≠ 2 then [((f.1 : Int), J (bes A C f.1) f.1)] else []) := by
  unfold sgn1
  rw [List.take_add_one, h, List.filter_append, List.map_append]
  congr 1
  by_cases h2 : f.1 = 2 <;> simp [h2]
/-- a pair of numbers -/
def PairAt (H : Hp) (p : Addr) (kv : Int × Int) : Prop := H p = some (.tup [.int kv.1, .int kv.2])
def SgnsAt (H : Hp) (ps : List Addr) (l : List (Int × Int)) : Prop := Paired (PairAt H) ps l
theorem SgnsAt.same {H H' : Hp} {ps : List Addr} {l : List (Int × Int)} (h : SgnsAt H ps l) (s : Same H H') : SgnsAt H' ps l := pairedI (fun _ _ h => s _ _ h) h
theorem tq_updL {H : Hp} {F a : Addr} {l l' xs : List V} (e : H F = some (.lst l)) (h : Tq H a xs) : Tq (upd H F (.lst l')) a xs := by
  have hne : a ≠ F := h.ne e (fun _ z => by cases z) (fun _ _ z => by cases z)
  rcases h with h | ⟨o, ho, h⟩
  · exact .inl (by rw [upd_ne hne]; exact h)
  · exact .inr ⟨o, ho, by rw [upd_ne hne]; exact h⟩
theorem prAt_updL {H : Hp} {F : Addr} {l l' : List V} (e : H F = some (.lst l)) {v : V} {f : Nat × Nat} (h : PrAt H v f) : PrAt (upd H F (.lst l')) v f := let ⟨t, ev, ht⟩ := h; ⟨t, ev, by rw [upd_ne (ne_of ht e (by intro z; cases z))]; exact ht⟩
theorem sgns_updL {H : Hp} {F : Addr} {l l' : List V} (e : H F = some (.lst l)) {ps : List Addr} {k : List (Int × Int)} (h : SgnsAt H ps k) : SgnsAt (upd H F (.lst l')) ps k :=
  pairedI (fun p kv h => show upd H F (.lst l') p = _ by rw [upd_ne (ne_of (show H p = some (.tup [.int kv.1, .int kv.2]) from h) e (by intro z; cases z))]; exact h) h
theorem paired_get {α β : Type} {R : α → β → Prop} : ∀ {xs : List α} {ws : List β}, Paired R xs ws → ∀ {i : Nat} {x : α}, xs[i]? = some x → ∃ w, ws[i]? = some w ∧ R x w
  | _, _, .nil, i, x, h => by simp at h
  | _, _, .cons a t, 0, x, h => ⟨_, rfl, by simp at h; exact h ▸ a⟩
  | _, _, .cons a t, i + 1, x, h => paired_get t (i := i) (by simpa using h)
theorem sc_signs_of : FnScope ["form", "found", "prime", "_"] ["form"] (defScope (top 75)) := ⟨rfl, rfl, rfl, by decide +kernel, rfl, by decide +kernel, by decide +kernel⟩
def spSignsOf (K : PySem.W.Frag) : Sp := fun vs H Q _ => ∃ (x : Addr) (A B C : Int) (n : Nat), vs = [.ref x] ∧ FormAt K H x A B C n ∧ Form3 A B C n ∧ n ≤ 1000000 ∧ (∀ p : Nat, Pr p → p ∣ n → Cop (bes A C p) p) ∧
  ∀ H' a ps fs, Same H H' → H a = none → H' a = some (.lst (ps.map V.ref)) → SgnsAt H' ps (sgn0 A C n ++ sgn1 A C fs) → PF n fs → Q (.ref a) H'
theorem ok_signs_of (T : Tx K mg) : Fx P w K mg base CX0 6 "signs_of" (spSignsOf K) := by
  refine Fx.of T.g_signs_of T.f_signs_of (fnr0 (N := ["form", "found", "prime", "_"]) (ps := ["form"]) T.f_signs_of sc_signs_of (fun _ _ _ _ _ _ us hl => match us, hl with | [_], _ => rfl) (by intro vs H Q E h; repeat (first | (obtain ⟨e, _⟩ := h; subst e; rfl) | (obtain ⟨_, h⟩ := h))) fun cdv A outer s H vs Q E hr h => ?_)
  obtain ⟨x, A, B, C, n, rfl, hx, F3, hn, hc, q⟩ := h
  have hx0 := hx
  obtain ⟨dx, t, h1, h2⟩ := hx
  refine ⟨_, (pss_cons (ps_set (i := 1) sc_signs_of.nd rfl (Or.inl rfl) (pe_lst pa_nil))
      (pss_cons (ps_if (pt_cmpR op_eq (pe_op op_modP (pe_fld (pv 0) rfl) pe_int) pe_int (nomark _)) (pss_one (ps_expr (pe_bm PySem.F.plainAttrs_list PySem.F.slot_list_append PySem.F.type_list_append mt_append (pv 1) (pa_cons (pe_tup (pa_cons (pe_glob (v := .int 8) rfl T.i_EIGHT.choose_spec ⟨_, rfl⟩) (pa_cons (pe_ifExp (pt_cmpR op_eq (pe_op op_modP (pc (ok_worth_beside T) (hr.mono (by decide)) (by first | exact pass0 | exact passL) (pa_cons (pv 0) (pa_cons pe_int pa_nil))) (pe_glob (v := .int 8) rfl T.i_EIGHT.choose_spec ⟨_, rfl⟩)) pe_int (nomark _)) pe_int (pe_un un_neg pe_int)) pa_nil))) pa_nil)))) pss_nil)
      (pss_cons (ps_for PassesOwn.never rfl (pi_tup (pc (ok_prime_powers T) (hr.mono (by decide)) (by first | exact pass0 | exact passL) (pa_cons (pe_fld (pv 0) rfl) pa_nil))) (pg_tup rfl (pgs_cons (pg_name (i := 2) sc_signs_of.nd rfl (Or.inl rfl)) (pgs_cons (pg_name (i := 3) sc_signs_of.nd rfl (Or.inl rfl)) pgs_nil))) (pss_one (ps_if (pt_cmpR op_ne (pv 2) pe_int (nomark _)) (pss_one (ps_expr (pe_bm PySem.F.plainAttrs_list PySem.F.slot_list_append PySem.F.type_list_append mt_append (pv 1) (pa_cons (pe_tup (pa_cons (pv 2) (pa_cons (pc (ok_symbol T) (hr.mono (by decide)) (by first | exact pass0 | exact passL) (pa_cons (pc (ok_worth_beside T) (hr.mono (by decide)) (by first | exact pass0 | exact passL) (pa_cons (pv 0) (pa_cons (pv 2) pa_nil))) (pa_cons (pv 2) pa_nil))) pa_nil))) pa_nil)))) pss_nil)))
      (pss_one (ps_ret (pv 1)))))), ?_⟩
  repeat (first | refine ⟨_, rfl, ?_⟩ | refine ⟨_, _, rfl, rfl, ?_⟩ | refine ⟨rfl, ?_⟩ | refine ⟨_, _, rfl, ?_⟩ | refine ⟨_, _, _, rfl, ?_⟩ | refine ⟨small_le (by simp), ?_⟩ | refine ⟨Or.inl ⟨by decide, by decide⟩, ?_⟩ | refine ⟨⟨by decide, by decide⟩, ?_⟩ | refine ⟨by show (0 : Int) < _; decide, ?_⟩)
  (intro F nF; generalize hqZ : upd _ F _ = H1; have s1 := new_same hqZ nF; have e1 := new_at hqZ; clear hqZ)
  repeat (first | refine ⟨_, rfl, ?_⟩ | refine ⟨_, _, rfl, rfl, ?_⟩ | refine ⟨rfl, ?_⟩ | refine ⟨_, _, rfl, ?_⟩ | refine ⟨_, _, _, rfl, ?_⟩ | refine ⟨small_le (by simp), ?_⟩ | refine ⟨Or.inl ⟨by decide, by decide⟩, ?_⟩ | refine ⟨⟨by decide, by decide⟩, ?_⟩ | refine ⟨by show (0 : Int) < _; decide, ?_⟩)
  refine ⟨x, _, dx, _, _, rfl, s1 _ _ h1, T.cls_Form, T.noat_Form_side, rfl, ?_⟩
  repeat (first | refine ⟨_, rfl, ?_⟩ | refine ⟨_, _, rfl, rfl, ?_⟩ | refine ⟨rfl, ?_⟩ | refine ⟨_, _, rfl, ?_⟩ | refine ⟨_, _, _, rfl, ?_⟩ | refine ⟨small_le (by simp), ?_⟩ | refine ⟨Or.inl ⟨by decide, by decide⟩, ?_⟩ | refine ⟨⟨by decide, by decide⟩, ?_⟩ | refine ⟨by show (0 : Int) < _; decide, ?_⟩)
  refine eB (fun e => ?a1) (fun e => ?a2)
  case' a1 =>
    repeat (first | refine ⟨_, rfl, ?_⟩ | refine ⟨_, _, rfl, rfl, ?_⟩ | refine ⟨rfl, ?_⟩ | refine ⟨_, _, rfl, ?_⟩ | refine ⟨_, _, _, rfl, ?_⟩ | refine ⟨small_le (by simp), ?_⟩ | refine ⟨Or.inl ⟨by decide, by decide⟩, ?_⟩ | refine ⟨⟨by decide, by decide⟩, ?_⟩ | refine ⟨by show (0 : Int) < _; decide, ?_⟩)
    refine ⟨Or.inl ⟨rfl, _, sqL e1⟩, ?_⟩
    repeat (first | refine ⟨_, rfl, ?_⟩ | refine ⟨_, _, rfl, rfl, ?_⟩ | refine ⟨rfl, ?_⟩ | refine ⟨_, _, rfl, ?_⟩ | refine ⟨_, _, _, rfl, ?_⟩ | refine ⟨small_le (by simp), ?_⟩ | refine ⟨Or.inl ⟨by decide, by decide⟩, ?_⟩ | refine ⟨⟨by decide, by decide⟩, ?_⟩ | refine ⟨by show (0 : Int) < _; decide, ?_⟩)
    refine ⟨x, A, B, C, n, 2, rfl, hx0.same s1, by decide, ?_⟩
    repeat (first | refine ⟨_, rfl, ?_⟩ | refine ⟨_, _, rfl, rfl, ?_⟩ | refine ⟨rfl, ?_⟩ | refine ⟨_, _, rfl, ?_⟩ | refine ⟨_, _, _, rfl, ?_⟩ | refine ⟨small_le (by simp), ?_⟩ | refine ⟨Or.inl ⟨by decide, by decide⟩, ?_⟩ | refine ⟨⟨by decide, by decide⟩, ?_⟩ | refine ⟨by show (0 : Int) < _; decide, ?_⟩)
    refine eB (fun e8p => ?b1) (fun e8p => ?b2)
  case' b1 =>
    have e8v : e8 A C = 1 := if_pos e8p
    repeat (first | refine ⟨_, rfl, ?_⟩ | refine ⟨_, _, rfl, rfl, ?_⟩ | refine ⟨rfl, ?_⟩ | refine ⟨_, _, rfl, ?_⟩ | refine ⟨_, _, _, rfl, ?_⟩ | refine ⟨small_le (by simp), ?_⟩ | refine ⟨Or.inl ⟨by decide, by decide⟩, ?_⟩ | refine ⟨⟨by decide, by decide⟩, ?_⟩ | refine ⟨by show (0 : Int) < _; decide, ?_⟩)
    (intro t8 n8; generalize hqZ : upd _ t8 _ = H2; have s2 := new_same hqZ n8; have e2 := new_at hqZ; clear hqZ)
    repeat (first | refine ⟨_, rfl, ?_⟩ | refine ⟨_, _, rfl, rfl, ?_⟩ | refine ⟨rfl, ?_⟩ | refine ⟨_, _, rfl, ?_⟩ | refine ⟨_, _, _, rfl, ?_⟩ | refine ⟨small_le (by simp), ?_⟩ | refine ⟨Or.inl ⟨by decide, by decide⟩, ?_⟩ | refine ⟨⟨by decide, by decide⟩, ?_⟩ | refine ⟨by show (0 : Int) < _; decide, ?_⟩)
    refine ⟨F, _, _, rfl, rfl, s2 _ _ e1, by decide, ?_⟩
    have s3 : Same H (upd H2 F (.lst ([] ++ [V.ref t8]))) := same_mut (s1.trans s2) nF
    have eF0 : (upd H2 F (.lst ([] ++ [V.ref t8]))) F = _ := upd_same
    have et : (upd H2 F (.lst ([] ++ [V.ref t8]))) t8 = some (.tup [.int 8, .int (e8 A C)]) := by rw [upd_ne (ne_of e2 (s2 _ _ e1) (by intro z; cases z)), e2, e8v]
    generalize upd H2 F (.lst ([] ++ [V.ref t8])) = H3 at s3 eF0 et ⊢
    obtain ⟨ps0, eF, sg0⟩ : ∃ ps0 : List Addr, H3 F = some (.lst (ps0.map V.ref)) ∧ SgnsAt H3 ps0 (sgn0 A C n) := ⟨[t8], eF0, by unfold sgn0; rw [if_pos e]; exact .cons et .nil⟩
  case' b2 =>
    have e8v : e8 A C = -1 := if_neg e8p
    repeat (first | refine ⟨_, rfl, ?_⟩ | refine ⟨_, _, rfl, rfl, ?_⟩ | refine ⟨rfl, ?_⟩ | refine ⟨_, _, rfl, ?_⟩ | refine ⟨_, _, _, rfl, ?_⟩ | refine ⟨small_le (by simp), ?_⟩ | refine ⟨Or.inl ⟨by decide, by decide⟩, ?_⟩ | refine ⟨⟨by decide, by decide⟩, ?_⟩ | refine ⟨by show (0 : Int) < _; decide, ?_⟩)
    (intro t8 n8; generalize hqZ : upd _ t8 _ = H2; have s2 := new_same hqZ n8; have e2 := new_at hqZ; clear hqZ)
    repeat (first | refine ⟨_, rfl, ?_⟩ | refine ⟨_, _, rfl, rfl, ?_⟩ | refine ⟨rfl, ?_⟩ | refine ⟨_, _, rfl, ?_⟩ | refine ⟨_, _, _, rfl, ?_⟩ | refine ⟨small_le (by simp), ?_⟩ | refine ⟨Or.inl ⟨by decide, by decide⟩, ?_⟩ | refine ⟨⟨by decide, by decide⟩, ?_⟩ | refine ⟨by show (0 : Int) < _; decide, ?_⟩)
    refine ⟨F, _, _, rfl, rfl, s2 _ _ e1, by decide, ?_⟩
    have s3 : Same H (upd H2 F (.lst ([] ++ [V.ref t8]))) := same_mut (s1.trans s2) nF
    have eF0 : (upd H2 F (.lst ([] ++ [V.ref t8]))) F = _ := upd_same
    have et : (upd H2 F (.lst ([] ++ [V.ref t8]))) t8 = some (.tup [.int 8, .int (e8 A C)]) := by rw [upd_ne (ne_of e2 (s2 _ _ e1) (by intro z; cases z)), e2, e8v]
    generalize upd H2 F (.lst ([] ++ [V.ref t8])) = H3 at s3 eF0 et ⊢
    obtain ⟨ps0, eF, sg0⟩ : ∃ ps0 : List Addr, H3 F = some (.lst (ps0.map V.ref)) ∧ SgnsAt H3 ps0 (sgn0 A C n) := ⟨[t8], eF0, by unfold sgn0; rw [if_pos e]; exact .cons et .nil⟩
  case' a2 =>
    repeat (first | refine ⟨_, rfl, ?_⟩ | refine ⟨_, _, rfl, rfl, ?_⟩ | refine ⟨rfl, ?_⟩ | refine ⟨_, _, rfl, ?_⟩ | refine ⟨_, _, _, rfl, ?_⟩ | refine ⟨small_le (by simp), ?_⟩ | refine ⟨Or.inl ⟨by decide, by decide⟩, ?_⟩ | refine ⟨⟨by decide, by decide⟩, ?_⟩ | refine ⟨by show (0 : Int) < _; decide, ?_⟩)
    obtain ⟨H3, hH3⟩ : ∃ H3, H3 = H1 := ⟨_, rfl⟩
    rw [← hH3]
    have s3 : Same H H3 := hH3 ▸ s1
    obtain ⟨ps0, eF, sg0⟩ : ∃ ps0 : List Addr, H3 F = some (.lst (ps0.map V.ref)) ∧ SgnsAt H3 ps0 (sgn0 A C n) := ⟨[], hH3 ▸ e1, by unfold sgn0; rw [if_neg e]; exact .nil⟩
  all_goals
    repeat (first | refine ⟨_, rfl, ?_⟩ | refine ⟨_, _, rfl, rfl, ?_⟩ | refine ⟨rfl, ?_⟩ | refine ⟨_, _, rfl, ?_⟩ | refine ⟨_, _, _, rfl, ?_⟩ | refine ⟨small_le (by simp), ?_⟩ | refine ⟨Or.inl ⟨by decide, by decide⟩, ?_⟩ | refine ⟨⟨by decide, by decide⟩, ?_⟩ | refine ⟨by show (0 : Int) < _; decide, ?_⟩)
    refine ⟨x, _, dx, _, _, rfl, s3 _ _ h1, T.cls_Form, T.noat_Form_side, rfl, ?_⟩
    repeat (first | refine ⟨_, rfl, ?_⟩ | refine ⟨_, _, rfl, rfl, ?_⟩ | refine ⟨rfl, ?_⟩ | refine ⟨_, _, rfl, ?_⟩ | refine ⟨_, _, _, rfl, ?_⟩ | refine ⟨small_le (by simp), ?_⟩ | refine ⟨Or.inl ⟨by decide, by decide⟩, ?_⟩ | refine ⟨⟨by decide, by decide⟩, ?_⟩ | refine ⟨by show (0 : Int) < _; decide, ?_⟩)
    refine ⟨F3.n0, hn, fun H4 a xs fs s4 na tqa hpr pf => ⟨a, rfl, ⟨_, tqa.sqT⟩, ?_⟩⟩
    have hlen : fs.length ≤ 1000000 := by
      have := pf.len
      omega
    refine for_tup (xs := xs) (fun i σ H' => Same H H' ∧ Tq H' a xs ∧ Paired (PrAt H') xs fs ∧ ∃ ps, H' F = some (.lst (ps.map V.ref)) ∧ SgnsAt H' ps (sgn0 A C n ++ sgn1 A C (fs.take i)) ∧ ∃ y z, σ = [some (.ref x), some (.ref F), y, z])
      ⟨s3.trans s4, tqa, hpr, ps0, s4 _ _ eF, by rw [List.take_zero]; show SgnsAt H4 ps0 (sgn0 A C n ++ []); rw [List.append_nil]; exact sg0.same s4, none, none, rfl⟩ (fun i σ H' _ p => p.2.1.sqT) (fun i v σ H' hv hp => ?_) (fun σ H' hp => ?_)
    · obtain ⟨p1, p2, p3, ps, p4, p5, y, z, rfl⟩ := hp
      obtain ⟨f, hf, tt, rfl, htt⟩ := paired_get p3 hv
      have hfm := List.mem_of_getElem? hf
      refine ⟨tt, _, rfl, sqT htt, rfl, ?_⟩
      repeat (first | refine ⟨_, rfl, ?_⟩ | refine ⟨_, _, rfl, rfl, ?_⟩ | refine ⟨rfl, ?_⟩ | refine ⟨_, _, rfl, ?_⟩ | refine ⟨_, _, _, rfl, ?_⟩ | refine ⟨small_le (by simp), ?_⟩ | refine ⟨Or.inl ⟨by decide, by decide⟩, ?_⟩ | refine ⟨⟨by decide, by decide⟩, ?_⟩ | refine ⟨by show (0 : Int) < _; decide, ?_⟩)
      refine neB (fun e2 => ?_) (fun e2 => ?_)
      · repeat (first | refine ⟨_, rfl, ?_⟩ | refine ⟨_, _, rfl, rfl, ?_⟩ | refine ⟨rfl, ?_⟩ | refine ⟨_, _, rfl, ?_⟩ | refine ⟨_, _, _, rfl, ?_⟩ | refine ⟨small_le (by simp), ?_⟩ | refine ⟨Or.inl ⟨by decide, by decide⟩, ?_⟩ | refine ⟨⟨by decide, by decide⟩, ?_⟩ | refine ⟨by show (0 : Int) < _; decide, ?_⟩)
        refine ⟨Or.inl ⟨rfl, _, sqL p4⟩, ?_⟩
        repeat (first | refine ⟨_, rfl, ?_⟩ | refine ⟨_, _, rfl, rfl, ?_⟩ | refine ⟨rfl, ?_⟩ | refine ⟨_, _, rfl, ?_⟩ | refine ⟨_, _, _, rfl, ?_⟩ | refine ⟨small_le (by simp), ?_⟩ | refine ⟨Or.inl ⟨by decide, by decide⟩, ?_⟩ | refine ⟨⟨by decide, by decide⟩, ?_⟩ | refine ⟨by show (0 : Int) < _; decide, ?_⟩)
        have fpr := (pf.pr f hfm).1
        have hf2 : f.1 ≠ 2 := fun z => e2 (by rw [z]; rfl)
        refine ⟨x, A, B, C, n, (f.1 : Nat), rfl, hx0.same p1, by have := fpr.two; omega, ?_⟩
        repeat (first | refine ⟨_, rfl, ?_⟩ | refine ⟨_, _, rfl, rfl, ?_⟩ | refine ⟨rfl, ?_⟩ | refine ⟨_, _, rfl, ?_⟩ | refine ⟨_, _, _, rfl, ?_⟩ | refine ⟨small_le (by simp), ?_⟩ | refine ⟨Or.inl ⟨by decide, by decide⟩, ?_⟩ | refine ⟨⟨by decide, by decide⟩, ?_⟩ | refine ⟨by show (0 : Int) < _; decide, ?_⟩)
        have hfd := pf.dvd hfm
        have hfn := Nat.le_of_dvd F3.n0 hfd
        refine ⟨fpr.od hf2, hc f.1 fpr hfd, ?_, fun H5 s5 => ?_⟩
        · have h20 : (f.1 : Int).natAbs < 2 ^ 20 := by
            have : (2:Nat) ^ 20 = 1048576 := by decide
            omega
          exact Nat.lt_of_lt_of_le h20 (Nat.pow_le_pow_right (by decide) (by unfold BIG; decide))
        · repeat (first | refine ⟨_, rfl, ?_⟩ | refine ⟨_, _, rfl, rfl, ?_⟩ | refine ⟨rfl, ?_⟩ | refine ⟨_, _, rfl, ?_⟩ | refine ⟨_, _, _, rfl, ?_⟩ | refine ⟨small_le (by simp), ?_⟩ | refine ⟨Or.inl ⟨by decide, by decide⟩, ?_⟩ | refine ⟨⟨by decide, by decide⟩, ?_⟩ | refine ⟨by show (0 : Int) < _; decide, ?_⟩)
          (intro t5 n5; generalize hqZ : upd _ t5 _ = H6; have s6 := new_same hqZ n5; have e6 := new_at hqZ; clear hqZ)
          repeat (first | refine ⟨_, rfl, ?_⟩ | refine ⟨_, _, rfl, rfl, ?_⟩ | refine ⟨rfl, ?_⟩ | refine ⟨_, _, rfl, ?_⟩ | refine ⟨_, _, _, rfl, ?_⟩ | refine ⟨small_le (by simp), ?_⟩ | refine ⟨Or.inl ⟨by decide, by decide⟩, ?_⟩ | refine ⟨⟨by decide, by decide⟩, ?_⟩ | refine ⟨by show (0 : Int) < _; decide, ?_⟩)
          refine ⟨F, _, _, rfl, rfl, s6 _ _ (s5 _ _ p4), ?_, ?_⟩
          · have h6 := p5.length
            rw [List.length_append] at h6
            have h7 : (sgn0 A C n).length ≤ 1 := by unfold sgn0; split <;> simp
            have h8 : (sgn1 A C (fs.take i)).length ≤ fs.length := by
              unfold sgn1
              rw [List.length_map]
              exact Nat.le_trans (List.length_filter_le _ _) (by rw [List.length_take]; omega)
            rw [show sizeLine = 16777216 by decide, List.length_map]
            omega
          · repeat (first | refine ⟨_, rfl, ?_⟩ | refine ⟨_, _, rfl, rfl, ?_⟩ | refine ⟨rfl, ?_⟩ | refine ⟨_, _, rfl, ?_⟩ | refine ⟨_, _, _, rfl, ?_⟩ | refine ⟨small_le (by simp), ?_⟩ | refine ⟨Or.inl ⟨by decide, by decide⟩, ?_⟩ | refine ⟨⟨by decide, by decide⟩, ?_⟩ | refine ⟨by show (0 : Int) < _; decide, ?_⟩)
            have eL := s6 _ _ (s5 _ _ p4)
            refine ⟨same_mut (p1.trans (s5.trans s6)) nF, tq_updL eL ((p2.same s5).same s6), pairedI (fun _ _ h => prAt_updL eL ((h.same s5).same s6)) p3, ps ++ [t5], by rw [upd_same]; simp, ?_, _, _, rfl⟩
            rw [sgn1_snoc hf, if_pos hf2, ← List.append_assoc]
            refine pairedS (sgns_updL eL ((p5.same s5).same s6)) ?_
            show upd H6 F _ t5 = _
            rw [upd_ne (ne_of e6 eL (by intro z; cases z))]
            exact e6
      · have hf2 : f.1 = 2 := by omega
        refine ⟨p1, p2, p3, ps, p4, ?_, _, _, rfl⟩
        rw [sgn1_snoc hf, if_neg (fun z => z hf2), List.append_nil]
        exact p5
    · obtain ⟨p1, p2, p3, ps, p4, p5, y, z, rfl⟩ := hp
      rw [p3.length, List.take_length] at p5
      repeat (first | refine ⟨_, rfl, ?_⟩ | refine ⟨_, _, rfl, rfl, ?_⟩ | refine ⟨rfl, ?_⟩ | refine ⟨_, _, rfl, ?_⟩ | refine ⟨_, _, _, rfl, ?_⟩ | refine ⟨small_le (by simp), ?_⟩ | refine ⟨Or.inl ⟨by decide, by decide⟩, ?_⟩ | refine ⟨⟨by decide, by decide⟩, ?_⟩ | refine ⟨by show (0 : Int) < _; decide, ?_⟩)
      exact q H' F ps fs p1 nF p4 p5 pf
end
end Bh

/-! W9 -/
set_option maxHeartbeats 4000000
namespace Bh
open PySem PySem.Spec PyProof.Rows L2 Bs
section
variable {P : Program} {w : World} {K : PySem.W.Frag} {mg : Str → Option Value} {base : Heap}
/-! ### the sign of a rim -/
theorem merge_not {k : Key} : ∀ (more acc : List (Key × V)), k ∉ more.map (·.1) → valV (mergeK acc more) k = valV acc k
  | [], _, _ => rfl
  | m :: r, acc, h => by
    show valV (mergeK (putK acc m.1 m.2) r) k = _
    rw [merge_not r _ fun z => h (by rw [List.map_cons]; exact List.mem_cons_of_mem _ z), valV_put, if_neg fun z => h (by rw [z]; exact List.mem_cons_self)]
theorem merge_mem {k : Key} {v : V} : ∀ (more acc : List (Key × V)), (more.map (·.1)).Nodup → (k, v) ∈ more → valV (mergeK acc more) k = some v
  | m :: r, acc, hn, h => by
    show valV (mergeK (putK acc m.1 m.2) r) k = _
    rw [List.map_cons, List.nodup_cons] at hn
    rcases List.mem_cons.mp h with e | h
    · subst e
      rw [merge_not r _ hn.1, valV_put, if_pos rfl]
    · exact merge_mem r _ hn.2 h
def tabK (l : List (Int × Int)) : List (Key × V) := l.map fun p => (Sum.inl p.1, V.int p.2)
theorem tabK_keys {l : List (Int × Int)} : (tabK l).map (·.1) = l.map fun p => (Sum.inl p.1 : Key) := by unfold tabK; rw [List.map_map]; rfl
theorem no8 {p : Nat} (h : Pr p) : (p : Int) ≠ 8 := fun z => by
  have : p = 8 := by omega
  subst this
  rcases h.only 2 ⟨4, rfl⟩ with e | e <;> omega
theorem PF.key {n : Nat} {fs : List (Nat × Nat)} (F : PF n fs) {p : Nat} (hp : Pr p) (hd : p ∣ n) : ∃ f ∈ fs, f.1 = p := by
  have go : ∀ fs : List (Nat × Nat), (∀ f ∈ fs, Pr f.1 ∧ 0 < f.2) → p ∣ pprod fs → ∃ f ∈ fs, f.1 = p := by
    intro fs
    induction fs with
    | nil =>
      intro _ h
      have := Nat.le_of_dvd (by decide) h
      have := hp.two
      have e : pprod [] = 1 := rfl
      omega
    | cons f r ih =>
      intro hf h
      have h' : (p : Int) ∣ ((f.1 ^ f.2 : Nat) : Int) * ((pprod r : Nat) : Int) := by
        rw [← Int.natCast_mul]
        exact Int.natCast_dvd_natCast.mpr h
      rcases hp.dvd_mul h' with q | q
      · refine ⟨f, List.mem_cons_self, ?_⟩
        have q' : p ∣ f.1 ^ f.2 := Int.natCast_dvd_natCast.mp q
        have go2 : ∀ k, p ∣ f.1 ^ k → p ∣ f.1 := by
          intro k
          induction k with
          | zero =>
            intro h
            have e : f.1 ^ 0 = 1 := rfl
            have := Nat.le_of_dvd (by omega) h
            have := hp.two
            omega
          | succ k ih =>
            intro h
            have h' : (p : Int) ∣ ((f.1 ^ k : Nat) : Int) * ((f.1 : Nat) : Int) := by
              rw [← Int.natCast_mul]
              exact Int.natCast_dvd_natCast.mpr h
            rcases hp.dvd_mul h' with q | q
            · exact ih (Int.natCast_dvd_natCast.mp q)
            · exact Int.natCast_dvd_natCast.mp q
        rcases (hf f List.mem_cons_self).1.only p (go2 _ q') with e | e
        · have := hp.two
          omega
        · exact e.symm
      · obtain ⟨g, hg, e⟩ := ih (fun g hg => hf g (List.mem_cons_of_mem _ hg)) (Int.natCast_dvd_natCast.mp q)
        exact ⟨g, List.mem_cons_of_mem _ hg, e⟩
  exact go fs F.pr (by rw [F.prod]; exact hd)
theorem sgn1_mem {A C : Int} {fs : List (Nat × Nat)} {kv : Int × Int} (h : kv ∈ sgn1 A C fs) : ∃ f ∈ fs, f.1 ≠ 2 ∧ kv = ((f.1 : Int), J (bes A C f.1) f.1) := by
  obtain ⟨f, hf, rfl⟩ := List.mem_map.mp h
  obtain ⟨h1, h2⟩ := List.mem_filter.mp hf
  exact ⟨f, h1, by simpa using h2, rfl⟩
theorem tab_nodup {A C : Int} {n : Nat} {fs : List (Nat × Nat)} (F : PF n fs) : ((tabK (sgn0 A C n ++ sgn1 A C fs)).map (·.1)).Nodup := by
  rw [tabK_keys, List.map_append, List.nodup_append]
  refine ⟨by unfold sgn0; split <;> simp, ?_, fun a ha b hb => ?_⟩
  · have h1 : ((fs.filter fun f => f.1 ≠ 2).map (·.1)).Nodup := (List.filter_sublist.map (fun f : Nat × Nat => f.1)).nodup F.nd
    have e : (sgn1 A C fs).map (fun p => (Sum.inl p.1 : Key)) = ((fs.filter fun f => f.1 ≠ 2).map (·.1)).map fun (k : Nat) => (Sum.inl ((k : Nat) : Int) : Key) := by
      unfold sgn1
      rw [List.map_map, List.map_map]
      rfl
    rw [e]
    unfold List.Nodup at h1 ⊢
    rw [List.pairwise_map]
    exact h1.imp fun hne e => hne (by injection e with e; omega)
  · intro e
    subst e
    obtain ⟨kv, hkv, rfl⟩ := List.mem_map.mp ha
    obtain ⟨kv2, hkv2, e2⟩ := List.mem_map.mp hb
    obtain ⟨f, hf, _, rfl⟩ := sgn1_mem hkv2
    have h8 : kv.1 = 8 := by
      unfold sgn0 at hkv
      split at hkv
      · rw [List.mem_singleton.mp hkv]
      · cases hkv
    injection e2 with e2
    exact no8 (F.pr f hf).1 (by rw [← h8]; exact e2)
theorem tab_get {A C : Int} {n : Nat} {fs : List (Nat × Nat)} (F : PF n fs) {p : Nat} (hp : Pr p) (hd : p ∣ n) : (valV (mergeK [] (tabK (sgn0 A C n ++ sgn1 A C fs))) (.inl (if p = 2 then 8 else (p : Int)))).getD (.int 1) = .int (loc A C n p) := by
  have hn := tab_nodup (A := A) (C := C) F
  by_cases h2 : p = 2
  · subst h2
    rw [if_pos rfl]
    have hl : loc A C n ((2 : Nat) : Int) = if (n : Int) % 4 = 0 then e8 A C else 1 := by unfold loc; rw [if_pos (by rfl)]
    rw [hl]
    by_cases h4 : (n : Int) % 4 = 0
    · rw [if_pos h4, merge_mem (v := .int (e8 A C)) _ _ hn]
      · rfl
      · refine List.mem_map.mpr ⟨(8, e8 A C), List.mem_append_left _ ?_, rfl⟩
        unfold sgn0
        rw [if_pos h4]
        exact List.mem_singleton.mpr rfl
    · rw [if_neg h4, merge_not]
      · rfl
      · rw [tabK_keys]
        intro hm
        obtain ⟨kv, hkv, e⟩ := List.mem_map.mp hm
        rcases List.mem_append.mp hkv with hkv | hkv
        · unfold sgn0 at hkv
          rw [if_neg h4] at hkv
          cases hkv
        · obtain ⟨f, hf, _, rfl⟩ := sgn1_mem hkv
          injection e with e
          exact no8 (F.pr f hf).1 e
  · rw [if_neg h2]
    obtain ⟨f, hf, e⟩ := PF.key F hp hd
    rw [merge_mem (v := .int (J (bes A C p) p)) _ _ hn]
    · unfold loc
      rw [if_neg (by omega)]
      rfl
    · refine List.mem_map.mpr ⟨((p : Int), J (bes A C p) p), List.mem_append_right _ ?_, rfl⟩
      exact List.mem_map.mpr ⟨f, List.mem_filter.mpr ⟨hf, by rw [e]; simpa using h2⟩, by rw [e]⟩
theorem loc_pm {A C : Int} {n p : Nat} (hp : Pr p) (hc : Cop (bes A C p) p) : loc A C n p = 1 ∨ loc A C n p = -1 := by
  unfold loc
  by_cases h2 : (p : Int) = 2
  · rw [if_pos h2]
    split
    · exact e8_pm
    · exact .inl rfl
  · rw [if_neg h2]
    exact J_pm hc
theorem alone_pm (n : Int) : alone n = 1 ∨ alone n = -1 := by unfold alone; (repeat' split) <;> simp

theorem sc_sign_of_rim : FnScope ["form", "rim", "found", "signs", "prime", "many"] ["form", "rim"] (defScope (top 77)) := ⟨rfl, rfl, rfl, by decide +kernel, rfl, by decide +kernel, by decide +kernel⟩
def rimProd (A C : Int) (n : Nat) (fs : List (Nat × Nat)) : Int := (fs.map fun f => if f.2 % 2 = 1 then loc A C n f.1 else 1).prod
def spSignOfRim (K : PySem.W.Frag) : Sp := fun vs H Q _ => ∃ (x : Addr) (A B C : Int) (n : Nat), vs = [.ref x, .int n] ∧ FormAt K H x A B C n ∧ Form3 A B C n ∧ n ≤ 1000000 ∧ (∀ p : Nat, Pr p → p ∣ n → Cop (bes A C p) p) ∧
  ∀ H' fs, Same H H' → PF n fs → Q (.int (alone n * rimProd A C n fs)) H'
theorem rimProd_pm {A C : Int} {n : Nat} : ∀ {fs : List (Nat × Nat)}, (∀ f ∈ fs, loc A C n f.1 = 1 ∨ loc A C n f.1 = -1) → rimProd A C n fs = 1 ∨ rimProd A C n fs = -1
  | [], _ => .inl rfl
  | f :: r, h => by
    have ih := rimProd_pm (fs := r) fun g hg => h g (List.mem_cons_of_mem _ hg)
    have h0 := h f List.mem_cons_self
    show (if f.2 % 2 = 1 then loc A C n f.1 else 1) * rimProd A C n r = 1 ∨ (if f.2 % 2 = 1 then loc A C n f.1 else 1) * rimProd A C n r = -1
    split
    · rcases ih with e | e <;> rcases h0 with e' | e' <;> rw [e, e'] <;> simp
    · rw [Int.one_mul]
      exact ih
theorem rimProd_snoc {A C : Int} {n : Nat} {fs : List (Nat × Nat)} {i : Nat} {f : Nat × Nat} (h : fs[i]? = some f) : rimProd A C n (fs.take (i + 1)) = rimProd A C n (fs.take i) * (if f.2 % 2 = 1 then loc A C n f.1 else 1) := by
  unfold rimProd
  rw [List.take_add_one, h, List.map_append, List.prod_append]
  simp
theorem ok_sign_of_rim (T : Tx K mg) : Fx P w K mg base CX0 7 "sign_of_rim" (spSignOfRim K) := by
  refine Fx.of T.g_sign_of_rim T.f_sign_of_rim (fnr0 (N := ["form", "rim", "found", "signs", "prime", "many"]) (ps := ["form", "rim"]) T.f_sign_of_rim sc_sign_of_rim (fun _ _ _ _ _ _ us hl => match us, hl with | [_, _], _ => rfl) (by intro vs H Q E h; repeat (first | (obtain ⟨e, _⟩ := h; subst e; rfl) | (obtain ⟨_, h⟩ := h))) fun cdv A outer s H vs Q E hr h => ?_)
  obtain ⟨x, A, B, C, n, rfl, hx, F3, hn, hc, q⟩ := h
  refine ⟨_, (pss_cons (ps_par (i := 2) (j := 3) (by rfl) sc_sign_of_rim.nd rfl rfl (by decide) rfl rfl (pa_cons (pc (ok_sign_alone T) (hr.mono (by decide)) (by first | exact pass0 | exact passL) (pa_cons (pv 1) pa_nil)) (pa_cons (pe_callTy (call_dictP rfl) (by rfl) T.m_dict (by decide +kernel) (pa_cons (pc (ok_signs_of T) (hr.mono (by decide)) (by first | exact pass0 | exact passL) (pa_cons (pv 0) pa_nil)) pa_nil)) pa_nil)) (by rfl))
      (pss_cons (ps_for PassesOwn.never rfl (pi_tup (pc (ok_prime_powers T) (hr.mono (by decide)) (by first | exact pass0 | exact passL) (pa_cons (pv 1) pa_nil))) (pg_tup rfl (pgs_cons (pg_name (i := 4) sc_sign_of_rim.nd rfl (Or.inl rfl)) (pgs_cons (pg_name (i := 5) sc_sign_of_rim.nd rfl (Or.inl rfl)) pgs_nil))) (pss_one (ps_if (pt_cmpR op_eq (pe_op op_modP (pv 5) pe_int) pe_int (nomark _)) (pss_one (ps_set (i := 2) sc_sign_of_rim.nd rfl (Or.inl rfl) (pe_op op_mulW (pv 2) (pe_dget2 (hu_of hr) (pv 3) (pe_ifExp (pt_cmpR op_eq (pv 4) pe_int (nomark _)) (pe_glob (v := .int 8) rfl T.i_EIGHT.choose_spec ⟨_, rfl⟩) (pv 4)) pe_int ⟨rfl, rfl, rfl, rfl⟩)))) pss_nil)))
      (pss_one (ps_ret (pv 2))))), ?_⟩
  repeat (first | refine ⟨_, rfl, ?_⟩ | refine ⟨_, _, rfl, rfl, ?_⟩ | refine ⟨rfl, ?_⟩ | refine ⟨_, _, rfl, ?_⟩ | refine ⟨_, _, _, rfl, ?_⟩ | refine ⟨small_le (by simp), ?_⟩ | refine ⟨Or.inl ⟨by decide, by decide⟩, ?_⟩ | refine ⟨⟨by decide, by decide⟩, ?_⟩ | refine ⟨by show (0 : Int) < _; decide, ?_⟩)
  refine ⟨x, A, B, C, n, rfl, hx, F3, hn, hc, fun H1 a ps fs s1 na ea sg pf => ?_⟩
  refine ⟨a, ps, tabK (sgn0 A C n ++ sgn1 A C fs), rfl, sqL ea, ?_, fun D nD => ?_⟩
  · have go : ∀ {ps : List Addr} {l : List (Int × Int)}, SgnsAt H1 ps l → Paired (fun p kv => SqT K H1 p [kV kv.1, kv.2]) ps (tabK l) := by
      intro ps l h
      induction h with
      | nil => exact .nil
      | cons a t ih => exact .cons (sqT a) ih
    exact go sg
  have s2 := same_new (o := .dK (mergeK [] (tabK (sgn0 A C n ++ sgn1 A C fs)))) nD
  have e2 : (upd H1 D (.dK (mergeK [] (tabK (sgn0 A C n ++ sgn1 A C fs))))) D = _ := upd_same
  generalize upd H1 D (.dK (mergeK [] (tabK (sgn0 A C n ++ sgn1 A C fs)))) = H2 at s2 e2 ⊢
  repeat (first | refine ⟨_, rfl, ?_⟩ | refine ⟨_, _, rfl, rfl, ?_⟩ | refine ⟨rfl, ?_⟩ | refine ⟨_, _, rfl, ?_⟩ | refine ⟨_, _, _, rfl, ?_⟩ | refine ⟨small_le (by simp), ?_⟩ | refine ⟨Or.inl ⟨by decide, by decide⟩, ?_⟩ | refine ⟨⟨by decide, by decide⟩, ?_⟩ | refine ⟨by show (0 : Int) < _; decide, ?_⟩)
  refine ⟨F3.n0, hn, fun H3 b xs fs2 s3 nb tqb hpr pf2 => ⟨b, rfl, ⟨_, tqb.sqT⟩, ?_⟩⟩
  have hloc : ∀ f ∈ fs2, loc A C n f.1 = 1 ∨ loc A C n f.1 = -1 := fun f hf => loc_pm (pf2.pr f hf).1 (hc f.1 (pf2.pr f hf).1 (pf2.dvd hf))
  refine for_tup (xs := xs) (fun i σ H' => Same H3 H' ∧ ∃ y z, σ = [some (.ref x), some (.int n), some (.int (alone n * rimProd A C n (fs2.take i))), some (.ref D), y, z])
    ⟨Same.refl _, none, none, by rw [List.take_zero]; show _ = [some (V.ref x), some (V.int n), some (V.int (alone n * 1)), some (V.ref D), none, none]; rw [Int.mul_one]; rfl⟩ (fun i σ H' _ p => (tqb.same p.1).sqT) (fun i v σ H' hv hp => ?_) (fun σ H' hp => ?_)
  · obtain ⟨p1, y, z, rfl⟩ := hp
    obtain ⟨f, hf, tt, rfl, htt⟩ := paired_get hpr hv
    have hfm := List.mem_of_getElem? hf
    have fpr := (pf2.pr f hfm).1
    have hb : (alone n * rimProd A C n (fs2.take i)).natAbs < 2 ^ 1 := by
      have h1 := alone_pm n
      have h2 := rimProd_pm (A := A) (C := C) (n := n) (fs := fs2.take i) fun g hg => hloc g (List.mem_of_mem_take hg)
      rcases h1 with e | e <;> rcases h2 with e' | e' <;> rw [e, e'] <;> decide
    have hb2 : (loc A C n f.1).natAbs < 2 ^ 1 := by rcases hloc f hfm with e | e <;> rw [e] <;> decide
    refine ⟨tt, _, rfl, sqT (p1 _ _ htt), rfl, ?_⟩
    repeat (first | refine ⟨_, rfl, ?_⟩ | refine ⟨_, _, rfl, rfl, ?_⟩ | refine ⟨rfl, ?_⟩ | refine ⟨_, _, rfl, ?_⟩ | refine ⟨_, _, _, rfl, ?_⟩ | refine ⟨small_le (by simp), ?_⟩ | refine ⟨Or.inl ⟨by decide, by decide⟩, ?_⟩ | refine ⟨⟨by decide, by decide⟩, ?_⟩ | refine ⟨by show (0 : Int) < _; decide, ?_⟩)
    have hg := tab_get (A := A) (C := C) pf fpr (pf2.dvd hfm)
    have hst : alone n * rimProd A C n (fs2.take (i + 1)) = if f.2 % 2 = 1 then alone n * rimProd A C n (fs2.take i) * loc A C n f.1 else alone n * rimProd A C n (fs2.take i) := by
      rw [rimProd_snoc hf]
      split
      · rw [Int.mul_assoc]
      · rw [Int.mul_one]
    refine eB (fun e3 => ?_) (fun e3 => ?_)
    · have ho : f.2 % 2 = 1 := by omega
      rw [if_pos ho] at hst
      repeat (first | refine ⟨_, rfl, ?_⟩ | refine ⟨_, _, rfl, rfl, ?_⟩ | refine ⟨rfl, ?_⟩ | refine ⟨_, _, rfl, ?_⟩ | refine ⟨_, _, _, rfl, ?_⟩ | refine ⟨small_le (by simp), ?_⟩ | refine ⟨Or.inl ⟨by decide, by decide⟩, ?_⟩ | refine ⟨⟨by decide, by decide⟩, ?_⟩ | refine ⟨by show (0 : Int) < _; decide, ?_⟩)
      refine ⟨.inl ⟨_, .inl ((s3.trans p1) _ _ e2)⟩, ?_⟩
      repeat (first | refine ⟨_, rfl, ?_⟩ | refine ⟨_, _, rfl, rfl, ?_⟩ | refine ⟨rfl, ?_⟩ | refine ⟨_, _, rfl, ?_⟩ | refine ⟨_, _, _, rfl, ?_⟩ | refine ⟨small_le (by simp), ?_⟩ | refine ⟨Or.inl ⟨by decide, by decide⟩, ?_⟩ | refine ⟨⟨by decide, by decide⟩, ?_⟩ | refine ⟨by show (0 : Int) < _; decide, ?_⟩)
      refine eB (fun e4 => ?_) (fun e4 => ?_)
      · have h2 : f.1 = 2 := by omega
        rw [if_pos h2] at hg
        repeat (first | refine ⟨_, rfl, ?_⟩ | refine ⟨_, _, rfl, rfl, ?_⟩ | refine ⟨rfl, ?_⟩ | refine ⟨_, _, rfl, ?_⟩ | refine ⟨_, _, _, rfl, ?_⟩ | refine ⟨small_le (by simp), ?_⟩ | refine ⟨Or.inl ⟨by decide, by decide⟩, ?_⟩ | refine ⟨⟨by decide, by decide⟩, ?_⟩ | refine ⟨by show (0 : Int) < _; decide, ?_⟩)
        refine ⟨_, DGet.k (k := Sum.inl 8) ((s3.trans p1) _ _ e2), ?_⟩
        rw [hg]
        repeat (first | refine ⟨_, rfl, ?_⟩ | refine ⟨_, _, rfl, rfl, ?_⟩ | refine ⟨rfl, ?_⟩ | refine ⟨_, _, rfl, ?_⟩ | refine ⟨_, _, _, rfl, ?_⟩ | refine ⟨small_le (by simp), ?_⟩ | refine ⟨Or.inl ⟨by decide, by decide⟩, ?_⟩ | refine ⟨⟨by decide, by decide⟩, ?_⟩ | refine ⟨by show (0 : Int) < _; decide, ?_⟩)
        refine ⟨wide_mul hb hb2 (by decide) (by decide) (by decide), ?_⟩
        repeat (first | refine ⟨_, rfl, ?_⟩ | refine ⟨_, _, rfl, rfl, ?_⟩ | refine ⟨rfl, ?_⟩ | refine ⟨_, _, rfl, ?_⟩ | refine ⟨_, _, _, rfl, ?_⟩ | refine ⟨small_le (by simp), ?_⟩ | refine ⟨Or.inl ⟨by decide, by decide⟩, ?_⟩ | refine ⟨⟨by decide, by decide⟩, ?_⟩ | refine ⟨by show (0 : Int) < _; decide, ?_⟩)
        exact ⟨p1, _, _, by rw [hst]; rfl⟩
      · have h2 : f.1 ≠ 2 := fun z => e4 (by rw [z]; rfl)
        rw [if_neg h2] at hg
        repeat (first | refine ⟨_, rfl, ?_⟩ | refine ⟨_, _, rfl, rfl, ?_⟩ | refine ⟨rfl, ?_⟩ | refine ⟨_, _, rfl, ?_⟩ | refine ⟨_, _, _, rfl, ?_⟩ | refine ⟨small_le (by simp), ?_⟩ | refine ⟨Or.inl ⟨by decide, by decide⟩, ?_⟩ | refine ⟨⟨by decide, by decide⟩, ?_⟩ | refine ⟨by show (0 : Int) < _; decide, ?_⟩)
        refine ⟨_, DGet.k (k := Sum.inl (f.1 : Int)) ((s3.trans p1) _ _ e2), ?_⟩
        rw [hg]
        repeat (first | refine ⟨_, rfl, ?_⟩ | refine ⟨_, _, rfl, rfl, ?_⟩ | refine ⟨rfl, ?_⟩ | refine ⟨_, _, rfl, ?_⟩ | refine ⟨_, _, _, rfl, ?_⟩ | refine ⟨small_le (by simp), ?_⟩ | refine ⟨Or.inl ⟨by decide, by decide⟩, ?_⟩ | refine ⟨⟨by decide, by decide⟩, ?_⟩ | refine ⟨by show (0 : Int) < _; decide, ?_⟩)
        refine ⟨wide_mul hb hb2 (by decide) (by decide) (by decide), ?_⟩
        repeat (first | refine ⟨_, rfl, ?_⟩ | refine ⟨_, _, rfl, rfl, ?_⟩ | refine ⟨rfl, ?_⟩ | refine ⟨_, _, rfl, ?_⟩ | refine ⟨_, _, _, rfl, ?_⟩ | refine ⟨small_le (by simp), ?_⟩ | refine ⟨Or.inl ⟨by decide, by decide⟩, ?_⟩ | refine ⟨⟨by decide, by decide⟩, ?_⟩ | refine ⟨by show (0 : Int) < _; decide, ?_⟩)
        exact ⟨p1, _, _, by rw [hst]; rfl⟩
    · have ho : ¬ f.2 % 2 = 1 := by omega
      rw [if_neg ho] at hst
      repeat (first | refine ⟨_, rfl, ?_⟩ | refine ⟨_, _, rfl, rfl, ?_⟩ | refine ⟨rfl, ?_⟩ | refine ⟨_, _, rfl, ?_⟩ | refine ⟨_, _, _, rfl, ?_⟩ | refine ⟨small_le (by simp), ?_⟩ | refine ⟨Or.inl ⟨by decide, by decide⟩, ?_⟩ | refine ⟨⟨by decide, by decide⟩, ?_⟩ | refine ⟨by show (0 : Int) < _; decide, ?_⟩)
      exact ⟨p1, _, _, by rw [hst]; rfl⟩
  · obtain ⟨p1, y, z, rfl⟩ := hp
    repeat (first | refine ⟨_, rfl, ?_⟩ | refine ⟨_, _, rfl, rfl, ?_⟩ | refine ⟨rfl, ?_⟩ | refine ⟨_, _, rfl, ?_⟩ | refine ⟨_, _, _, rfl, ?_⟩ | refine ⟨small_le (by simp), ?_⟩ | refine ⟨Or.inl ⟨by decide, by decide⟩, ?_⟩ | refine ⟨⟨by decide, by decide⟩, ?_⟩ | refine ⟨by show (0 : Int) < _; decide, ?_⟩)
    rw [hpr.length, List.take_length]
    exact q H' fs2 (s1.trans (s2.trans (s3.trans p1))) pf2
theorem sc_local_signs : FnScope ["form"] ["form"] (defScope (top 78)) := ⟨rfl, rfl, rfl, by decide +kernel, rfl, by decide +kernel, by decide +kernel⟩
def spLocalSigns (K : PySem.W.Frag) : Sp := fun vs H Q _ => ∃ (x : Addr) (A B C : Int) (n : Nat), vs = [.ref x] ∧ FormAt K H x A B C n ∧ Form3 A B C n ∧ n ≤ 1000000 ∧ (∀ p : Nat, Pr p → p ∣ n → Cop (bes A C p) p) ∧
  ∀ H' b ps fs, Same H H' → Bq H' b (ps.map V.ref) → SgnsAt H' ps (sgn0 A C n ++ sgn1 A C fs) → PF n fs → Q (.ref b) H'
theorem ok_local_signs (T : Tx K mg) : Fx P w K mg base CX0 7 "local_signs" (spLocalSigns K) := by
  refine Fx.of T.g_local_signs T.f_local_signs (fnr0 (N := ["form"]) (ps := ["form"]) T.f_local_signs sc_local_signs (fun _ _ _ _ _ _ us hl => match us, hl with | [_], _ => rfl) (by intro vs H Q E h; repeat (first | (obtain ⟨e, _⟩ := h; subst e; rfl) | (obtain ⟨_, h⟩ := h))) fun cdv A outer s H vs Q E hr h => ?_)
  obtain ⟨x, A, B, C, n, rfl, hx, F3, hn, hc, q⟩ := h
  have hx0 := hx
  obtain ⟨dx, t, h1, h2⟩ := hx
  refine ⟨_, (pss_cons (ps_expr (pc (ok_need_form T) (hr.mono (by decide)) (by first | exact pass0 | exact passL) (pa_cons (pv 0) pa_nil)))
      (pss_cons (ps_expr (pc (ok_need_primes T) (hr.mono (by decide)) (by first | exact pass0 | exact passL) (pa_cons (pe_fld (pv 0) rfl) pa_nil)))
      (pss_one (ps_ret (pe_callTy call_tuple_ofB (by rfl) T.m_tuple (by decide +kernel) (pa_cons (pc (ok_signs_of T) (hr.mono (by decide)) (by first | exact pass0 | exact passL) (pa_cons (pv 0) pa_nil)) pa_nil)))))), ?_⟩
  repeat (first | refine ⟨_, rfl, ?_⟩ | refine ⟨_, _, rfl, rfl, ?_⟩ | refine ⟨rfl, ?_⟩ | refine ⟨_, _, rfl, ?_⟩ | refine ⟨_, _, _, rfl, ?_⟩ | refine ⟨small_le (by simp), ?_⟩ | refine ⟨Or.inl ⟨by decide, by decide⟩, ?_⟩ | refine ⟨⟨by decide, by decide⟩, ?_⟩ | refine ⟨by show (0 : Int) < _; decide, ?_⟩)
  refine ⟨x, A, B, C, n, rfl, hx0, ?_⟩
  repeat (first | refine ⟨_, rfl, ?_⟩ | refine ⟨_, _, rfl, rfl, ?_⟩ | refine ⟨rfl, ?_⟩ | refine ⟨_, _, rfl, ?_⟩ | refine ⟨_, _, _, rfl, ?_⟩ | refine ⟨small_le (by simp), ?_⟩ | refine ⟨Or.inl ⟨by decide, by decide⟩, ?_⟩ | refine ⟨⟨by decide, by decide⟩, ?_⟩ | refine ⟨by show (0 : Int) < _; decide, ?_⟩)
  refine ⟨x, _, dx, _, _, rfl, h1, T.cls_Form, T.noat_Form_side, rfl, ?_⟩
  repeat (first | refine ⟨_, rfl, ?_⟩ | refine ⟨_, _, rfl, rfl, ?_⟩ | refine ⟨rfl, ?_⟩ | refine ⟨_, _, rfl, ?_⟩ | refine ⟨_, _, _, rfl, ?_⟩ | refine ⟨small_le (by simp), ?_⟩ | refine ⟨Or.inl ⟨by decide, by decide⟩, ?_⟩ | refine ⟨⟨by decide, by decide⟩, ?_⟩ | refine ⟨by show (0 : Int) < _; decide, ?_⟩)
  refine ⟨by omega, ?_⟩
  repeat (first | refine ⟨_, rfl, ?_⟩ | refine ⟨_, _, rfl, rfl, ?_⟩ | refine ⟨rfl, ?_⟩ | refine ⟨_, _, rfl, ?_⟩ | refine ⟨_, _, _, rfl, ?_⟩ | refine ⟨small_le (by simp), ?_⟩ | refine ⟨Or.inl ⟨by decide, by decide⟩, ?_⟩ | refine ⟨⟨by decide, by decide⟩, ?_⟩ | refine ⟨by show (0 : Int) < _; decide, ?_⟩)
  refine ⟨x, A, B, C, n, rfl, hx0, F3, hn, hc, fun H1 a ps fs s1 na ea sg pf => ?_⟩
  refine ⟨a, _, rfl, .inl ⟨sqL ea, ?_⟩⟩
  (intro oZ b hoZ nb; generalize hqZ : upd _ b _ = H2; have s2 := new_same hqZ nb; have e2 := new_bq hqZ hoZ; clear hqZ hoZ)
  exact q H2 b ps fs (s1.trans s2) e2 (sg.same s2) pf
theorem sc_sign_by_rim : FnScope ["four", "lowest", "rim"] ["four"] (defScope (top 79)) := ⟨rfl, rfl, rfl, by decide +kernel, rfl, by decide +kernel, by decide +kernel⟩
def spSignByRim (K : PySem.W.Frag) : Sp := fun vs H Q _ => ∃ (x : Addr) (ns ms : List Int) (path : List Nat) (v : Int), vs = [.ref x] ∧ FourAt K H x ns ∧ ns.length = 4 ∧ Down ns path ms ∧ path.length ≤ 200 ∧ Four4 ms ∧
  ((0 ∈ ms ∧ (∀ y ∈ ms, 0 ≤ y) ∧ v = 1) ∨
   ∃ (n : Nat) (A B C : Int), n ≤ 1000000 ∧ -(n : Int) ∈ ms ∧ (∀ y ∈ ms, -(n : Int) ≤ y) ∧ numsAt ms (ms.idxOf (-(n : Int))) = [A, B, C] ∧ Form3 A B C n ∧ (∀ p : Nat, Pr p → p ∣ n → Cop (bes A C p) p) ∧ ∀ fs, PF n fs → v = alone n * rimProd A C n fs) ∧
  ∀ H', Same H H' → Q (.int v) H'
theorem okN {x qual : Str} {st : Stmt} {dvs : List V} {kws : List (Str × V)} {N ps : List Str} {k : Nat} {sp : Sp} {f : Addr} {fd : FuncData} (F : FunD K x qual (defArgs st) (defBody st) (defScope st) dvs kws f fd) (S : FnScope N ps (defScope st)) (len : ∀ vs H Q E, sp vs H Q E → vs.length = ps.length)
    (hbody : ∀ (cdv : Value) (A : Around) (outer : List Env) (s : Shared) (H : Hp) (vs : List V) (Q : VK) (E : XK), Room k (A.deeper (envOfC qual (defScope st) s.heap.objs.size f cdv)) → sp vs H Q E →
      ∃ t, PSs (cxOf CX0 P w K mg base N qual (defScope st) f cdv A outer s H E).nox (defBody st) t ∧ t { nx := fun _ H' => Q .non H', rt := Q } (L2.start N vs) H) : FnOk P w K mg base CX0 (k + 1) f fd ps sp :=
  F.ok S len fun cdv A outer s H vs Q E hr h => by
    obtain ⟨t, h1, h2⟩ := hbody cdv A outer s H vs Q E hr h
    exact ⟨t, h1.nox, h2⟩
theorem okf_sign_by_rim (T : Tx K mg) {fd : FuncData} (F : FunD K "sign_by_rim" "sign_by_rim" (defArgs (top 79)) (defBody (top 79)) (defScope (top 79)) [] [] (He.ga K "sign_by_rim") fd) : FnOk R.prog w K mg base CX0 8 (He.ga K "sign_by_rim") fd ["four"] (spSignByRim K) := by
  refine okN (N := ["four", "lowest", "rim"]) F sc_sign_by_rim (by intro vs H Q E h; repeat (first | (obtain ⟨e, _⟩ := h; subst e; rfl) | (obtain ⟨_, h⟩ := h))) fun cdv A outer s H vs Q E hr h => ?_
  obtain ⟨x, ns, ms, path, v, rfl, hx, h4, hd, hz, F4, hv, q⟩ := h
  refine ⟨_, (pss_cons (ps_expr (pc (ok_need_four T) (hr.mono (by decide)) (by first | exact pass0 | exact passL) (pa_cons (pv 0) pa_nil)))
      (pss_cons (ps_set (i := 1) sc_sign_by_rim.nd rfl (Or.inl rfl) (pe_fld (pc (ok_least T) (hr.mono (by decide)) (by first | exact pass0 | exact passL) (pa_cons (pv 0) pa_nil)) rfl))
      (pss_cons (ps_set (i := 2) sc_sign_by_rim.nd rfl (Or.inl rfl) (pe_un un_neg (pe_callB (cr_minX rfl) (by rfl) T.m_min (by decide +kernel) (pa_cons (pe_fld (pv 1) rfl) pa_nil))))
      (pss_cons (ps_if (pt_cmpR op_eq (pv 2) pe_int (nomark _)) (pss_one (ps_ret pe_int)) pss_nil)
      (pss_cons (ps_expr (pc (ok_need_primes T) (hr.mono (by decide)) (by first | exact pass0 | exact passL) (pa_cons (pv 2) pa_nil)))
      (pss_one (ps_ret (pc (ok_sign_of_rim T) (hr.mono (by decide)) (by first | exact pass0 | exact passL) (pa_cons (pc (ok_gasket_form T) (hr.mono (by decide)) (by first | exact pass0 | exact passL) (pa_cons (pv 1) pa_nil)) (pa_cons (pv 2) pa_nil)))))))))), ?_⟩
  repeat (first | refine ⟨_, rfl, ?_⟩ | refine ⟨_, _, rfl, rfl, ?_⟩ | refine ⟨rfl, ?_⟩ | refine ⟨_, _, rfl, ?_⟩ | refine ⟨_, _, _, rfl, ?_⟩ | refine ⟨small_le (by simp), ?_⟩ | refine ⟨Or.inl ⟨by decide, by decide⟩, ?_⟩ | refine ⟨⟨by decide, by decide⟩, ?_⟩ | refine ⟨by show (0 : Int) < _; decide, ?_⟩)
  refine ⟨x, ns, rfl, hx, ?_⟩
  repeat (first | refine ⟨_, rfl, ?_⟩ | refine ⟨_, _, rfl, rfl, ?_⟩ | refine ⟨rfl, ?_⟩ | refine ⟨_, _, rfl, ?_⟩ | refine ⟨_, _, _, rfl, ?_⟩ | refine ⟨small_le (by simp), ?_⟩ | refine ⟨Or.inl ⟨by decide, by decide⟩, ?_⟩ | refine ⟨⟨by decide, by decide⟩, ?_⟩ | refine ⟨by show (0 : Int) < _; decide, ?_⟩)
  refine ⟨x, ns, ms, path, rfl, hx, h4, hd, hz, F4, fun H1 z s1 nz ez => ?_⟩
  obtain ⟨dz, wd, pz, y, lz, hz1, hy⟩ := ez
  have hy0 := hy
  obtain ⟨dy, t, hy1, hy2⟩ := hy
  refine ⟨z, _, dz, _, _, rfl, hz1, T.cls_Least, T.noat_Least_four, rfl, ?_⟩
  repeat (first | refine ⟨_, rfl, ?_⟩ | refine ⟨_, _, rfl, rfl, ?_⟩ | refine ⟨rfl, ?_⟩ | refine ⟨_, _, rfl, ?_⟩ | refine ⟨_, _, _, rfl, ?_⟩ | refine ⟨small_le (by simp), ?_⟩ | refine ⟨Or.inl ⟨by decide, by decide⟩, ?_⟩ | refine ⟨⟨by decide, by decide⟩, ?_⟩ | refine ⟨by show (0 : Int) < _; decide, ?_⟩)
  refine ⟨y, _, dy, _, _, rfl, hy1, T.cls_Four, T.noat_Four_bends, rfl, ?_⟩
  repeat (first | refine ⟨_, rfl, ?_⟩ | refine ⟨_, _, rfl, rfl, ?_⟩ | refine ⟨rfl, ?_⟩ | refine ⟨_, _, rfl, ?_⟩ | refine ⟨_, _, _, rfl, ?_⟩ | refine ⟨small_le (by simp), ?_⟩ | refine ⟨Or.inl ⟨by decide, by decide⟩, ?_⟩ | refine ⟨⟨by decide, by decide⟩, ?_⟩ | refine ⟨by show (0 : Int) < _; decide, ?_⟩)
  refine ⟨t, ms, rfl, .inr hy2.sqT, by have := F4.len; omega, fun m hm hle => ?_⟩
  repeat (first | refine ⟨_, rfl, ?_⟩ | refine ⟨_, _, rfl, rfl, ?_⟩ | refine ⟨rfl, ?_⟩ | refine ⟨_, _, rfl, ?_⟩ | refine ⟨_, _, _, rfl, ?_⟩ | refine ⟨small_le (by simp), ?_⟩ | refine ⟨Or.inl ⟨by decide, by decide⟩, ?_⟩ | refine ⟨⟨by decide, by decide⟩, ?_⟩ | refine ⟨by show (0 : Int) < _; decide, ?_⟩)
  rcases hv with ⟨h0, hge, rfl⟩ | ⟨n, A, B, C, hn, hmem, hlow, enum, F3, hc, hv⟩
  · have m0 : m = 0 := by
      have := hle 0 h0
      have := hge m hm
      omega
    refine eT (by omega) ?_
    repeat (first | refine ⟨_, rfl, ?_⟩ | refine ⟨_, _, rfl, rfl, ?_⟩ | refine ⟨rfl, ?_⟩ | refine ⟨_, _, rfl, ?_⟩ | refine ⟨_, _, _, rfl, ?_⟩ | refine ⟨small_le (by simp), ?_⟩ | refine ⟨Or.inl ⟨by decide, by decide⟩, ?_⟩ | refine ⟨⟨by decide, by decide⟩, ?_⟩ | refine ⟨by show (0 : Int) < _; decide, ?_⟩)
    exact q _ s1
  · have mn : m = -(n : Int) := by
      have := hle _ hmem
      have := hlow m hm
      omega
    have n0 := F3.n0
    refine eF (by omega) ?_
    repeat (first | refine ⟨_, rfl, ?_⟩ | refine ⟨_, _, rfl, rfl, ?_⟩ | refine ⟨rfl, ?_⟩ | refine ⟨_, _, rfl, ?_⟩ | refine ⟨_, _, _, rfl, ?_⟩ | refine ⟨small_le (by simp), ?_⟩ | refine ⟨Or.inl ⟨by decide, by decide⟩, ?_⟩ | refine ⟨⟨by decide, by decide⟩, ?_⟩ | refine ⟨by show (0 : Int) < _; decide, ?_⟩)
    refine ⟨by omega, ?_⟩
    repeat (first | refine ⟨_, rfl, ?_⟩ | refine ⟨_, _, rfl, rfl, ?_⟩ | refine ⟨rfl, ?_⟩ | refine ⟨_, _, rfl, ?_⟩ | refine ⟨_, _, _, rfl, ?_⟩ | refine ⟨small_le (by simp), ?_⟩ | refine ⟨Or.inl ⟨by decide, by decide⟩, ?_⟩ | refine ⟨⟨by decide, by decide⟩, ?_⟩ | refine ⟨by show (0 : Int) < _; decide, ?_⟩)
    refine ⟨y, ms, m, A, B, C, n, rfl, hy0, F4.len, hm, hle, by omega, by rw [mn]; exact enum, F3, fun H2 f s2 nf ef => ?_⟩
    repeat (first | refine ⟨_, rfl, ?_⟩ | refine ⟨_, _, rfl, rfl, ?_⟩ | refine ⟨rfl, ?_⟩ | refine ⟨_, _, rfl, ?_⟩ | refine ⟨_, _, _, rfl, ?_⟩ | refine ⟨small_le (by simp), ?_⟩ | refine ⟨Or.inl ⟨by decide, by decide⟩, ?_⟩ | refine ⟨⟨by decide, by decide⟩, ?_⟩ | refine ⟨by show (0 : Int) < _; decide, ?_⟩)
    refine ⟨f, A, B, C, n, by rw [mn]; simp, ef, F3, hn, hc, fun H3 fs s3 pf => ?_⟩
    rw [← hv fs pf]
    exact q H3 (s1.trans (s2.trans s3))
theorem ok_sign_by_rim (T : Tx K mg) : Fx R.prog w K mg base CX0 8 "sign_by_rim" (spSignByRim K) := by
  refine Fx.of T.g_sign_by_rim T.f_sign_by_rim ?_
  obtain ⟨fd, F⟩ := T.f_sign_by_rim
  refine ((okf_sign_by_rim T F).raw (F.bindsN fun _ _ _ _ _ _ us hl => match us, hl with | [_], _ => rfl) .nil).imp fun vs H Q E h => ?_
  rw [List.append_nil]
  exact h
end
end Bh

/-! WA -/
set_option maxHeartbeats 4000000
namespace Bh
open PySem PySem.Spec PyProof.Rows L2 Bs
section
variable {P : Program} {w : World} {K : PySem.W.Frag} {mg : Str → Option Value} {base : Heap}
theorem call_intI {X : Cx} : CallR X (.type "int") (fun xs H Q => ∃ i, xs = [.int i] ∧ Q (.int i) H) := fun pins s σ H vs us Q I r h => call_int1 pins s σ H vs us Q I r (.inl h)
theorem call_intB {X : Cx} : CallR X (.type "int") (fun xs H Q => ∃ k, xs = [.bl k] ∧ Q (.int (if k then 1 else 0)) H) := fun pins s σ H vs us Q I r h => call_int1 pins s σ H vs us Q I r (.inr h)
theorem dpInts {H : Hp} : ∀ ns : List Int, DpAll K H (vi ns) (ns.map PyData.int)
  | [] => .nil
  | n :: ns => .cons (.int n) (dpInts ns)
theorem dp_list {H : Hp} {a : Addr} {ns : List Int} (h : H a = some (.lst (vi ns))) : Dp K H (.ref a) (.list (ns.map PyData.int)) := .lst (sqL h) (dpInts ns)
theorem eqv_ints : ∀ ns ms : List Int, PyData.eqv (.list (ns.map PyData.int)) (.list (ms.map PyData.int)) = decide (ns = ms) := by
  intro ns ms
  show PyData.eqvAll _ _ = _
  induction ns generalizing ms with
  | nil => cases ms <;> rfl
  | cons n ns ih =>
    cases ms with
    | nil => rfl
    | cons m ms =>
      rw [List.map_cons, List.map_cons]
      show (PyData.eqv (.int n) (.int m) && PyData.eqvAll _ _) = _
      rw [ih]
      by_cases h : n = m <;> simp [PyData.eqv, h]
/-! ### the bowl -/
def Bowl (H : Hp) (b l : Addr) (t : Nat) : Prop := ∃ (cells : List Int) (u : Nat) (r : Int), u ≤ t ∧ H b = some (.lst [.ref l, .int u, .int r]) ∧ H l = some (.lst (vi cells)) ∧ cells.length ≤ 60
theorem b64 : (2:Nat) ^ 64 = 18446744073709551616 := by decide
theorem b31 : (2:Nat) ^ 31 = 2147483648 := by decide
theorem b21 : (2:Nat) ^ 21 = 2097152 := by decide
theorem mixb {x u : Int} (h0 : 0 ≤ x) (h1 : x < 2147483563) (h2 : 0 ≤ u) (h3 : u < 524288) : (x * (2 * u + 4523) + 73027 * u * u + 51059).natAbs < 2 ^ 64 := by
  have e1 : x * (2 * u + 4523) ≤ 2147483563 * 1053099 := Int.mul_le_mul (by omega) (by omega) (by omega) (by decide)
  have e2 : 73027 * u * u ≤ (73027 * 524288) * 524288 := Int.mul_le_mul (by omega) (by omega) h2 (by decide)
  have e3 : 0 ≤ x * (2 * u + 4523) := Int.mul_nonneg h0 (by omega)
  have e4 : 0 ≤ 73027 * u * u := Int.mul_nonneg (by omega) h2
  rw [b64]
  omega
theorem sc_law_ladle : FnScope ["_law_bowl_here", "_law_many", "_law_rest", "_law_turn", "_law_cell", "_law_mixed_here"] ["_law_bowl_here", "_law_many"] (defScope (top 92)) := ⟨rfl, rfl, rfl, by decide +kernel, rfl, by decide +kernel, by decide +kernel⟩
def spLadle : Sp := fun vs H Q _ => ∃ (b l : Addr) (many t : Nat), vs = [.ref b, .int many] ∧ Bowl H b l t ∧ t < 2 ^ 19 ∧ 0 < many ∧ many < 2 ^ 30 ∧ ∀ H' (v : Nat), SameX b H H' → Bowl H' b l (t + 1) → v < many → Q (.int v) H'
theorem ok_law_ladle (T : Tx K mg) : Fx P w K mg base CX0 1 "_law_ladle" spLadle := by
  refine Fx.of T.g_law_ladle T.f_law_ladle (fnr0 (N := ["_law_bowl_here", "_law_many", "_law_rest", "_law_turn", "_law_cell", "_law_mixed_here"]) (ps := ["_law_bowl_here", "_law_many"]) T.f_law_ladle sc_law_ladle (fun _ _ _ _ _ _ us hl => match us, hl with | [_, _], _ => rfl) (by intro vs H Q E h; repeat (first | (obtain ⟨e, _⟩ := h; subst e; rfl) | (obtain ⟨_, h⟩ := h))) fun cdv A outer s H vs Q E hr h => ?_)
  obtain ⟨b, l, many, t, rfl, ⟨cells, u, r, hu, hb, hl, hz⟩, ht, hm0, hm1, q⟩ := h
  have hlb : l ≠ b := fun z => by
    rw [z, hb] at hl
    have h2 : [V.ref l, V.int u, V.int r] = vi cells := by injection hl with hl; injection hl
    cases cells with
    | nil => cases h2
    | cons c cs => injection h2 with h2; cases h2
  have fin : ∀ H' (z : Int), SameX b H H' → Bowl H' b l (t + 1) → Q (.int (z % many)) H' := fun H' z x h => by
    have h1 := Int.emod_nonneg z (show (many : Int) ≠ 0 by omega)
    have h2 := Int.emod_lt_of_pos z (show (0 : Int) < many by omega)
    have e : z % many = (((z % many).toNat : Nat) : Int) := by omega
    rw [e]
    exact q H' _ x h (by omega)
  refine ⟨_, (pss_cons (ps_if (pt_cmpR op_gt (pe_ix ix_list (pv 0) pe_int (fun _ _ => rfl)) pe_int (nomark _)) (pss_cons (ps_set (i := 2) sc_law_ladle.nd rfl (Or.inl rfl) (pe_callTy call_intI (by rfl) T.m_int (by decide +kernel) (pa_cons (pe_ix ix_list (pv 0) pe_int (fun _ _ => rfl)) pa_nil)))
      (pss_cons (ps_asg (pe_op op_divP (pv 2) (pv 1)) (pg_sub (pv 0) pe_int set_list))
      (pss_one (ps_ret (pe_op op_modP (pe_callTy call_intI (by rfl) T.m_int (by decide +kernel) (pa_cons (pv 2) pa_nil)) (pv 1)))))) pss_nil)
      (pss_cons (ps_set (i := 3) sc_law_ladle.nd rfl (Or.inl rfl) (pe_ix ix_list (pv 0) pe_int (fun _ _ => rfl)))
      (pss_cons (ps_asg (pe_op op_add (pv 3) pe_int) (pg_sub (pv 0) pe_int set_list))
      (pss_cons (ps_set (i := 4) sc_law_ladle.nd rfl (Or.inl rfl) (pe_op op_add (pe_op op_mul pe_int (pv 3)) pe_int))
      (pss_cons (ps_if (pt_cmpR (op_neD hr.units) (pe_ix ix_list (pv 0) pe_int (fun _ _ => rfl)) (pe_lst pa_nil) (nomark _)) (pss_one (ps_set (i := 4) sc_law_ladle.nd rfl (Or.inl rfl) (pe_ix ix_list (pe_ix ix_list (pv 0) pe_int (fun _ _ => rfl)) (pe_op op_modP (pe_callTy call_intI (by rfl) T.m_int (by decide +kernel) (pa_cons (pv 3) pa_nil)) (pe_callB call_len_seq (by rfl) T.m_len PySem.boot_len (pa_cons (pe_ix ix_list (pv 0) pe_int (fun _ _ => rfl)) pa_nil))) (fun _ _ => rfl)))) pss_nil)
      (pss_cons (ps_if (PW.pt (pw_and (pt_cmpR op_lt (pv 3) (pe_callB call_len_seq (by rfl) T.m_len PySem.boot_len (pa_cons (pe_ix ix_list (pv 0) pe_int (fun _ _ => rfl)) pa_nil)) (nomark _)) (pw_and1 (pt_cmpR op_ge (pe_callB call_abs (by rfl) T.m_abs (by decide +kernel) (pa_cons (pv 4) pa_nil)) (pe_op op_pow pe_int pe_int) (nomark _))))) (pss_cons (ps_set (i := 2) sc_law_ladle.nd rfl (Or.inl rfl) (pe_op op_add (pe_op op_mul pe_int (pe_op op_sub (pe_callB call_abs (by rfl) T.m_abs (by decide +kernel) (pa_cons (pv 4) pa_nil)) (pe_op op_pow pe_int pe_int))) (pe_callTy call_intB (by rfl) T.m_int (by decide +kernel) (pa_cons (pe_cmpR op_lt (pv 4) pe_int (nomark _)) pa_nil))))
      (pss_cons (ps_asg (pe_op op_divP (pv 2) (pv 1)) (pg_sub (pv 0) pe_int set_list))
      (pss_one (ps_ret (pe_op op_modP (pe_callTy call_intI (by rfl) T.m_int (by decide +kernel) (pa_cons (pv 2) pa_nil)) (pv 1)))))) pss_nil)
      (pss_cons (ps_set (i := 5) sc_law_ladle.nd rfl (Or.inl rfl) (pe_op op_modP (pe_callTy call_intI (by rfl) T.m_int (by decide +kernel) (pa_cons (pe_op op_pow (pe_op op_add (pe_op op_add (pe_op op_modP (pe_callTy call_intI (by rfl) T.m_int (by decide +kernel) (pa_cons (pv 4) pa_nil)) pe_int) (pe_op op_mul pe_int (pv 3))) pe_int) pe_int) pa_nil)) pe_int))
      (pss_cons (ps_set (i := 5) sc_law_ladle.nd rfl (Or.inl rfl) (pe_op op_modP (pe_callTy call_intI (by rfl) T.m_int (by decide +kernel) (pa_cons (pe_op op_pow (pe_op op_add (pe_op op_add (pe_op op_mulW (pv 5) (pe_op op_add (pe_op op_mul pe_int (pv 3)) pe_int)) (pe_op op_mulW (pe_op op_mul pe_int (pv 3)) (pv 3))) pe_int) pe_int) pa_nil)) pe_int))
      (pss_one (ps_ret (pe_op op_modP (pe_callTy call_intI (by rfl) T.m_int (by decide +kernel) (pa_cons (pe_op op_divP (pv 5) pe_int) pa_nil)) (pv 1)))))))))))), ?_⟩
  repeat (first | refine ⟨_, rfl, ?_⟩ | refine ⟨_, _, rfl, rfl, ?_⟩ | refine ⟨rfl, ?_⟩ | refine ⟨_, _, rfl, ?_⟩ | refine ⟨_, _, _, rfl, ?_⟩ | refine ⟨small_le (by simp), ?_⟩ | refine ⟨Or.inl ⟨by decide, by decide⟩, ?_⟩ | refine ⟨⟨by decide, by decide⟩, ?_⟩ | refine ⟨by show (0 : Int) < _; decide, ?_⟩)
  refine ⟨b, _, 2, _, rfl, rfl, sqL hb, atI_nat (j := 2) rfl, ?_⟩
  repeat (first | refine ⟨_, rfl, ?_⟩ | refine ⟨_, _, rfl, rfl, ?_⟩ | refine ⟨rfl, ?_⟩ | refine ⟨_, _, rfl, ?_⟩ | refine ⟨_, _, _, rfl, ?_⟩ | refine ⟨small_le (by simp), ?_⟩ | refine ⟨Or.inl ⟨by decide, by decide⟩, ?_⟩ | refine ⟨⟨by decide, by decide⟩, ?_⟩ | refine ⟨by show (0 : Int) < _; decide, ?_⟩)
  refine dB (fun e => ?_) (fun e => ?_)
  · repeat (first | refine ⟨_, rfl, ?_⟩ | refine ⟨_, _, rfl, rfl, ?_⟩ | refine ⟨rfl, ?_⟩ | refine ⟨_, _, rfl, ?_⟩ | refine ⟨_, _, _, rfl, ?_⟩ | refine ⟨small_le (by simp), ?_⟩ | refine ⟨Or.inl ⟨by decide, by decide⟩, ?_⟩ | refine ⟨⟨by decide, by decide⟩, ?_⟩ | refine ⟨by show (0 : Int) < _; decide, ?_⟩)
    refine ⟨b, _, 2, _, rfl, rfl, sqL hb, atI_nat (j := 2) rfl, ?_⟩
    repeat (first | refine ⟨_, rfl, ?_⟩ | refine ⟨_, _, rfl, rfl, ?_⟩ | refine ⟨rfl, ?_⟩ | refine ⟨_, _, rfl, ?_⟩ | refine ⟨_, _, _, rfl, ?_⟩ | refine ⟨small_le (by simp), ?_⟩ | refine ⟨Or.inl ⟨by decide, by decide⟩, ?_⟩ | refine ⟨⟨by decide, by decide⟩, ?_⟩ | refine ⟨by show (0 : Int) < _; decide, ?_⟩)
    refine ⟨⟨by show (0:Int) < many; omega, by show (many : Int) < 1073741824; omega⟩, ?_⟩
    repeat (first | refine ⟨_, rfl, ?_⟩ | refine ⟨_, _, rfl, rfl, ?_⟩ | refine ⟨rfl, ?_⟩ | refine ⟨_, _, rfl, ?_⟩ | refine ⟨_, _, _, rfl, ?_⟩ | refine ⟨small_le (by simp), ?_⟩ | refine ⟨Or.inl ⟨by decide, by decide⟩, ?_⟩ | refine ⟨⟨by decide, by decide⟩, ?_⟩ | refine ⟨by show (0 : Int) < _; decide, ?_⟩)
    refine ⟨b, _, 2, 2, rfl, rfl, hb, rfl, ?_⟩
    have x1 : SameX b H (upd H b (.lst ([V.ref l, V.int u, V.int r].set 2 (.int (r / many))))) := SameX.set (Same.x (Same.refl H))
    have e1 : (upd H b (.lst ([V.ref l, V.int u, V.int r].set 2 (.int (r / many))))) b = some (.lst [V.ref l, V.int u, V.int (r / many)]) := upd_same
    generalize upd H b (.lst ([V.ref l, V.int u, V.int r].set 2 (.int (r / many)))) = H1 at x1 e1 ⊢
    repeat (first | refine ⟨_, rfl, ?_⟩ | refine ⟨_, _, rfl, rfl, ?_⟩ | refine ⟨rfl, ?_⟩ | refine ⟨_, _, rfl, ?_⟩ | refine ⟨_, _, _, rfl, ?_⟩ | refine ⟨small_le (by simp), ?_⟩ | refine ⟨Or.inl ⟨by decide, by decide⟩, ?_⟩ | refine ⟨⟨by decide, by decide⟩, ?_⟩ | refine ⟨by show (0 : Int) < _; decide, ?_⟩)
    refine ⟨by show (0:Int) < many; omega, ?_⟩
    exact fin _ _ x1 ⟨cells, u, _, by omega, e1, x1 _ _ hlb hl, hz⟩
  · repeat (first | refine ⟨_, rfl, ?_⟩ | refine ⟨_, _, rfl, rfl, ?_⟩ | refine ⟨rfl, ?_⟩ | refine ⟨_, _, rfl, ?_⟩ | refine ⟨_, _, _, rfl, ?_⟩ | refine ⟨small_le (by simp), ?_⟩ | refine ⟨Or.inl ⟨by decide, by decide⟩, ?_⟩ | refine ⟨⟨by decide, by decide⟩, ?_⟩ | refine ⟨by show (0 : Int) < _; decide, ?_⟩)
    refine ⟨b, _, 1, _, rfl, rfl, sqL hb, atI_nat (j := 1) rfl, ?_⟩
    repeat (first | refine ⟨_, rfl, ?_⟩ | refine ⟨_, _, rfl, rfl, ?_⟩ | refine ⟨rfl, ?_⟩ | refine ⟨_, _, rfl, ?_⟩ | refine ⟨_, _, _, rfl, ?_⟩ | refine ⟨small_le (by simp), ?_⟩ | refine ⟨Or.inl ⟨by decide, by decide⟩, ?_⟩ | refine ⟨⟨by decide, by decide⟩, ?_⟩ | refine ⟨by show (0 : Int) < _; decide, ?_⟩)
    refine ⟨b, _, 1, 1, rfl, rfl, hb, rfl, ?_⟩
    have x1 : SameX b H (upd H b (.lst ([V.ref l, V.int u, V.int r].set 1 (.int (u + 1))))) := SameX.set (Same.x (Same.refl H))
    have e1 : (upd H b (.lst ([V.ref l, V.int u, V.int r].set 1 (.int (u + 1))))) b = some (.lst [V.ref l, V.int (u + 1), V.int r]) := upd_same
    generalize upd H b (.lst ([V.ref l, V.int u, V.int r].set 1 (.int (u + 1)))) = H1 at x1 e1 ⊢
    have hl1 := x1 _ _ hlb hl
    repeat (first | refine ⟨_, rfl, ?_⟩ | refine ⟨_, _, rfl, rfl, ?_⟩ | refine ⟨rfl, ?_⟩ | refine ⟨_, _, rfl, ?_⟩ | refine ⟨_, _, _, rfl, ?_⟩ | refine ⟨small_le (by simp), ?_⟩ | refine ⟨Or.inl ⟨by decide, by decide⟩, ?_⟩ | refine ⟨⟨by decide, by decide⟩, ?_⟩ | refine ⟨by show (0 : Int) < _; decide, ?_⟩)
    refine ⟨b, _, 0, _, rfl, rfl, sqL e1, atI_nat (j := 0) rfl, ?_⟩
    repeat (first | refine ⟨_, rfl, ?_⟩ | refine ⟨_, _, rfl, rfl, ?_⟩ | refine ⟨rfl, ?_⟩ | refine ⟨_, _, rfl, ?_⟩ | refine ⟨_, _, _, rfl, ?_⟩ | refine ⟨small_le (by simp), ?_⟩ | refine ⟨Or.inl ⟨by decide, by decide⟩, ?_⟩ | refine ⟨⟨by decide, by decide⟩, ?_⟩ | refine ⟨by show (0 : Int) < _; decide, ?_⟩)
    (intro p np; generalize hqZ : upd _ p _ = H2; have s2 := new_same hqZ np; have e2 := new_at hqZ; clear hqZ)
    refine ⟨_, _, dp_list (s2 _ _ hl1), dp_list (ns := []) e2, PySem.W.shaped_ints _, PySem.W.shaped_ints _, ?_⟩
    rw [eqv_ints]
    have x2 : SameX b H H2 := fun a o n e => s2 _ _ (x1 a o n e)
    have hb2 : Bowl H2 b l (t + 1) := ⟨cells, u + 1, r, by omega, s2 _ _ e1, s2 _ _ hl1, hz⟩
    have b19 : (2:Nat) ^ 19 = 524288 := by decide
    have b30 : (2:Nat) ^ 30 = 1073741824 := by decide
    have b40 : (2:Nat) ^ 40 = 1099511627776 := by decide
    repeat (first | refine ⟨_, rfl, ?_⟩ | refine ⟨_, _, rfl, rfl, ?_⟩ | refine ⟨rfl, ?_⟩ | refine ⟨_, _, rfl, ?_⟩ | refine ⟨_, _, _, rfl, ?_⟩ | refine ⟨small_le (by simp), ?_⟩ | refine ⟨Or.inl ⟨by decide, by decide⟩, ?_⟩ | refine ⟨⟨by decide, by decide⟩, ?_⟩ | refine ⟨by show (0 : Int) < _; decide, ?_⟩)
    refine nB (fun e3 => ?a1) (fun e3 => ?a2)
    case' a1 =>
      have hpos : 0 < cells.length := List.length_pos_iff.mpr e3
      have hix : u % cells.length < cells.length := Nat.mod_lt _ hpos
      repeat (first | refine ⟨_, rfl, ?_⟩ | refine ⟨_, _, rfl, rfl, ?_⟩ | refine ⟨rfl, ?_⟩ | refine ⟨_, _, rfl, ?_⟩ | refine ⟨_, _, _, rfl, ?_⟩ | refine ⟨small_le (by simp), ?_⟩ | refine ⟨Or.inl ⟨by decide, by decide⟩, ?_⟩ | refine ⟨⟨by decide, by decide⟩, ?_⟩ | refine ⟨by show (0 : Int) < _; decide, ?_⟩)
      refine ⟨b, _, 0, _, rfl, rfl, sqL (s2 _ _ e1), atI_nat (j := 0) rfl, ?_⟩
      repeat (first | refine ⟨_, rfl, ?_⟩ | refine ⟨_, _, rfl, rfl, ?_⟩ | refine ⟨rfl, ?_⟩ | refine ⟨_, _, rfl, ?_⟩ | refine ⟨_, _, _, rfl, ?_⟩ | refine ⟨small_le (by simp), ?_⟩ | refine ⟨Or.inl ⟨by decide, by decide⟩, ?_⟩ | refine ⟨⟨by decide, by decide⟩, ?_⟩ | refine ⟨by show (0 : Int) < _; decide, ?_⟩)
      refine ⟨b, _, 0, _, rfl, rfl, sqL (s2 _ _ e1), atI_nat (j := 0) rfl, ?_⟩
      repeat (first | refine ⟨_, rfl, ?_⟩ | refine ⟨_, _, rfl, rfl, ?_⟩ | refine ⟨rfl, ?_⟩ | refine ⟨_, _, rfl, ?_⟩ | refine ⟨_, _, _, rfl, ?_⟩ | refine ⟨small_le (by simp), ?_⟩ | refine ⟨Or.inl ⟨by decide, by decide⟩, ?_⟩ | refine ⟨⟨by decide, by decide⟩, ?_⟩ | refine ⟨by show (0 : Int) < _; decide, ?_⟩)
      refine ⟨l, _, rfl, .inl (sqL (s2 _ _ hl1)), ?_⟩
      repeat (first | refine ⟨_, rfl, ?_⟩ | refine ⟨_, _, rfl, rfl, ?_⟩ | refine ⟨rfl, ?_⟩ | refine ⟨_, _, rfl, ?_⟩ | refine ⟨_, _, _, rfl, ?_⟩ | refine ⟨small_le (by simp), ?_⟩ | refine ⟨Or.inl ⟨by decide, by decide⟩, ?_⟩ | refine ⟨⟨by decide, by decide⟩, ?_⟩ | refine ⟨by show (0 : Int) < _; decide, ?_⟩)
      refine ⟨by simp; omega, ?_⟩
      refine ⟨l, vi cells, _, .int (cells[u % cells.length]), rfl, rfl, sqL (s2 _ _ hl1), ?_, ?_⟩
      · rw [List.length_map, ← Int.natCast_emod]
        exact atI_nat (by rw [List.getElem?_map, List.getElem?_eq_getElem hix]; rfl)
      obtain ⟨c, hc⟩ : ∃ c, c = cells[u % cells.length] := ⟨_, rfl⟩
      rw [← hc]
      repeat (first | refine ⟨_, rfl, ?_⟩ | refine ⟨_, _, rfl, rfl, ?_⟩ | refine ⟨rfl, ?_⟩ | refine ⟨_, _, rfl, ?_⟩ | refine ⟨_, _, _, rfl, ?_⟩ | refine ⟨small_le (by simp), ?_⟩ | refine ⟨Or.inl ⟨by decide, by decide⟩, ?_⟩ | refine ⟨⟨by decide, by decide⟩, ?_⟩ | refine ⟨by show (0 : Int) < _; decide, ?_⟩)
    all_goals
      repeat (first | refine ⟨_, rfl, ?_⟩ | refine ⟨_, _, rfl, rfl, ?_⟩ | refine ⟨rfl, ?_⟩ | refine ⟨_, _, rfl, ?_⟩ | refine ⟨_, _, _, rfl, ?_⟩ | refine ⟨small_le (by simp), ?_⟩ | refine ⟨Or.inl ⟨by decide, by decide⟩, ?_⟩ | refine ⟨⟨by decide, by decide⟩, ?_⟩ | refine ⟨by show (0 : Int) < _; decide, ?_⟩)
      refine ⟨b, _, 0, _, rfl, rfl, sqL (s2 _ _ e1), atI_nat (j := 0) rfl, ?_⟩
      repeat (first | refine ⟨_, rfl, ?_⟩ | refine ⟨_, _, rfl, rfl, ?_⟩ | refine ⟨rfl, ?_⟩ | refine ⟨_, _, rfl, ?_⟩ | refine ⟨_, _, _, rfl, ?_⟩ | refine ⟨small_le (by simp), ?_⟩ | refine ⟨Or.inl ⟨by decide, by decide⟩, ?_⟩ | refine ⟨⟨by decide, by decide⟩, ?_⟩ | refine ⟨by show (0 : Int) < _; decide, ?_⟩)
      refine ⟨l, _, rfl, .inl (sqL (s2 _ _ hl1)), ?_⟩
      repeat (first | refine ⟨_, rfl, ?_⟩ | refine ⟨_, _, rfl, rfl, ?_⟩ | refine ⟨rfl, ?_⟩ | refine ⟨_, _, rfl, ?_⟩ | refine ⟨_, _, _, rfl, ?_⟩ | refine ⟨small_le (by simp), ?_⟩ | refine ⟨Or.inl ⟨by decide, by decide⟩, ?_⟩ | refine ⟨⟨by decide, by decide⟩, ?_⟩ | refine ⟨by show (0 : Int) < _; decide, ?_⟩)
      refine dB (fun e5 => ?_) (fun e5 => ?_)
      · repeat (first | refine ⟨_, rfl, ?_⟩ | refine ⟨_, _, rfl, rfl, ?_⟩ | refine ⟨rfl, ?_⟩ | refine ⟨_, _, rfl, ?_⟩ | refine ⟨_, _, _, rfl, ?_⟩ | refine ⟨small_le (by simp), ?_⟩ | refine ⟨Or.inl ⟨by decide, by decide⟩, ?_⟩ | refine ⟨⟨by decide, by decide⟩, ?_⟩ | refine ⟨by show (0 : Int) < _; decide, ?_⟩)
        refine dB (fun e6 => ?_) (fun e6 => ?_)
        · repeat (first | refine ⟨_, rfl, ?_⟩ | refine ⟨_, _, rfl, rfl, ?_⟩ | refine ⟨rfl, ?_⟩ | refine ⟨_, _, rfl, ?_⟩ | refine ⟨_, _, _, rfl, ?_⟩ | refine ⟨small_le (by simp), ?_⟩ | refine ⟨Or.inl ⟨by decide, by decide⟩, ?_⟩ | refine ⟨⟨by decide, by decide⟩, ?_⟩ | refine ⟨by show (0 : Int) < _; decide, ?_⟩)
          refine ⟨⟨by show (0:Int) < many; omega, by show (many : Int) < 1073741824; omega⟩, ?_⟩
          repeat (first | refine ⟨_, rfl, ?_⟩ | refine ⟨_, _, rfl, rfl, ?_⟩ | refine ⟨rfl, ?_⟩ | refine ⟨_, _, rfl, ?_⟩ | refine ⟨_, _, _, rfl, ?_⟩ | refine ⟨small_le (by simp), ?_⟩ | refine ⟨Or.inl ⟨by decide, by decide⟩, ?_⟩ | refine ⟨⟨by decide, by decide⟩, ?_⟩ | refine ⟨by show (0 : Int) < _; decide, ?_⟩)
          refine ⟨b, _, 2, 2, rfl, rfl, s2 _ _ e1, rfl, ?_⟩
          repeat (first | refine ⟨_, rfl, ?_⟩ | refine ⟨_, _, rfl, rfl, ?_⟩ | refine ⟨rfl, ?_⟩ | refine ⟨_, _, rfl, ?_⟩ | refine ⟨_, _, _, rfl, ?_⟩ | refine ⟨small_le (by simp), ?_⟩ | refine ⟨Or.inl ⟨by decide, by decide⟩, ?_⟩ | refine ⟨⟨by decide, by decide⟩, ?_⟩ | refine ⟨by show (0 : Int) < _; decide, ?_⟩)
          refine ⟨by show (0:Int) < many; omega, ?_⟩
          exact fin _ _ (x2.set) ⟨cells, u + 1, _, by omega, upd_same, by rw [upd_ne hlb]; exact s2 _ _ hl1, hz⟩
        · repeat (first | refine ⟨_, rfl, ?_⟩ | refine ⟨_, _, rfl, rfl, ?_⟩ | refine ⟨rfl, ?_⟩ | refine ⟨_, _, rfl, ?_⟩ | refine ⟨_, _, _, rfl, ?_⟩ | refine ⟨small_le (by simp), ?_⟩ | refine ⟨Or.inl ⟨by decide, by decide⟩, ?_⟩ | refine ⟨⟨by decide, by decide⟩, ?_⟩ | refine ⟨by show (0 : Int) < _; decide, ?_⟩)
          refine ⟨⟨by decide, by decide, by show Int.natAbs _ < _; rw [b64]; omega⟩, ?_⟩
          repeat (first | refine ⟨_, rfl, ?_⟩ | refine ⟨_, _, rfl, rfl, ?_⟩ | refine ⟨rfl, ?_⟩ | refine ⟨_, _, rfl, ?_⟩ | refine ⟨_, _, _, rfl, ?_⟩ | refine ⟨small_le (by simp), ?_⟩ | refine ⟨Or.inl ⟨by decide, by decide⟩, ?_⟩ | refine ⟨⟨by decide, by decide⟩, ?_⟩ | refine ⟨by show (0 : Int) < _; decide, ?_⟩)
          refine ⟨wide_mul (a := 31) (b := 21) (by rw [b31]; show Int.natAbs (_ % _) < _; omega) (by rw [b21]; show Int.natAbs (_ + _) < _; omega) (by decide) (by decide) (by decide), ?_⟩
          repeat (first | refine ⟨_, rfl, ?_⟩ | refine ⟨_, _, rfl, rfl, ?_⟩ | refine ⟨rfl, ?_⟩ | refine ⟨_, _, rfl, ?_⟩ | refine ⟨_, _, _, rfl, ?_⟩ | refine ⟨small_le (by simp), ?_⟩ | refine ⟨Or.inl ⟨by decide, by decide⟩, ?_⟩ | refine ⟨⟨by decide, by decide⟩, ?_⟩ | refine ⟨by show (0 : Int) < _; decide, ?_⟩)
          refine ⟨wide_mul (a := 40) (b := 21) (by rw [b40]; show Int.natAbs (73027 * _) < _; omega) (by rw [b21]; omega) (by decide) (by decide) (by decide), ?_⟩
          repeat (first | refine ⟨_, rfl, ?_⟩ | refine ⟨_, _, rfl, rfl, ?_⟩ | refine ⟨rfl, ?_⟩ | refine ⟨_, _, rfl, ?_⟩ | refine ⟨_, _, _, rfl, ?_⟩ | refine ⟨small_le (by simp), ?_⟩ | refine ⟨Or.inl ⟨by decide, by decide⟩, ?_⟩ | refine ⟨⟨by decide, by decide⟩, ?_⟩ | refine ⟨by show (0 : Int) < _; decide, ?_⟩)
          refine ⟨⟨by decide, by decide, mixb (Int.emod_nonneg _ (by decide)) (Int.emod_lt_of_pos _ (by decide)) (by omega) (by omega)⟩, ?_⟩
          repeat (first | refine ⟨_, rfl, ?_⟩ | refine ⟨_, _, rfl, rfl, ?_⟩ | refine ⟨rfl, ?_⟩ | refine ⟨_, _, rfl, ?_⟩ | refine ⟨_, _, _, rfl, ?_⟩ | refine ⟨small_le (by simp), ?_⟩ | refine ⟨Or.inl ⟨by decide, by decide⟩, ?_⟩ | refine ⟨⟨by decide, by decide⟩, ?_⟩ | refine ⟨by show (0 : Int) < _; decide, ?_⟩)
          refine ⟨by show (0:Int) < many; omega, ?_⟩
          exact fin _ _ x2 hb2
      · repeat (first | refine ⟨_, rfl, ?_⟩ | refine ⟨_, _, rfl, rfl, ?_⟩ | refine ⟨rfl, ?_⟩ | refine ⟨_, _, rfl, ?_⟩ | refine ⟨_, _, _, rfl, ?_⟩ | refine ⟨small_le (by simp), ?_⟩ | refine ⟨Or.inl ⟨by decide, by decide⟩, ?_⟩ | refine ⟨⟨by decide, by decide⟩, ?_⟩ | refine ⟨by show (0 : Int) < _; decide, ?_⟩)
        refine ⟨⟨by decide, by decide, by show Int.natAbs _ < _; rw [b64]; omega⟩, ?_⟩
        repeat (first | refine ⟨_, rfl, ?_⟩ | refine ⟨_, _, rfl, rfl, ?_⟩ | refine ⟨rfl, ?_⟩ | refine ⟨_, _, rfl, ?_⟩ | refine ⟨_, _, _, rfl, ?_⟩ | refine ⟨small_le (by simp), ?_⟩ | refine ⟨Or.inl ⟨by decide, by decide⟩, ?_⟩ | refine ⟨⟨by decide, by decide⟩, ?_⟩ | refine ⟨by show (0 : Int) < _; decide, ?_⟩)
        refine ⟨wide_mul (a := 31) (b := 21) (by rw [b31]; show Int.natAbs (_ % _) < _; omega) (by rw [b21]; show Int.natAbs (_ + _) < _; omega) (by decide) (by decide) (by decide), ?_⟩
        repeat (first | refine ⟨_, rfl, ?_⟩ | refine ⟨_, _, rfl, rfl, ?_⟩ | refine ⟨rfl, ?_⟩ | refine ⟨_, _, rfl, ?_⟩ | refine ⟨_, _, _, rfl, ?_⟩ | refine ⟨small_le (by simp), ?_⟩ | refine ⟨Or.inl ⟨by decide, by decide⟩, ?_⟩ | refine ⟨⟨by decide, by decide⟩, ?_⟩ | refine ⟨by show (0 : Int) < _; decide, ?_⟩)
        refine ⟨wide_mul (a := 40) (b := 21) (by rw [b40]; show Int.natAbs (73027 * _) < _; omega) (by rw [b21]; omega) (by decide) (by decide) (by decide), ?_⟩
        repeat (first | refine ⟨_, rfl, ?_⟩ | refine ⟨_, _, rfl, rfl, ?_⟩ | refine ⟨rfl, ?_⟩ | refine ⟨_, _, rfl, ?_⟩ | refine ⟨_, _, _, rfl, ?_⟩ | refine ⟨small_le (by simp), ?_⟩ | refine ⟨Or.inl ⟨by decide, by decide⟩, ?_⟩ | refine ⟨⟨by decide, by decide⟩, ?_⟩ | refine ⟨by show (0 : Int) < _; decide, ?_⟩)
        refine ⟨⟨by decide, by decide, mixb (Int.emod_nonneg _ (by decide)) (Int.emod_lt_of_pos _ (by decide)) (by omega) (by omega)⟩, ?_⟩
        repeat (first | refine ⟨_, rfl, ?_⟩ | refine ⟨_, _, rfl, rfl, ?_⟩ | refine ⟨rfl, ?_⟩ | refine ⟨_, _, rfl, ?_⟩ | refine ⟨_, _, _, rfl, ?_⟩ | refine ⟨small_le (by simp), ?_⟩ | refine ⟨Or.inl ⟨by decide, by decide⟩, ?_⟩ | refine ⟨⟨by decide, by decide⟩, ?_⟩ | refine ⟨by show (0 : Int) < _; decide, ?_⟩)
        refine ⟨by show (0:Int) < many; omega, ?_⟩
        exact fin _ _ x2 hb2
end
end Bh

/-! WC -/
set_option maxHeartbeats 4000000
namespace Bh
open PySem PySem.Spec PyProof.Rows L2 Bs
section
variable {P : Program} {w : World} {K : PySem.W.Frag} {mg : Str → Option Value} {base : Heap}
/-! ### the law's own tools -/
theorem Bowl.same {H H' : Hp} {b l : Addr} {t : Nat} (h : Bowl H b l t) (s : Same H H') : Bowl H' b l t := let ⟨cells, u, r, h1, h2, h3, h4⟩ := h; ⟨cells, u, r, h1, s _ _ h2, s _ _ h3, h4⟩
theorem Bowl.le {H : Hp} {b l : Addr} {t t' : Nat} (h : Bowl H b l t) (s : t ≤ t') : Bowl H b l t' := let ⟨cells, u, r, h1, h2, h3, h4⟩ := h; ⟨cells, u, r, Nat.le_trans h1 s, h2, h3, h4⟩
theorem Bowl.ne {H : Hp} {b l p : Addr} {t : Nat} {o : HO} (h : Bowl H b l t) (hp : H p = some o) (d : ∀ l u r, o ≠ .lst [.ref l, .int u, .int r]) : p ≠ b := by
  obtain ⟨cells, u, r, h1, h2, h3, h4⟩ := h
  intro z
  rw [z, h2] at hp
  injection hp with hp
  exact d _ _ _ hp.symm
theorem Bowl.set {H : Hp} {b l L : Addr} {t : Nat} {o : HO} (h : Bowl H b l t) (h1 : L ≠ b) (h2 : L ≠ l) : Bowl (upd H L o) b l t := by
  obtain ⟨cells, u, r, g1, g2, g3, g4⟩ := h
  exact ⟨cells, u, r, g1, by rw [upd_ne (Ne.symm h1)]; exact g2, by rw [upd_ne (Ne.symm h2)]; exact g3, g4⟩
theorem sc_law_pick : FnScope ["_law_bowl_here", "_law_some"] ["_law_bowl_here", "_law_some"] (defScope (top 93)) := ⟨rfl, rfl, rfl, by decide +kernel, rfl, by decide +kernel, by decide +kernel⟩
def spPick : Sp := fun vs H Q _ => ∃ (b l p : Addr) (xs : List V) (t : Nat), vs = [.ref b, .ref p] ∧ Bowl H b l t ∧ t < 2 ^ 19 ∧ H p = some (.lst xs) ∧ p ≠ b ∧ 0 < xs.length ∧ xs.length < 2 ^ 30 ∧ ∀ H' (i : Nat) v, SameX b H H' → Bowl H' b l (t + 1) → xs[i]? = some v → Q v H'
theorem ok_law_pick (T : Tx K mg) : Fx P w K mg base CX0 2 "_law_pick" spPick := by
  refine Fx.of T.g_law_pick T.f_law_pick (fnr0 (N := ["_law_bowl_here", "_law_some"]) (ps := ["_law_bowl_here", "_law_some"]) T.f_law_pick sc_law_pick (fun _ _ _ _ _ _ us hl => match us, hl with | [_, _], _ => rfl) (by intro vs H Q E h; repeat (first | (obtain ⟨e, _⟩ := h; subst e; rfl) | (obtain ⟨_, h⟩ := h))) fun cdv A outer s H vs Q E hr h => ?_)
  obtain ⟨b, l, p, xs, t, rfl, hb, ht, hp, hpb, h0, h1, q⟩ := h
  refine ⟨_, (pss_one (ps_ret (pe_ix ix_list (pv 1) (pc (ok_law_ladle T) (hr.mono (by decide)) (by first | exact pass0 | exact passL) (pa_cons (pv 0) (pa_cons (pe_callB call_len_seq (by rfl) T.m_len PySem.boot_len (pa_cons (pv 1) pa_nil)) pa_nil))) (fun _ _ => rfl)))), ?_⟩
  repeat (first | refine ⟨_, rfl, ?_⟩ | refine ⟨_, _, rfl, rfl, ?_⟩ | refine ⟨rfl, ?_⟩ | refine ⟨_, _, rfl, ?_⟩ | refine ⟨_, _, _, rfl, ?_⟩ | refine ⟨small_le (by simp), ?_⟩ | refine ⟨Or.inl ⟨by decide, by decide⟩, ?_⟩ | refine ⟨⟨by decide, by decide⟩, ?_⟩ | refine ⟨by show (0 : Int) < _; decide, ?_⟩)
  refine ⟨p, _, rfl, .inl (sqL hp), ?_⟩
  repeat (first | refine ⟨_, rfl, ?_⟩ | refine ⟨_, _, rfl, rfl, ?_⟩ | refine ⟨rfl, ?_⟩ | refine ⟨_, _, rfl, ?_⟩ | refine ⟨_, _, _, rfl, ?_⟩ | refine ⟨small_le (by simp), ?_⟩ | refine ⟨Or.inl ⟨by decide, by decide⟩, ?_⟩ | refine ⟨⟨by decide, by decide⟩, ?_⟩ | refine ⟨by show (0 : Int) < _; decide, ?_⟩)
  refine ⟨b, l, xs.length, t, rfl, hb, ht, h0, h1, fun H1 v x1 b1 hv => ?_⟩
  refine ⟨p, xs, v, xs[v], rfl, rfl, sqL (x1 _ _ hpb hp), atI_nat (List.getElem?_eq_getElem hv), ?_⟩
  exact q H1 v _ x1 b1 (List.getElem?_eq_getElem hv)
theorem sc_law_shared : FnScope ["_law_one", "_law_other"] ["_law_one", "_law_other"] (defScope (top 94)) := ⟨rfl, rfl, rfl, by decide +kernel, rfl, by decide +kernel, by decide +kernel⟩
def spShared : Sp := fun vs H Q _ => ∃ i j : Int, vs = [.int i, .int j] ∧ Q (.int (Int.gcd i j)) H
theorem ok_law_shared (T : Tx K mg) : Fx P w K mg base CX0 1 "_law_shared" spShared := by
  refine Fx.of T.g_law_shared T.f_law_shared (fnr0 (N := ["_law_one", "_law_other"]) (ps := ["_law_one", "_law_other"]) T.f_law_shared sc_law_shared (fun _ _ _ _ _ _ us hl => match us, hl with | [_, _], _ => rfl) (by intro vs H Q E h; repeat (first | (obtain ⟨e, _⟩ := h; subst e; rfl) | (obtain ⟨_, h⟩ := h))) fun cdv A outer s H vs Q E hr h => ?_)
  obtain ⟨i, j, rfl, q⟩ := h
  refine ⟨_, (pss_cons (ps_par (i := 0) (j := 1) (by rfl) sc_law_shared.nd rfl rfl (by decide) rfl rfl (pa_cons (pe_callB call_abs (by rfl) T.m_abs (by decide +kernel) (pa_cons (pv 0) pa_nil)) (pa_cons (pe_callB call_abs (by rfl) T.m_abs (by decide +kernel) (pa_cons (pv 1) pa_nil)) pa_nil)) (by rfl))
      (pss_cons (ps_while PassesOwn.never (pt_cmpR op_gt (pv 1) pe_int (nomark _)) (pss_one (ps_par (i := 0) (j := 1) (by rfl) sc_law_shared.nd rfl rfl (by decide) rfl rfl (pa_cons (pv 1) (pa_cons (pe_op op_modP (pe_callTy call_intI (by rfl) T.m_int (by decide +kernel) (pa_cons (pv 0) pa_nil)) (pv 1)) pa_nil)) (by rfl))))
      (pss_one (ps_ret (pv 0))))), ?_⟩
  repeat (first | refine ⟨_, rfl, ?_⟩ | refine ⟨_, _, rfl, rfl, ?_⟩ | refine ⟨rfl, ?_⟩ | refine ⟨_, _, rfl, ?_⟩ | refine ⟨_, _, _, rfl, ?_⟩ | refine ⟨small_le (by simp), ?_⟩ | refine ⟨Or.inl ⟨by decide, by decide⟩, ?_⟩ | refine ⟨⟨by decide, by decide⟩, ?_⟩ | refine ⟨by show (0 : Int) < _; decide, ?_⟩)
  refine ⟨fun m σ H' => H' = H ∧ ∃ a b : Nat, Nat.gcd a b = Int.gcd i j ∧ m = b ∧ σ = [some (.int a), some (.int b)], ⟨_, rfl, i.natAbs, j.natAbs, rfl, rfl, ?_⟩, fun m σ H' hp => ?_⟩
  · have e : ∀ k : Int, (if k < 0 then -k else k) = ((k.natAbs : Nat) : Int) := fun k => by split <;> omega
    rw [← e, ← e]
    rfl
  · obtain ⟨rfl, a, b, hg, rfl, rfl⟩ := hp
    repeat (first | refine ⟨_, rfl, ?_⟩ | refine ⟨_, _, rfl, rfl, ?_⟩ | refine ⟨rfl, ?_⟩ | refine ⟨_, _, rfl, ?_⟩ | refine ⟨_, _, _, rfl, ?_⟩ | refine ⟨small_le (by simp), ?_⟩ | refine ⟨Or.inl ⟨by decide, by decide⟩, ?_⟩ | refine ⟨⟨by decide, by decide⟩, ?_⟩ | refine ⟨by show (0 : Int) < _; decide, ?_⟩)
    refine dB (fun e => ?_) (fun e => ?_)
    · refine ⟨_, fun _ _ z => z, ?_⟩
      repeat (first | refine ⟨_, rfl, ?_⟩ | refine ⟨_, _, rfl, rfl, ?_⟩ | refine ⟨rfl, ?_⟩ | refine ⟨_, _, rfl, ?_⟩ | refine ⟨_, _, _, rfl, ?_⟩ | refine ⟨small_le (by simp), ?_⟩ | refine ⟨Or.inl ⟨by decide, by decide⟩, ?_⟩ | refine ⟨⟨by decide, by decide⟩, ?_⟩ | refine ⟨by show (0 : Int) < _; decide, ?_⟩)
      refine ⟨by show (0:Int) < m; omega, ?_⟩
      repeat (first | refine ⟨_, rfl, ?_⟩ | refine ⟨_, _, rfl, rfl, ?_⟩ | refine ⟨rfl, ?_⟩ | refine ⟨_, _, rfl, ?_⟩ | refine ⟨_, _, _, rfl, ?_⟩ | refine ⟨small_le (by simp), ?_⟩ | refine ⟨Or.inl ⟨by decide, by decide⟩, ?_⟩ | refine ⟨⟨by decide, by decide⟩, ?_⟩ | refine ⟨by show (0 : Int) < _; decide, ?_⟩)
      refine ⟨a % m, Nat.mod_lt _ (by omega), rfl, m, a % m, ?_, rfl, rfl⟩
      rw [← hg, Nat.gcd_comm a m, Nat.gcd_rec m a, Nat.gcd_comm]
    · repeat (first | refine ⟨_, rfl, ?_⟩ | refine ⟨_, _, rfl, rfl, ?_⟩ | refine ⟨rfl, ?_⟩ | refine ⟨_, _, rfl, ?_⟩ | refine ⟨_, _, _, rfl, ?_⟩ | refine ⟨small_le (by simp), ?_⟩ | refine ⟨Or.inl ⟨by decide, by decide⟩, ?_⟩ | refine ⟨⟨by decide, by decide⟩, ?_⟩ | refine ⟨by show (0 : Int) < _; decide, ?_⟩)
      have e0 : m = 0 := by omega
      subst e0
      rw [Nat.gcd_zero_right] at hg
      rw [← hg] at q
      exact q
theorem sc_law_exchanged : FnScope ["_law_bends_here", "_law_place"] ["_law_bends_here", "_law_place"] (defScope (top 105)) := ⟨rfl, rfl, rfl, by decide +kernel, rfl, by decide +kernel, by decide +kernel⟩
theorem vi_take {ns : List Int} {i : Nat} : (vi ns).take i = vi (ns.take i) := by simp [vi]
theorem vi_drop {ns : List Int} {i : Nat} : (vi ns).drop i = vi (ns.drop i) := by simp [vi]
def spLawExch : Sp := fun vs H Q _ => ∃ (p : Addr) (ns : List Int) (i : Nat), vs = [.ref p, .int i] ∧ H p = some (.lst (vi ns)) ∧ i < ns.length ∧ ns.length = 4 ∧ ∀ H' q, Same H H' → H q = none → H' q = some (.lst (vi (exch ns i))) → Q (.ref q) H'
theorem ok_law_exchanged (T : Tx K mg) : Fx P w K mg base CX0 1 "_law_exchanged" spLawExch := by
  refine Fx.of T.g_law_exchanged T.f_law_exchanged (fnr0 (N := ["_law_bends_here", "_law_place"]) (ps := ["_law_bends_here", "_law_place"]) T.f_law_exchanged sc_law_exchanged (fun _ _ _ _ _ _ us hl => match us, hl with | [_, _], _ => rfl) (by intro vs H Q E h; repeat (first | (obtain ⟨e, _⟩ := h; subst e; rfl) | (obtain ⟨_, h⟩ := h))) fun cdv A outer s H vs Q E hr h => ?_)
  obtain ⟨p, ns, i, rfl, hp, hi, h4, q⟩ := h
  refine ⟨_, (pss_one (ps_ret (pe_op op_cat (pe_op op_cat (pe_slice sl_list (pv 0) po_none (po_some (pv 1))) (pe_lst (pa_cons (pe_op op_sub (pe_op op_mul pe_int (pe_op op_sub (pe_callB (cr_sumX rfl) (by rfl) T.m_sum (by decide +kernel) (pa_cons (pv 0) pa_nil)) (pe_ix ix_list (pv 0) (pv 1) (fun _ _ => rfl)))) (pe_ix ix_list (pv 0) (pv 1) (fun _ _ => rfl))) pa_nil))) (pe_slice sl_list (pv 0) (po_some (pe_op op_add (pv 1) pe_int)) po_none)))), ?_⟩
  repeat (first | refine ⟨_, rfl, ?_⟩ | refine ⟨_, _, rfl, rfl, ?_⟩ | refine ⟨rfl, ?_⟩ | refine ⟨_, _, rfl, ?_⟩ | refine ⟨_, _, _, rfl, ?_⟩ | refine ⟨small_le (by simp), ?_⟩ | refine ⟨Or.inl ⟨by decide, by decide⟩, ?_⟩ | refine ⟨⟨by decide, by decide⟩, ?_⟩ | refine ⟨by show (0 : Int) < _; decide, ?_⟩)
  refine ⟨p, _, rfl, sqL hp, ?_⟩
  (intro q1 nq1; generalize hqZ : upd _ q1 _ = H1; have s1 := new_same hqZ nq1; have e1 := new_at hqZ; clear hqZ)
  repeat (first | refine ⟨_, rfl, ?_⟩ | refine ⟨_, _, rfl, rfl, ?_⟩ | refine ⟨rfl, ?_⟩ | refine ⟨_, _, rfl, ?_⟩ | refine ⟨_, _, _, rfl, ?_⟩ | refine ⟨small_le (by simp), ?_⟩ | refine ⟨Or.inl ⟨by decide, by decide⟩, ?_⟩ | refine ⟨⟨by decide, by decide⟩, ?_⟩ | refine ⟨by show (0 : Int) < _; decide, ?_⟩)
  have hp1 := s1 _ _ hp
  refine ⟨p, ns, rfl, .inl (sqL hp1), ?_⟩
  repeat (first | refine ⟨_, rfl, ?_⟩ | refine ⟨_, _, rfl, rfl, ?_⟩ | refine ⟨rfl, ?_⟩ | refine ⟨_, _, rfl, ?_⟩ | refine ⟨_, _, _, rfl, ?_⟩ | refine ⟨small_le (by simp), ?_⟩ | refine ⟨Or.inl ⟨by decide, by decide⟩, ?_⟩ | refine ⟨⟨by decide, by decide⟩, ?_⟩ | refine ⟨by show (0 : Int) < _; decide, ?_⟩)
  rw [cut_take _ (by simp; omega), vi_take] at e1
  refine ⟨p, _, i, _, rfl, rfl, sqL hp1, atI_vi hi, ?_⟩
  repeat (first | refine ⟨_, rfl, ?_⟩ | refine ⟨_, _, rfl, rfl, ?_⟩ | refine ⟨rfl, ?_⟩ | refine ⟨_, _, rfl, ?_⟩ | refine ⟨_, _, _, rfl, ?_⟩ | refine ⟨small_le (by simp), ?_⟩ | refine ⟨Or.inl ⟨by decide, by decide⟩, ?_⟩ | refine ⟨⟨by decide, by decide⟩, ?_⟩ | refine ⟨by show (0 : Int) < _; decide, ?_⟩)
  refine ⟨p, _, i, _, rfl, rfl, sqL hp1, atI_vi hi, ?_⟩
  repeat (first | refine ⟨_, rfl, ?_⟩ | refine ⟨_, _, rfl, rfl, ?_⟩ | refine ⟨rfl, ?_⟩ | refine ⟨_, _, rfl, ?_⟩ | refine ⟨_, _, _, rfl, ?_⟩ | refine ⟨small_le (by simp), ?_⟩ | refine ⟨Or.inl ⟨by decide, by decide⟩, ?_⟩ | refine ⟨⟨by decide, by decide⟩, ?_⟩ | refine ⟨by show (0 : Int) < _; decide, ?_⟩)
  (intro q2 nq2; generalize hqZ : upd _ q2 _ = H2; have s2 := new_same hqZ nq2; have e2 := new_at hqZ; clear hqZ)
  refine ⟨q1, q2, _, _, rfl, rfl, s2 _ _ e1, e2, small_le (by simp; omega), ?_⟩
  (intro q3 nq3; generalize hqZ : upd _ q3 _ = H3; have s3 := new_same hqZ nq3; have e3 := new_at hqZ; clear hqZ)
  repeat (first | refine ⟨_, rfl, ?_⟩ | refine ⟨_, _, rfl, rfl, ?_⟩ | refine ⟨rfl, ?_⟩ | refine ⟨_, _, rfl, ?_⟩ | refine ⟨_, _, _, rfl, ?_⟩ | refine ⟨small_le (by simp), ?_⟩ | refine ⟨Or.inl ⟨by decide, by decide⟩, ?_⟩ | refine ⟨⟨by decide, by decide⟩, ?_⟩ | refine ⟨by show (0 : Int) < _; decide, ?_⟩)
  have hp3 := s3 _ _ (s2 _ _ hp1)
  refine ⟨p, _, rfl, sqL hp3, ?_⟩
  (intro q4 nq4; generalize hqZ : upd _ q4 _ = H4; have s4 := new_same hqZ nq4; have e4 := new_at hqZ; clear hqZ)
  have ec : cutV (vi ns) (some ((i : Int) + 1)) none = vi (ns.drop (i + 1)) := by
    have := cut_drop (vi ns) (i := i + 1) (by simp; omega)
    rw [vi_drop] at this
    exact this
  have e4' : H4 q4 = some (.lst (vi (ns.drop (i + 1)))) := by rw [e4]; exact congrArg _ (congrArg _ ec)
  refine ⟨q3, q4, _, _, rfl, rfl, s4 _ _ e3, e4', small_le (by simp; omega), ?_⟩
  (intro q5 nq5; generalize hqZ : upd _ q5 _ = H5; have s5 := new_same hqZ nq5; have e5 := new_at hqZ; clear hqZ)
  have up := s1.trans (s2.trans (s3.trans s4))
  refine q H5 q5 (up.trans s5) (up.free nq5) ?_
  rw [e5]
  unfold exch letIn
  simp [vi]
theorem sc_law_idle : FnScope ["_law_rim"] ["_law_rim"] (defScope (top 113)) := ⟨rfl, rfl, rfl, by decide +kernel, rfl, by decide +kernel, by decide +kernel⟩
def idle (n : Int) : List Int := [-n, n + 1, n * n + n, n * n + n + 1]
def spIdle : Sp := fun vs H Q _ => ∃ n : Int, vs = [.int n] ∧ n.natAbs < 2 ^ 30 ∧ ∀ H' p, Same H H' → H p = none → H' p = some (.lst (vi (idle n))) → Q (.ref p) H'
theorem ok_law_idle (T : Tx K mg) : Fx P w K mg base CX0 1 "_law_idle" spIdle := by
  refine Fx.of T.g_law_idle T.f_law_idle (fnr0 (N := ["_law_rim"]) (ps := ["_law_rim"]) T.f_law_idle sc_law_idle (fun _ _ _ _ _ _ us hl => match us, hl with | [_], _ => rfl) (by intro vs H Q E h; repeat (first | (obtain ⟨e, _⟩ := h; subst e; rfl) | (obtain ⟨_, h⟩ := h))) fun cdv A outer s H vs Q E hr h => ?_)
  obtain ⟨n, rfl, hn, q⟩ := h
  refine ⟨_, (pss_one (ps_ret (pe_lst (pa_cons (pe_un un_neg (pv 0)) (pa_cons (pe_op op_add (pv 0) pe_int) (pa_cons (pe_op op_add (pe_op op_mulW (pv 0) (pv 0)) (pv 0)) (pa_cons (pe_op op_add (pe_op op_add (pe_op op_mulW (pv 0) (pv 0)) (pv 0)) pe_int) pa_nil))))))), ?_⟩
  repeat (first | refine ⟨_, rfl, ?_⟩ | refine ⟨_, _, rfl, rfl, ?_⟩ | refine ⟨rfl, ?_⟩ | refine ⟨_, _, rfl, ?_⟩ | refine ⟨_, _, _, rfl, ?_⟩ | refine ⟨small_le (by simp), ?_⟩ | refine ⟨Or.inl ⟨by decide, by decide⟩, ?_⟩ | refine ⟨⟨by decide, by decide⟩, ?_⟩ | refine ⟨by show (0 : Int) < _; decide, ?_⟩)
  refine ⟨wide_mul hn hn (by decide) (by decide) (by decide), ?_⟩
  repeat (first | refine ⟨_, rfl, ?_⟩ | refine ⟨_, _, rfl, rfl, ?_⟩ | refine ⟨rfl, ?_⟩ | refine ⟨_, _, rfl, ?_⟩ | refine ⟨_, _, _, rfl, ?_⟩ | refine ⟨small_le (by simp), ?_⟩ | refine ⟨Or.inl ⟨by decide, by decide⟩, ?_⟩ | refine ⟨⟨by decide, by decide⟩, ?_⟩ | refine ⟨by show (0 : Int) < _; decide, ?_⟩)
  refine ⟨wide_mul hn hn (by decide) (by decide) (by decide), ?_⟩
  repeat (first | refine ⟨_, rfl, ?_⟩ | refine ⟨_, _, rfl, rfl, ?_⟩ | refine ⟨rfl, ?_⟩ | refine ⟨_, _, rfl, ?_⟩ | refine ⟨_, _, _, rfl, ?_⟩ | refine ⟨small_le (by simp), ?_⟩ | refine ⟨Or.inl ⟨by decide, by decide⟩, ?_⟩ | refine ⟨⟨by decide, by decide⟩, ?_⟩ | refine ⟨by show (0 : Int) < _; decide, ?_⟩)
  (intro p np; generalize hqZ : upd _ p _ = H1; have s1 := new_same hqZ np; have e1 := new_at hqZ; clear hqZ)
  exact q H1 p s1 np e1
theorem sc_law_bends : FnScope ["_law_form_here", "_law_side", "_law_first", "_law_half", "_law_last"] ["_law_form_here", "_law_side"] (defScope (top 103)) := ⟨rfl, rfl, rfl, by decide +kernel, rfl, by decide +kernel, by decide +kernel⟩
def bendsOf (A B C : Int) (n : Int) : List Int := if B < 0 then [-n, C + n, A + n, C + A - 2 * (-B) + n] else [-n, A + n, C + n, A + C - 2 * B + n]
def spBends (K : PySem.W.Frag) : Sp := fun vs H Q _ => ∃ (t : Addr) (A B C n : Int), vs = [.ref t, .int n] ∧ SqT K H t (vi [A, B, C]) ∧ ∀ H' p, Same H H' → H p = none → H' p = some (.lst (vi (bendsOf A B C n))) → Q (.ref p) H'
theorem ok_law_bends (T : Tx K mg) : Fx P w K mg base CX0 1 "_law_bends" (spBends K) := by
  refine Fx.of T.g_law_bends T.f_law_bends (fnr0 (N := ["_law_form_here", "_law_side", "_law_first", "_law_half", "_law_last"]) (ps := ["_law_form_here", "_law_side"]) T.f_law_bends sc_law_bends (fun _ _ _ _ _ _ us hl => match us, hl with | [_, _], _ => rfl) (by intro vs H Q E h; repeat (first | (obtain ⟨e, _⟩ := h; subst e; rfl) | (obtain ⟨_, h⟩ := h))) fun cdv A outer s H vs Q E hr h => ?_)
  obtain ⟨t, A, B, C, n, rfl, ht, q⟩ := h
  unfold bendsOf at q
  refine ⟨_, (pss_cons (ps_asg (pv 0) (pg_tup rfl (pgs_cons (pg_name (i := 2) sc_law_bends.nd rfl (Or.inl rfl)) (pgs_cons (pg_name (i := 3) sc_law_bends.nd rfl (Or.inl rfl)) (pgs_cons (pg_name (i := 4) sc_law_bends.nd rfl (Or.inl rfl)) pgs_nil)))))
      (pss_cons (ps_if (pt_cmpR op_lt (pv 3) pe_int (nomark _)) (pss_one (ps_par3 (i := 2) (j := 3) (l := 4) (by rfl) sc_law_bends.nd rfl rfl rfl (by decide) (by decide) (by decide) rfl rfl rfl (pa_cons (pv 4) (pa_cons (pe_un un_neg (pv 3)) (pa_cons (pv 2) pa_nil))) (by rfl))) pss_nil)
      (pss_one (ps_ret (pe_lst (pa_cons (pe_un un_neg (pv 1)) (pa_cons (pe_op op_add (pv 2) (pv 1)) (pa_cons (pe_op op_add (pv 4) (pv 1)) (pa_cons (pe_op op_add (pe_op op_sub (pe_op op_add (pv 2) (pv 4)) (pe_op op_mul pe_int (pv 3))) (pv 1)) pa_nil))))))))), ?_⟩
  repeat (first | refine ⟨_, rfl, ?_⟩ | refine ⟨_, _, rfl, rfl, ?_⟩ | refine ⟨rfl, ?_⟩ | refine ⟨_, _, rfl, ?_⟩ | refine ⟨_, _, _, rfl, ?_⟩ | refine ⟨small_le (by simp), ?_⟩ | refine ⟨Or.inl ⟨by decide, by decide⟩, ?_⟩ | refine ⟨⟨by decide, by decide⟩, ?_⟩ | refine ⟨by show (0 : Int) < _; decide, ?_⟩)
  refine ⟨t, _, rfl, ht, rfl, ?_⟩
  repeat (first | refine ⟨_, rfl, ?_⟩ | refine ⟨_, _, rfl, rfl, ?_⟩ | refine ⟨rfl, ?_⟩ | refine ⟨_, _, rfl, ?_⟩ | refine ⟨_, _, _, rfl, ?_⟩ | refine ⟨small_le (by simp), ?_⟩ | refine ⟨Or.inl ⟨by decide, by decide⟩, ?_⟩ | refine ⟨⟨by decide, by decide⟩, ?_⟩ | refine ⟨by show (0 : Int) < _; decide, ?_⟩)
  refine dB (fun e => ?_) (fun e => ?_)
  · rw [if_pos e] at q
    repeat (first | refine ⟨_, rfl, ?_⟩ | refine ⟨_, _, rfl, rfl, ?_⟩ | refine ⟨rfl, ?_⟩ | refine ⟨_, _, rfl, ?_⟩ | refine ⟨_, _, _, rfl, ?_⟩ | refine ⟨small_le (by simp), ?_⟩ | refine ⟨Or.inl ⟨by decide, by decide⟩, ?_⟩ | refine ⟨⟨by decide, by decide⟩, ?_⟩ | refine ⟨by show (0 : Int) < _; decide, ?_⟩)
    (intro p np; generalize hqZ : upd _ p _ = H1; have s1 := new_same hqZ np; have e1 := new_at hqZ; clear hqZ)
    exact q H1 p s1 np e1
  · rw [if_neg e] at q
    repeat (first | refine ⟨_, rfl, ?_⟩ | refine ⟨_, _, rfl, rfl, ?_⟩ | refine ⟨rfl, ?_⟩ | refine ⟨_, _, rfl, ?_⟩ | refine ⟨_, _, _, rfl, ?_⟩ | refine ⟨small_le (by simp), ?_⟩ | refine ⟨Or.inl ⟨by decide, by decide⟩, ?_⟩ | refine ⟨⟨by decide, by decide⟩, ?_⟩ | refine ⟨by show (0 : Int) < _; decide, ?_⟩)
    (intro p np; generalize hqZ : upd _ p _ = H1; have s1 := new_same hqZ np; have e1 := new_at hqZ; clear hqZ)
    exact q H1 p s1 np e1
theorem sc_law_bowl : FnScope ["_law_script", "_law_cell"] ["_law_script"] (defScope (top 91)) := ⟨rfl, rfl, rfl, by decide +kernel, rfl, by decide +kernel, by decide +kernel⟩
def spBowl (K : PySem.W.Frag) : Sp := fun vs H Q _ => ∃ (p : Addr) (ns : List Int), vs = [.ref p] ∧ SqL K H p (vi ns) ∧ ∀ H' b l, Same H H' → H b = none → H l = none → Bowl H' b l 0 → Q (.ref b) H'
theorem ok_law_bowl (T : Tx K mg) : Fx P w K mg base CX0 1 "_law_bowl" (spBowl K) := by
  refine Fx.of T.g_law_bowl T.f_law_bowl (fnr0 (N := ["_law_script", "_law_cell"]) (ps := ["_law_script"]) T.f_law_bowl sc_law_bowl (fun _ _ _ _ _ _ us hl => match us, hl with | [_], _ => rfl) (by intro vs H Q E h; repeat (first | (obtain ⟨e, _⟩ := h; subst e; rfl) | (obtain ⟨_, h⟩ := h))) fun cdv A outer s H vs Q E hr h => ?_)
  obtain ⟨p, ns, rfl, hp, q⟩ := h
  refine ⟨_, (pss_one (ps_ret (pe_lst (pa_cons (pe_lc (own := [("_law_cell", 1)]) rfl sc_law_bowl.nd (pi_list (pe_slice sl_list (pv 0) po_none (po_some pe_int))) (blkOk_by (own := [("_law_cell", 1)]) (N := ["_law_script", "_law_cell"]) (sc := defScope (top 91)) (by decide +kernel)) (fun _ _ _ _ _ => (pg_name (i := 1) sc_law_bowl.nd rfl (Or.inl rfl))) (fun _ _ _ _ _ => pts_nil) (fun _ _ _ _ _ => (pe_callTy call_intI (by rfl) T.m_int (by decide +kernel) (pa_cons (pv 1) pa_nil)))) (pa_cons pe_int (pa_cons pe_int pa_nil)))))), ?_⟩
  repeat (first | refine ⟨_, rfl, ?_⟩ | refine ⟨_, _, rfl, rfl, ?_⟩ | refine ⟨rfl, ?_⟩ | refine ⟨_, _, rfl, ?_⟩ | refine ⟨_, _, _, rfl, ?_⟩ | refine ⟨small_le (by simp), ?_⟩ | refine ⟨Or.inl ⟨by decide, by decide⟩, ?_⟩ | refine ⟨⟨by decide, by decide⟩, ?_⟩ | refine ⟨by show (0 : Int) < _; decide, ?_⟩)
  refine ⟨p, _, rfl, hp, ?_⟩
  (intro q1 nq1; generalize hqZ : upd _ q1 _ = H1; have s1 := new_same hqZ nq1; have e1 := new_at hqZ; clear hqZ)
  have ec : cutV (vi ns) none (some (60 : Int)) = vi (ns.take 60) := by
    by_cases h : 60 ≤ ns.length
    · have := cut_take (vi ns) (i := 60) (by simpa using h)
      rw [vi_take] at this
      exact this
    · unfold cutV
      have h1 : HT.sIx (vi ns).length (vi ns).length (some (60 : Int)) = (vi ns).length := by
        have := HT.sIx_nat (vi ns).length (vi ns).length 60
        rw [show ((60 : Nat) : Int) = 60 from rfl] at this
        rw [this]
        simp
        omega
      rw [h1, HT.sIx_none, List.drop_zero, Nat.sub_zero, List.take_length, List.take_of_length_le (by omega)]
  have e1' : H1 q1 = some (.lst (vi (ns.take 60))) := by rw [e1]; exact congrArg _ (congrArg _ ec)
  have k60 : (ns.take 60).length ≤ 60 := by rw [List.length_take]; omega
  clear ec e1
  generalize ns.take 60 = ks at e1' k60
  repeat (first | refine ⟨_, rfl, ?_⟩ | refine ⟨_, _, rfl, rfl, ?_⟩ | refine ⟨rfl, ?_⟩ | refine ⟨_, _, rfl, ?_⟩ | refine ⟨_, _, _, rfl, ?_⟩ | refine ⟨small_le (by simp), ?_⟩ | refine ⟨Or.inl ⟨by decide, by decide⟩, ?_⟩ | refine ⟨⟨by decide, by decide⟩, ?_⟩ | refine ⟨by show (0 : Int) < _; decide, ?_⟩)
  refine ⟨⟨_, sqL e1'⟩, fun D nD => ?_⟩
  refine lc_list (xs := vi ks) (fun i H' => Same H1 H' ∧ H' D = some (.lst (vi (ks.take i)))) ⟨same_new nD, upd_same⟩ (fun i H' _ p => sqL (p.1 _ _ e1')) (fun i x H2 hx hp => ?_) (fun H2 hp => ?_)
  · obtain ⟨p1, p2⟩ := hp
    rw [List.getElem?_map] at hx
    obtain ⟨y, hy, rfl⟩ := Option.map_eq_some_iff.mp hx
    have hi := (List.getElem?_eq_some_iff.mp hy).1
    refine ⟨rfl, ?_⟩
    repeat (first | refine ⟨_, rfl, ?_⟩ | refine ⟨_, _, rfl, rfl, ?_⟩ | refine ⟨rfl, ?_⟩ | refine ⟨_, _, rfl, ?_⟩ | refine ⟨_, _, _, rfl, ?_⟩ | refine ⟨small_le (by simp), ?_⟩ | refine ⟨Or.inl ⟨by decide, by decide⟩, ?_⟩ | refine ⟨⟨by decide, by decide⟩, ?_⟩ | refine ⟨by show (0 : Int) < _; decide, ?_⟩)
    refine ⟨_, p2, small_lt ?_, same_mut p1 nD, ?_⟩
    · simp at hi ⊢
      omega
    · rw [upd_same, List.take_add_one, hy]
      simp [vi]
  · obtain ⟨p1, p2⟩ := hp
    rw [List.length_map, List.take_length] at p2
    repeat (first | refine ⟨_, rfl, ?_⟩ | refine ⟨_, _, rfl, rfl, ?_⟩ | refine ⟨rfl, ?_⟩ | refine ⟨_, _, rfl, ?_⟩ | refine ⟨_, _, _, rfl, ?_⟩ | refine ⟨small_le (by simp), ?_⟩ | refine ⟨Or.inl ⟨by decide, by decide⟩, ?_⟩ | refine ⟨⟨by decide, by decide⟩, ?_⟩ | refine ⟨by show (0 : Int) < _; decide, ?_⟩)
    (intro b nb; generalize hqZ : upd _ b _ = H3; have s3 := new_same hqZ nb; have e3 := new_at hqZ; clear hqZ)
    have up := s1.trans (p1.trans s3)
    exact q H3 b D up ((s1.trans p1).free nb) (s1.free nD) ⟨ks, 0, 0, Nat.le_refl _, e3, s3 _ _ p2, k60⟩
end
end Bh

/-! WD -/
set_option maxHeartbeats 4000000
namespace Bh
open PySem PySem.Spec PyProof.Rows L2 Bs
section
variable {P : Program} {w : World} {K : PySem.W.Frag} {mg : Str → Option Value} {base : Heap}
/-! ### the law's symbol: a power -/
theorem pow_step {p f b e : Nat} (hp : 0 < p) : (f * b ^ e) % p = ((if e % 2 = 1 then f * b % p else f) * (b * b % p) ^ (e / 2)) % p := by
  have h1 : (b * b % p) ^ (e / 2) % p = (b * b) ^ (e / 2) % p := (Nat.pow_mod _ _ _).symm
  have h2 : (b * b) ^ (e / 2) = b ^ (2 * (e / 2)) := by rw [← Nat.pow_two, ← Nat.pow_mul]
  by_cases h : e % 2 = 1
  · rw [if_pos h, Nat.mul_mod (f * b % p), h1, h2, Nat.mod_mod, ← Nat.mul_mod]
    have h3 : f * b * b ^ (2 * (e / 2)) = f * b ^ e := by
      rw [Nat.mul_assoc, ← Nat.pow_succ']
      congr 2
      omega
    rw [h3]
  · rw [if_neg h, Nat.mul_mod f ((b * b % p) ^ (e / 2)), h1, h2, ← Nat.mul_mod]
    have : 2 * (e / 2) = e := by omega
    rw [this]
theorem pow_congr_mod {a r p : Int} (h : p ∣ a - r) : ∀ k : Nat, p ∣ a ^ k - r ^ k
  | 0 => by simp
  | k + 1 => by
    obtain ⟨x, hx⟩ := h
    obtain ⟨y, hy⟩ := pow_congr_mod ⟨x, hx⟩ k
    refine ⟨a ^ k * x + r * y, ?_⟩
    rw [Int.pow_succ, Int.pow_succ, Int.mul_add, Int.mul_left_comm p, Int.mul_left_comm p, ← hx, ← hy, Int.mul_sub, Int.mul_sub]
    have := Int.mul_comm r (a ^ k)
    have := Int.mul_comm r (r ^ k)
    omega
theorem symbol_end {a : Int} {p f : Nat} (hp : Pr p) (h2 : p ≠ 2) (hc : Cop a p) (hf0 : f < p) (he : f = ((a % p).toNat ^ ((p - 1) / 2)) % p) : (J a p = 1 ∧ f = 1) ∨ (J a p = -1 ∧ f = p - 1) := by
  have p2 := hp.two
  have od := hp.od h2
  have ho := od.2
  have hE := J_euler od (fun x h1 h2 => hp.cop fun z => by
    have := Int.le_of_dvd (by omega) z
    omega) hc
  have eh : hf (p : Int) = (p - 1) / 2 := by unfold hf; omega
  rw [eh] at hE
  have hr0 := Int.emod_nonneg a (show (p : Int) ≠ 0 by omega)
  have hr : (((a % p).toNat : Nat) : Int) = a % p := by omega
  have hd : (p : Int) ∣ a - (((a % p).toNat : Nat) : Int) := by rw [hr]; exact Int.dvd_self_sub_emod
  have h3 := pow_congr_mod hd ((p - 1) / 2)
  have h4 : (p : Int) ∣ ((((a % p).toNat ^ ((p - 1) / 2)) : Nat) : Int) - (f : Int) := by
    rw [he, Int.natCast_emod]
    exact Int.dvd_self_sub_emod
  rw [Int.natCast_pow] at h4
  have h5 : (p : Int) ∣ (f : Int) - J a p := by
    obtain ⟨x, hx⟩ := hE
    obtain ⟨y, hy⟩ := h3
    obtain ⟨z, hz⟩ := h4
    refine ⟨x - y - z, ?_⟩
    rw [Int.mul_sub, Int.mul_sub, ← hx, ← hy, ← hz]
    omega
  rcases J_pm hc with e | e
  · refine .inl ⟨e, ?_⟩
    rw [e] at h5
    obtain ⟨k, hk⟩ := h5
    have : k = 0 := by
      rcases (by omega : k ≤ -1 ∨ k = 0 ∨ 1 ≤ k) with h | h | h
      · have := Int.mul_le_mul_of_nonneg_left h (show (0:Int) ≤ p by omega)
        omega
      · exact h
      · have := Int.mul_le_mul_of_nonneg_left h (show (0:Int) ≤ p by omega)
        omega
    subst this
    omega
  · refine .inr ⟨e, ?_⟩
    rw [e] at h5
    obtain ⟨k, hk⟩ := h5
    have : k = 1 := by
      rcases (by omega : k ≤ 0 ∨ k = 1 ∨ 2 ≤ k) with h | h | h
      · have := Int.mul_le_mul_of_nonneg_left h (show (0:Int) ≤ p by omega)
        omega
      · exact h
      · have := Int.mul_le_mul_of_nonneg_left h (show (0:Int) ≤ p by omega)
        omega
    subst this
    omega
theorem sc_law_symbol : FnScope ["_law_number", "_law_prime", "_law_found", "_law_base", "_law_left", "_law_turn"] ["_law_number", "_law_prime"] (defScope (top 102)) := ⟨rfl, rfl, rfl, by decide +kernel, rfl, by decide +kernel, by decide +kernel⟩
def spLawSymbol : Sp := fun vs H Q _ => ∃ (a : Int) (p : Nat), vs = [.int a, .int p] ∧ Pr p ∧ p ≠ 2 ∧ p < 2 ^ 20 ∧ Cop a p ∧ Q (.int (J a p)) H
theorem ok_law_symbol (T : Tx K mg) : Fx P w K mg base CX0 1 "_law_symbol" spLawSymbol := by
  refine Fx.of T.g_law_symbol T.f_law_symbol (fnr0 (N := ["_law_number", "_law_prime", "_law_found", "_law_base", "_law_left", "_law_turn"]) (ps := ["_law_number", "_law_prime"]) T.f_law_symbol sc_law_symbol (fun _ _ _ _ _ _ us hl => match us, hl with | [_, _], _ => rfl) (by intro vs H Q E h; repeat (first | (obtain ⟨e, _⟩ := h; subst e; rfl) | (obtain ⟨_, h⟩ := h))) fun cdv A outer s H vs Q E hr h => ?_)
  obtain ⟨a, p, rfl, hp, h2, hpb, hc, q⟩ := h
  have b20 : (2:Nat) ^ 20 = 1048576 := by decide
  have p2 := hp.two
  refine ⟨_, (pss_cons (ps_par3 (i := 2) (j := 3) (l := 4) (by rfl) sc_law_symbol.nd rfl rfl rfl (by decide) (by decide) (by decide) rfl rfl rfl (pa_cons pe_int (pa_cons (pe_op op_modP (pe_callTy call_intI (by rfl) T.m_int (by decide +kernel) (pa_cons (pv 0) pa_nil)) (pv 1)) (pa_cons (pe_op op_divP (pe_callTy call_intI (by rfl) T.m_int (by decide +kernel) (pa_cons (pe_op op_sub (pv 1) pe_int) pa_nil)) pe_int) pa_nil))) (by rfl))
      (pss_cons (ps_for PassesOwn.never rfl (pi_range1 (by rfl) T.m_range (pa_cons pe_int pa_nil)) (pg_name (i := 5) sc_law_symbol.nd rfl (Or.inl rfl)) (pss_cons (ps_if (pt_cmpR op_eq (pe_op op_modP (pe_callTy call_intI (by rfl) T.m_int (by decide +kernel) (pa_cons (pv 4) pa_nil)) pe_int) pe_int (nomark _)) (pss_one (ps_set (i := 2) sc_law_symbol.nd rfl (Or.inl rfl) (pe_op op_modP (pe_callTy call_intI (by rfl) T.m_int (by decide +kernel) (pa_cons (pe_op op_mulW (pv 2) (pv 3)) pa_nil)) (pv 1)))) pss_nil)
      (pss_one (ps_par (i := 3) (j := 4) (by rfl) sc_law_symbol.nd rfl rfl (by decide) rfl rfl (pa_cons (pe_op op_modP (pe_callTy call_intI (by rfl) T.m_int (by decide +kernel) (pa_cons (pe_op op_mulW (pv 3) (pv 3)) pa_nil)) (pv 1)) (pa_cons (pe_op op_divP (pe_callTy call_intI (by rfl) T.m_int (by decide +kernel) (pa_cons (pv 4) pa_nil)) pe_int) pa_nil)) (by rfl)))))
      (pss_one (ps_ret (pe_ifExp (pt_cmpR op_eq (pv 2) (pe_op op_sub (pv 1) pe_int) (nomark _)) (pe_un un_neg pe_int) (pv 2)))))), ?_⟩
  repeat (first | refine ⟨_, rfl, ?_⟩ | refine ⟨_, _, rfl, rfl, ?_⟩ | refine ⟨rfl, ?_⟩ | refine ⟨_, _, rfl, ?_⟩ | refine ⟨_, _, _, rfl, ?_⟩ | refine ⟨small_le (by simp), ?_⟩ | refine ⟨Or.inl ⟨by decide, by decide⟩, ?_⟩ | refine ⟨⟨by decide, by decide⟩, ?_⟩ | refine ⟨by show (0 : Int) < _; decide, ?_⟩)
  refine ⟨by show (0:Int) < p; omega, ?_⟩
  repeat (first | refine ⟨_, rfl, ?_⟩ | refine ⟨_, _, rfl, rfl, ?_⟩ | refine ⟨rfl, ?_⟩ | refine ⟨_, _, rfl, ?_⟩ | refine ⟨_, _, _, rfl, ?_⟩ | refine ⟨small_le (by simp), ?_⟩ | refine ⟨Or.inl ⟨by decide, by decide⟩, ?_⟩ | refine ⟨⟨by decide, by decide⟩, ?_⟩ | refine ⟨by show (0 : Int) < _; decide, ?_⟩)
  refine ⟨by decide, by decide, ?_⟩
  have b70 : (2:Nat) ^ 70 = 1180591620717411303424 := by decide
  have hr0 := Int.emod_nonneg a (show (p : Int) ≠ 0 by omega)
  have hr1 := Int.emod_lt_of_pos a (show (0 : Int) < p by omega)
  refine for_range (lo := 0) (n := 70) (fun i σ H' => H' = H ∧ ∃ (f b e : Nat) (z : Option V), f < p ∧ b < p ∧ e < 2 ^ (70 - i) ∧ (f * b ^ e) % p = ((a % p).toNat ^ ((p - 1) / 2)) % p ∧ σ = [some (.int a), some (.int p), some (.int f), some (.int b), some (.int e), z])
    ⟨rfl, 1, (a % p).toNat, (p - 1) / 2, none, by omega, by omega, by show _ < 2 ^ 70; omega, by rw [Nat.one_mul], ?_⟩ (fun i σ H' hi hp' => ?_) (fun σ H' hp' => ?_)
  · show [_, _, _, some (V.int (a % p)), some (V.int (((p : Int) - 1) / 2)), _] = _
    rw [show (((a % p).toNat : Nat) : Int) = a % p by omega, show ((((p - 1) / 2 : Nat)) : Int) = ((p : Int) - 1) / 2 by omega]
    rfl
  · obtain ⟨rfl, f, b, e, z, hf, hb, he, hm, rfl⟩ := hp'
    have hb20 : (b : Int).natAbs < 2 ^ 20 := by omega
    have hf20 : (f : Int).natAbs < 2 ^ 20 := by omega
    have hst := pow_step (p := p) (f := f) (b := b) (e := e) (by omega)
    have he2 : e / 2 < 2 ^ (70 - (i + 1)) := by
      have : 2 ^ (70 - i) = 2 ^ (70 - (i + 1)) * 2 := by rw [← Nat.pow_succ]; congr 1; omega
      omega
    repeat (first | refine ⟨_, rfl, ?_⟩ | refine ⟨_, _, rfl, rfl, ?_⟩ | refine ⟨rfl, ?_⟩ | refine ⟨_, _, rfl, ?_⟩ | refine ⟨_, _, _, rfl, ?_⟩ | refine ⟨small_le (by simp), ?_⟩ | refine ⟨Or.inl ⟨by decide, by decide⟩, ?_⟩ | refine ⟨⟨by decide, by decide⟩, ?_⟩ | refine ⟨by show (0 : Int) < _; decide, ?_⟩)
    refine eB (fun e3 => ?_) (fun e3 => ?_)
    · have ho : e % 2 = 1 := by omega
      rw [if_pos ho, hm] at hst
      repeat (first | refine ⟨_, rfl, ?_⟩ | refine ⟨_, _, rfl, rfl, ?_⟩ | refine ⟨rfl, ?_⟩ | refine ⟨_, _, rfl, ?_⟩ | refine ⟨_, _, _, rfl, ?_⟩ | refine ⟨small_le (by simp), ?_⟩ | refine ⟨Or.inl ⟨by decide, by decide⟩, ?_⟩ | refine ⟨⟨by decide, by decide⟩, ?_⟩ | refine ⟨by show (0 : Int) < _; decide, ?_⟩)
      refine ⟨wide_mul hf20 hb20 (by decide) (by decide) (by decide), ?_⟩
      repeat (first | refine ⟨_, rfl, ?_⟩ | refine ⟨_, _, rfl, rfl, ?_⟩ | refine ⟨rfl, ?_⟩ | refine ⟨_, _, rfl, ?_⟩ | refine ⟨_, _, _, rfl, ?_⟩ | refine ⟨small_le (by simp), ?_⟩ | refine ⟨Or.inl ⟨by decide, by decide⟩, ?_⟩ | refine ⟨⟨by decide, by decide⟩, ?_⟩ | refine ⟨by show (0 : Int) < _; decide, ?_⟩)
      refine ⟨by show (0:Int) < p; omega, ?_⟩
      repeat (first | refine ⟨_, rfl, ?_⟩ | refine ⟨_, _, rfl, rfl, ?_⟩ | refine ⟨rfl, ?_⟩ | refine ⟨_, _, rfl, ?_⟩ | refine ⟨_, _, _, rfl, ?_⟩ | refine ⟨small_le (by simp), ?_⟩ | refine ⟨Or.inl ⟨by decide, by decide⟩, ?_⟩ | refine ⟨⟨by decide, by decide⟩, ?_⟩ | refine ⟨by show (0 : Int) < _; decide, ?_⟩)
      refine ⟨wide_mul hb20 hb20 (by decide) (by decide) (by decide), ?_⟩
      repeat (first | refine ⟨_, rfl, ?_⟩ | refine ⟨_, _, rfl, rfl, ?_⟩ | refine ⟨rfl, ?_⟩ | refine ⟨_, _, rfl, ?_⟩ | refine ⟨_, _, _, rfl, ?_⟩ | refine ⟨small_le (by simp), ?_⟩ | refine ⟨Or.inl ⟨by decide, by decide⟩, ?_⟩ | refine ⟨⟨by decide, by decide⟩, ?_⟩ | refine ⟨by show (0 : Int) < _; decide, ?_⟩)
      refine ⟨by show (0:Int) < p; omega, ?_⟩
      repeat (first | refine ⟨_, rfl, ?_⟩ | refine ⟨_, _, rfl, rfl, ?_⟩ | refine ⟨rfl, ?_⟩ | refine ⟨_, _, rfl, ?_⟩ | refine ⟨_, _, _, rfl, ?_⟩ | refine ⟨small_le (by simp), ?_⟩ | refine ⟨Or.inl ⟨by decide, by decide⟩, ?_⟩ | refine ⟨⟨by decide, by decide⟩, ?_⟩ | refine ⟨by show (0 : Int) < _; decide, ?_⟩)
      exact ⟨f * b % p, b * b % p, e / 2, _, Nat.mod_lt _ (by omega), Nat.mod_lt _ (by omega), he2, hst.symm, rfl⟩
    · have ho : ¬ e % 2 = 1 := by omega
      rw [if_neg ho, hm] at hst
      repeat (first | refine ⟨_, rfl, ?_⟩ | refine ⟨_, _, rfl, rfl, ?_⟩ | refine ⟨rfl, ?_⟩ | refine ⟨_, _, rfl, ?_⟩ | refine ⟨_, _, _, rfl, ?_⟩ | refine ⟨small_le (by simp), ?_⟩ | refine ⟨Or.inl ⟨by decide, by decide⟩, ?_⟩ | refine ⟨⟨by decide, by decide⟩, ?_⟩ | refine ⟨by show (0 : Int) < _; decide, ?_⟩)
      refine ⟨wide_mul hb20 hb20 (by decide) (by decide) (by decide), ?_⟩
      repeat (first | refine ⟨_, rfl, ?_⟩ | refine ⟨_, _, rfl, rfl, ?_⟩ | refine ⟨rfl, ?_⟩ | refine ⟨_, _, rfl, ?_⟩ | refine ⟨_, _, _, rfl, ?_⟩ | refine ⟨small_le (by simp), ?_⟩ | refine ⟨Or.inl ⟨by decide, by decide⟩, ?_⟩ | refine ⟨⟨by decide, by decide⟩, ?_⟩ | refine ⟨by show (0 : Int) < _; decide, ?_⟩)
      refine ⟨by show (0:Int) < p; omega, ?_⟩
      repeat (first | refine ⟨_, rfl, ?_⟩ | refine ⟨_, _, rfl, rfl, ?_⟩ | refine ⟨rfl, ?_⟩ | refine ⟨_, _, rfl, ?_⟩ | refine ⟨_, _, _, rfl, ?_⟩ | refine ⟨small_le (by simp), ?_⟩ | refine ⟨Or.inl ⟨by decide, by decide⟩, ?_⟩ | refine ⟨⟨by decide, by decide⟩, ?_⟩ | refine ⟨by show (0 : Int) < _; decide, ?_⟩)
      exact ⟨f, b * b % p, e / 2, _, hf, Nat.mod_lt _ (by omega), he2, hst.symm, rfl⟩
  · obtain ⟨rfl, f, b, e, z, hf, hb, he, hm, rfl⟩ := hp'
    have e0 : e = 0 := by
      have : (2:Nat) ^ (70 - 70) = 1 := rfl
      omega
    subst e0
    rw [Nat.pow_zero, Nat.mul_one, Nat.mod_eq_of_lt hf] at hm
    have p3 : 2 < p := by omega
    repeat (first | refine ⟨_, rfl, ?_⟩ | refine ⟨_, _, rfl, rfl, ?_⟩ | refine ⟨rfl, ?_⟩ | refine ⟨_, _, rfl, ?_⟩ | refine ⟨_, _, _, rfl, ?_⟩ | refine ⟨small_le (by simp), ?_⟩ | refine ⟨Or.inl ⟨by decide, by decide⟩, ?_⟩ | refine ⟨⟨by decide, by decide⟩, ?_⟩ | refine ⟨by show (0 : Int) < _; decide, ?_⟩)
    rcases symbol_end hp h2 hc hf hm with ⟨hJ, h1⟩ | ⟨hJ, h1⟩
    · refine eF (by omega) ?_
      repeat (first | refine ⟨_, rfl, ?_⟩ | refine ⟨_, _, rfl, rfl, ?_⟩ | refine ⟨rfl, ?_⟩ | refine ⟨_, _, rfl, ?_⟩ | refine ⟨_, _, _, rfl, ?_⟩ | refine ⟨small_le (by simp), ?_⟩ | refine ⟨Or.inl ⟨by decide, by decide⟩, ?_⟩ | refine ⟨⟨by decide, by decide⟩, ?_⟩ | refine ⟨by show (0 : Int) < _; decide, ?_⟩)
      rw [hJ] at q
      subst h1
      exact q
    · refine eT (by omega) ?_
      repeat (first | refine ⟨_, rfl, ?_⟩ | refine ⟨_, _, rfl, rfl, ?_⟩ | refine ⟨rfl, ?_⟩ | refine ⟨_, _, rfl, ?_⟩ | refine ⟨_, _, _, rfl, ?_⟩ | refine ⟨small_le (by simp), ?_⟩ | refine ⟨Or.inl ⟨by decide, by decide⟩, ?_⟩ | refine ⟨⟨by decide, by decide⟩, ?_⟩ | refine ⟨by show (0 : Int) < _; decide, ?_⟩)
      rw [hJ] at q
      exact q
end
end Bh

/-! WE -/
set_option maxHeartbeats 4000000
namespace Bh
open PySem PySem.Spec PyProof.Rows L2 Bs
section
variable {P : Program} {w : World} {K : PySem.W.Frag} {mg : Str → Option Value} {base : Heap}
/-! ### the law's primes -/
theorem nprod_snoc (l : List Nat) (p : Nat) : nprod (l ++ [p]) = nprod l * p := by rw [nprod_append, nprod_cons]; show nprod l * (p * 1) = _; rw [Nat.mul_one]
theorem sc_law_primes : FnScope ["_law_number", "_law_found", "_law_left", "_law_prime", "_law_turn"] ["_law_number"] (defScope (top 101)) := ⟨rfl, rfl, rfl, by decide +kernel, rfl, by decide +kernel, by decide +kernel⟩
def spLawPrimes : Sp := fun vs H Q _ => ∃ n : Nat, vs = [.int n] ∧ 1 ≤ n ∧ n ≤ 1000000 ∧ ∀ H' a ps, Same H H' → H a = none → H' a = some (.lst (vn ps)) → (∀ p ∈ ps, Pr p) → nprod ps = n → Q (.ref a) H'
theorem ok_law_primes (T : Tx K mg) : Fx P w K mg base CX0 1 "_law_primes" spLawPrimes := by
  refine Fx.of T.g_law_primes T.f_law_primes (fnr0 (N := ["_law_number", "_law_found", "_law_left", "_law_prime", "_law_turn"]) (ps := ["_law_number"]) T.f_law_primes sc_law_primes (fun _ _ _ _ _ _ us hl => match us, hl with | [_], _ => rfl) (by intro vs H Q E h; repeat (first | (obtain ⟨e, _⟩ := h; subst e; rfl) | (obtain ⟨_, h⟩ := h))) fun cdv A outer s H vs Q E hr h => ?_)
  obtain ⟨n, rfl, hn1, hn2, q⟩ := h
  have b20 : (2:Nat) ^ 20 = 1048576 := by decide
  refine ⟨_, (pss_cons (ps_par (i := 1) (j := 2) (by rfl) sc_law_primes.nd rfl rfl (by decide) rfl rfl (pa_cons (pe_lst pa_nil) (pa_cons (pv 0) pa_nil)) (by rfl))
      (pss_cons (ps_for PassesOwn.never rfl (pi_range2 (by rfl) T.m_range (pa_cons pe_int (pa_cons pe_int pa_nil))) (pg_name (i := 3) sc_law_primes.nd rfl (Or.inl rfl)) (pss_cons (ps_if (pt_cmpR op_gt (pe_op op_mulW (pv 3) (pv 3)) (pv 2) (nomark _)) (pss_one ps_break) pss_nil)
      (pss_one (ps_for PassesOwn.never rfl (pi_range1 (by rfl) T.m_range (pa_cons pe_int pa_nil)) (pg_name (i := 4) sc_law_primes.nd rfl (Or.inl rfl)) (pss_cons (ps_if (pt_cmpR op_ne (pe_op op_modP (pe_callTy call_intI (by rfl) T.m_int (by decide +kernel) (pa_cons (pv 2) pa_nil)) (pv 3)) pe_int (nomark _)) (pss_one ps_break) pss_nil)
      (pss_one (ps_par (i := 1) (j := 2) (by rfl) sc_law_primes.nd rfl rfl (by decide) rfl rfl (pa_cons (pe_op op_cat (pv 1) (pe_lst (pa_cons (pv 3) pa_nil))) (pa_cons (pe_op op_divP (pe_callTy call_intI (by rfl) T.m_int (by decide +kernel) (pa_cons (pv 2) pa_nil)) (pv 3)) pa_nil)) (by rfl))))))))
      (pss_one (ps_ret (pe_ifExp (pt_cmpR op_gt (pv 2) pe_int (nomark _)) (pe_op op_cat (pv 1) (pe_lst (pa_cons (pv 2) pa_nil))) (pv 1)))))), ?_⟩
  repeat (first | refine ⟨_, rfl, ?_⟩ | refine ⟨_, _, rfl, rfl, ?_⟩ | refine ⟨rfl, ?_⟩ | refine ⟨_, _, rfl, ?_⟩ | refine ⟨_, _, _, rfl, ?_⟩ | refine ⟨small_le (by simp), ?_⟩ | refine ⟨Or.inl ⟨by decide, by decide⟩, ?_⟩ | refine ⟨⟨by decide, by decide⟩, ?_⟩ | refine ⟨by show (0 : Int) < _; decide, ?_⟩)
  (intro F0 nF0; generalize hqZ : upd _ F0 _ = H1; have s1 := new_same hqZ nF0; have e1 := new_at hqZ; clear hqZ)
  repeat (first | refine ⟨_, rfl, ?_⟩ | refine ⟨_, _, rfl, rfl, ?_⟩ | refine ⟨rfl, ?_⟩ | refine ⟨_, _, rfl, ?_⟩ | refine ⟨_, _, _, rfl, ?_⟩ | refine ⟨small_le (by simp), ?_⟩ | refine ⟨Or.inl ⟨by decide, by decide⟩, ?_⟩ | refine ⟨⟨by decide, by decide⟩, ?_⟩ | refine ⟨by show (0 : Int) < _; decide, ?_⟩)
  have fin : ∀ H' F ps (L : Nat) (y z : Option V) (r : Nat), Same H H' → H F = none → H' F = some (.lst (vn ps)) → (∀ p ∈ ps, Pr p) → n = nprod ps * L → 1 ≤ L → NoDiv L r → L < r * r → ps.length ≤ 20 →
      ((1 < L → ∀ H2 a, Same H' H2 → H' a = none → H2 a = some (.lst (vn (ps ++ [L]))) → Q (.ref a) H2) ∧ (¬ 1 < L → Q (.ref F) H')) := by
    intro H' F ps L y z r s nF eF hp hn hL hd hlt hlen
    refine ⟨fun h1 H2 a s2 na ea => ?_, fun h1 => ?_⟩
    · refine q H2 a _ (s.trans s2) (s.free na) ea (fun p hpm => ?_) ?_
      · rcases List.mem_append.mp hpm with h | h
        · exact hp p h
        · rw [List.mem_singleton.mp h]
          exact hd.pr_self (by omega) hlt
      · rw [nprod_snoc]
        exact hn.symm
    · have : L = 1 := by omega
      subst this
      rw [Nat.mul_one] at hn
      exact q H' F ps s nF eF hp hn.symm
  refine for_range (lo := 2) (n := 1098) (fun i σ H' => Same H H' ∧ ∃ (F : Addr) (ps : List Nat) (L : Nat) (y z : Option V), H F = none ∧ H' F = some (.lst (vn ps)) ∧ (∀ p ∈ ps, Pr p) ∧ n = nprod ps * L ∧ 1 ≤ L ∧ NoDiv L (2 + i) ∧ ps.length ≤ 20 ∧ L * 2 ^ ps.length ≤ n ∧ σ = [some (.int n), some (.ref F), some (.int L), y, z])
    ⟨s1, F0, [], n, none, none, nF0, e1, by simp, by simp [nprod], hn1, .two n, by simp, by simp, rfl⟩ (fun i σ H' hi hp' => ?_) (fun σ H' hp' => ?_)
  · obtain ⟨s2, F, ps, L, y, z, nF, eF, hp, hn, hL, hnd, hlen, hsz, rfl⟩ := hp'
    have hLn : L ≤ n := Nat.le_of_dvd (by omega) ⟨nprod ps, by rw [hn, Nat.mul_comm]⟩
    have hpb : (2 + (i : Int)).natAbs < 2 ^ 20 := by omega
    repeat (first | refine ⟨_, rfl, ?_⟩ | refine ⟨_, _, rfl, rfl, ?_⟩ | refine ⟨rfl, ?_⟩ | refine ⟨_, _, rfl, ?_⟩ | refine ⟨_, _, _, rfl, ?_⟩ | refine ⟨small_le (by simp), ?_⟩ | refine ⟨Or.inl ⟨by decide, by decide⟩, ?_⟩ | refine ⟨⟨by decide, by decide⟩, ?_⟩ | refine ⟨by show (0 : Int) < _; decide, ?_⟩)
    refine ⟨wide_mul hpb hpb (by decide) (by decide) (by decide), ?_⟩
    repeat (first | refine ⟨_, rfl, ?_⟩ | refine ⟨_, _, rfl, rfl, ?_⟩ | refine ⟨rfl, ?_⟩ | refine ⟨_, _, rfl, ?_⟩ | refine ⟨_, _, _, rfl, ?_⟩ | refine ⟨small_le (by simp), ?_⟩ | refine ⟨Or.inl ⟨by decide, by decide⟩, ?_⟩ | refine ⟨⟨by decide, by decide⟩, ?_⟩ | refine ⟨by show (0 : Int) < _; decide, ?_⟩)
    refine dB (fun e2 => ?_) (fun e2 => ?_)
    · have hlt : L < (2 + i) * (2 + i) := by
        have := Int.natCast_mul (2 + i) (2 + i)
        have e : ((2 + i : Nat) : Int) = 2 + (i : Int) := by omega
        rw [e] at this
        omega
      obtain ⟨f1, f2⟩ := fin H' F ps L none none (2 + i) s2 nF eF hp hn hL hnd hlt hlen
      repeat (first | refine ⟨_, rfl, ?_⟩ | refine ⟨_, _, rfl, rfl, ?_⟩ | refine ⟨rfl, ?_⟩ | refine ⟨_, _, rfl, ?_⟩ | refine ⟨_, _, _, rfl, ?_⟩ | refine ⟨small_le (by simp), ?_⟩ | refine ⟨Or.inl ⟨by decide, by decide⟩, ?_⟩ | refine ⟨⟨by decide, by decide⟩, ?_⟩ | refine ⟨by show (0 : Int) < _; decide, ?_⟩)
      refine dB (fun e3 => ?_) (fun e3 => ?_)
      · repeat (first | refine ⟨_, rfl, ?_⟩ | refine ⟨_, _, rfl, rfl, ?_⟩ | refine ⟨rfl, ?_⟩ | refine ⟨_, _, rfl, ?_⟩ | refine ⟨_, _, _, rfl, ?_⟩ | refine ⟨small_le (by simp), ?_⟩ | refine ⟨Or.inl ⟨by decide, by decide⟩, ?_⟩ | refine ⟨⟨by decide, by decide⟩, ?_⟩ | refine ⟨by show (0 : Int) < _; decide, ?_⟩)
        (intro g1 ng1; generalize hqZ : upd _ g1 _ = H2; have s3 := new_same hqZ ng1; have e4 := new_at hqZ; clear hqZ)
        refine ⟨F, g1, _, _, rfl, rfl, s3 _ _ eF, e4, small_le (by simp; omega), ?_⟩
        (intro g2 ng2; generalize hqZ : upd _ g2 _ = H3; have s4 := new_same hqZ ng2; have e5 := new_at hqZ; clear hqZ)
        refine f1 (by omega) H3 g2 (s3.trans s4) (s3.free ng2) ?_
        rw [e5]
        simp [vn]
      · repeat (first | refine ⟨_, rfl, ?_⟩ | refine ⟨_, _, rfl, rfl, ?_⟩ | refine ⟨rfl, ?_⟩ | refine ⟨_, _, rfl, ?_⟩ | refine ⟨_, _, _, rfl, ?_⟩ | refine ⟨small_le (by simp), ?_⟩ | refine ⟨Or.inl ⟨by decide, by decide⟩, ?_⟩ | refine ⟨⟨by decide, by decide⟩, ?_⟩ | refine ⟨by show (0 : Int) < _; decide, ?_⟩)
        exact f2 (by omega)
    · repeat (first | refine ⟨_, rfl, ?_⟩ | refine ⟨_, _, rfl, rfl, ?_⟩ | refine ⟨rfl, ?_⟩ | refine ⟨_, _, rfl, ?_⟩ | refine ⟨_, _, _, rfl, ?_⟩ | refine ⟨small_le (by simp), ?_⟩ | refine ⟨Or.inl ⟨by decide, by decide⟩, ?_⟩ | refine ⟨⟨by decide, by decide⟩, ?_⟩ | refine ⟨by show (0 : Int) < _; decide, ?_⟩)
      refine ⟨by decide, by decide, ?_⟩
      refine for_range (lo := 0) (n := 70) (fun j σ H' => Same H H' ∧ ∃ (F : Addr) (ps : List Nat) (L : Nat) (z : Option V), H F = none ∧ H' F = some (.lst (vn ps)) ∧ (∀ p ∈ ps, Pr p) ∧ n = nprod ps * L ∧ 1 ≤ L ∧ NoDiv L (2 + i) ∧ j ≤ ps.length ∧ ps.length ≤ 20 ∧ L * 2 ^ ps.length ≤ n ∧ σ = [some (.int n), some (.ref F), some (.int L), some (.int (2 + i)), z])
        ⟨s2, F, ps, L, z, nF, eF, hp, hn, hL, hnd, Nat.zero_le _, hlen, hsz, rfl⟩ (fun j σ H' hj hp' => ?_) (fun σ H' hp' => ?_)
      · clear hsz hlen hnd hL hn hp eF nF s2 e2 hLn
        obtain ⟨s2, F, ps, L, z, nF, eF, hp, hn, hL, hnd, hjl, hlen, hsz, rfl⟩ := hp'
        have hLn : L ≤ n := Nat.le_of_dvd (by omega) ⟨nprod ps, by rw [hn, Nat.mul_comm]⟩
        have ec : ((2 + i : Nat) : Int) = 2 + (i : Int) := by omega
        repeat (first | refine ⟨_, rfl, ?_⟩ | refine ⟨_, _, rfl, rfl, ?_⟩ | refine ⟨rfl, ?_⟩ | refine ⟨_, _, rfl, ?_⟩ | refine ⟨_, _, _, rfl, ?_⟩ | refine ⟨small_le (by simp), ?_⟩ | refine ⟨Or.inl ⟨by decide, by decide⟩, ?_⟩ | refine ⟨⟨by decide, by decide⟩, ?_⟩ | refine ⟨by show (0 : Int) < _; decide, ?_⟩)
        refine ⟨by show (0:Int) < 2 + i; omega, ?_⟩
        repeat (first | refine ⟨_, rfl, ?_⟩ | refine ⟨_, _, rfl, rfl, ?_⟩ | refine ⟨rfl, ?_⟩ | refine ⟨_, _, rfl, ?_⟩ | refine ⟨_, _, _, rfl, ?_⟩ | refine ⟨small_le (by simp), ?_⟩ | refine ⟨Or.inl ⟨by decide, by decide⟩, ?_⟩ | refine ⟨⟨by decide, by decide⟩, ?_⟩ | refine ⟨by show (0 : Int) < _; decide, ?_⟩)
        refine neB (fun e3 => ?_) (fun e3 => ?_)
        · repeat (first | refine ⟨_, rfl, ?_⟩ | refine ⟨_, _, rfl, rfl, ?_⟩ | refine ⟨rfl, ?_⟩ | refine ⟨_, _, rfl, ?_⟩ | refine ⟨_, _, _, rfl, ?_⟩ | refine ⟨small_le (by simp), ?_⟩ | refine ⟨Or.inl ⟨by decide, by decide⟩, ?_⟩ | refine ⟨⟨by decide, by decide⟩, ?_⟩ | refine ⟨by show (0 : Int) < _; decide, ?_⟩)
          refine ⟨s2, F, ps, L, _, _, nF, eF, hp, hn, hL, ?_, hlen, hsz, rfl⟩
          have := hnd.next (fun hd => e3 (by
            have h := Nat.mod_eq_zero_of_dvd hd
            rw [← ec, ← Int.natCast_emod, h]
            rfl))
          exact this
        · repeat (first | refine ⟨_, rfl, ?_⟩ | refine ⟨_, _, rfl, rfl, ?_⟩ | refine ⟨rfl, ?_⟩ | refine ⟨_, _, rfl, ?_⟩ | refine ⟨_, _, _, rfl, ?_⟩ | refine ⟨small_le (by simp), ?_⟩ | refine ⟨Or.inl ⟨by decide, by decide⟩, ?_⟩ | refine ⟨⟨by decide, by decide⟩, ?_⟩ | refine ⟨by show (0 : Int) < _; decide, ?_⟩)
          have hd : (2 + i) ∣ L := by
            have : ((L % (2 + i) : Nat) : Int) = 0 := by rw [Int.natCast_emod, ec]; exact e3
            exact Nat.dvd_of_mod_eq_zero (by omega)
          obtain ⟨k, hk⟩ := hd
          have hk1 : 1 ≤ k := Nat.pos_of_ne_zero fun z => by subst z; omega
          have hkk : L / (2 + i) = k := by rw [hk]; exact Nat.mul_div_cancel_left k (by omega)
          have hsz2 : k * 2 ^ (ps.length + 1) ≤ n := by
            have h1 : 2 * k ≤ L := by rw [hk]; exact Nat.mul_le_mul_right k (by omega)
            have h2 := Nat.mul_le_mul_right (2 ^ ps.length) h1
            rw [Nat.pow_succ]
            have h3 : k * (2 ^ ps.length * 2) = 2 * k * 2 ^ ps.length := by rw [Nat.mul_comm (2 ^ ps.length) 2, ← Nat.mul_assoc, Nat.mul_comm k 2]
            omega
          have hlen2 : ps.length + 1 ≤ 20 := by
            rcases Nat.lt_or_ge ps.length 20 with h | h
            · exact h
            · exfalso
              have h1 := Nat.pow_le_pow_right (show 0 < 2 by decide) (show 20 ≤ ps.length + 1 by omega)
              have h2 := Nat.mul_le_mul_right (2 ^ (ps.length + 1)) hk1
              omega
          (intro g1 ng1; generalize hqZ : upd _ g1 _ = H2; have s3 := new_same hqZ ng1; have e4 := new_at hqZ; clear hqZ)
          refine ⟨F, g1, _, _, rfl, rfl, s3 _ _ eF, e4, small_le (by simp; omega), ?_⟩
          (intro g2 ng2; generalize hqZ : upd _ g2 _ = H3; have s4 := new_same hqZ ng2; have e5 := new_at hqZ; clear hqZ)
          repeat (first | refine ⟨_, rfl, ?_⟩ | refine ⟨_, _, rfl, rfl, ?_⟩ | refine ⟨rfl, ?_⟩ | refine ⟨_, _, rfl, ?_⟩ | refine ⟨_, _, _, rfl, ?_⟩ | refine ⟨small_le (by simp), ?_⟩ | refine ⟨Or.inl ⟨by decide, by decide⟩, ?_⟩ | refine ⟨⟨by decide, by decide⟩, ?_⟩ | refine ⟨by show (0 : Int) < _; decide, ?_⟩)
          refine ⟨⟨by show (0:Int) < 2 + i; omega, by show (2 + (i : Int)) < 1073741824; omega⟩, ?_⟩
          repeat (first | refine ⟨_, rfl, ?_⟩ | refine ⟨_, _, rfl, rfl, ?_⟩ | refine ⟨rfl, ?_⟩ | refine ⟨_, _, rfl, ?_⟩ | refine ⟨_, _, _, rfl, ?_⟩ | refine ⟨small_le (by simp), ?_⟩ | refine ⟨Or.inl ⟨by decide, by decide⟩, ?_⟩ | refine ⟨⟨by decide, by decide⟩, ?_⟩ | refine ⟨by show (0 : Int) < _; decide, ?_⟩)
          refine ⟨s2.trans (s3.trans s4), g2, ps ++ [2 + i], k, some (.int (0 + (j : Int))), (s2.trans s3).free ng2, ?_, ?_, ?_, hk1, ?_, ?_, ?_, ?_, ?_⟩
          · rw [e5]
            simp [vn, ec]
          · intro p hpm
            rcases List.mem_append.mp hpm with h | h
            · exact hp p h
            · rw [List.mem_singleton.mp h]
              exact hnd.pr_dvd (by omega) ⟨k, hk⟩
          · rw [nprod_snoc, hn, hk, Nat.mul_assoc]
          · exact hnd.dvd ⟨2 + i, by rw [hk, Nat.mul_comm]⟩
          · simp; omega
          · simp; omega
          · simpa using hsz2
          · rw [← hkk]
            rfl
      · obtain ⟨_, F, ps, L, z, _, _, _, _, _, _, h70, h20, _⟩ := hp'
        omega
  · obtain ⟨s2, F, ps, L, y, z, nF, eF, hp, hn, hL, hnd, hlen, hsz, rfl⟩ := hp'
    have hLn : L ≤ n := Nat.le_of_dvd (by omega) ⟨nprod ps, by rw [hn, Nat.mul_comm]⟩
    obtain ⟨f1, f2⟩ := fin H' F ps L none none (2 + 1098) s2 nF eF hp hn hL hnd (by omega) hlen
    repeat (first | refine ⟨_, rfl, ?_⟩ | refine ⟨_, _, rfl, rfl, ?_⟩ | refine ⟨rfl, ?_⟩ | refine ⟨_, _, rfl, ?_⟩ | refine ⟨_, _, _, rfl, ?_⟩ | refine ⟨small_le (by simp), ?_⟩ | refine ⟨Or.inl ⟨by decide, by decide⟩, ?_⟩ | refine ⟨⟨by decide, by decide⟩, ?_⟩ | refine ⟨by show (0 : Int) < _; decide, ?_⟩)
    refine dB (fun e3 => ?_) (fun e3 => ?_)
    · repeat (first | refine ⟨_, rfl, ?_⟩ | refine ⟨_, _, rfl, rfl, ?_⟩ | refine ⟨rfl, ?_⟩ | refine ⟨_, _, rfl, ?_⟩ | refine ⟨_, _, _, rfl, ?_⟩ | refine ⟨small_le (by simp), ?_⟩ | refine ⟨Or.inl ⟨by decide, by decide⟩, ?_⟩ | refine ⟨⟨by decide, by decide⟩, ?_⟩ | refine ⟨by show (0 : Int) < _; decide, ?_⟩)
      (intro g1 ng1; generalize hqZ : upd _ g1 _ = H2; have s3 := new_same hqZ ng1; have e4 := new_at hqZ; clear hqZ)
      refine ⟨F, g1, _, _, rfl, rfl, s3 _ _ eF, e4, small_le (by simp; omega), ?_⟩
      (intro g2 ng2; generalize hqZ : upd _ g2 _ = H3; have s4 := new_same hqZ ng2; have e5 := new_at hqZ; clear hqZ)
      refine f1 (by omega) H3 g2 (s3.trans s4) (s3.free ng2) ?_
      rw [e5]
      simp [vn]
    · repeat (first | refine ⟨_, rfl, ?_⟩ | refine ⟨_, _, rfl, rfl, ?_⟩ | refine ⟨rfl, ?_⟩ | refine ⟨_, _, rfl, ?_⟩ | refine ⟨_, _, _, rfl, ?_⟩ | refine ⟨small_le (by simp), ?_⟩ | refine ⟨Or.inl ⟨by decide, by decide⟩, ?_⟩ | refine ⟨⟨by decide, by decide⟩, ?_⟩ | refine ⟨by show (0 : Int) < _; decide, ?_⟩)
      exact f2 (by omega)
end
end Bh

/-! WF -/
set_option maxHeartbeats 4000000
namespace Bh
open PySem PySem.Spec PyProof.Rows L2 Bs
section
variable {P : Program} {w : World} {K : PySem.W.Frag} {mg : Str → Option Value} {base : Heap}
/-! ### led away, mixed -/
theorem SameX.trans {x : Addr} {H H1 H2 : Hp} (h : SameX x H H1) (g : SameX x H1 H2) : SameX x H H2 := fun b o n e => g b o n (h b o n e)
/-- a way up: each exchange at a place whose circle then grows -/
inductive Led (ns : List Int) : List Nat → List Int → Prop where
  | nil : Led ns [] ns
  | snoc {path : List Nat} {cur : List Int} {i : Nat} (h : Led ns path cur) (hi : i < 4) (lt : 2 * cur.getD i 0 < cur.sum) : Led ns (path ++ [i]) (exch cur i)
def upPl (ns : List Int) (k : Nat) : List Int := ((List.range k).filter fun i => decide (2 * ns.getD i 0 < ns.sum)).map fun (i : Nat) => ((i : Nat) : Int)
theorem upPl_succ (ns : List Int) (k : Nat) : upPl ns (k + 1) = upPl ns k ++ (if 2 * ns.getD k 0 < ns.sum then [(k : Int)] else []) := by
  unfold upPl
  rw [List.range_succ, List.filter_append, List.map_append]
  congr 1
  by_cases h : 2 * ns.getD k 0 < ns.sum <;> simp [h, List.getD_eq_getElem?_getD] at h ⊢ <;> simp [h]
theorem upPl_some {ns : List Int} (h4 : ns.length = 4) (h0 : 0 < ns.sum) : 0 < (upPl ns 4).length := by
  match ns, h4 with
  | [a, b, c, d], _ =>
    simp at h0
    have : 2 * a < a + (b + (c + (d + 0))) ∨ 2 * b < a + (b + (c + (d + 0))) ∨ 2 * c < a + (b + (c + (d + 0))) ∨ 2 * d < a + (b + (c + (d + 0))) := by omega
    have e : ∃ i, i < 4 ∧ 2 * [a, b, c, d].getD i 0 < [a, b, c, d].sum := by
      rcases this with h | h | h | h
      · exact ⟨0, by decide, by simpa using h⟩
      · exact ⟨1, by decide, by simpa using h⟩
      · exact ⟨2, by decide, by simpa using h⟩
      · exact ⟨3, by decide, by simpa using h⟩
    obtain ⟨i, hi, hlt⟩ := e
    refine List.length_pos_of_mem (a := (i : Int)) (List.mem_map.mpr ⟨i, List.mem_filter.mpr ⟨List.mem_range.mpr hi, decide_eq_true hlt⟩, rfl⟩)
theorem upPl_mem {ns : List Int} {k j : Nat} {v : Int} (h : (upPl ns k)[j]? = some v) : ∃ i : Nat, v = i ∧ i < k ∧ 2 * ns.getD i 0 < ns.sum := by
  obtain ⟨i, hi, rfl⟩ := List.mem_map.mp (List.mem_of_getElem? h)
  obtain ⟨h1, h2⟩ := List.mem_filter.mp hi
  exact ⟨i, rfl, List.mem_range.mp h1, by simpa using h2⟩
theorem exch_sum {ns : List Int} {i : Nat} (h4 : ns.length = 4) (hi : i < 4) : (exch ns i).sum = 3 * ns.sum - 4 * ns.getD i 0 := by
  match ns, h4 with
  | [a, b, c, d], _ =>
    rcases (by omega : i = 0 ∨ i = 1 ∨ i = 2 ∨ i = 3) with rfl | rfl | rfl | rfl <;> simp [exch, letIn] <;> omega
theorem sc_law_led : FnScope ["_law_bowl_here", "_law_bends_here", "_law_letters", "_law_turn", "_law_places", "_law_place"] ["_law_bowl_here", "_law_bends_here", "_law_letters"] (defScope (top 106)) := ⟨rfl, rfl, rfl, by decide +kernel, rfl, by decide +kernel, by decide +kernel⟩
def spLed : Sp := fun vs H Q _ => ∃ (b l F : Addr) (ns : List Int) (k t : Nat), vs = [.ref b, .ref F, .int k] ∧ Bowl H b l t ∧ t + k < 2 ^ 19 ∧ H F = some (.lst (vi ns)) ∧ ns.length = 4 ∧ 0 < ns.sum ∧
  ∀ H' F' path ms, SameX b H H' → Bowl H' b l (t + k) → H' F' = some (.lst (vi ms)) → Led ns path ms → path.length = k → ms.length = 4 → Q (.ref F') H'
theorem ok_law_led (T : Tx K mg) : Fx P w K mg base CX0 3 "_law_led" spLed := by
  refine Fx.of T.g_law_led T.f_law_led (fnr0 (N := ["_law_bowl_here", "_law_bends_here", "_law_letters", "_law_turn", "_law_places", "_law_place"]) (ps := ["_law_bowl_here", "_law_bends_here", "_law_letters"]) T.f_law_led sc_law_led (fun _ _ _ _ _ _ us hl => match us, hl with | [_, _, _], _ => rfl) (by intro vs H Q E h; repeat (first | (obtain ⟨e, _⟩ := h; subst e; rfl) | (obtain ⟨_, h⟩ := h))) fun cdv A outer s H vs Q E hr h => ?_)
  obtain ⟨b, l, F, ns, k, t, rfl, hb, htk, hF, h4, h0, q⟩ := h
  have b19 : (2:Nat) ^ 19 = 524288 := by decide
  refine ⟨_, (pss_cons (ps_for PassesOwn.never rfl (pi_range1 (by rfl) T.m_range (pa_cons (pv 2) pa_nil)) (pg_name (i := 3) sc_law_led.nd rfl (Or.inl rfl)) (pss_cons (ps_setLc (i := 4) (own := [("_law_place", 5)]) rfl sc_law_led.nd rfl rfl (sw_true rfl rfl rfl (by decide +kernel)) (pi_range1 (by rfl) T.m_range (pa_cons pe_int pa_nil)) (blkOk_by (own := [("_law_place", 5)]) (N := ["_law_bowl_here", "_law_bends_here", "_law_letters", "_law_turn", "_law_places", "_law_place"]) (sc := defScope (top 106)) (by decide +kernel)) (fun _ _ _ _ _ => (pg_name (i := 5) sc_law_led.nd rfl (Or.inl rfl))) (fun _ _ _ _ _ => (pts_one (pt_cmpR op_lt (pe_op op_mul pe_int (pe_ix (ix_listK (K := K) rfl) (pv 1) (pv 5) (fun _ _ => rfl))) (pe_callB (cr_sumXK (K := K) rfl rfl) (by rfl) T.m_sum (by decide +kernel) (pa_cons (pv 1) pa_nil)) (nomark _)))) (fun _ _ _ _ _ => (pv 5)))
      (pss_one (ps_set (i := 1) sc_law_led.nd rfl (Or.inr rfl) (pc (ok_law_exchanged T) (hr.mono (by decide)) (by first | exact pass0 | exact passL) (pa_cons (pv 1) (pa_cons (pc (ok_law_pick T) (hr.mono (by decide)) (by first | exact pass0 | exact passL) (pa_cons (pv 0) (pa_cons (pv 4) pa_nil))) pa_nil)))))))
      (pss_one (ps_ret (pv 1)))), ?_⟩
  repeat (first | refine ⟨_, rfl, ?_⟩ | refine ⟨_, _, rfl, rfl, ?_⟩ | refine ⟨rfl, ?_⟩ | refine ⟨_, _, rfl, ?_⟩ | refine ⟨_, _, _, rfl, ?_⟩ | refine ⟨small_le (by simp), ?_⟩ | refine ⟨Or.inl ⟨by decide, by decide⟩, ?_⟩ | refine ⟨⟨by decide, by decide⟩, ?_⟩ | refine ⟨by show (0 : Int) < _; decide, ?_⟩)
  refine ⟨by show -(2:Int)^62 ≤ k; omega, by show (k : Int) < 2^62; omega, ?_⟩
  have viNe : ∀ {H : Hp} {t : Nat} {F : Addr} {ms : List Int}, Bowl H b l t → H F = some (.lst (vi ms)) → F ≠ b := fun {H t F ms} hb hF => hb.ne hF fun l u r z => by
    injection z with z
    cases ms with
    | nil => cases z
    | cons c cs => injection z with z; cases z
  refine for_range (lo := 0) (n := k) (fun i σ H' => SameX b H H' ∧ Bowl H' b l (t + i) ∧ ∃ (F' : Addr) (cur : List Int) (path : List Nat) (y z u : Option V), H' F' = some (.lst (vi cur)) ∧ cur.length = 4 ∧ 0 < cur.sum ∧ Led ns path cur ∧ path.length = i ∧ σ = [some (.ref b), some (.ref F'), some (.int k), y, z, u])
    ⟨Same.x (Same.refl H), hb, F, ns, [], none, none, none, hF, h4, h0, .nil, rfl, rfl⟩ (fun i σ H' hi hp => ?_) (fun σ H' hp => ?_)
  · obtain ⟨x1, b1, F', cur, path, y, z, u, eF, c4, c0, hl, hpl, rfl⟩ := hp
    repeat (first | refine ⟨_, rfl, ?_⟩ | refine ⟨_, _, rfl, rfl, ?_⟩ | refine ⟨rfl, ?_⟩ | refine ⟨_, _, rfl, ?_⟩ | refine ⟨_, _, _, rfl, ?_⟩ | refine ⟨small_le (by simp), ?_⟩ | refine ⟨Or.inl ⟨by decide, by decide⟩, ?_⟩ | refine ⟨⟨by decide, by decide⟩, ?_⟩ | refine ⟨by show (0 : Int) < _; decide, ?_⟩)
    refine ⟨by decide, by decide, fun D nD => ?_⟩
    refine lc_range (lo := 0) (n := 4) (fun j H2 => Same H' H2 ∧ H2 D = some (.lst (vi (upPl cur j)))) ⟨same_new nD, upd_same⟩ (fun j H2 hj hp => ?_) (fun H2 hp => ?_)
    · obtain ⟨p1, p2⟩ := hp
      refine ⟨rfl, ?_⟩
      repeat (first | refine ⟨_, rfl, ?_⟩ | refine ⟨_, _, rfl, rfl, ?_⟩ | refine ⟨rfl, ?_⟩ | refine ⟨_, _, rfl, ?_⟩ | refine ⟨_, _, _, rfl, ?_⟩ | refine ⟨small_le (by simp), ?_⟩ | refine ⟨Or.inl ⟨by decide, by decide⟩, ?_⟩ | refine ⟨⟨by decide, by decide⟩, ?_⟩ | refine ⟨by show (0 : Int) < _; decide, ?_⟩)
      refine ⟨F', _, j, _, rfl, by simp, sqL (p1 _ _ eF), atI_vi (by omega), ?_⟩
      repeat (first | refine ⟨_, rfl, ?_⟩ | refine ⟨_, _, rfl, rfl, ?_⟩ | refine ⟨rfl, ?_⟩ | refine ⟨_, _, rfl, ?_⟩ | refine ⟨_, _, _, rfl, ?_⟩ | refine ⟨small_le (by simp), ?_⟩ | refine ⟨Or.inl ⟨by decide, by decide⟩, ?_⟩ | refine ⟨⟨by decide, by decide⟩, ?_⟩ | refine ⟨by show (0 : Int) < _; decide, ?_⟩)
      refine ⟨F', cur, rfl, .inl (sqL (p1 _ _ eF)), ?_⟩
      repeat (first | refine ⟨_, rfl, ?_⟩ | refine ⟨_, _, rfl, rfl, ?_⟩ | refine ⟨rfl, ?_⟩ | refine ⟨_, _, rfl, ?_⟩ | refine ⟨_, _, _, rfl, ?_⟩ | refine ⟨small_le (by simp), ?_⟩ | refine ⟨Or.inl ⟨by decide, by decide⟩, ?_⟩ | refine ⟨⟨by decide, by decide⟩, ?_⟩ | refine ⟨by show (0 : Int) < _; decide, ?_⟩)
      have hlen : (upPl cur j).length ≤ 4 := by
        unfold upPl
        rw [List.length_map]
        exact Nat.le_trans (List.length_filter_le _ _) (by simp; omega)
      refine dB (fun e => ?_) (fun e => ?_)
      · repeat (first | refine ⟨_, rfl, ?_⟩ | refine ⟨_, _, rfl, rfl, ?_⟩ | refine ⟨rfl, ?_⟩ | refine ⟨_, _, rfl, ?_⟩ | refine ⟨_, _, _, rfl, ?_⟩ | refine ⟨small_le (by simp), ?_⟩ | refine ⟨Or.inl ⟨by decide, by decide⟩, ?_⟩ | refine ⟨⟨by decide, by decide⟩, ?_⟩ | refine ⟨by show (0 : Int) < _; decide, ?_⟩)
        refine ⟨_, p2, small_lt (by simp; omega), same_mut p1 nD, ?_⟩
        rw [upd_same, upPl_succ, if_pos e]
        simp [vi]
      · refine ⟨p1, ?_⟩
        rw [p2, upPl_succ, if_neg e, List.append_nil]
    · obtain ⟨p1, p2⟩ := hp
      have bD := b1.same p1
      have hDb := viNe bD p2
      repeat (first | refine ⟨_, rfl, ?_⟩ | refine ⟨_, _, rfl, rfl, ?_⟩ | refine ⟨rfl, ?_⟩ | refine ⟨_, _, rfl, ?_⟩ | refine ⟨_, _, _, rfl, ?_⟩ | refine ⟨small_le (by simp), ?_⟩ | refine ⟨Or.inl ⟨by decide, by decide⟩, ?_⟩ | refine ⟨⟨by decide, by decide⟩, ?_⟩ | refine ⟨by show (0 : Int) < _; decide, ?_⟩)
      refine ⟨b, l, D, _, t + i, rfl, bD, by omega, p2, hDb, by rw [List.length_map]; exact upPl_some c4 c0, ?_, fun H3 j v x3 b3 hv => ?_⟩
      · unfold upPl
        rw [List.length_map, List.length_map]
        exact Nat.lt_of_le_of_lt (List.length_filter_le _ _) (by simp)
      · rw [List.getElem?_map] at hv
        obtain ⟨iv, hiv, rfl⟩ := Option.map_eq_some_iff.mp hv
        obtain ⟨m, rfl, hm4, hlt⟩ := upPl_mem hiv
        have eF2 := p1 _ _ eF
        have hFb := viNe bD eF2
        repeat (first | refine ⟨_, rfl, ?_⟩ | refine ⟨_, _, rfl, rfl, ?_⟩ | refine ⟨rfl, ?_⟩ | refine ⟨_, _, rfl, ?_⟩ | refine ⟨_, _, _, rfl, ?_⟩ | refine ⟨small_le (by simp), ?_⟩ | refine ⟨Or.inl ⟨by decide, by decide⟩, ?_⟩ | refine ⟨⟨by decide, by decide⟩, ?_⟩ | refine ⟨by show (0 : Int) < _; decide, ?_⟩)
        refine ⟨F', cur, m, rfl, x3 _ _ hFb eF2, by omega, c4, fun H4 F2 s4 nF2 e4 => ?_⟩
        refine ⟨(x1.trans (Same.x p1)).trans (x3.same s4), b3.same s4, F2, exch cur m, path ++ [m], _, _, _, e4, by rw [exch_len (by omega)]; exact c4, ?_, hl.snoc hm4 hlt, by simp [hpl], rfl⟩
        rw [exch_sum c4 hm4]
        omega
  · obtain ⟨x1, b1, F', cur, path, y, z, u, eF, c4, c0, hl, hpl, rfl⟩ := hp
    repeat (first | refine ⟨_, rfl, ?_⟩ | refine ⟨_, _, rfl, rfl, ?_⟩ | refine ⟨rfl, ?_⟩ | refine ⟨_, _, rfl, ?_⟩ | refine ⟨_, _, _, rfl, ?_⟩ | refine ⟨small_le (by simp), ?_⟩ | refine ⟨Or.inl ⟨by decide, by decide⟩, ?_⟩ | refine ⟨⟨by decide, by decide⟩, ?_⟩ | refine ⟨by show (0 : Int) < _; decide, ?_⟩)
    exact q H' F' path cur x1 b1 eF hl hpl c4
end
end Bh

/-! WG -/
set_option maxHeartbeats 4000000
namespace Bh
open PySem PySem.Spec PyProof.Rows L2 Bs
section
variable {P : Program} {w : World} {K : PySem.W.Frag} {mg : Str → Option Value} {base : Heap}
theorem sc_law_mixed : FnScope ["_law_bowl_here", "_law_some", "_law_left", "_law_found", "_law_turn"] ["_law_bowl_here", "_law_some"] (defScope (top 107)) := ⟨rfl, rfl, rfl, by decide +kernel, rfl, by decide +kernel, by decide +kernel⟩
theorem SameX.mut {b L : Addr} {H H' : Hp} {o : HO} (h : SameX b H H') (n : H L = none) : SameX b H (upd H' L o) := fun a u ne e => by
  rw [upd_ne (fun z => by rw [z, n] at e; cases e)]
  exact h a u ne e
theorem vi_erase {ns : List Int} {i : Nat} : (vi ns).eraseIdx i = vi (ns.eraseIdx i) := by
  induction ns generalizing i with
  | nil => rfl
  | cons a r ih =>
    cases i with
    | zero => rfl
    | succ i => show V.int a :: (vi r).eraseIdx i = V.int a :: vi (r.eraseIdx i); rw [ih]
theorem seqIdx_nat {v n : Nat} (h : v < n) : seqIndex? (v : Int) n = some v := by
  unfold seqIndex?
  simp
  omega
theorem erase_perm : ∀ {l : List Int} {i : Nat} (h : i < l.length), (l[i] :: l.eraseIdx i).Perm l
  | a :: r, 0, _ => List.Perm.refl _
  | a :: r, i + 1, h => (List.Perm.swap a (r[i]'(Nat.lt_of_succ_lt_succ h)) (r.eraseIdx i)).trans ((erase_perm (l := r) (i := i) (Nat.lt_of_succ_lt_succ h)).cons a)
def spMixed : Sp := fun vs H Q _ => ∃ (b l F : Addr) (ns : List Int) (t : Nat), vs = [.ref b, .ref F] ∧ Bowl H b l t ∧ t + ns.length < 2 ^ 19 ∧ H F = some (.lst (vi ns)) ∧ F ≠ b ∧
  ∀ H' F' ms, SameX b H H' → Bowl H' b l (t + ns.length) → H F' = none → H' F' = some (.lst (vi ms)) → ms.Perm ns → Q (.ref F') H'
theorem ok_law_mixed (T : Tx K mg) : Fx P w K mg base CX0 3 "_law_mixed" spMixed := by
  refine Fx.of T.g_law_mixed T.f_law_mixed (fnr0 (N := ["_law_bowl_here", "_law_some", "_law_left", "_law_found", "_law_turn"]) (ps := ["_law_bowl_here", "_law_some"]) T.f_law_mixed sc_law_mixed (fun _ _ _ _ _ _ us hl => match us, hl with | [_, _], _ => rfl) (by intro vs H Q E h; repeat (first | (obtain ⟨e, _⟩ := h; subst e; rfl) | (obtain ⟨_, h⟩ := h))) fun cdv A outer s H vs Q E hr h => ?_)
  obtain ⟨b, l, F, ns, t, rfl, hb, htk, hF, hFb, q⟩ := h
  have b19 : (2:Nat) ^ 19 = 524288 := by decide
  have hbs : ∃ o, H b = some o := let ⟨_, _, _, _, h, _, _⟩ := hb; ⟨_, h⟩
  have hls : ∃ o, H l = some o := let ⟨_, _, _, _, _, h, _⟩ := hb; ⟨_, h⟩
  refine ⟨_, (pss_cons (ps_par (i := 2) (j := 3) (by rfl) sc_law_mixed.nd rfl rfl (by decide) rfl rfl (pa_cons (pe_callTy call_list_of (by rfl) T.m_list (by decide +kernel) (pa_cons (pv 1) pa_nil)) (pa_cons (pe_lst pa_nil) pa_nil)) (by rfl))
      (pss_cons (ps_for PassesOwn.never rfl (pi_range1 (by rfl) T.m_range (pa_cons (pe_callB call_len_seq (by rfl) T.m_len PySem.boot_len (pa_cons (pv 1) pa_nil)) pa_nil)) (pg_name (i := 4) sc_law_mixed.nd rfl (Or.inl rfl)) (pss_one (ps_expr (pe_bm PySem.F.plainAttrs_list PySem.F.slot_list_append PySem.F.type_list_append mt_append (pv 3) (pa_cons (pe_bm PySem.F.plainAttrs_list PySem.F.slot_list_pop PySem.F.type_list_pop mt_popAt (pv 2) (pa_cons (pc (ok_law_ladle T) (hr.mono (by decide)) (by first | exact pass0 | exact passL) (pa_cons (pv 0) (pa_cons (pe_callB call_len_seq (by rfl) T.m_len PySem.boot_len (pa_cons (pv 2) pa_nil)) pa_nil))) pa_nil)) pa_nil)))))
      (pss_one (ps_ret (pv 3))))), ?_⟩
  repeat (first | refine ⟨_, rfl, ?_⟩ | refine ⟨_, _, rfl, rfl, ?_⟩ | refine ⟨rfl, ?_⟩ | refine ⟨_, _, rfl, ?_⟩ | refine ⟨_, _, _, rfl, ?_⟩ | refine ⟨small_le (by simp), ?_⟩ | refine ⟨Or.inl ⟨by decide, by decide⟩, ?_⟩ | refine ⟨⟨by decide, by decide⟩, ?_⟩ | refine ⟨by show (0 : Int) < _; decide, ?_⟩)
  refine ⟨F, _, rfl, .inl (sqL hF), ?_⟩
  (intro L nL; generalize hqZ : upd _ L _ = H1; have s1 := new_same hqZ nL; have e1 := new_at hqZ; clear hqZ)
  repeat (first | refine ⟨_, rfl, ?_⟩ | refine ⟨_, _, rfl, rfl, ?_⟩ | refine ⟨rfl, ?_⟩ | refine ⟨_, _, rfl, ?_⟩ | refine ⟨_, _, _, rfl, ?_⟩ | refine ⟨small_le (by simp), ?_⟩ | refine ⟨Or.inl ⟨by decide, by decide⟩, ?_⟩ | refine ⟨⟨by decide, by decide⟩, ?_⟩ | refine ⟨by show (0 : Int) < _; decide, ?_⟩)
  (intro G nG; generalize hqZ : upd _ G _ = H2; have s2 := new_same hqZ nG; have e2 := new_at hqZ; clear hqZ)
  repeat (first | refine ⟨_, rfl, ?_⟩ | refine ⟨_, _, rfl, rfl, ?_⟩ | refine ⟨rfl, ?_⟩ | refine ⟨_, _, rfl, ?_⟩ | refine ⟨_, _, _, rfl, ?_⟩ | refine ⟨small_le (by simp), ?_⟩ | refine ⟨Or.inl ⟨by decide, by decide⟩, ?_⟩ | refine ⟨⟨by decide, by decide⟩, ?_⟩ | refine ⟨by show (0 : Int) < _; decide, ?_⟩)
  have hLb : L ≠ b := fun z => by obtain ⟨o, h⟩ := hbs; rw [← z, nL] at h; cases h
  have hLl : L ≠ l := fun z => by obtain ⟨o, h⟩ := hls; rw [← z, nL] at h; cases h
  have nG0 := s1.free nG
  have hGb : G ≠ b := fun z => by obtain ⟨o, h⟩ := hbs; rw [← z, nG0] at h; cases h
  have hGl : G ≠ l := fun z => by obtain ⟨o, h⟩ := hls; rw [← z, nG0] at h; cases h
  have hGL : G ≠ L := fun z => by rw [z, e1] at nG; cases nG
  have s12 := s1.trans s2
  refine ⟨F, _, rfl, .inl (sqL (s12 _ _ hF)), ?_⟩
  repeat (first | refine ⟨_, rfl, ?_⟩ | refine ⟨_, _, rfl, rfl, ?_⟩ | refine ⟨rfl, ?_⟩ | refine ⟨_, _, rfl, ?_⟩ | refine ⟨_, _, _, rfl, ?_⟩ | refine ⟨small_le (by simp), ?_⟩ | refine ⟨Or.inl ⟨by decide, by decide⟩, ?_⟩ | refine ⟨⟨by decide, by decide⟩, ?_⟩ | refine ⟨by show (0 : Int) < _; decide, ?_⟩)
  have hFL : F ≠ L := fun z => by rw [z, nL] at hF; cases hF
  have hFG : F ≠ G := fun z => by rw [z, nG0] at hF; cases hF
  refine ⟨by simp, by simp; omega, ?_⟩
  refine for_range (lo := 0) (n := (vi ns).length) (fun i σ H' => SameX b H H' ∧ Bowl H' b l (t + i) ∧ ∃ (ls fs : List Int) (z : Option V), H' L = some (.lst (vi ls)) ∧ H' G = some (.lst (vi fs)) ∧ (fs ++ ls).Perm ns ∧ fs.length = i ∧ σ = [some (.ref b), some (.ref F), some (.ref L), some (.ref G), z])
    ⟨Same.x s12, hb.same s12, ns, [], none, s2 _ _ e1, e2, List.Perm.refl _, rfl, rfl⟩ (fun i σ H' hi hp => ?_) (fun σ H' hp => ?_)
  · obtain ⟨x1, b1, ls, fs, z, eL, eG, hperm, hfl, rfl⟩ := hp
    rw [List.length_map] at hi
    have hpl := hperm.length_eq
    rw [List.length_append] at hpl
    repeat (first | refine ⟨_, rfl, ?_⟩ | refine ⟨_, _, rfl, rfl, ?_⟩ | refine ⟨rfl, ?_⟩ | refine ⟨_, _, rfl, ?_⟩ | refine ⟨_, _, _, rfl, ?_⟩ | refine ⟨small_le (by simp), ?_⟩ | refine ⟨Or.inl ⟨by decide, by decide⟩, ?_⟩ | refine ⟨⟨by decide, by decide⟩, ?_⟩ | refine ⟨by show (0 : Int) < _; decide, ?_⟩)
    refine ⟨Or.inl ⟨rfl, _, sqL eG⟩, ?_⟩
    repeat (first | refine ⟨_, rfl, ?_⟩ | refine ⟨_, _, rfl, rfl, ?_⟩ | refine ⟨rfl, ?_⟩ | refine ⟨_, _, rfl, ?_⟩ | refine ⟨_, _, _, rfl, ?_⟩ | refine ⟨small_le (by simp), ?_⟩ | refine ⟨Or.inl ⟨by decide, by decide⟩, ?_⟩ | refine ⟨⟨by decide, by decide⟩, ?_⟩ | refine ⟨by show (0 : Int) < _; decide, ?_⟩)
    refine ⟨Or.inl ⟨rfl, _, sqL eL⟩, ?_⟩
    repeat (first | refine ⟨_, rfl, ?_⟩ | refine ⟨_, _, rfl, rfl, ?_⟩ | refine ⟨rfl, ?_⟩ | refine ⟨_, _, rfl, ?_⟩ | refine ⟨_, _, _, rfl, ?_⟩ | refine ⟨small_le (by simp), ?_⟩ | refine ⟨Or.inl ⟨by decide, by decide⟩, ?_⟩ | refine ⟨⟨by decide, by decide⟩, ?_⟩ | refine ⟨by show (0 : Int) < _; decide, ?_⟩)
    refine ⟨L, _, rfl, .inl (sqL eL), ?_⟩
    repeat (first | refine ⟨_, rfl, ?_⟩ | refine ⟨_, _, rfl, rfl, ?_⟩ | refine ⟨rfl, ?_⟩ | refine ⟨_, _, rfl, ?_⟩ | refine ⟨_, _, _, rfl, ?_⟩ | refine ⟨small_le (by simp), ?_⟩ | refine ⟨Or.inl ⟨by decide, by decide⟩, ?_⟩ | refine ⟨⟨by decide, by decide⟩, ?_⟩ | refine ⟨by show (0 : Int) < _; decide, ?_⟩)
    refine ⟨b, l, ls.length, t + i, by simp, b1, by omega, by omega, by omega, fun H3 v x3 b3 hv => ?_⟩
    have eL3 := x3 _ _ hLb eL
    have eG3 := x3 _ _ hGb eG
    have hv' : v < ls.length := by simpa using hv
    repeat (first | refine ⟨_, rfl, ?_⟩ | refine ⟨_, _, rfl, rfl, ?_⟩ | refine ⟨rfl, ?_⟩ | refine ⟨_, _, rfl, ?_⟩ | refine ⟨_, _, _, rfl, ?_⟩ | refine ⟨small_le (by simp), ?_⟩ | refine ⟨Or.inl ⟨by decide, by decide⟩, ?_⟩ | refine ⟨⟨by decide, by decide⟩, ?_⟩ | refine ⟨by show (0 : Int) < _; decide, ?_⟩)
    refine ⟨L, _, v, v, .int ls[v], rfl, rfl, eL3, by omega, by omega, seqIdx_nat (by simpa using hv'), by rw [List.getElem?_map, List.getElem?_eq_getElem hv']; rfl, ?_⟩
    rw [vi_erase]
    have b4 := b3.set (o := .lst (vi (ls.eraseIdx v))) hLb hLl
    have x4 := (x1.trans x3).mut (o := .lst (vi (ls.eraseIdx v))) nL
    have eL4 : (upd H3 L (.lst (vi (ls.eraseIdx v)))) L = _ := upd_same
    have eG4 : (upd H3 L (.lst (vi (ls.eraseIdx v)))) G = some (.lst (vi fs)) := by rw [upd_ne hGL]; exact eG3
    generalize upd H3 L (.lst (vi (ls.eraseIdx v))) = H4 at b4 x4 eL4 eG4 ⊢
    repeat (first | refine ⟨_, rfl, ?_⟩ | refine ⟨_, _, rfl, rfl, ?_⟩ | refine ⟨rfl, ?_⟩ | refine ⟨_, _, rfl, ?_⟩ | refine ⟨_, _, _, rfl, ?_⟩ | refine ⟨small_le (by simp), ?_⟩ | refine ⟨Or.inl ⟨by decide, by decide⟩, ?_⟩ | refine ⟨⟨by decide, by decide⟩, ?_⟩ | refine ⟨by show (0 : Int) < _; decide, ?_⟩)
    refine ⟨G, _, _, rfl, rfl, eG4, small_lt (by simp; omega), ?_⟩
    refine ⟨x4.mut nG0, b4.set hGb hGl, ls.eraseIdx v, fs ++ [ls[v]], _, by rw [upd_ne (Ne.symm hGL)]; exact eL4, by rw [upd_same]; simp [vi], ?_, by simp [hfl], rfl⟩
    rw [List.append_assoc]
    refine List.Perm.trans (List.Perm.append_left fs ?_) hperm
    exact erase_perm hv'
  · obtain ⟨x1, b1, ls, fs, z, eL, eG, hperm, hfl, rfl⟩ := hp
    rw [List.length_map] at hfl b1
    have hpl := hperm.length_eq
    rw [List.length_append] at hpl
    have : ls = [] := List.length_eq_zero_iff.mp (by omega)
    subst this
    repeat (first | refine ⟨_, rfl, ?_⟩ | refine ⟨_, _, rfl, rfl, ?_⟩ | refine ⟨rfl, ?_⟩ | refine ⟨_, _, rfl, ?_⟩ | refine ⟨_, _, _, rfl, ?_⟩ | refine ⟨small_le (by simp), ?_⟩ | refine ⟨Or.inl ⟨by decide, by decide⟩, ?_⟩ | refine ⟨⟨by decide, by decide⟩, ?_⟩ | refine ⟨by show (0 : Int) < _; decide, ?_⟩)
    exact q H' G fs x1 b1 nG0 eG (by simpa using hperm)
end
end Bh

/-! WH -/
set_option maxHeartbeats 4000000
namespace Bh
open PySem PySem.Spec PyProof.Rows L2 Bs
section
variable {P : Program} {w : World} {K : PySem.W.Frag} {mg : Str → Option Value} {base : Heap}
/-! ### the law's sign of a pair -/
theorem cop_nprod {a : Int} : ∀ {ps : List Nat}, (∀ p ∈ ps, Cop a p) → Cop a ((nprod ps : Nat) : Int)
  | [], _ => cop_one a
  | p :: ps, h => by
    rw [nprod_cons, Int.natCast_mul]
    exact ((h p List.mem_cons_self).comm.mul (cop_nprod fun q hq => h q (List.mem_cons_of_mem _ hq)).comm).comm
theorem J_nprod {a : Int} : ∀ {ps : List Nat}, (∀ p ∈ ps, Pr p ∧ p ≠ 2) → (∀ p ∈ ps, Cop a p) → (ps.map fun (p : Nat) => J a p).prod = J a ((nprod ps : Nat) : Int)
  | [], _, _ => by rw [show ((nprod [] : Nat) : Int) = 1 from rfl, J_by_one]; rfl
  | p :: ps, h, hc => by
    have ih := J_nprod (a := a) (ps := ps) (fun q hq => h q (List.mem_cons_of_mem _ hq)) fun q hq => hc q (List.mem_cons_of_mem _ hq)
    obtain ⟨hp, h2⟩ := h p List.mem_cons_self
    have on : Od ((nprod ps : Nat) : Int) := by
      refine ⟨?_, ?_⟩
      · have := nprod_pos (l := ps) fun q hq => (h q (List.mem_cons_of_mem _ hq)).1
        omega
      · rcases Int.emod_two_eq ((nprod ps : Nat) : Int) with e | e
        · exfalso
          have d : ((2 : Nat) : Int) ∣ ((nprod ps : Nat) : Int) := Int.dvd_of_emod_eq_zero e
          exact (h 2 (List.mem_cons_of_mem _ (prime_dvd_nprod pr_two (fun q hq => (h q (List.mem_cons_of_mem _ hq)).1) d))).2 rfl
        · exact e
    have cr : Cop a ((nprod ps : Nat) : Int) := cop_nprod fun q hq => hc q (List.mem_cons_of_mem _ hq)
    rw [List.map_cons, List.prod_cons, ih, nprod_cons, Int.natCast_mul, J_bot (hp.od h2) on ((hc p List.mem_cons_self).comm.mul cr.comm).comm]
theorem sc_law_pair_sign : FnScope ["_law_one", "_law_other", "_law_number", "_law_found", "_law_prime"] ["_law_one", "_law_other"] (defScope (top 108)) := ⟨rfl, rfl, rfl, by decide +kernel, rfl, by decide +kernel, by decide +kernel⟩
def spPairSign : Sp := fun vs H Q _ => ∃ u v : Int, vs = [.int u, .int v] ∧ v % 2 = 1 ∧ v.natAbs < 1000000 ∧ Cop u v ∧ ∀ H', Same H H' → Q (.int (chi u v)) H'
theorem ok_law_pair_sign (T : Tx K mg) : Fx P w K mg base CX0 2 "_law_pair_sign" spPairSign := by
  refine Fx.of T.g_law_pair_sign T.f_law_pair_sign (fnr0 (N := ["_law_one", "_law_other", "_law_number", "_law_found", "_law_prime"]) (ps := ["_law_one", "_law_other"]) T.f_law_pair_sign sc_law_pair_sign (fun _ _ _ _ _ _ us hl => match us, hl with | [_, _], _ => rfl) (by intro vs H Q E h; repeat (first | (obtain ⟨e, _⟩ := h; subst e; rfl) | (obtain ⟨_, h⟩ := h))) fun cdv A outer s H vs Q E hr h => ?_)
  obtain ⟨u, v, rfl, hv, hb, hc, q⟩ := h
  have b20 : (2:Nat) ^ 20 = 1048576 := by decide
  unfold chi at q
  refine ⟨_, (pss_cons (ps_par (i := 2) (j := 3) (by rfl) sc_law_pair_sign.nd rfl rfl (by decide) rfl rfl (pa_cons (pe_ifExp (pt_cmpR op_eq (pe_op op_modP (pe_callTy call_intI (by rfl) T.m_int (by decide +kernel) (pa_cons (pv 1) pa_nil)) pe_int) pe_int (nomark _)) (pv 0) (pe_op op_mul pe_int (pv 0))) (pa_cons pe_int pa_nil)) (by rfl))
      (pss_cons (ps_for PassesOwn.never rfl (pi_list (pc (ok_law_primes T) (hr.mono (by decide)) (by first | exact pass0 | exact passL) (pa_cons (pe_callB call_abs (by rfl) T.m_abs (by decide +kernel) (pa_cons (pv 1) pa_nil)) pa_nil))) (pg_name (i := 4) sc_law_pair_sign.nd rfl (Or.inl rfl)) (pss_one (ps_set (i := 3) sc_law_pair_sign.nd rfl (Or.inl rfl) (pe_op op_mulW (pv 3) (pc (ok_law_symbol T) (hr.mono (by decide)) (by first | exact pass0 | exact passL) (pa_cons (pv 2) (pa_cons (pv 4) pa_nil)))))))
      (pss_one (ps_ret (pv 3))))), ?_⟩
  repeat (first | refine ⟨_, rfl, ?_⟩ | refine ⟨_, _, rfl, rfl, ?_⟩ | refine ⟨rfl, ?_⟩ | refine ⟨_, _, rfl, ?_⟩ | refine ⟨_, _, _, rfl, ?_⟩ | refine ⟨small_le (by simp), ?_⟩ | refine ⟨Or.inl ⟨by decide, by decide⟩, ?_⟩ | refine ⟨⟨by decide, by decide⟩, ?_⟩ | refine ⟨by show (0 : Int) < _; decide, ?_⟩)
  refine eB (fun e => ?a1) (fun e => ?a2)
  case' a1 =>
    rw [if_pos e] at q
    obtain ⟨x, hx⟩ : ∃ x, x = u := ⟨_, rfl⟩
    have hcx : Cop x v := hx ▸ hc
    rw [← hx] at q
  case' a2 =>
    rw [if_neg e] at q
    obtain ⟨x, hx⟩ : ∃ x, x = 2 * u := ⟨_, rfl⟩
    have hcx : Cop x v := hx ▸ (cop_two hv).mul hc
    rw [← hx] at q
  all_goals
    repeat (first | refine ⟨_, rfl, ?_⟩ | refine ⟨_, _, rfl, rfl, ?_⟩ | refine ⟨rfl, ?_⟩ | refine ⟨_, _, rfl, ?_⟩ | refine ⟨_, _, _, rfl, ?_⟩ | refine ⟨small_le (by simp), ?_⟩ | refine ⟨Or.inl ⟨by decide, by decide⟩, ?_⟩ | refine ⟨⟨by decide, by decide⟩, ?_⟩ | refine ⟨by show (0 : Int) < _; decide, ?_⟩)
    have eab : (if v < 0 then -v else v) = ((v.natAbs : Nat) : Int) := by split <;> omega
    refine ⟨v.natAbs, by rw [eab], by omega, by omega, fun H1 a ps s1 na ea hps hprod => ?_⟩
    have hodd : ∀ p ∈ ps, Pr p ∧ p ≠ 2 := fun p hp => ⟨hps p hp, fun z => by
      have := dvd_nprod hp
      rw [hprod, z] at this
      omega⟩
    have hcp : ∀ p ∈ ps, Cop x p := fun p hp => by
      have hd := dvd_nprod hp
      rw [hprod] at hd
      exact (cop_abs hcx).of_dvd (Int.dvd_refl x) (Int.natCast_dvd_natCast.mpr hd)
    rw [show ((v.natAbs : Nat) : Int) = ((nprod ps : Nat) : Int) by rw [hprod], ← J_nprod hodd hcp] at q
    refine ⟨a, rfl, ⟨_, sqL ea⟩, ?_⟩
    have hpm : ∀ l : List Nat, (∀ p ∈ l, p ∈ ps) → ((l.map fun (p : Nat) => J x p).prod = 1 ∨ (l.map fun (p : Nat) => J x p).prod = -1) := fun l hl => prod_pm fun y hy => by
      obtain ⟨p, hp, rfl⟩ := List.mem_map.mp hy
      exact J_pm (hcp p (hl p hp))
    refine for_list (xs := vn ps) (fun i σ H' => Same H1 H' ∧ ∃ z : Option V, σ = [some (.int u), some (.int v), some (.int x), some (.int ((ps.take i).map fun (p : Nat) => J x p).prod), z])
      ⟨Same.refl _, none, by rw [hx]; rfl⟩ (fun i σ H' _ p => sqL (p.1 _ _ ea)) (fun i y σ H' hy hp => ?_) (fun σ H' hp => ?_)
    · obtain ⟨p1, z, rfl⟩ := hp
      rw [List.getElem?_map] at hy
      obtain ⟨p, hpi, rfl⟩ := Option.map_eq_some_iff.mp hy
      have hpp := List.mem_of_getElem? hpi
      obtain ⟨hp, h2⟩ := hodd p hpp
      have hle : p ≤ v.natAbs := Nat.le_of_dvd (by omega) (hprod ▸ dvd_nprod hpp)
      have m1 : (((ps.take i).map fun (p : Nat) => J x p).prod).natAbs < 2 ^ 1 := by rcases hpm (ps.take i) (fun p hp => List.mem_of_mem_take hp) with e | e <;> rw [e] <;> decide
      have m2 : (J x p).natAbs < 2 ^ 1 := by rcases J_pm (hcp p hpp) with e | e <;> rw [e] <;> decide
      repeat (first | refine ⟨_, rfl, ?_⟩ | refine ⟨_, _, rfl, rfl, ?_⟩ | refine ⟨rfl, ?_⟩ | refine ⟨_, _, rfl, ?_⟩ | refine ⟨_, _, _, rfl, ?_⟩ | refine ⟨small_le (by simp), ?_⟩ | refine ⟨Or.inl ⟨by decide, by decide⟩, ?_⟩ | refine ⟨⟨by decide, by decide⟩, ?_⟩ | refine ⟨by show (0 : Int) < _; decide, ?_⟩)
      refine ⟨hp, h2, by omega, hcp p hpp, ?_⟩
      refine ⟨_, _, rfl, rfl, wide_mul m1 m2 (by decide) (by decide) (by decide), ?_⟩
      repeat (first | refine ⟨_, rfl, ?_⟩ | refine ⟨_, _, rfl, rfl, ?_⟩ | refine ⟨rfl, ?_⟩ | refine ⟨_, _, rfl, ?_⟩ | refine ⟨_, _, _, rfl, ?_⟩ | refine ⟨small_le (by simp), ?_⟩ | refine ⟨Or.inl ⟨by decide, by decide⟩, ?_⟩ | refine ⟨⟨by decide, by decide⟩, ?_⟩ | refine ⟨by show (0 : Int) < _; decide, ?_⟩)
      have hst : ((ps.take (i + 1)).map fun (p : Nat) => J x p).prod = ((ps.take i).map fun (p : Nat) => J x p).prod * J x p := by
        rw [List.take_add_one, hpi, List.map_append, List.prod_append]
        simp
      exact ⟨p1, some (.int p), by rw [hst]; rfl⟩
    · obtain ⟨p1, z, rfl⟩ := hp
      repeat (first | refine ⟨_, rfl, ?_⟩ | refine ⟨_, _, rfl, rfl, ?_⟩ | refine ⟨rfl, ?_⟩ | refine ⟨_, _, rfl, ?_⟩ | refine ⟨_, _, _, rfl, ?_⟩ | refine ⟨small_le (by simp), ?_⟩ | refine ⟨Or.inl ⟨by decide, by decide⟩, ?_⟩ | refine ⟨⟨by decide, by decide⟩, ?_⟩ | refine ⟨by show (0 : Int) < _; decide, ?_⟩)
      rw [List.length_map, List.take_length]
      exact q H' (s1.trans p1)
end
end Bh

/-! WI -/
set_option maxHeartbeats 4000000
namespace Bh
open PySem PySem.Spec PyProof.Rows L2 Bs
section
variable {P : Program} {w : World} {K : PySem.W.Frag} {mg : Str → Option Value} {base : Heap}
/-! ### the law's own sign -/
/-- the fours that exchanges reach -/
inductive Exd (ns : List Int) : List Int → Prop where
  | nil : Exd ns ns
  | step {cur : List Int} {i : Nat} (h : Exd ns cur) (hi : i < 4) : Exd ns (exch cur i)
theorem sc_law_own_sign : FnScope ["_law_bends_here", "_law_turn", "_law_one", "_law_other"] ["_law_bends_here"] (defScope (top 109)) := ⟨rfl, rfl, rfl, by decide +kernel, rfl, by decide +kernel, by decide +kernel⟩
def spOwnSign : Sp := fun vs H Q _ => ∃ (F : Addr) (ns : List Int), vs = [.ref F] ∧ H F = some (.lst (vi ns)) ∧ ns.length = 4 ∧
  ∀ H', Same H H' → (Q .non H' ∧ ∀ (cur : List Int) (i j : Nat), Exd ns cur → cur.length = 4 → i < 4 → j < 4 → i ≠ j → cur.getD j 0 % 2 = 1 → Cop (cur.getD i 0) (cur.getD j 0) → Q (.int (chi (cur.getD i 0) (cur.getD j 0))) H')
theorem ok_law_own_sign (T : Tx K mg) : Fx P w K mg base CX0 3 "_law_own_sign" spOwnSign := by
  refine Fx.of T.g_law_own_sign T.f_law_own_sign (fnr0 (N := ["_law_bends_here", "_law_turn", "_law_one", "_law_other"]) (ps := ["_law_bends_here"]) T.f_law_own_sign sc_law_own_sign (fun _ _ _ _ _ _ us hl => match us, hl with | [_], _ => rfl) (by intro vs H Q E h; repeat (first | (obtain ⟨e, _⟩ := h; subst e; rfl) | (obtain ⟨_, h⟩ := h))) fun cdv A outer s H vs Q E hr h => ?_)
  obtain ⟨F, ns, rfl, hF, h4, q⟩ := h
  refine ⟨_, (pss_cons (ps_for PassesOwn.never rfl (pi_range1 (by rfl) T.m_range (pa_cons pe_int pa_nil)) (pg_name (i := 1) sc_law_own_sign.nd rfl (Or.inl rfl)) (pss_cons (ps_for PassesOwn.never rfl (pi_range1 (by rfl) T.m_range (pa_cons pe_int pa_nil)) (pg_name (i := 2) sc_law_own_sign.nd rfl (Or.inl rfl)) (pss_one (ps_for PassesOwn.never rfl (pi_range1 (by rfl) T.m_range (pa_cons pe_int pa_nil)) (pg_name (i := 3) sc_law_own_sign.nd rfl (Or.inl rfl)) (pss_one (ps_if (PW.pt (pw_and (pt_cmpR op_ne (pv 2) (pv 3) (nomark _)) (pw_and (pt_cmpR op_eq (pe_op op_modP (pe_callTy call_intI (by rfl) T.m_int (by decide +kernel) (pa_cons (pe_ix ix_list (pv 0) (pv 3) (fun _ _ => rfl)) pa_nil)) pe_int) pe_int (nomark _)) (pw_and (pt_cmpR op_lt (pe_callB call_abs (by rfl) T.m_abs (by decide +kernel) (pa_cons (pe_ix ix_list (pv 0) (pv 3) (fun _ _ => rfl)) pa_nil)) (pe_op op_pow pe_int pe_int) (nomark _)) (pw_and1 (pt_cmpR op_eq (pc (ok_law_shared T) (hr.mono (by decide)) (by first | exact pass0 | exact passL) (pa_cons (pe_ix ix_list (pv 0) (pv 2) (fun _ _ => rfl)) (pa_cons (pe_ix ix_list (pv 0) (pv 3) (fun _ _ => rfl)) pa_nil))) pe_int (nomark _))))))) (pss_one (ps_ret (pc (ok_law_pair_sign T) (hr.mono (by decide)) (by first | exact pass0 | exact passL) (pa_cons (pe_ix ix_list (pv 0) (pv 2) (fun _ _ => rfl)) (pa_cons (pe_ix ix_list (pv 0) (pv 3) (fun _ _ => rfl)) pa_nil))))) pss_nil)))))
      (pss_one (ps_set (i := 0) sc_law_own_sign.nd rfl (Or.inl rfl) (pc (ok_law_exchanged T) (hr.mono (by decide)) (by first | exact pass0 | exact passL) (pa_cons (pv 0) (pa_cons (pe_op op_add pe_int (pe_op op_modP (pe_callTy call_intI (by rfl) T.m_int (by decide +kernel) (pa_cons (pv 1) pa_nil)) pe_int)) pa_nil)))))))
      (pss_one (ps_ret pe_non))), ?_⟩
  repeat (first | refine ⟨_, rfl, ?_⟩ | refine ⟨_, _, rfl, rfl, ?_⟩ | refine ⟨rfl, ?_⟩ | refine ⟨_, _, rfl, ?_⟩ | refine ⟨_, _, _, rfl, ?_⟩ | refine ⟨small_le (by simp), ?_⟩ | refine ⟨Or.inl ⟨by decide, by decide⟩, ?_⟩ | refine ⟨⟨by decide, by decide⟩, ?_⟩ | refine ⟨by show (0 : Int) < _; decide, ?_⟩)
  refine ⟨by decide, by decide, ?_⟩
  refine for_range (lo := 0) (n := 60) (fun i σ H' => Same H H' ∧ ∃ (F' : Addr) (cur : List Int) (y z u : Option V), H' F' = some (.lst (vi cur)) ∧ cur.length = 4 ∧ Exd ns cur ∧ σ = [some (.ref F'), y, z, u])
    ⟨Same.refl _, F, ns, none, none, none, hF, h4, .nil, rfl⟩ (fun i σ H' hi hp => ?_) (fun σ H' hp => ?_)
  · obtain ⟨s1, F', cur, y, z, u, eF, c4, hx, rfl⟩ := hp
    repeat (first | refine ⟨_, rfl, ?_⟩ | refine ⟨_, _, rfl, rfl, ?_⟩ | refine ⟨rfl, ?_⟩ | refine ⟨_, _, rfl, ?_⟩ | refine ⟨_, _, _, rfl, ?_⟩ | refine ⟨small_le (by simp), ?_⟩ | refine ⟨Or.inl ⟨by decide, by decide⟩, ?_⟩ | refine ⟨⟨by decide, by decide⟩, ?_⟩ | refine ⟨by show (0 : Int) < _; decide, ?_⟩)
    refine ⟨by decide, by decide, ?_⟩
    refine for_range (lo := 0) (n := 4) (fun a σ H2 => H2 = H' ∧ ∃ (z u : Option V), σ = [some (.ref F'), some (.int (0 + (i : Int))), z, u]) ⟨rfl, _, _, rfl⟩ (fun a σ H2 ha hp => ?_) (fun σ H2 hp => ?_)
    · obtain ⟨rfl, z, u, rfl⟩ := hp
      repeat (first | refine ⟨_, rfl, ?_⟩ | refine ⟨_, _, rfl, rfl, ?_⟩ | refine ⟨rfl, ?_⟩ | refine ⟨_, _, rfl, ?_⟩ | refine ⟨_, _, _, rfl, ?_⟩ | refine ⟨small_le (by simp), ?_⟩ | refine ⟨Or.inl ⟨by decide, by decide⟩, ?_⟩ | refine ⟨⟨by decide, by decide⟩, ?_⟩ | refine ⟨by show (0 : Int) < _; decide, ?_⟩)
      refine ⟨by decide, by decide, ?_⟩
      refine for_range (lo := 0) (n := 4) (fun o σ H3 => H3 = H2 ∧ ∃ (u : Option V), σ = [some (.ref F'), some (.int (0 + (i : Int))), some (.int (0 + (a : Int))), u]) ⟨rfl, _, rfl⟩ (fun o σ H3 ho hp => ?_) (fun σ H3 hp => ?_)
      · obtain ⟨rfl, u, rfl⟩ := hp
        repeat (first | refine ⟨_, rfl, ?_⟩ | refine ⟨_, _, rfl, rfl, ?_⟩ | refine ⟨rfl, ?_⟩ | refine ⟨_, _, rfl, ?_⟩ | refine ⟨_, _, _, rfl, ?_⟩ | refine ⟨small_le (by simp), ?_⟩ | refine ⟨Or.inl ⟨by decide, by decide⟩, ?_⟩ | refine ⟨⟨by decide, by decide⟩, ?_⟩ | refine ⟨by show (0 : Int) < _; decide, ?_⟩)
        refine neB (fun e1 => ?_) (fun e1 => ?_)
        · repeat (first | refine ⟨_, rfl, ?_⟩ | refine ⟨_, _, rfl, rfl, ?_⟩ | refine ⟨rfl, ?_⟩ | refine ⟨_, _, rfl, ?_⟩ | refine ⟨_, _, _, rfl, ?_⟩ | refine ⟨small_le (by simp), ?_⟩ | refine ⟨Or.inl ⟨by decide, by decide⟩, ?_⟩ | refine ⟨⟨by decide, by decide⟩, ?_⟩ | refine ⟨by show (0 : Int) < _; decide, ?_⟩)
          refine ⟨F', _, o, _, rfl, by simp, sqL eF, atI_vi (by omega), ?_⟩
          repeat (first | refine ⟨_, rfl, ?_⟩ | refine ⟨_, _, rfl, rfl, ?_⟩ | refine ⟨rfl, ?_⟩ | refine ⟨_, _, rfl, ?_⟩ | refine ⟨_, _, _, rfl, ?_⟩ | refine ⟨small_le (by simp), ?_⟩ | refine ⟨Or.inl ⟨by decide, by decide⟩, ?_⟩ | refine ⟨⟨by decide, by decide⟩, ?_⟩ | refine ⟨by show (0 : Int) < _; decide, ?_⟩)
          refine eB (fun e2 => ?_) (fun e2 => ?_)
          · repeat (first | refine ⟨_, rfl, ?_⟩ | refine ⟨_, _, rfl, rfl, ?_⟩ | refine ⟨rfl, ?_⟩ | refine ⟨_, _, rfl, ?_⟩ | refine ⟨_, _, _, rfl, ?_⟩ | refine ⟨small_le (by simp), ?_⟩ | refine ⟨Or.inl ⟨by decide, by decide⟩, ?_⟩ | refine ⟨⟨by decide, by decide⟩, ?_⟩ | refine ⟨by show (0 : Int) < _; decide, ?_⟩)
            refine ⟨F', _, o, _, rfl, by simp, sqL eF, atI_vi (by omega), ?_⟩
            repeat (first | refine ⟨_, rfl, ?_⟩ | refine ⟨_, _, rfl, rfl, ?_⟩ | refine ⟨rfl, ?_⟩ | refine ⟨_, _, rfl, ?_⟩ | refine ⟨_, _, _, rfl, ?_⟩ | refine ⟨small_le (by simp), ?_⟩ | refine ⟨Or.inl ⟨by decide, by decide⟩, ?_⟩ | refine ⟨⟨by decide, by decide⟩, ?_⟩ | refine ⟨by show (0 : Int) < _; decide, ?_⟩)
            refine dB (fun e3 => ?_) (fun e3 => ?_)
            · repeat (first | refine ⟨_, rfl, ?_⟩ | refine ⟨_, _, rfl, rfl, ?_⟩ | refine ⟨rfl, ?_⟩ | refine ⟨_, _, rfl, ?_⟩ | refine ⟨_, _, _, rfl, ?_⟩ | refine ⟨small_le (by simp), ?_⟩ | refine ⟨Or.inl ⟨by decide, by decide⟩, ?_⟩ | refine ⟨⟨by decide, by decide⟩, ?_⟩ | refine ⟨by show (0 : Int) < _; decide, ?_⟩)
              refine ⟨F', _, a, _, rfl, by simp, sqL eF, atI_vi (by omega), ?_⟩
              repeat (first | refine ⟨_, rfl, ?_⟩ | refine ⟨_, _, rfl, rfl, ?_⟩ | refine ⟨rfl, ?_⟩ | refine ⟨_, _, rfl, ?_⟩ | refine ⟨_, _, _, rfl, ?_⟩ | refine ⟨small_le (by simp), ?_⟩ | refine ⟨Or.inl ⟨by decide, by decide⟩, ?_⟩ | refine ⟨⟨by decide, by decide⟩, ?_⟩ | refine ⟨by show (0 : Int) < _; decide, ?_⟩)
              refine ⟨F', _, o, _, rfl, by simp, sqL eF, atI_vi (by omega), ?_⟩
              repeat (first | refine ⟨_, rfl, ?_⟩ | refine ⟨_, _, rfl, rfl, ?_⟩ | refine ⟨rfl, ?_⟩ | refine ⟨_, _, rfl, ?_⟩ | refine ⟨_, _, _, rfl, ?_⟩ | refine ⟨small_le (by simp), ?_⟩ | refine ⟨Or.inl ⟨by decide, by decide⟩, ?_⟩ | refine ⟨⟨by decide, by decide⟩, ?_⟩ | refine ⟨by show (0 : Int) < _; decide, ?_⟩)
              refine eB (fun e4 => ?_) (fun e4 => ?_)
              · repeat (first | refine ⟨_, rfl, ?_⟩ | refine ⟨_, _, rfl, rfl, ?_⟩ | refine ⟨rfl, ?_⟩ | refine ⟨_, _, rfl, ?_⟩ | refine ⟨_, _, _, rfl, ?_⟩ | refine ⟨small_le (by simp), ?_⟩ | refine ⟨Or.inl ⟨by decide, by decide⟩, ?_⟩ | refine ⟨⟨by decide, by decide⟩, ?_⟩ | refine ⟨by show (0 : Int) < _; decide, ?_⟩)
                refine ⟨F', _, a, _, rfl, by simp, sqL eF, atI_vi (by omega), ?_⟩
                repeat (first | refine ⟨_, rfl, ?_⟩ | refine ⟨_, _, rfl, rfl, ?_⟩ | refine ⟨rfl, ?_⟩ | refine ⟨_, _, rfl, ?_⟩ | refine ⟨_, _, _, rfl, ?_⟩ | refine ⟨small_le (by simp), ?_⟩ | refine ⟨Or.inl ⟨by decide, by decide⟩, ?_⟩ | refine ⟨⟨by decide, by decide⟩, ?_⟩ | refine ⟨by show (0 : Int) < _; decide, ?_⟩)
                refine ⟨F', _, o, _, rfl, by simp, sqL eF, atI_vi (by omega), ?_⟩
                repeat (first | refine ⟨_, rfl, ?_⟩ | refine ⟨_, _, rfl, rfl, ?_⟩ | refine ⟨rfl, ?_⟩ | refine ⟨_, _, rfl, ?_⟩ | refine ⟨_, _, _, rfl, ?_⟩ | refine ⟨small_le (by simp), ?_⟩ | refine ⟨Or.inl ⟨by decide, by decide⟩, ?_⟩ | refine ⟨⟨by decide, by decide⟩, ?_⟩ | refine ⟨by show (0 : Int) < _; decide, ?_⟩)
                have ep : ((10 : Int) ^ Int.toNat 6) = 1000000 := by decide
                rw [ep] at e3
                refine ⟨e2, by split at e3 <;> omega, ?_, fun H4 s4 => ?_⟩
                · show Int.gcd _ _ = 1
                  omega
                · exact (q H4 (s1.trans s4)).2 cur a o hx c4 ha ho (by omega) e2 (by show Int.gcd _ _ = 1; omega)
              · exact ⟨rfl, _, rfl⟩
            · exact ⟨rfl, _, rfl⟩
          · exact ⟨rfl, _, rfl⟩
        · exact ⟨rfl, _, rfl⟩
      · obtain ⟨rfl, u, rfl⟩ := hp
        exact ⟨rfl, _, _, rfl⟩
    · obtain ⟨rfl, z, u, rfl⟩ := hp
      repeat (first | refine ⟨_, rfl, ?_⟩ | refine ⟨_, _, rfl, rfl, ?_⟩ | refine ⟨rfl, ?_⟩ | refine ⟨_, _, rfl, ?_⟩ | refine ⟨_, _, _, rfl, ?_⟩ | refine ⟨small_le (by simp), ?_⟩ | refine ⟨Or.inl ⟨by decide, by decide⟩, ?_⟩ | refine ⟨⟨by decide, by decide⟩, ?_⟩ | refine ⟨by show (0 : Int) < _; decide, ?_⟩)
      refine ⟨F', cur, 2 + i % 2, by rw [show ((2 + i % 2 : Nat) : Int) = 2 + (0 + (i : Int)) % 2 by omega], eF, by omega, c4, fun H3 F3 s3 nF3 e3 => ?_⟩
      exact ⟨s1.trans s3, F3, _, _, _, _, e3, by rw [exch_len (by omega)]; exact c4, hx.step (by omega), rfl⟩
  · obtain ⟨s1, F', cur, y, z, u, eF, c4, hx, rfl⟩ := hp
    repeat (first | refine ⟨_, rfl, ?_⟩ | refine ⟨_, _, rfl, rfl, ?_⟩ | refine ⟨rfl, ?_⟩ | refine ⟨_, _, rfl, ?_⟩ | refine ⟨_, _, _, rfl, ?_⟩ | refine ⟨small_le (by simp), ?_⟩ | refine ⟨Or.inl ⟨by decide, by decide⟩, ?_⟩ | refine ⟨⟨by decide, by decide⟩, ?_⟩ | refine ⟨by show (0 : Int) < _; decide, ?_⟩)
    exact (q H' s1).1
end
end Bh

/-! WJ -/
set_option maxHeartbeats 4000000
namespace Bh
open PySem PySem.Spec PyProof.Rows L2 Bs
section
variable {P : Program} {w : World} {K : PySem.W.Frag} {mg : Str → Option Value} {base : Heap}
/-! ### the law's sign by the rim -/
theorem dgv (a b : Int) (r : Int) (h0 : 0 ≤ r) (h : r < 4) : valV (mergeK [] [(Sum.inl 0, V.int 1), (Sum.inl 1, V.int a), (Sum.inl 2, V.int b), (Sum.inl 3, V.int 1)]) (Sum.inl r) = some (.int (if r = 1 then a else if r = 2 then b else 1)) := by
  rcases (by omega : r = 0 ∨ r = 1 ∨ r = 2 ∨ r = 3) with rfl | rfl | rfl | rfl <;> rfl
theorem sc_law_by_rim : FnScope ["_law_form_here", "_law_rim", "_law_found", "_law_prime"] ["_law_form_here", "_law_rim"] (defScope (top 110)) := ⟨rfl, rfl, rfl, by decide +kernel, rfl, by decide +kernel, by decide +kernel⟩
def spByRim (K : PySem.W.Frag) : Sp := fun vs H Q _ => ∃ (t : Addr) (A B C : Int) (n : Nat), vs = [.ref t, .int n] ∧ SqT K H t (vi [A, B, C]) ∧ (∀ H', Same H H' → SqT K H' t (vi [A, B, C])) ∧ 1 ≤ n ∧ n ≤ 1000000 ∧ (∀ p : Nat, Pr p → p ∣ n → Cop (bes A C p) p) ∧
  ∀ H' ps, Same H H' → (∀ p ∈ ps, Pr p) → nprod ps = n → Q (.int (alone n * (ps.map fun (p : Nat) => loc A C n p).prod)) H'
theorem ok_law_by_rim (T : Tx K mg) : Fx P w K mg base CX0 2 "_law_by_rim" (spByRim K) := by
  refine Fx.of T.g_law_by_rim T.f_law_by_rim (fnr0 (N := ["_law_form_here", "_law_rim", "_law_found", "_law_prime"]) (ps := ["_law_form_here", "_law_rim"]) T.f_law_by_rim sc_law_by_rim (fun _ _ _ _ _ _ us hl => match us, hl with | [_, _], _ => rfl) (by intro vs H Q E h; repeat (first | (obtain ⟨e, _⟩ := h; subst e; rfl) | (obtain ⟨_, h⟩ := h))) fun cdv A outer s H vs Q E hr h => ?_)
  obtain ⟨t, A, B, C, n, rfl, ht0, ht, hn1, hn2, hc, q⟩ := h
  refine ⟨_, (pss_cons (ps_set (i := 2) sc_law_by_rim.nd rfl (Or.inl rfl) (pe_dget (hu_of hr) (pe_disp (pps_cons pe_int pe_int (pps_cons pe_int (pe_ifExp (pt_cmpR op_eq (pe_op op_modP (pe_callTy call_intI (by rfl) T.m_int (by decide +kernel) (pa_cons (pv 1) pa_nil)) pe_int) pe_int (nomark _)) pe_int (pe_un un_neg pe_int)) (pps_cons pe_int (pe_ifExp (pt_cmpR op_eq (pe_op op_modP (pe_callTy call_intI (by rfl) T.m_int (by decide +kernel) (pa_cons (pv 1) pa_nil)) pe_int) pe_int (nomark _)) (pe_un un_neg pe_int) pe_int) (pps_cons pe_int pe_int pps_nil)))) (by rfl) (by rfl) (fun z => by cases z) (by decide)) (pe_op op_modP (pe_callTy call_intI (by rfl) T.m_int (by decide +kernel) (pa_cons (pv 1) pa_nil)) pe_int) (fun _ _ => rfl)))
      (pss_cons (ps_for PassesOwn.never rfl (pi_list (pc (ok_law_primes T) (hr.mono (by decide)) (by first | exact pass0 | exact passL) (pa_cons (pv 1) pa_nil))) (pg_name (i := 3) sc_law_by_rim.nd rfl (Or.inl rfl)) (pss_one (ps_if (pt_cmpR op_gt (pv 3) pe_int (nomark _)) (pss_one (ps_set (i := 2) sc_law_by_rim.nd rfl (Or.inl rfl) (pe_op op_mulW (pv 2) (pc (ok_law_symbol T) (hr.mono (by decide)) (by first | exact pass0 | exact passL) (pa_cons (pe_ifExp (pt_cmpR op_ne (pe_op op_modP (pe_callTy call_intI (by rfl) T.m_int (by decide +kernel) (pa_cons (pe_ix ix_tup (pv 0) pe_int (fun _ _ => rfl)) pa_nil)) (pv 3)) pe_int (nomark _)) (pe_ix ix_tup (pv 0) pe_int (fun _ _ => rfl)) (pe_ix ix_tup (pv 0) pe_int (fun _ _ => rfl))) (pa_cons (pv 3) pa_nil)))))) (pss_one (ps_if (pt_cmpR op_eq (pe_op op_modP (pe_callTy call_intI (by rfl) T.m_int (by decide +kernel) (pa_cons (pv 1) pa_nil)) pe_int) pe_int (nomark _)) (pss_one (ps_set (i := 2) sc_law_by_rim.nd rfl (Or.inl rfl) (pe_op op_mulW (pv 2) (pe_ifExp (pt_cmpR op_eq (pe_op op_modP (pe_callTy call_intI (by rfl) T.m_int (by decide +kernel) (pa_cons (pe_ifExp (pt_cmpR op_eq (pe_op op_modP (pe_callTy call_intI (by rfl) T.m_int (by decide +kernel) (pa_cons (pe_ix ix_tup (pv 0) pe_int (fun _ _ => rfl)) pa_nil)) pe_int) pe_int (nomark _)) (pe_ix ix_tup (pv 0) pe_int (fun _ _ => rfl)) (pe_ix ix_tup (pv 0) pe_int (fun _ _ => rfl))) pa_nil)) pe_int) pe_int (nomark _)) pe_int (pe_un un_neg pe_int))))) pss_nil)))))
      (pss_one (ps_ret (pv 2))))), ?_⟩
  repeat (first | refine ⟨_, rfl, ?_⟩ | refine ⟨_, _, rfl, rfl, ?_⟩ | refine ⟨rfl, ?_⟩ | refine ⟨_, _, rfl, ?_⟩ | refine ⟨_, _, _, rfl, ?_⟩ | refine ⟨small_le (by simp), ?_⟩ | refine ⟨Or.inl ⟨by decide, by decide⟩, ?_⟩ | refine ⟨⟨by decide, by decide⟩, ?_⟩ | refine ⟨by show (0 : Int) < _; decide, ?_⟩)
  (intro D nD; generalize hqZ : upd _ D _ = H1; have s1 := new_same hqZ nD; have e1 := new_at hqZ; clear hqZ)
  repeat (first | refine ⟨_, rfl, ?_⟩ | refine ⟨_, _, rfl, rfl, ?_⟩ | refine ⟨rfl, ?_⟩ | refine ⟨_, _, rfl, ?_⟩ | refine ⟨_, _, _, rfl, ?_⟩ | refine ⟨small_le (by simp), ?_⟩ | refine ⟨Or.inl ⟨by decide, by decide⟩, ?_⟩ | refine ⟨⟨by decide, by decide⟩, ?_⟩ | refine ⟨by show (0 : Int) < _; decide, ?_⟩)
  refine eB (fun e8a => ?a1) (fun e8a => ?a2)
  case' a1 =>
    repeat (first | refine ⟨_, rfl, ?_⟩ | refine ⟨_, _, rfl, rfl, ?_⟩ | refine ⟨rfl, ?_⟩ | refine ⟨_, _, rfl, ?_⟩ | refine ⟨_, _, _, rfl, ?_⟩ | refine ⟨small_le (by simp), ?_⟩ | refine ⟨Or.inl ⟨by decide, by decide⟩, ?_⟩ | refine ⟨⟨by decide, by decide⟩, ?_⟩ | refine ⟨by show (0 : Int) < _; decide, ?_⟩)
    refine eB (fun e8b => ?b1) (fun e8b => ?b2)
  case' a2 =>
    repeat (first | refine ⟨_, rfl, ?_⟩ | refine ⟨_, _, rfl, rfl, ?_⟩ | refine ⟨rfl, ?_⟩ | refine ⟨_, _, rfl, ?_⟩ | refine ⟨_, _, _, rfl, ?_⟩ | refine ⟨small_le (by simp), ?_⟩ | refine ⟨Or.inl ⟨by decide, by decide⟩, ?_⟩ | refine ⟨⟨by decide, by decide⟩, ?_⟩ | refine ⟨by show (0 : Int) < _; decide, ?_⟩)
    refine eB (fun e8b => ?b3) (fun e8b => ?b4)
  case' b1 => obtain ⟨a, b, ha, hb⟩ : ∃ a b : Int, a = 1 ∧ b = -1 := ⟨_, _, rfl, rfl⟩
  case' b2 => obtain ⟨a, b, ha, hb⟩ : ∃ a b : Int, a = 1 ∧ b = 1 := ⟨_, _, rfl, rfl⟩
  case' b3 => obtain ⟨a, b, ha, hb⟩ : ∃ a b : Int, a = -1 ∧ b = -1 := ⟨_, _, rfl, rfl⟩
  case' b4 => obtain ⟨a, b, ha, hb⟩ : ∃ a b : Int, a = -1 ∧ b = 1 := ⟨_, _, rfl, rfl⟩
  all_goals
    repeat (first | refine ⟨_, rfl, ?_⟩ | refine ⟨_, _, rfl, rfl, ?_⟩ | refine ⟨rfl, ?_⟩ | refine ⟨_, _, rfl, ?_⟩ | refine ⟨_, _, _, rfl, ?_⟩ | refine ⟨small_le (by simp), ?_⟩ | refine ⟨Or.inl ⟨by decide, by decide⟩, ?_⟩ | refine ⟨⟨by decide, by decide⟩, ?_⟩ | refine ⟨by show (0 : Int) < _; decide, ?_⟩)
    refine ⟨e1, [(Sum.inl 0, V.int 1), (Sum.inl 1, V.int a), (Sum.inl 2, V.int b), (Sum.inl 3, V.int 1)], by subst ha hb; rfl, Nat.le_of_ble_eq_true rfl, ?_⟩
    have s2 : Same H (upd H1 D (.dK (mergeK [] [(Sum.inl 0, V.int 1), (Sum.inl 1, V.int a), (Sum.inl 2, V.int b), (Sum.inl 3, V.int 1)]))) := same_mut s1 nD
    have e2 : (upd H1 D (.dK (mergeK [] [(Sum.inl 0, V.int 1), (Sum.inl 1, V.int a), (Sum.inl 2, V.int b), (Sum.inl 3, V.int 1)]))) D = _ := upd_same
    generalize upd H1 D (.dK (mergeK [] [(Sum.inl 0, V.int 1), (Sum.inl 1, V.int a), (Sum.inl 2, V.int b), (Sum.inl 3, V.int 1)])) = H2 at s2 e2 ⊢
    have hal : (if (n : Int) % 4 = 1 then a else if (n : Int) % 4 = 2 then b else 1) = alone n := by
      subst ha hb
      unfold alone
      (repeat' split) <;> omega
    have hv := dgv a b ((n : Int) % 4) (by omega) (by omega)
    rw [hal] at hv
    have hg : DGet H2 D (.int ((n : Int) % 4)) (some (.int (alone n))) := by
      have := DGet.k (k := Sum.inl ((n : Int) % 4)) e2
      rw [hv] at this
      exact this
    repeat (first | refine ⟨_, rfl, ?_⟩ | refine ⟨_, _, rfl, rfl, ?_⟩ | refine ⟨rfl, ?_⟩ | refine ⟨_, _, rfl, ?_⟩ | refine ⟨_, _, _, rfl, ?_⟩ | refine ⟨small_le (by simp), ?_⟩ | refine ⟨Or.inl ⟨by decide, by decide⟩, ?_⟩ | refine ⟨⟨by decide, by decide⟩, ?_⟩ | refine ⟨by show (0 : Int) < _; decide, ?_⟩)
    refine ⟨D, _, rfl, hg, ?_⟩
    repeat (first | refine ⟨_, rfl, ?_⟩ | refine ⟨_, _, rfl, rfl, ?_⟩ | refine ⟨rfl, ?_⟩ | refine ⟨_, _, rfl, ?_⟩ | refine ⟨_, _, _, rfl, ?_⟩ | refine ⟨small_le (by simp), ?_⟩ | refine ⟨Or.inl ⟨by decide, by decide⟩, ?_⟩ | refine ⟨⟨by decide, by decide⟩, ?_⟩ | refine ⟨by show (0 : Int) < _; decide, ?_⟩)
    refine ⟨hn1, hn2, fun H3 a2 ps s3 na2 ea2 hps hprod => ⟨a2, rfl, ⟨_, sqL ea2⟩, ?_⟩⟩
    have hpd : ∀ p ∈ ps, Pr p ∧ p ∣ n := fun p hp => ⟨hps p hp, hprod ▸ dvd_nprod hp⟩
    have hloc : ∀ p ∈ ps, loc A C n p = 1 ∨ loc A C n p = -1 := fun p hp => loc_pm (hpd p hp).1 (hc p (hpd p hp).1 (hpd p hp).2)
    refine for_list (xs := vn ps) (fun i σ H' => Same H3 H' ∧ ∃ z : Option V, σ = [some (.ref t), some (.int n), some (.int (alone n * ((ps.take i).map fun (p : Nat) => loc A C n p).prod)), z])
      ⟨Same.refl _, none, by rw [List.take_zero]; show _ = [some (V.ref t), some (V.int n), some (V.int (alone n * 1)), none]; rw [Int.mul_one]; rfl⟩ (fun i σ H' _ p => sqL (p.1 _ _ ea2)) (fun i y σ H' hy hp => ?_) (fun σ H' hp => ?_)
    · obtain ⟨p1, z, rfl⟩ := hp
      rw [List.getElem?_map] at hy
      obtain ⟨p, hpi, rfl⟩ := Option.map_eq_some_iff.mp hy
      have hpp := List.mem_of_getElem? hpi
      obtain ⟨hp, hd⟩ := hpd p hpp
      have p2 := hp.two
      have hle : p ≤ n := Nat.le_of_dvd (by omega) hd
      have htH := ht H' (s2.trans (s3.trans p1))
      have m1 : (alone n * ((ps.take i).map fun (p : Nat) => loc A C n p).prod).natAbs < 2 ^ 1 := by
        have h1 := alone_pm n
        have h2 : ((ps.take i).map fun (p : Nat) => loc A C n p).prod = 1 ∨ ((ps.take i).map fun (p : Nat) => loc A C n p).prod = -1 := prod_pm fun y hy => by
          obtain ⟨q, hq, rfl⟩ := List.mem_map.mp hy
          exact hloc q (List.mem_of_mem_take hq)
        rcases h1 with e | e <;> rcases h2 with e' | e' <;> rw [e, e'] <;> decide
      have m2 : (loc A C n p).natAbs < 2 ^ 1 := by rcases hloc p hpp with e | e <;> rw [e] <;> decide
      have hst : alone n * ((ps.take (i + 1)).map fun (p : Nat) => loc A C n p).prod = alone n * ((ps.take i).map fun (p : Nat) => loc A C n p).prod * loc A C n p := by
        rw [List.take_add_one, hpi, List.map_append, List.prod_append, Int.mul_assoc]
        simp
      repeat (first | refine ⟨_, rfl, ?_⟩ | refine ⟨_, _, rfl, rfl, ?_⟩ | refine ⟨rfl, ?_⟩ | refine ⟨_, _, rfl, ?_⟩ | refine ⟨_, _, _, rfl, ?_⟩ | refine ⟨small_le (by simp), ?_⟩ | refine ⟨Or.inl ⟨by decide, by decide⟩, ?_⟩ | refine ⟨⟨by decide, by decide⟩, ?_⟩ | refine ⟨by show (0 : Int) < _; decide, ?_⟩)
      have hbes : bes A C p = if A % (p : Int) ≠ 0 then A else C := rfl
      refine dB (fun e5 => ?_) (fun e5 => ?_)
      · have h2 : p ≠ 2 := by omega
        have hl : loc A C n p = J (bes A C p) p := by unfold loc; rw [if_neg (by omega)]
        have hcp := hc p hp hd
        repeat (first | refine ⟨_, rfl, ?_⟩ | refine ⟨_, _, rfl, rfl, ?_⟩ | refine ⟨rfl, ?_⟩ | refine ⟨_, _, rfl, ?_⟩ | refine ⟨_, _, _, rfl, ?_⟩ | refine ⟨small_le (by simp), ?_⟩ | refine ⟨Or.inl ⟨by decide, by decide⟩, ?_⟩ | refine ⟨⟨by decide, by decide⟩, ?_⟩ | refine ⟨by show (0 : Int) < _; decide, ?_⟩)
        refine ⟨t, _, 0, _, rfl, rfl, htH, atI_nat (j := 0) rfl, ?_⟩
        repeat (first | refine ⟨_, rfl, ?_⟩ | refine ⟨_, _, rfl, rfl, ?_⟩ | refine ⟨rfl, ?_⟩ | refine ⟨_, _, rfl, ?_⟩ | refine ⟨_, _, _, rfl, ?_⟩ | refine ⟨small_le (by simp), ?_⟩ | refine ⟨Or.inl ⟨by decide, by decide⟩, ?_⟩ | refine ⟨⟨by decide, by decide⟩, ?_⟩ | refine ⟨by show (0 : Int) < _; decide, ?_⟩)
        refine ⟨by show (0:Int) < p; omega, ?_⟩
        repeat (first | refine ⟨_, rfl, ?_⟩ | refine ⟨_, _, rfl, rfl, ?_⟩ | refine ⟨rfl, ?_⟩ | refine ⟨_, _, rfl, ?_⟩ | refine ⟨_, _, _, rfl, ?_⟩ | refine ⟨small_le (by simp), ?_⟩ | refine ⟨Or.inl ⟨by decide, by decide⟩, ?_⟩ | refine ⟨⟨by decide, by decide⟩, ?_⟩ | refine ⟨by show (0 : Int) < _; decide, ?_⟩)
        refine neB (fun e6 => ?_) (fun e6 => ?_)
        · have hb : bes A C p = A := by rw [hbes, if_pos e6]
          rw [hb] at hl hcp
          rw [hl] at m2 hst
          repeat (first | refine ⟨_, rfl, ?_⟩ | refine ⟨_, _, rfl, rfl, ?_⟩ | refine ⟨rfl, ?_⟩ | refine ⟨_, _, rfl, ?_⟩ | refine ⟨_, _, _, rfl, ?_⟩ | refine ⟨small_le (by simp), ?_⟩ | refine ⟨Or.inl ⟨by decide, by decide⟩, ?_⟩ | refine ⟨⟨by decide, by decide⟩, ?_⟩ | refine ⟨by show (0 : Int) < _; decide, ?_⟩)
          refine ⟨t, _, 0, _, rfl, rfl, htH, atI_nat (j := 0) rfl, ?_⟩
          repeat (first | refine ⟨_, rfl, ?_⟩ | refine ⟨_, _, rfl, rfl, ?_⟩ | refine ⟨rfl, ?_⟩ | refine ⟨_, _, rfl, ?_⟩ | refine ⟨_, _, _, rfl, ?_⟩ | refine ⟨small_le (by simp), ?_⟩ | refine ⟨Or.inl ⟨by decide, by decide⟩, ?_⟩ | refine ⟨⟨by decide, by decide⟩, ?_⟩ | refine ⟨by show (0 : Int) < _; decide, ?_⟩)
          refine ⟨hp, h2, Nat.lt_of_le_of_lt (Nat.le_trans hle hn2) (by decide), hcp, ?_⟩
          refine ⟨_, _, rfl, rfl, wide_mul m1 m2 (by decide) (by decide) (by decide), ?_⟩
          repeat (first | refine ⟨_, rfl, ?_⟩ | refine ⟨_, _, rfl, rfl, ?_⟩ | refine ⟨rfl, ?_⟩ | refine ⟨_, _, rfl, ?_⟩ | refine ⟨_, _, _, rfl, ?_⟩ | refine ⟨small_le (by simp), ?_⟩ | refine ⟨Or.inl ⟨by decide, by decide⟩, ?_⟩ | refine ⟨⟨by decide, by decide⟩, ?_⟩ | refine ⟨by show (0 : Int) < _; decide, ?_⟩)
          exact ⟨p1, some (.int p), by rw [hst]; rfl⟩
        · have hb : bes A C p = C := by rw [hbes, if_neg (fun z => z e6)]
          rw [hb] at hl hcp
          rw [hl] at m2 hst
          repeat (first | refine ⟨_, rfl, ?_⟩ | refine ⟨_, _, rfl, rfl, ?_⟩ | refine ⟨rfl, ?_⟩ | refine ⟨_, _, rfl, ?_⟩ | refine ⟨_, _, _, rfl, ?_⟩ | refine ⟨small_le (by simp), ?_⟩ | refine ⟨Or.inl ⟨by decide, by decide⟩, ?_⟩ | refine ⟨⟨by decide, by decide⟩, ?_⟩ | refine ⟨by show (0 : Int) < _; decide, ?_⟩)
          refine ⟨t, _, 2, _, rfl, rfl, htH, atI_nat (j := 2) rfl, ?_⟩
          repeat (first | refine ⟨_, rfl, ?_⟩ | refine ⟨_, _, rfl, rfl, ?_⟩ | refine ⟨rfl, ?_⟩ | refine ⟨_, _, rfl, ?_⟩ | refine ⟨_, _, _, rfl, ?_⟩ | refine ⟨small_le (by simp), ?_⟩ | refine ⟨Or.inl ⟨by decide, by decide⟩, ?_⟩ | refine ⟨⟨by decide, by decide⟩, ?_⟩ | refine ⟨by show (0 : Int) < _; decide, ?_⟩)
          refine ⟨hp, h2, Nat.lt_of_le_of_lt (Nat.le_trans hle hn2) (by decide), hcp, ?_⟩
          refine ⟨_, _, rfl, rfl, wide_mul m1 m2 (by decide) (by decide) (by decide), ?_⟩
          repeat (first | refine ⟨_, rfl, ?_⟩ | refine ⟨_, _, rfl, rfl, ?_⟩ | refine ⟨rfl, ?_⟩ | refine ⟨_, _, rfl, ?_⟩ | refine ⟨_, _, _, rfl, ?_⟩ | refine ⟨small_le (by simp), ?_⟩ | refine ⟨Or.inl ⟨by decide, by decide⟩, ?_⟩ | refine ⟨⟨by decide, by decide⟩, ?_⟩ | refine ⟨by show (0 : Int) < _; decide, ?_⟩)
          exact ⟨p1, some (.int p), by rw [hst]; rfl⟩
      · have h2 : p = 2 := by omega
        subst h2
        have hl : loc A C n ((2 : Nat) : Int) = if (n : Int) % 4 = 0 then e8 A C else 1 := by unfold loc; rw [if_pos (by rfl)]
        repeat (first | refine ⟨_, rfl, ?_⟩ | refine ⟨_, _, rfl, rfl, ?_⟩ | refine ⟨rfl, ?_⟩ | refine ⟨_, _, rfl, ?_⟩ | refine ⟨_, _, _, rfl, ?_⟩ | refine ⟨small_le (by simp), ?_⟩ | refine ⟨Or.inl ⟨by decide, by decide⟩, ?_⟩ | refine ⟨⟨by decide, by decide⟩, ?_⟩ | refine ⟨by show (0 : Int) < _; decide, ?_⟩)
        refine eB (fun e6 => ?_) (fun e6 => ?_)
        · rw [if_pos e6] at hl
          unfold e8 at hl
          repeat (first | refine ⟨_, rfl, ?_⟩ | refine ⟨_, _, rfl, rfl, ?_⟩ | refine ⟨rfl, ?_⟩ | refine ⟨_, _, rfl, ?_⟩ | refine ⟨_, _, _, rfl, ?_⟩ | refine ⟨small_le (by simp), ?_⟩ | refine ⟨Or.inl ⟨by decide, by decide⟩, ?_⟩ | refine ⟨⟨by decide, by decide⟩, ?_⟩ | refine ⟨by show (0 : Int) < _; decide, ?_⟩)
          refine ⟨t, _, 0, _, rfl, rfl, htH, atI_nat (j := 0) rfl, ?_⟩
          repeat (first | refine ⟨_, rfl, ?_⟩ | refine ⟨_, _, rfl, rfl, ?_⟩ | refine ⟨rfl, ?_⟩ | refine ⟨_, _, rfl, ?_⟩ | refine ⟨_, _, _, rfl, ?_⟩ | refine ⟨small_le (by simp), ?_⟩ | refine ⟨Or.inl ⟨by decide, by decide⟩, ?_⟩ | refine ⟨⟨by decide, by decide⟩, ?_⟩ | refine ⟨by show (0 : Int) < _; decide, ?_⟩)
          refine eB (fun e7 => ?_) (fun e7 => ?_)
          · have hb : bes A C 2 = A := by show (if A % 2 ≠ 0 then A else C) = A; rw [if_pos (by omega)]
            rw [hb] at hl
            repeat (first | refine ⟨_, rfl, ?_⟩ | refine ⟨_, _, rfl, rfl, ?_⟩ | refine ⟨rfl, ?_⟩ | refine ⟨_, _, rfl, ?_⟩ | refine ⟨_, _, _, rfl, ?_⟩ | refine ⟨small_le (by simp), ?_⟩ | refine ⟨Or.inl ⟨by decide, by decide⟩, ?_⟩ | refine ⟨⟨by decide, by decide⟩, ?_⟩ | refine ⟨by show (0 : Int) < _; decide, ?_⟩)
            refine ⟨t, _, 0, _, rfl, rfl, htH, atI_nat (j := 0) rfl, ?_⟩
            repeat (first | refine ⟨_, rfl, ?_⟩ | refine ⟨_, _, rfl, rfl, ?_⟩ | refine ⟨rfl, ?_⟩ | refine ⟨_, _, rfl, ?_⟩ | refine ⟨_, _, _, rfl, ?_⟩ | refine ⟨small_le (by simp), ?_⟩ | refine ⟨Or.inl ⟨by decide, by decide⟩, ?_⟩ | refine ⟨⟨by decide, by decide⟩, ?_⟩ | refine ⟨by show (0 : Int) < _; decide, ?_⟩)
            refine eB (fun e9 => ?_) (fun e9 => ?_)
            · rw [if_pos e9] at hl
              rw [hl] at m2 hst
              repeat (first | refine ⟨_, rfl, ?_⟩ | refine ⟨_, _, rfl, rfl, ?_⟩ | refine ⟨rfl, ?_⟩ | refine ⟨_, _, rfl, ?_⟩ | refine ⟨_, _, _, rfl, ?_⟩ | refine ⟨small_le (by simp), ?_⟩ | refine ⟨Or.inl ⟨by decide, by decide⟩, ?_⟩ | refine ⟨⟨by decide, by decide⟩, ?_⟩ | refine ⟨by show (0 : Int) < _; decide, ?_⟩)
              refine ⟨wide_mul m1 m2 (by decide) (by decide) (by decide), ?_⟩
              exact ⟨p1, some (.int ((2 : Nat) : Int)), by rw [hst]; rfl⟩
            · rw [if_neg e9] at hl
              rw [hl] at m2 hst
              repeat (first | refine ⟨_, rfl, ?_⟩ | refine ⟨_, _, rfl, rfl, ?_⟩ | refine ⟨rfl, ?_⟩ | refine ⟨_, _, rfl, ?_⟩ | refine ⟨_, _, _, rfl, ?_⟩ | refine ⟨small_le (by simp), ?_⟩ | refine ⟨Or.inl ⟨by decide, by decide⟩, ?_⟩ | refine ⟨⟨by decide, by decide⟩, ?_⟩ | refine ⟨by show (0 : Int) < _; decide, ?_⟩)
              refine ⟨wide_mul m1 m2 (by decide) (by decide) (by decide), ?_⟩
              exact ⟨p1, some (.int ((2 : Nat) : Int)), by rw [hst]; rfl⟩
          · have hb : bes A C 2 = C := by show (if A % 2 ≠ 0 then A else C) = C; rw [if_neg (by omega)]
            rw [hb] at hl
            repeat (first | refine ⟨_, rfl, ?_⟩ | refine ⟨_, _, rfl, rfl, ?_⟩ | refine ⟨rfl, ?_⟩ | refine ⟨_, _, rfl, ?_⟩ | refine ⟨_, _, _, rfl, ?_⟩ | refine ⟨small_le (by simp), ?_⟩ | refine ⟨Or.inl ⟨by decide, by decide⟩, ?_⟩ | refine ⟨⟨by decide, by decide⟩, ?_⟩ | refine ⟨by show (0 : Int) < _; decide, ?_⟩)
            refine ⟨t, _, 2, _, rfl, rfl, htH, atI_nat (j := 2) rfl, ?_⟩
            repeat (first | refine ⟨_, rfl, ?_⟩ | refine ⟨_, _, rfl, rfl, ?_⟩ | refine ⟨rfl, ?_⟩ | refine ⟨_, _, rfl, ?_⟩ | refine ⟨_, _, _, rfl, ?_⟩ | refine ⟨small_le (by simp), ?_⟩ | refine ⟨Or.inl ⟨by decide, by decide⟩, ?_⟩ | refine ⟨⟨by decide, by decide⟩, ?_⟩ | refine ⟨by show (0 : Int) < _; decide, ?_⟩)
            refine eB (fun e9 => ?_) (fun e9 => ?_)
            · rw [if_pos e9] at hl
              rw [hl] at m2 hst
              repeat (first | refine ⟨_, rfl, ?_⟩ | refine ⟨_, _, rfl, rfl, ?_⟩ | refine ⟨rfl, ?_⟩ | refine ⟨_, _, rfl, ?_⟩ | refine ⟨_, _, _, rfl, ?_⟩ | refine ⟨small_le (by simp), ?_⟩ | refine ⟨Or.inl ⟨by decide, by decide⟩, ?_⟩ | refine ⟨⟨by decide, by decide⟩, ?_⟩ | refine ⟨by show (0 : Int) < _; decide, ?_⟩)
              refine ⟨wide_mul m1 m2 (by decide) (by decide) (by decide), ?_⟩
              exact ⟨p1, some (.int ((2 : Nat) : Int)), by rw [hst]; rfl⟩
            · rw [if_neg e9] at hl
              rw [hl] at m2 hst
              repeat (first | refine ⟨_, rfl, ?_⟩ | refine ⟨_, _, rfl, rfl, ?_⟩ | refine ⟨rfl, ?_⟩ | refine ⟨_, _, rfl, ?_⟩ | refine ⟨_, _, _, rfl, ?_⟩ | refine ⟨small_le (by simp), ?_⟩ | refine ⟨Or.inl ⟨by decide, by decide⟩, ?_⟩ | refine ⟨⟨by decide, by decide⟩, ?_⟩ | refine ⟨by show (0 : Int) < _; decide, ?_⟩)
              refine ⟨wide_mul m1 m2 (by decide) (by decide) (by decide), ?_⟩
              exact ⟨p1, some (.int ((2 : Nat) : Int)), by rw [hst]; rfl⟩
        · rw [if_neg e6] at hl
          rw [hl, Int.mul_one] at hst
          repeat (first | refine ⟨_, rfl, ?_⟩ | refine ⟨_, _, rfl, rfl, ?_⟩ | refine ⟨rfl, ?_⟩ | refine ⟨_, _, rfl, ?_⟩ | refine ⟨_, _, _, rfl, ?_⟩ | refine ⟨small_le (by simp), ?_⟩ | refine ⟨Or.inl ⟨by decide, by decide⟩, ?_⟩ | refine ⟨⟨by decide, by decide⟩, ?_⟩ | refine ⟨by show (0 : Int) < _; decide, ?_⟩)
          exact ⟨p1, some (.int ((2 : Nat) : Int)), by rw [hst]; rfl⟩
    · obtain ⟨p1, z, rfl⟩ := hp
      repeat (first | refine ⟨_, rfl, ?_⟩ | refine ⟨_, _, rfl, rfl, ?_⟩ | refine ⟨rfl, ?_⟩ | refine ⟨_, _, rfl, ?_⟩ | refine ⟨_, _, _, rfl, ?_⟩ | refine ⟨small_le (by simp), ?_⟩ | refine ⟨Or.inl ⟨by decide, by decide⟩, ?_⟩ | refine ⟨⟨by decide, by decide⟩, ?_⟩ | refine ⟨by show (0 : Int) < _; decide, ?_⟩)
      rw [List.length_map, List.take_length]
      exact q H' ps (s2.trans (s3.trans p1)) hps hprod
end
end Bh

/-! WK -/
set_option maxHeartbeats 4000000
namespace Bh
open PySem PySem.Spec PyProof.Rows L2 Bs
section
variable {P : Program} {w : World} {K : PySem.W.Frag} {mg : Str → Option Value} {base : Heap}
/-! ### the law's least forms -/
theorem sq_bits {x : Int} {k : Nat} (h : x.natAbs < 2 ^ k) : (x * x).natAbs < 2 ^ (k + k) := by
  rw [Int.natAbs_mul, Nat.pow_add]
  exact Nat.mul_lt_mul'' h h
theorem sc_law_least : FnScope ["_law_form_here", "_law_first", "_law_half", "_law_last", "_law_turn", "_law_times"] ["_law_form_here"] (defScope (top 99)) := ⟨rfl, rfl, rfl, by decide +kernel, rfl, by decide +kernel, by decide +kernel⟩
def spLawLeast : Sp := fun vs H Q _ => ∃ (t : Addr) (A B C : Int) (n : Nat), vs = [.ref t] ∧ SqT K H t (vi [A, B, C]) ∧ 0 < n ∧ 0 < A ∧ A ≤ 101 ∧ B.natAbs < 2 ^ 40 ∧ C.natAbs < 2 ^ 60 ∧ A * C - B * B = (n : Int) * n ∧ Prim3 A B C ∧
  ∀ H' p A' B' C', Same H H' → H p = none → H' p = some (.tup (vi [A', B', C'])) → LeastF A' B' C' n → Q (.ref p) H'
theorem ok_law_least (T : Tx K mg) : Fx P w K mg base CX0 1 "_law_least" (spLawLeast (K := K)) := by
  refine Fx.of T.g_law_least T.f_law_least (fnr0 (N := ["_law_form_here", "_law_first", "_law_half", "_law_last", "_law_turn", "_law_times"]) (ps := ["_law_form_here"]) T.f_law_least sc_law_least (fun _ _ _ _ _ _ us hl => match us, hl with | [_], _ => rfl) (by intro vs H Q E h; repeat (first | (obtain ⟨e, _⟩ := h; subst e; rfl) | (obtain ⟨_, h⟩ := h))) fun cdv A outer s H vs Q E hr h => ?_)
  obtain ⟨t, A, B, C, n, rfl, ht, hn, hA, hA2, hB, hC, hd, hp, q⟩ := h
  have b40 : (2:Nat) ^ 40 = 1099511627776 := by decide
  have b60 : (2:Nat) ^ 60 = 1152921504606846976 := by decide
  have b7 : (2:Nat) ^ 7 = 128 := by decide
  have b43 : (2:Nat) ^ 43 = 8796093022208 := by decide
  have b44 : (2:Nat) ^ 44 = 17592186044416 := by decide
  refine ⟨_, (pss_cons (ps_asg (pv 0) (pg_tup rfl (pgs_cons (pg_name (i := 1) sc_law_least.nd rfl (Or.inl rfl)) (pgs_cons (pg_name (i := 2) sc_law_least.nd rfl (Or.inl rfl)) (pgs_cons (pg_name (i := 3) sc_law_least.nd rfl (Or.inl rfl)) pgs_nil)))))
      (pss_cons (ps_for PassesOwn.never rfl (pi_range1 (by rfl) T.m_range (pa_cons pe_int pa_nil)) (pg_name (i := 4) sc_law_least.nd rfl (Or.inl rfl)) (pss_cons (ps_set (i := 5) sc_law_least.nd rfl (Or.inl rfl) (pe_un un_neg (pe_op op_divP (pe_callTy call_intI (by rfl) T.m_int (by decide +kernel) (pa_cons (pe_op op_sub (pv 1) (pe_op op_mul pe_int (pv 2))) pa_nil)) (pe_op op_mul pe_int (pv 1)))))
      (pss_cons (ps_par (i := 2) (j := 3) (by rfl) sc_law_least.nd rfl rfl (by decide) rfl rfl (pa_cons (pe_op op_sub (pv 2) (pe_op op_mulW (pv 5) (pv 1))) (pa_cons (pe_op op_add (pe_op op_sub (pv 3) (pe_op op_mulW (pe_op op_mul pe_int (pv 5)) (pv 2))) (pe_op op_mulW (pe_op op_mulW (pv 5) (pv 5)) (pv 1))) pa_nil)) (by rfl))
      (pss_cons (ps_if (PW.pt (pw_or (pt_cmpR op_lt (pv 1) (pv 3) (nomark _)) (pw_or1 (PW.pt (pw_and (pt_cmpR op_eq (pv 1) (pv 3) (nomark _)) (pw_and1 (pt_cmpR op_ge (pv 2) pe_int (nomark _)))))))) (pss_one (ps_ret (pe_tup (pa_cons (pv 1) (pa_cons (pv 2) (pa_cons (pv 3) pa_nil)))))) pss_nil)
      (pss_one (ps_par3 (i := 1) (j := 2) (l := 3) (by rfl) sc_law_least.nd rfl rfl rfl (by decide) (by decide) (by decide) rfl rfl rfl (pa_cons (pv 3) (pa_cons (pe_un un_neg (pv 2)) (pa_cons (pv 1) pa_nil))) (by rfl)))))))
      (pss_one (ps_ret (pe_tup (pa_cons (pv 1) (pa_cons (pv 2) (pa_cons (pv 3) pa_nil)))))))), ?_⟩
  repeat (first | refine ⟨_, rfl, ?_⟩ | refine ⟨_, _, rfl, rfl, ?_⟩ | refine ⟨rfl, ?_⟩ | refine ⟨_, _, rfl, ?_⟩ | refine ⟨_, _, _, rfl, ?_⟩ | refine ⟨small_le (by simp), ?_⟩ | refine ⟨Or.inl ⟨by decide, by decide⟩, ?_⟩ | refine ⟨⟨by decide, by decide⟩, ?_⟩ | refine ⟨by show (0 : Int) < _; decide, ?_⟩)
  refine ⟨t, _, rfl, ht, rfl, ?_⟩
  repeat (first | refine ⟨_, rfl, ?_⟩ | refine ⟨_, _, rfl, rfl, ?_⟩ | refine ⟨rfl, ?_⟩ | refine ⟨_, _, rfl, ?_⟩ | refine ⟨_, _, _, rfl, ?_⟩ | refine ⟨small_le (by simp), ?_⟩ | refine ⟨Or.inl ⟨by decide, by decide⟩, ?_⟩ | refine ⟨⟨by decide, by decide⟩, ?_⟩ | refine ⟨by show (0 : Int) < _; decide, ?_⟩)
  refine ⟨by decide, by decide, ?_⟩
  refine for_range (lo := 0) (n := 600) (fun i σ H' => Same H H' ∧ ∃ (A B C : Int) (y z : Option V), 0 < A ∧ A ≤ 101 ∧ B.natAbs < 2 ^ 40 ∧ C.natAbs < 2 ^ 60 ∧ A * C - B * B = (n : Int) * n ∧ Prim3 A B C ∧ (A + i ≤ 101 ∨ (A = C ∧ 0 ≤ B ∧ 2 * B ≤ A)) ∧ σ = [some (.ref t), some (.int A), some (.int B), some (.int C), y, z])
    ⟨Same.refl H, A, B, C, none, none, hA, hA2, hB, hC, hd, hp, by left; omega, rfl⟩ (fun i σ H' hi hp' => ?_) (fun σ H' hp' => ?_)
  · clear hd hp hC hB hA2 hA
    obtain ⟨s1, A, B, C, y, z, hA, hA2, hB, hC, hd, hp, hm, rfl⟩ := hp'
    repeat (first | refine ⟨_, rfl, ?_⟩ | refine ⟨_, _, rfl, rfl, ?_⟩ | refine ⟨rfl, ?_⟩ | refine ⟨_, _, rfl, ?_⟩ | refine ⟨_, _, _, rfl, ?_⟩ | refine ⟨small_le (by simp), ?_⟩ | refine ⟨Or.inl ⟨by decide, by decide⟩, ?_⟩ | refine ⟨⟨by decide, by decide⟩, ?_⟩ | refine ⟨by show (0 : Int) < _; decide, ?_⟩)
    refine ⟨⟨by show (0:Int) < 2 * A; omega, by show 2 * A < 1073741824; omega⟩, ?_⟩
    obtain ⟨hl, hh⟩ := norm_half (B := B) hA
    have hq0 := ediv_abs (A - 2 * B) (2 * A) (by omega)
    have hdet := norm_det A B C (-((A - 2 * B) / (2 * A)))
    have hpr := hp.norm (t := -((A - 2 * B) / (2 * A)))
    have hub : (-((A - 2 * B) / (2 * A))).natAbs < 2 ^ 43 := by omega
    have hub2 : (2 * -((A - 2 * B) / (2 * A))).natAbs < 2 ^ 44 := by omega
    have hAb : A.natAbs < 2 ^ 7 := by omega
    have huu := sq_bits hub
    repeat (first | refine ⟨_, rfl, ?_⟩ | refine ⟨_, _, rfl, rfl, ?_⟩ | refine ⟨rfl, ?_⟩ | refine ⟨_, _, rfl, ?_⟩ | refine ⟨_, _, _, rfl, ?_⟩ | refine ⟨small_le (by simp), ?_⟩ | refine ⟨Or.inl ⟨by decide, by decide⟩, ?_⟩ | refine ⟨⟨by decide, by decide⟩, ?_⟩ | refine ⟨by show (0 : Int) < _; decide, ?_⟩)
    refine ⟨wide_mul hub hAb (by decide) (by decide) (by decide), ?_⟩
    repeat (first | refine ⟨_, rfl, ?_⟩ | refine ⟨_, _, rfl, rfl, ?_⟩ | refine ⟨rfl, ?_⟩ | refine ⟨_, _, rfl, ?_⟩ | refine ⟨_, _, _, rfl, ?_⟩ | refine ⟨small_le (by simp), ?_⟩ | refine ⟨Or.inl ⟨by decide, by decide⟩, ?_⟩ | refine ⟨⟨by decide, by decide⟩, ?_⟩ | refine ⟨by show (0 : Int) < _; decide, ?_⟩)
    refine ⟨wide_mul hub2 hB (by decide) (by decide) (by decide), ?_⟩
    repeat (first | refine ⟨_, rfl, ?_⟩ | refine ⟨_, _, rfl, rfl, ?_⟩ | refine ⟨rfl, ?_⟩ | refine ⟨_, _, rfl, ?_⟩ | refine ⟨_, _, _, rfl, ?_⟩ | refine ⟨small_le (by simp), ?_⟩ | refine ⟨Or.inl ⟨by decide, by decide⟩, ?_⟩ | refine ⟨⟨by decide, by decide⟩, ?_⟩ | refine ⟨by show (0 : Int) < _; decide, ?_⟩)
    refine ⟨wide_mul hub hub (by decide) (by decide) (by decide), ?_⟩
    repeat (first | refine ⟨_, rfl, ?_⟩ | refine ⟨_, _, rfl, rfl, ?_⟩ | refine ⟨rfl, ?_⟩ | refine ⟨_, _, rfl, ?_⟩ | refine ⟨_, _, _, rfl, ?_⟩ | refine ⟨small_le (by simp), ?_⟩ | refine ⟨Or.inl ⟨by decide, by decide⟩, ?_⟩ | refine ⟨⟨by decide, by decide⟩, ?_⟩ | refine ⟨by show (0 : Int) < _; decide, ?_⟩)
    refine ⟨wide_mul huu hAb (by decide) (by decide) (by decide), ?_⟩
    repeat (first | refine ⟨_, rfl, ?_⟩ | refine ⟨_, _, rfl, rfl, ?_⟩ | refine ⟨rfl, ?_⟩ | refine ⟨_, _, rfl, ?_⟩ | refine ⟨_, _, _, rfl, ?_⟩ | refine ⟨small_le (by simp), ?_⟩ | refine ⟨Or.inl ⟨by decide, by decide⟩, ?_⟩ | refine ⟨⟨by decide, by decide⟩, ?_⟩ | refine ⟨by show (0 : Int) < _; decide, ?_⟩)
    have c0 : ∀ {A B C : Int}, 0 < A → A * C - B * B = (n : Int) * n → 0 < C := fun h1 h2 => pos_of_det h1 h2 hn
    have hC1 := c0 hA (hdet.trans hd)
    have hdet2 := hdet.trans hd
    refine dB (fun e1 => ?_) (fun e1 => ?_)
    · repeat (first | refine ⟨_, rfl, ?_⟩ | refine ⟨_, _, rfl, rfl, ?_⟩ | refine ⟨rfl, ?_⟩ | refine ⟨_, _, rfl, ?_⟩ | refine ⟨_, _, _, rfl, ?_⟩ | refine ⟨small_le (by simp), ?_⟩ | refine ⟨Or.inl ⟨by decide, by decide⟩, ?_⟩ | refine ⟨⟨by decide, by decide⟩, ?_⟩ | refine ⟨by show (0 : Int) < _; decide, ?_⟩)
      (intro p np; generalize hqZ : upd _ p _ = H1; have s2 := new_same hqZ np; have e2 := new_at hqZ; clear hqZ)
      exact q H1 p _ _ _ (s1.trans s2) (s1.free np) e2 ⟨hA, hdet2, hl, hh, Int.le_of_lt e1, hpr⟩
    · repeat (first | refine ⟨_, rfl, ?_⟩ | refine ⟨_, _, rfl, rfl, ?_⟩ | refine ⟨rfl, ?_⟩ | refine ⟨_, _, rfl, ?_⟩ | refine ⟨_, _, _, rfl, ?_⟩ | refine ⟨small_le (by simp), ?_⟩ | refine ⟨Or.inl ⟨by decide, by decide⟩, ?_⟩ | refine ⟨⟨by decide, by decide⟩, ?_⟩ | refine ⟨by show (0 : Int) < _; decide, ?_⟩)
      refine eB (fun e3 => ?_) (fun e3 => ?_)
      · repeat (first | refine ⟨_, rfl, ?_⟩ | refine ⟨_, _, rfl, rfl, ?_⟩ | refine ⟨rfl, ?_⟩ | refine ⟨_, _, rfl, ?_⟩ | refine ⟨_, _, _, rfl, ?_⟩ | refine ⟨small_le (by simp), ?_⟩ | refine ⟨Or.inl ⟨by decide, by decide⟩, ?_⟩ | refine ⟨⟨by decide, by decide⟩, ?_⟩ | refine ⟨by show (0 : Int) < _; decide, ?_⟩)
        refine dB (fun e4 => ?_) (fun e4 => ?_)
        · repeat (first | refine ⟨_, rfl, ?_⟩ | refine ⟨_, _, rfl, rfl, ?_⟩ | refine ⟨rfl, ?_⟩ | refine ⟨_, _, rfl, ?_⟩ | refine ⟨_, _, _, rfl, ?_⟩ | refine ⟨small_le (by simp), ?_⟩ | refine ⟨Or.inl ⟨by decide, by decide⟩, ?_⟩ | refine ⟨⟨by decide, by decide⟩, ?_⟩ | refine ⟨by show (0 : Int) < _; decide, ?_⟩)
          (intro p np; generalize hqZ : upd _ p _ = H1; have s2 := new_same hqZ np; have e2 := new_at hqZ; clear hqZ)
          exact q H1 p _ _ _ (s1.trans s2) (s1.free np) e2 ⟨hA, hdet2, hl, hh, Int.le_of_eq e3, hpr⟩
        · repeat (first | refine ⟨_, rfl, ?_⟩ | refine ⟨_, _, rfl, rfl, ?_⟩ | refine ⟨rfl, ?_⟩ | refine ⟨_, _, rfl, ?_⟩ | refine ⟨_, _, _, rfl, ?_⟩ | refine ⟨small_le (by simp), ?_⟩ | refine ⟨Or.inl ⟨by decide, by decide⟩, ?_⟩ | refine ⟨⟨by decide, by decide⟩, ?_⟩ | refine ⟨by show (0 : Int) < _; decide, ?_⟩)
          refine ⟨s1, _, _, _, _, _, hC1, ?_, ?_, ?_, ?_, hpr.turn, ?_, rfl⟩
          · rw [← e3]; exact hA2
          · omega
          · omega
          · grind
          · right
            refine ⟨e3.symm, ?_, ?_⟩
            · omega
            · omega
      · repeat (first | refine ⟨_, rfl, ?_⟩ | refine ⟨_, _, rfl, rfl, ?_⟩ | refine ⟨rfl, ?_⟩ | refine ⟨_, _, rfl, ?_⟩ | refine ⟨_, _, _, rfl, ?_⟩ | refine ⟨small_le (by simp), ?_⟩ | refine ⟨Or.inl ⟨by decide, by decide⟩, ?_⟩ | refine ⟨⟨by decide, by decide⟩, ?_⟩ | refine ⟨by show (0 : Int) < _; decide, ?_⟩)
        refine ⟨s1, _, _, _, _, _, hC1, ?_, ?_, ?_, ?_, hpr.turn, ?_, rfl⟩
        · omega
        · omega
        · omega
        · grind
        · left
          rcases hm with hm | ⟨h1, h2, h3⟩
          · omega
          · exfalso
            have q0 : (A - 2 * B) / (2 * A) = 0 := Int.ediv_eq_zero_of_lt (by omega) (by omega)
            apply e3
            show A = C - 2 * -((A - 2 * B) / (2 * A)) * B + -((A - 2 * B) / (2 * A)) * -((A - 2 * B) / (2 * A)) * A
            rw [q0]
            simp
            exact h1
  · obtain ⟨s1, A, B, C, y, z, hA, hA2, hB, hC, hd, hp, hm, rfl⟩ := hp'
    repeat (first | refine ⟨_, rfl, ?_⟩ | refine ⟨_, _, rfl, rfl, ?_⟩ | refine ⟨rfl, ?_⟩ | refine ⟨_, _, rfl, ?_⟩ | refine ⟨_, _, _, rfl, ?_⟩ | refine ⟨small_le (by simp), ?_⟩ | refine ⟨Or.inl ⟨by decide, by decide⟩, ?_⟩ | refine ⟨⟨by decide, by decide⟩, ?_⟩ | refine ⟨by show (0 : Int) < _; decide, ?_⟩)
    (intro p np; generalize hqZ : upd _ p _ = H1; have s2 := new_same hqZ np; have e1 := new_at hqZ; clear hqZ)
    refine q H1 p A B C (s1.trans s2) (s1.free np) e1 ?_
    rcases hm with hm | ⟨h1, h2, h3⟩
    · omega
    · exact ⟨hA, hd, by omega, h3, by omega, hp⟩
theorem sc_law_all_least : FnScope ["_law_side", "_law_found", "_law_first", "_law_half", "_law_last"] ["_law_side"] (defScope (top 95)) := ⟨rfl, rfl, rfl, by decide +kernel, rfl, by decide +kernel, by decide +kernel⟩
/-- a form's tuple -/
def FormT (H : Hp) (p : Addr) (f : Int × Int × Int) : Prop := H p = some (.tup (vi [f.1, f.2.1, f.2.2]))
theorem formT_updL {H : Hp} {F : Addr} {l l' : List V} (e : H F = some (.lst l)) {ps : List Addr} {k : List (Int × Int × Int)} (h : Paired (FormT H) ps k) : Paired (FormT (upd H F (.lst l'))) ps k :=
  pairedI (fun p f h => show upd H F (.lst l') p = _ by rw [upd_ne (ne_of (show H p = some (.tup (vi [f.1, f.2.1, f.2.2])) from h) e (by intro z; cases z))]; exact h) h
def spAllLeast : Sp := fun vs H Q _ => ∃ n : Nat, vs = [.int n] ∧ 1 ≤ n ∧ n ≤ 60 ∧ ∀ H' D ps fs, Same H H' → H D = none → H' D = some (.lst (ps.map V.ref)) → Paired (FormT H') ps fs → (∀ f ∈ fs, LeastF f.1 f.2.1 f.2.2 n) → 0 < ps.length → ps.length < 2 ^ 20 → Q (.ref D) H'
theorem ok_law_all_least (T : Tx K mg) : Fx P w K mg base CX0 2 "_law_all_least" spAllLeast := by
  refine Fx.of T.g_law_all_least T.f_law_all_least (fnr0 (N := ["_law_side", "_law_found", "_law_first", "_law_half", "_law_last"]) (ps := ["_law_side"]) T.f_law_all_least sc_law_all_least (fun _ _ _ _ _ _ us hl => match us, hl with | [_], _ => rfl) (by intro vs H Q E h; repeat (first | (obtain ⟨e, _⟩ := h; subst e; rfl) | (obtain ⟨_, h⟩ := h))) fun cdv A outer s H vs Q E hr h => ?_)
  obtain ⟨n, rfl, hn1, hn2, q⟩ := h
  have b20 : (2:Nat) ^ 20 = 1048576 := by decide
  have b8 : (2:Nat) ^ 8 = 256 := by decide
  have b10 : (2:Nat) ^ 10 = 1024 := by decide
  have hnb : (n : Int).natAbs < 2 ^ 8 := by omega
  have hnn := sq_bits hnb
  have hnsq : 1 * 1 ≤ (n : Int) * n := Int.mul_le_mul (by omega) (by omega) (by decide) (by omega)
  refine ⟨_, (pss_cons (ps_set (i := 1) sc_law_all_least.nd rfl (Or.inl rfl) (pe_lst pa_nil))
      (pss_cons (ps_for PassesOwn.never rfl (pi_range2 (by rfl) T.m_range (pa_cons pe_int (pa_cons (pe_op op_add (pe_op op_mul pe_int (pv 0)) pe_int) pa_nil))) (pg_name (i := 2) sc_law_all_least.nd rfl (Or.inl rfl)) (pss_cons (ps_if (pt_cmpR op_gt (pe_op op_mulW (pe_op op_mul pe_int (pv 2)) (pv 2)) (pe_op op_mulW (pe_op op_mul pe_int (pv 0)) (pv 0)) (nomark _)) (pss_one (ps_ret (pv 1))) pss_nil)
      (pss_one (ps_for PassesOwn.never rfl (pi_range2 (by rfl) T.m_range (pa_cons (pe_un un_neg (pe_op op_divP (pe_callTy call_intI (by rfl) T.m_int (by decide +kernel) (pa_cons (pe_op op_sub (pv 2) pe_int) pa_nil)) pe_int)) (pa_cons (pe_op op_add (pe_op op_divP (pe_callTy call_intI (by rfl) T.m_int (by decide +kernel) (pa_cons (pv 2) pa_nil)) pe_int) pe_int) pa_nil))) (pg_name (i := 3) sc_law_all_least.nd rfl (Or.inl rfl)) (pss_cons (ps_set (i := 4) sc_law_all_least.nd rfl (Or.inl rfl) (pe_op op_divP (pe_callTy call_intI (by rfl) T.m_int (by decide +kernel) (pa_cons (pe_op op_add (pe_op op_mulW (pv 3) (pv 3)) (pe_op op_mulW (pv 0) (pv 0))) pa_nil)) (pv 2)))
      (pss_one (ps_if (PW.pt (pw_and (pt_cmpR op_eq (pe_op op_mulW (pv 2) (pv 4)) (pe_op op_add (pe_op op_mulW (pv 3) (pv 3)) (pe_op op_mulW (pv 0) (pv 0))) (nomark _)) (pw_and (pt_cmpR op_le (pv 2) (pv 4) (nomark _)) (pw_and1 (PW.pt (pw_or (pt_cmpR op_ge (pv 3) pe_int (nomark _)) (pw_or1 (pt_cmpR op_lt (pv 2) (pv 4) (nomark _))))))))) (pss_one (ps_set (i := 1) sc_law_all_least.nd rfl (Or.inl rfl) (pe_ifExp (pt_cmpR op_eq (pc (ok_law_shared T) (hr.mono (by decide)) (by first | exact pass0 | exact passL) (pa_cons (pc (ok_law_shared T) (hr.mono (by decide)) (by first | exact pass0 | exact passL) (pa_cons (pv 2) (pa_cons (pv 3) pa_nil))) (pa_cons (pv 4) pa_nil))) pe_int (nomark _)) (pe_op op_cat (pv 1) (pe_lst (pa_cons (pe_tup (pa_cons (pv 2) (pa_cons (pv 3) (pa_cons (pv 4) pa_nil)))) pa_nil))) (pv 1)))) pss_nil)))))))
      (pss_one (ps_ret (pv 1))))), ?_⟩
  repeat (first | refine ⟨_, rfl, ?_⟩ | refine ⟨_, _, rfl, rfl, ?_⟩ | refine ⟨rfl, ?_⟩ | refine ⟨_, _, rfl, ?_⟩ | refine ⟨_, _, _, rfl, ?_⟩ | refine ⟨small_le (by simp), ?_⟩ | refine ⟨Or.inl ⟨by decide, by decide⟩, ?_⟩ | refine ⟨⟨by decide, by decide⟩, ?_⟩ | refine ⟨by show (0 : Int) < _; decide, ?_⟩)
  (intro F nF; generalize hqZ : upd _ F _ = H1; have s1 := new_same hqZ nF; have e1 := new_at hqZ; clear hqZ)
  repeat (first | refine ⟨_, rfl, ?_⟩ | refine ⟨_, _, rfl, rfl, ?_⟩ | refine ⟨rfl, ?_⟩ | refine ⟨_, _, rfl, ?_⟩ | refine ⟨_, _, _, rfl, ?_⟩ | refine ⟨small_le (by simp), ?_⟩ | refine ⟨Or.inl ⟨by decide, by decide⟩, ?_⟩ | refine ⟨⟨by decide, by decide⟩, ?_⟩ | refine ⟨by show (0 : Int) < _; decide, ?_⟩)
  refine ⟨⟨by decide, by decide, by omega, by omega⟩, ?_⟩
  refine for_range (lo := 1) (n := (2 * (n : Int) + 1 - 1).toNat) (fun i σ H' => Same H H' ∧ ∃ (F : Addr) (ps : List Addr) (fs : List (Int × Int × Int)) (x y z : Option V), H F = none ∧ H' F = some (.lst (ps.map V.ref)) ∧ Paired (FormT H') ps fs ∧ (∀ f ∈ fs, LeastF f.1 f.2.1 f.2.2 n) ∧ (0 < i → 0 < ps.length) ∧ ps.length ≤ i * 200 ∧ σ = [some (.int n), some (.ref F), x, y, z])
    ⟨s1, F, [], [], none, none, none, nF, e1, .nil, by simp, by omega, by simp, rfl⟩ (fun i σ H' hi hp' => ?_) (fun σ H' hp' => ?_)
  · obtain ⟨s2, F, ps, fs, x, y, z, nF, eF, hT, hL, hpos, hlen, rfl⟩ := hp'
    have hfb : (1 + (i : Int)).natAbs < 2 ^ 8 := by omega
    have hf3 : (3 * (1 + (i : Int))).natAbs < 2 ^ 10 := by omega
    have hn4 : (4 * (n : Int)).natAbs < 2 ^ 10 := by omega
    repeat (first | refine ⟨_, rfl, ?_⟩ | refine ⟨_, _, rfl, rfl, ?_⟩ | refine ⟨rfl, ?_⟩ | refine ⟨_, _, rfl, ?_⟩ | refine ⟨_, _, _, rfl, ?_⟩ | refine ⟨small_le (by simp), ?_⟩ | refine ⟨Or.inl ⟨by decide, by decide⟩, ?_⟩ | refine ⟨⟨by decide, by decide⟩, ?_⟩ | refine ⟨by show (0 : Int) < _; decide, ?_⟩)
    refine ⟨wide_mul hf3 hfb (by decide) (by decide) (by decide), ?_⟩
    repeat (first | refine ⟨_, rfl, ?_⟩ | refine ⟨_, _, rfl, rfl, ?_⟩ | refine ⟨rfl, ?_⟩ | refine ⟨_, _, rfl, ?_⟩ | refine ⟨_, _, _, rfl, ?_⟩ | refine ⟨small_le (by simp), ?_⟩ | refine ⟨Or.inl ⟨by decide, by decide⟩, ?_⟩ | refine ⟨⟨by decide, by decide⟩, ?_⟩ | refine ⟨by show (0 : Int) < _; decide, ?_⟩)
    refine ⟨wide_mul hn4 hnb (by decide) (by decide) (by decide), ?_⟩
    repeat (first | refine ⟨_, rfl, ?_⟩ | refine ⟨_, _, rfl, rfl, ?_⟩ | refine ⟨rfl, ?_⟩ | refine ⟨_, _, rfl, ?_⟩ | refine ⟨_, _, _, rfl, ?_⟩ | refine ⟨small_le (by simp), ?_⟩ | refine ⟨Or.inl ⟨by decide, by decide⟩, ?_⟩ | refine ⟨⟨by decide, by decide⟩, ?_⟩ | refine ⟨by show (0 : Int) < _; decide, ?_⟩)
    refine dB (fun e2 => ?_) (fun e2 => ?_)
    · repeat (first | refine ⟨_, rfl, ?_⟩ | refine ⟨_, _, rfl, rfl, ?_⟩ | refine ⟨rfl, ?_⟩ | refine ⟨_, _, rfl, ?_⟩ | refine ⟨_, _, _, rfl, ?_⟩ | refine ⟨small_le (by simp), ?_⟩ | refine ⟨Or.inl ⟨by decide, by decide⟩, ?_⟩ | refine ⟨⟨by decide, by decide⟩, ?_⟩ | refine ⟨by show (0 : Int) < _; decide, ?_⟩)
      have hi0 : 0 < i := by
        rcases Nat.eq_zero_or_pos i with h | h
        · subst h
          have e : 4 * (n : Int) * n = 4 * ((n : Int) * n) := by rw [Int.mul_assoc]
          rw [e] at e2
          omega
        · exact h
      exact q H' F ps fs s2 nF eF hT hL (hpos hi0) (by omega)
    · repeat (first | refine ⟨_, rfl, ?_⟩ | refine ⟨_, _, rfl, rfl, ?_⟩ | refine ⟨rfl, ?_⟩ | refine ⟨_, _, rfl, ?_⟩ | refine ⟨_, _, _, rfl, ?_⟩ | refine ⟨small_le (by simp), ?_⟩ | refine ⟨Or.inl ⟨by decide, by decide⟩, ?_⟩ | refine ⟨⟨by decide, by decide⟩, ?_⟩ | refine ⟨by show (0 : Int) < _; decide, ?_⟩)
      refine ⟨⟨by show -(2:Int)^62 ≤ -((1 + (i : Int) - 1) / 2); omega, by show -((1 + (i : Int) - 1) / 2) < (2:Int)^62; omega, by show -(2:Int)^62 ≤ (1 + (i : Int)) / 2 + 1; omega, by show (1 + (i : Int)) / 2 + 1 < (2:Int)^62; omega⟩, ?_⟩
      refine for_range (lo := -((1 + (i : Int) - 1) / 2)) (n := ((1 + (i : Int)) / 2 + 1 - -((1 + (i : Int) - 1) / 2)).toNat)
        (fun j σ H' => Same H H' ∧ ∃ (F : Addr) (ps : List Addr) (fs : List (Int × Int × Int)) (y z : Option V), H F = none ∧ H' F = some (.lst (ps.map V.ref)) ∧ Paired (FormT H') ps fs ∧ (∀ f ∈ fs, LeastF f.1 f.2.1 f.2.2 n) ∧ (0 < i ∨ 0 < j → 0 < ps.length) ∧ ps.length ≤ i * 200 + j ∧ σ = [some (.int n), some (.ref F), some (.int (1 + (i : Int))), y, z])
        ⟨s2, F, ps, fs, y, z, nF, eF, hT, hL, fun h => hpos (by omega), by omega, rfl⟩ (fun j σ H' hj hp' => ?_) (fun σ H' hp' => ?_)
      · clear hlen hpos hL hT eF nF s2 e2
        obtain ⟨s2, F, ps, fs, y, z, nF, eF, hT, hL, hpos, hlen, rfl⟩ := hp'
        obtain ⟨B, hB⟩ : ∃ B, B = -((1 + (i : Int) - 1) / 2) + (j : Int) := ⟨_, rfl⟩
        rw [← hB]
        have hB1 : -(1 + (i : Int)) < 2 * B := by omega
        have hB2 : 2 * B ≤ 1 + (i : Int) := by omega
        have hBb : B.natAbs < 2 ^ 8 := by omega
        have hBB := sq_bits hBb
        have hBsq := sq_nonneg B
        have hCb : ((B * B + (n : Int) * n) / (1 + (i : Int))).natAbs < 2 ^ 20 := by
          have := ediv_abs (B * B + (n : Int) * n) (1 + (i : Int)) (by omega)
          have b16 : (2:Nat) ^ (8 + 8) = 65536 := by decide
          omega
        repeat (first | refine ⟨_, rfl, ?_⟩ | refine ⟨_, _, rfl, rfl, ?_⟩ | refine ⟨rfl, ?_⟩ | refine ⟨_, _, rfl, ?_⟩ | refine ⟨_, _, _, rfl, ?_⟩ | refine ⟨small_le (by simp), ?_⟩ | refine ⟨Or.inl ⟨by decide, by decide⟩, ?_⟩ | refine ⟨⟨by decide, by decide⟩, ?_⟩ | refine ⟨by show (0 : Int) < _; decide, ?_⟩)
        refine ⟨wide_mul hBb hBb (by decide) (by decide) (by decide), ?_⟩
        repeat (first | refine ⟨_, rfl, ?_⟩ | refine ⟨_, _, rfl, rfl, ?_⟩ | refine ⟨rfl, ?_⟩ | refine ⟨_, _, rfl, ?_⟩ | refine ⟨_, _, _, rfl, ?_⟩ | refine ⟨small_le (by simp), ?_⟩ | refine ⟨Or.inl ⟨by decide, by decide⟩, ?_⟩ | refine ⟨⟨by decide, by decide⟩, ?_⟩ | refine ⟨by show (0 : Int) < _; decide, ?_⟩)
        refine ⟨wide_mul hnb hnb (by decide) (by decide) (by decide), ?_⟩
        repeat (first | refine ⟨_, rfl, ?_⟩ | refine ⟨_, _, rfl, rfl, ?_⟩ | refine ⟨rfl, ?_⟩ | refine ⟨_, _, rfl, ?_⟩ | refine ⟨_, _, _, rfl, ?_⟩ | refine ⟨small_le (by simp), ?_⟩ | refine ⟨Or.inl ⟨by decide, by decide⟩, ?_⟩ | refine ⟨⟨by decide, by decide⟩, ?_⟩ | refine ⟨by show (0 : Int) < _; decide, ?_⟩)
        refine ⟨⟨by show (0:Int) < 1 + (i : Int); omega, by show 1 + (i : Int) < 1073741824; omega⟩, ?_⟩
        have h00 : i = 0 ∧ j = 0 → B = 0 ∧ (B * B + (n : Int) * n) / (1 + (i : Int)) = (n : Int) * n := fun ⟨h1, h2⟩ => by
          subst h1 h2
          have hB0 : B = 0 := by omega
          subst hB0
          refine ⟨rfl, ?_⟩
          simp
        have hAb : (1 + (i : Int)).natAbs < 2 ^ 8 := hfb
        repeat (first | refine ⟨_, rfl, ?_⟩ | refine ⟨_, _, rfl, rfl, ?_⟩ | refine ⟨rfl, ?_⟩ | refine ⟨_, _, rfl, ?_⟩ | refine ⟨_, _, _, rfl, ?_⟩ | refine ⟨small_le (by simp), ?_⟩ | refine ⟨Or.inl ⟨by decide, by decide⟩, ?_⟩ | refine ⟨⟨by decide, by decide⟩, ?_⟩ | refine ⟨by show (0 : Int) < _; decide, ?_⟩)
        refine ⟨wide_mul hAb hCb (by decide) (by decide) (by decide), ?_⟩
        repeat (first | refine ⟨_, rfl, ?_⟩ | refine ⟨_, _, rfl, rfl, ?_⟩ | refine ⟨rfl, ?_⟩ | refine ⟨_, _, rfl, ?_⟩ | refine ⟨_, _, _, rfl, ?_⟩ | refine ⟨small_le (by simp), ?_⟩ | refine ⟨Or.inl ⟨by decide, by decide⟩, ?_⟩ | refine ⟨⟨by decide, by decide⟩, ?_⟩ | refine ⟨by show (0 : Int) < _; decide, ?_⟩)
        refine ⟨wide_mul hBb hBb (by decide) (by decide) (by decide), ?_⟩
        repeat (first | refine ⟨_, rfl, ?_⟩ | refine ⟨_, _, rfl, rfl, ?_⟩ | refine ⟨rfl, ?_⟩ | refine ⟨_, _, rfl, ?_⟩ | refine ⟨_, _, _, rfl, ?_⟩ | refine ⟨small_le (by simp), ?_⟩ | refine ⟨Or.inl ⟨by decide, by decide⟩, ?_⟩ | refine ⟨⟨by decide, by decide⟩, ?_⟩ | refine ⟨by show (0 : Int) < _; decide, ?_⟩)
        refine ⟨wide_mul hnb hnb (by decide) (by decide) (by decide), ?_⟩
        repeat (first | refine ⟨_, rfl, ?_⟩ | refine ⟨_, _, rfl, rfl, ?_⟩ | refine ⟨rfl, ?_⟩ | refine ⟨_, _, rfl, ?_⟩ | refine ⟨_, _, _, rfl, ?_⟩ | refine ⟨small_le (by simp), ?_⟩ | refine ⟨Or.inl ⟨by decide, by decide⟩, ?_⟩ | refine ⟨⟨by decide, by decide⟩, ?_⟩ | refine ⟨by show (0 : Int) < _; decide, ?_⟩)
        have hadd : (1 + (i : Int)) * ((B * B + (n : Int) * n) / (1 + (i : Int))) = B * B + (n : Int) * n → 1 + (i : Int) ≤ (B * B + (n : Int) * n) / (1 + (i : Int)) → Prim3 (1 + (i : Int)) B ((B * B + (n : Int) * n) / (1 + (i : Int))) → LeastF (1 + (i : Int)) B ((B * B + (n : Int) * n) / (1 + (i : Int))) n := fun h1 h2 h3 => ⟨by omega, by omega, hB1, hB2, h2, h3⟩
        have n0 : ¬ (1 + (i : Int)) * ((B * B + (n : Int) * n) / (1 + (i : Int))) = B * B + (n : Int) * n → 0 < i ∨ 0 < j := fun h => by
          rcases Nat.eq_zero_or_pos i with hi0 | hi0
          · rcases Nat.eq_zero_or_pos j with hj0 | hj0
            · obtain ⟨z1, z2⟩ := h00 ⟨hi0, hj0⟩
              rw [z2, z1, hi0] at h
              exfalso
              apply h
              simp
            · exact .inr hj0
          · exact .inl hi0
        refine eB (fun e3 => ?_) (fun e3 => ?_)
        · repeat (first | refine ⟨_, rfl, ?_⟩ | refine ⟨_, _, rfl, rfl, ?_⟩ | refine ⟨rfl, ?_⟩ | refine ⟨_, _, rfl, ?_⟩ | refine ⟨_, _, _, rfl, ?_⟩ | refine ⟨small_le (by simp), ?_⟩ | refine ⟨Or.inl ⟨by decide, by decide⟩, ?_⟩ | refine ⟨⟨by decide, by decide⟩, ?_⟩ | refine ⟨by show (0 : Int) < _; decide, ?_⟩)
          have n1 : ¬ (1 + (i : Int)) ≤ (B * B + (n : Int) * n) / (1 + (i : Int)) → 0 < i ∨ 0 < j := fun h => by
            rcases Nat.eq_zero_or_pos i with hi0 | hi0
            · rcases Nat.eq_zero_or_pos j with hj0 | hj0
              · obtain ⟨z1, z2⟩ := h00 ⟨hi0, hj0⟩
                rw [z2] at h
                omega
              · exact .inr hj0
            · exact .inl hi0
          have n2 : ¬ 0 ≤ B → 0 < i ∨ 0 < j := fun h => by
            rcases Nat.eq_zero_or_pos i with hi0 | hi0
            · rcases Nat.eq_zero_or_pos j with hj0 | hj0
              · exact absurd (Int.le_of_eq (h00 ⟨hi0, hj0⟩).1.symm) h
              · exact .inr hj0
            · exact .inl hi0
          have n3 : ¬ ((Int.gcd ((Int.gcd (1 + (i : Int)) B : Nat) : Int) ((B * B + (n : Int) * n) / (1 + (i : Int))) : Nat) : Int) = 1 → 0 < i ∨ 0 < j := fun h => by
            rcases Nat.eq_zero_or_pos i with hi0 | hi0
            · rcases Nat.eq_zero_or_pos j with hj0 | hj0
              · exfalso
                obtain ⟨z1, z2⟩ := h00 ⟨hi0, hj0⟩
                rw [z2, z1, hi0] at h
                apply h
                simp
              · exact .inr hj0
            · exact .inl hi0
          refine dB (fun e4 => ?_) (fun e4 => ?_)
          · repeat (first | refine ⟨_, rfl, ?_⟩ | refine ⟨_, _, rfl, rfl, ?_⟩ | refine ⟨rfl, ?_⟩ | refine ⟨_, _, rfl, ?_⟩ | refine ⟨_, _, _, rfl, ?_⟩ | refine ⟨small_le (by simp), ?_⟩ | refine ⟨Or.inl ⟨by decide, by decide⟩, ?_⟩ | refine ⟨⟨by decide, by decide⟩, ?_⟩ | refine ⟨by show (0 : Int) < _; decide, ?_⟩)
            refine dB (fun e5 => ?a1) (fun e5 => ?a2)
            case' a2 =>
              repeat (first | refine ⟨_, rfl, ?_⟩ | refine ⟨_, _, rfl, rfl, ?_⟩ | refine ⟨rfl, ?_⟩ | refine ⟨_, _, rfl, ?_⟩ | refine ⟨_, _, _, rfl, ?_⟩ | refine ⟨small_le (by simp), ?_⟩ | refine ⟨Or.inl ⟨by decide, by decide⟩, ?_⟩ | refine ⟨⟨by decide, by decide⟩, ?_⟩ | refine ⟨by show (0 : Int) < _; decide, ?_⟩)
              refine dB (fun e6 => ?b1) (fun e6 => ?b2)
            case' b2 => exact ⟨s2, F, ps, fs, _, _, nF, eF, hT, hL, fun _ => hpos (n2 e5), by omega, rfl⟩
            all_goals
              repeat (first | refine ⟨_, rfl, ?_⟩ | refine ⟨_, _, rfl, rfl, ?_⟩ | refine ⟨rfl, ?_⟩ | refine ⟨_, _, rfl, ?_⟩ | refine ⟨_, _, _, rfl, ?_⟩ | refine ⟨small_le (by simp), ?_⟩ | refine ⟨Or.inl ⟨by decide, by decide⟩, ?_⟩ | refine ⟨⟨by decide, by decide⟩, ?_⟩ | refine ⟨by show (0 : Int) < _; decide, ?_⟩)
              refine eB (fun e7 => ?_) (fun e7 => ?_)
              · have hLF := hadd e3 e4 (prim3_iff.mpr (by omega))
                repeat (first | refine ⟨_, rfl, ?_⟩ | refine ⟨_, _, rfl, rfl, ?_⟩ | refine ⟨rfl, ?_⟩ | refine ⟨_, _, rfl, ?_⟩ | refine ⟨_, _, _, rfl, ?_⟩ | refine ⟨small_le (by simp), ?_⟩ | refine ⟨Or.inl ⟨by decide, by decide⟩, ?_⟩ | refine ⟨⟨by decide, by decide⟩, ?_⟩ | refine ⟨by show (0 : Int) < _; decide, ?_⟩)
                (intro g1 ng1; generalize hqZ : upd _ g1 _ = H2; have s3 := new_same hqZ ng1; have e8 := new_at hqZ; clear hqZ)
                repeat (first | refine ⟨_, rfl, ?_⟩ | refine ⟨_, _, rfl, rfl, ?_⟩ | refine ⟨rfl, ?_⟩ | refine ⟨_, _, rfl, ?_⟩ | refine ⟨_, _, _, rfl, ?_⟩ | refine ⟨small_le (by simp), ?_⟩ | refine ⟨Or.inl ⟨by decide, by decide⟩, ?_⟩ | refine ⟨⟨by decide, by decide⟩, ?_⟩ | refine ⟨by show (0 : Int) < _; decide, ?_⟩)
                (intro g2 ng2; generalize hqZ : upd _ g2 _ = H3; have s4 := new_same hqZ ng2; have e9 := new_at hqZ; clear hqZ)
                refine ⟨F, g2, _, _, rfl, rfl, s4 _ _ (s3 _ _ eF), e9, by rw [show sizeLine = 16777216 by decide]; simp; omega, ?_⟩
                (intro g3 ng3; generalize hqZ : upd _ g3 _ = H4; have s5 := new_same hqZ ng3; have e10 := new_at hqZ; clear hqZ)
                refine ⟨s2.trans (s3.trans (s4.trans s5)), g3, ps ++ [g1], fs ++ [(1 + (i : Int), B, (B * B + (n : Int) * n) / (1 + (i : Int)))], _, _, (s2.trans (s3.trans s4)).free ng3, by rw [e10]; simp, ?_, fun f hf => ?_, fun _ => by simp, by simp; omega, rfl⟩
                · exact pairedS (pairedI (fun p f h => s5 _ _ (s4 _ _ (s3 _ _ h))) hT) (s5 _ _ (s4 _ _ e8))
                · rcases List.mem_append.mp hf with h | h
                  · exact hL f h
                  · rw [List.mem_singleton.mp h]
                    exact hLF
              · repeat (first | refine ⟨_, rfl, ?_⟩ | refine ⟨_, _, rfl, rfl, ?_⟩ | refine ⟨rfl, ?_⟩ | refine ⟨_, _, rfl, ?_⟩ | refine ⟨_, _, _, rfl, ?_⟩ | refine ⟨small_le (by simp), ?_⟩ | refine ⟨Or.inl ⟨by decide, by decide⟩, ?_⟩ | refine ⟨⟨by decide, by decide⟩, ?_⟩ | refine ⟨by show (0 : Int) < _; decide, ?_⟩)
                exact ⟨s2, F, ps, fs, _, _, nF, eF, hT, hL, fun _ => hpos (n3 e7), by omega, rfl⟩
          · exact ⟨s2, F, ps, fs, _, _, nF, eF, hT, hL, fun _ => hpos (n1 e4), by omega, rfl⟩
        · exact ⟨s2, F, ps, fs, _, _, nF, eF, hT, hL, fun _ => hpos (n0 e3), by omega, rfl⟩
      · obtain ⟨s2, F, ps, fs, y, z, nF, eF, hT, hL, hpos, hlen, rfl⟩ := hp'
        repeat (first | refine ⟨_, rfl, ?_⟩ | refine ⟨_, _, rfl, rfl, ?_⟩ | refine ⟨rfl, ?_⟩ | refine ⟨_, _, rfl, ?_⟩ | refine ⟨_, _, _, rfl, ?_⟩ | refine ⟨small_le (by simp), ?_⟩ | refine ⟨Or.inl ⟨by decide, by decide⟩, ?_⟩ | refine ⟨⟨by decide, by decide⟩, ?_⟩ | refine ⟨by show (0 : Int) < _; decide, ?_⟩)
        refine ⟨s2, F, ps, fs, _, _, _, nF, eF, hT, hL, fun _ => hpos (by omega), by omega, rfl⟩
  · obtain ⟨s2, F, ps, fs, x, y, z, nF, eF, hT, hL, hpos, hlen, rfl⟩ := hp'
    repeat (first | refine ⟨_, rfl, ?_⟩ | refine ⟨_, _, rfl, rfl, ?_⟩ | refine ⟨rfl, ?_⟩ | refine ⟨_, _, rfl, ?_⟩ | refine ⟨_, _, _, rfl, ?_⟩ | refine ⟨small_le (by simp), ?_⟩ | refine ⟨Or.inl ⟨by decide, by decide⟩, ?_⟩ | refine ⟨⟨by decide, by decide⟩, ?_⟩ | refine ⟨by show (0 : Int) < _; decide, ?_⟩)
    exact q H' F ps fs s2 nF eF hT hL (hpos (by omega)) (by omega)
end
end Bh

/-! GA -/
/-! generators that sleep: what is run beside them does not touch them -/
namespace GenP
open PySem
open Sem (wp)
/-- a generator that can not be woken -/
def bad : Resume → Sem PySem.Fin := fun _ => .unsupported ""
def OnlyRet (fs : List Frame) : Prop := ∀ f ∈ fs, ∃ k h g l c p kp, f = .ret k h g l c p kp
theorem OnlyRet.nil : OnlyRet [] := fun f h => by cases h
theorem OnlyRet.split : ∀ {fs : List Frame}, OnlyRet fs → splitAtGen fs = none
  | [], _ => rfl
  | f :: r, h => by
    obtain ⟨k, hh, g, l, c, p, kp, rfl⟩ := h f List.mem_cons_self
    show (splitAtGen r).map _ = none
    rw [OnlyRet.split (fs := r) fun f' h' => h f' (List.mem_cons_of_mem _ h')]
    rfl
theorem OnlyRet.append {a b : List Frame} (h : OnlyRet a) (h' : OnlyRet b) : OnlyRet (a ++ b) := fun f hf => by
  rcases List.mem_append.mp hf with q | q
  · exact h f q
  · exact h' f q
theorem OnlyRet.tail {f : Frame} {r : List Frame} (h : OnlyRet (f :: r)) : OnlyRet r := fun f' h' => h f' (List.mem_cons_of_mem _ h')
theorem OnlyRet.one {k h g l c p kp} : OnlyRet [.ret k h g l c p kp] := fun f hf => by
  rw [List.mem_singleton.mp hf]
  exact ⟨k, h, g, l, c, p, kp, rfl⟩
def Clean : GenState → Prop
  | .suspended _ _ _ _ fs _ => OnlyRet fs
  | _ => True
def EClean : End → Prop
  | .susp _ _ _ _ _ _ fs => OnlyRet fs
  | _ => True
theorem EClean.gs {e : End} (h : EClean e) : Clean e.genState := by
  cases e with
  | ret r => trivial
  | susp v g l k c p fs => exact h
inductive GRel1 : GenState → GenState → Prop
  | same {x : GenState} (h : Clean x) : GRel1 x x
  | poi {l c p fs cl k} : GRel1 (.suspended bad l c p fs cl) (.suspended k l c p fs cl)
theorem GRel1.seen {x y : GenState} (h : GRel1 x y) : y.seen = x.seen := by cases h <;> rfl
theorem GRel1.bare {x y : GenState} (h : GRel1 x y) (hx : x.bare = true) : y.bare = true := by cases h <;> exact hx
structure GRel (a b : Array GenState) : Prop where
  size : a.size = b.size
  at_ : ∀ (i : Nat) (x : GenState), a[i]? = some x → ∃ y : GenState, b[i]? = some y ∧ GRel1 x y
def Kept (a b a' b' : Array GenState) : Prop := ∀ (i : Nat) l c p fs cl, a[i]? = some (.suspended bad l c p fs cl) → a'[i]? = a[i]? ∧ b'[i]? = b[i]?
theorem Kept.refl {a b : Array GenState} : Kept a b a b := fun _ _ _ _ _ _ _ => ⟨rfl, rfl⟩
theorem Kept.trans {a b a' b' a2 b2 : Array GenState} (h : Kept a b a' b') (h' : Kept a' b' a2 b2) : Kept a b a2 b2 := fun i l c p fs cl e => by
  obtain ⟨e1, e2⟩ := h i l c p fs cl e
  obtain ⟨e3, e4⟩ := h' i l c p fs cl (e1.trans e)
  exact ⟨e3.trans e1, e4.trans e2⟩
theorem GRel.set {a b : Array GenState} (h : GRel a b) (g : Nat) {x : GenState} (hx : Clean x) : GRel (a.setIfInBounds g x) (b.setIfInBounds g x) := by
  refine ⟨by simp [h.size], fun i y e => ?_⟩
  by_cases hi : i = g
  · subst hi
    by_cases hl : i < a.size
    · rw [Array.getElem?_setIfInBounds_self_of_lt hl] at e
      cases e
      exact ⟨x, by rw [Array.getElem?_setIfInBounds_self_of_lt (by rw [← h.size]; exact hl)], .same hx⟩
    · exfalso
      have : i < (a.setIfInBounds i x).size := (Array.getElem?_eq_some_iff.mp e).1
      simp at this
      omega
  · rw [Array.getElem?_setIfInBounds_ne (Ne.symm hi)] at e
    obtain ⟨z, h1, h2⟩ := h.at_ i y e
    exact ⟨z, by rw [Array.getElem?_setIfInBounds_ne (Ne.symm hi)]; exact h1, h2⟩
theorem GRel.push {a b : Array GenState} (h : GRel a b) {x : GenState} (hx : Clean x) : GRel (a.push x) (b.push x) := by
  refine ⟨by simp [h.size], fun i y e => ?_⟩
  rw [Array.getElem?_push] at e ⊢
  split at e
  · rename_i hi
    cases e
    exact ⟨x, by rw [if_pos (by rw [hi, h.size])], .same hx⟩
  · rename_i hi
    obtain ⟨z, h1, h2⟩ := h.at_ i y e
    exact ⟨z, by rw [if_neg (by rw [← h.size]; exact hi)]; exact h1, h2⟩
theorem kept_set {a b : Array GenState} {g : Nat} {x : GenState} (h : ∀ l c p fs cl, a[g]? ≠ some (GenState.suspended bad l c p fs cl)) : Kept a b (a.setIfInBounds g x) (b.setIfInBounds g x) := fun i l c p fs cl e => by
  have hi : i ≠ g := fun z => h _ _ _ _ _ (z ▸ e)
  exact ⟨Array.getElem?_setIfInBounds_ne (Ne.symm hi), Array.getElem?_setIfInBounds_ne (Ne.symm hi)⟩
theorem kept_push {a b : Array GenState} (hs : a.size = b.size) {x : GenState} : Kept a b (a.push x) (b.push x) := fun i l c p fs cl e => by
  have hi : i < a.size := (Array.getElem?_eq_some_iff.mp e).1
  refine ⟨?_, ?_⟩
  · rw [Array.getElem?_push, if_neg (by omega)]
  · rw [Array.getElem?_push, if_neg (by omega)]
def RunK (a a' : Array GenState) : Prop := ∀ i : Nat, a[i]? = some GenState.running → a'[i]? = some GenState.running
theorem RunK.refl {a : Array GenState} : RunK a a := fun _ h => h
theorem RunK.trans {a b c : Array GenState} (h : RunK a b) (h' : RunK b c) : RunK a c := fun i e => h' i (h i e)
theorem RunK.set {a : Array GenState} {g : Nat} {x : GenState} (h : a[g]? ≠ some GenState.running) : RunK a (a.setIfInBounds g x) := fun i e => by
  have hi : i ≠ g := fun z => h (z ▸ e)
  rw [Array.getElem?_setIfInBounds_ne (Ne.symm hi)]
  exact e
theorem RunK.push {a : Array GenState} {x : GenState} : RunK a (a.push x) := fun i e => by
  have hi : i < a.size := (Array.getElem?_eq_some_iff.mp e).1
  rw [Array.getElem?_push, if_neg (by omega)]
  exact e
/-- woken, run, asleep again -/
theorem RunK.turn {a b : Array GenState} {g : Nat} {x : GenState} (h : a[g]? ≠ some GenState.running) (k : RunK (a.setIfInBounds g .running) b) : RunK a (b.setIfInBounds g x) := fun i e => by
  have hi : i ≠ g := fun z => h (z ▸ e)
  rw [Array.getElem?_setIfInBounds_ne (Ne.symm hi)]
  refine k i ?_
  rw [Array.getElem?_setIfInBounds_ne (Ne.symm hi)]
  exact e
theorem nobad {a : Array GenState} {g : Nat} {c0 : Code} (h : a[g]? = some (GenState.fresh c0)) : ∀ l c p fs cl, a[g]? ≠ some (GenState.suspended bad l c p fs cl) := fun _ _ _ _ _ z => by rw [h] at z; cases z
theorem norun {a : Array GenState} {g : Nat} {c0 : Code} (h : a[g]? = some (GenState.fresh c0)) : a[g]? ≠ some GenState.running := fun z => by rw [h] at z; cases z
theorem no_unsup {M : Model} {w : String} {Γ : Ctx} {p : Pos} {t : Sem PySem.Fin} {fs : List Frame} {s s' : Shared} {e : End} (h : Runs M Γ p t fs s e s') : t ≠ .unsupported w := by
  induction h <;> first | (intro z; cases z; done) | assumption
/-- what stands in the place of g is not touched, whatever it is -/
theorem runs_rel {M : Model} {Γ : Ctx} {p : Pos} {t : Sem PySem.Fin} {fs : List Frame} {s s' : Shared} {e : End} (h : Runs M Γ p t fs s e s') : OnlyRet fs → ∀ G, GRel s.gens G →
    ∃ G', Runs M Γ p t fs { s with gens := G } e { s' with gens := G' } ∧ GRel s'.gens G' ∧ Kept s.gens G s'.gens G' ∧ EClean e ∧ RunK s.gens s'.gens := by
  induction h with
  | done => exact fun _ G r => ⟨G, .done, r, .refl, trivial, .refl⟩
  | raise => exact fun _ G r => ⟨G, .raise, r, .refl, trivial, .refl⟩
  | again hq _ ih => exact fun hf G r => let ⟨G', h1, h2⟩ := ih hf G r; ⟨G', .again hq h1, h2⟩
  | rule _ ih => exact fun hf G r => let ⟨G', h1, h2⟩ := ih hf G r; ⟨G', .rule h1, h2⟩
  | «at» _ ih => exact fun hf G r => let ⟨G', h1, h2⟩ := ih hf G r; ⟨G', .at h1, h2⟩
  | load ho _ ih => exact fun hf G r => let ⟨G', h1, h2⟩ := ih hf G r; ⟨G', .load ho h1, h2⟩
  | update ha _ ih => exact fun hf G r => let ⟨G', h1, h2⟩ := ih hf G r; ⟨G', .update ha h1, h2⟩
  | loadIfAlive _ ih => exact fun hf G r => let ⟨G', h1, h2⟩ := ih hf G r; ⟨G', .loadIfAlive h1, h2⟩
  | point _ ih => exact fun hf G r => let ⟨G', h1, h2⟩ := ih hf G r; ⟨G', .point h1, h2⟩
  | alloc _ ih => exact fun hf G r => let ⟨G', h1, h2⟩ := ih hf G r; ⟨G', .alloc h1, h2⟩
  | fresh _ ih => exact fun hf G r => let ⟨G', h1, h2⟩ := ih hf G r; ⟨G', .fresh h1, h2⟩
  | ask _ ih => exact fun hf G r => let ⟨G', h1, h2⟩ := ih hf G r; ⟨G', .ask h1, h2⟩
  | choose hn _ ih => exact fun hf G r => let ⟨G', h1, h2⟩ := ih hf G r; ⟨G', .choose hn h1, h2⟩
  | os _ ih => exact fun hf G r => let ⟨G', h1, h2⟩ := ih hf G r; ⟨G', .os h1, h2⟩
  | handled _ ih => exact fun hf G r => let ⟨G', h1, h2⟩ := ih hf G r; ⟨G', .handled h1, h2⟩
  | genState hg _ ih =>
    intro hf G r
    obtain ⟨y, hy, q⟩ := r.at_ _ _ hg
    obtain ⟨G', h1, h2⟩ := ih hf G r
    exact ⟨G', .genState (st := y) hy (by rw [q.seen]; exact h1), h2⟩
  | stack _ ih => exact fun hf G r => let ⟨G', h1, h2⟩ := ih hf G r; ⟨G', .stack h1, h2⟩
  | thread _ ih => exact fun hf G r => let ⟨G', h1, h2⟩ := ih hf G r; ⟨G', .thread h1, h2⟩
  | newGen _ ih =>
    intro hf G r
    obtain ⟨G', h1, h2, h3, h4, h5⟩ := ih hf (G.push _) (r.push trivial)
    refine ⟨G', .newGen ?_, h2, (kept_push r.size).trans h3, h4, RunK.push.trans h5⟩
    have e := r.size
    simp only [← e]
    exact h1
  | call _ _ ih1 ih2 =>
    intro hf G r
    obtain ⟨G1, a1, a2, a3, _, a5⟩ := ih1 .nil G r
    obtain ⟨G2, b1, b2, b3, b4, b5⟩ := ih2 hf G1 a2
    exact ⟨G2, .call a1 b1, b2, a3.trans b3, b4, a5.trans b5⟩
  | callSusp _ ih =>
    intro hf G r
    obtain ⟨G1, a1, a2, a3, a4, a5⟩ := ih .nil G r
    exact ⟨G1, .callSusp a1, a2, a3, OnlyRet.append a4 .one, a5⟩
  | yield => exact fun _ G r => ⟨G, .yield, r, .refl, OnlyRet.nil, .refl⟩
  | @resumeFresh Γ p g l k s c e1 s1 e s' hg h1 hq h2 ih1 ih2 =>
    intro hf G r
    obtain ⟨y, hy, q⟩ := r.at_ _ _ hg
    cases q
    have hk : ∀ l c p fs cl, s.gens[g]? ≠ some (GenState.suspended bad l c p fs cl) := fun _ _ _ _ _ z => by rw [hg] at z; cases z
    have hn : s.gens[g]? ≠ some GenState.running := fun z => by rw [hg] at z; cases z
    obtain ⟨G1, a1, a2, a3, a4, a5⟩ := ih1 .nil (G.setIfInBounds g .running) (r.set g trivial)
    have hlt : g < s.gens.size := (Array.getElem?_eq_some_iff.mp hg).1
    have hr1 : s1.gens[g]? = some GenState.running := a5 g (Array.getElem?_setIfInBounds_self_of_lt hlt)
    have hk1 : ∀ l c p fs cl, s1.gens[g]? ≠ some (GenState.suspended bad l c p fs cl) := fun l c p fs cl z => by rw [hr1] at z; cases z
    obtain ⟨G2, b1, b2, b3, b4, b5⟩ := ih2 hf (G1.setIfInBounds g e1.genState) (a2.set g a4.gs)
    exact ⟨G2, .resumeFresh hy a1 hq b1, b2, (kept_set hk).trans (a3.trans (Kept.trans (kept_set hk1) b3)), b4, (RunK.turn hn a5).trans b5⟩
  | @resumeSuspended Γ p g r0 l k s k0 l0 c0 p0 fs cl e1 s1 e s' hg h1 hq h2 ih1 ih2 =>
    intro hf G r
    obtain ⟨y, hy, q⟩ := r.at_ _ _ hg
    have nb : k0 ≠ bad := fun z => no_unsup h1 (by rw [z]; rfl)
    have hk : ∀ l c p fs cl, s.gens[g]? ≠ some (GenState.suspended bad l c p fs cl) := fun _ _ _ _ _ z => by rw [hg] at z; injection z with z; injection z with z; exact nb z
    have hn : s.gens[g]? ≠ some GenState.running := fun z => by rw [hg] at z; cases z
    cases q with
    | poi => exact absurd rfl nb
    | same hcl =>
      obtain ⟨G1, a1, a2, a3, a4, a5⟩ := ih1 hcl (G.setIfInBounds g .running) (r.set g trivial)
      have hlt : g < s.gens.size := (Array.getElem?_eq_some_iff.mp hg).1
      have hr1 : s1.gens[g]? = some GenState.running := a5 g (Array.getElem?_setIfInBounds_self_of_lt hlt)
      have hk1 : ∀ l c p fs cl, s1.gens[g]? ≠ some (GenState.suspended bad l c p fs cl) := fun l c p fs cl z => by rw [hr1] at z; cases z
      obtain ⟨G2, b1, b2, b3, b4, b5⟩ := ih2 hf (G1.setIfInBounds g e1.genState) (a2.set g a4.gs)
      exact ⟨G2, .resumeSuspended hy a1 hq b1, b2, (kept_set hk).trans (a3.trans (Kept.trans (kept_set hk1) b3)), b4, (RunK.turn hn a5).trans b5⟩
  | resumeJustStarted hg hv _ ih =>
    intro hf G r
    obtain ⟨y, hy, q⟩ := r.at_ _ _ hg
    cases q
    obtain ⟨G', h1, h2⟩ := ih hf G r
    exact ⟨G', .resumeJustStarted hy hv h1, h2⟩
  | resumeThrowFresh hg h1 ih =>
    intro hf G r
    obtain ⟨y, hy, q⟩ := r.at_ _ _ hg
    cases q
    obtain ⟨G', h1, h2, h3, h4, h5⟩ := ih hf (G.setIfInBounds _ .finished) (r.set _ trivial)
    exact ⟨G', .resumeThrowFresh hy h1, h2, (kept_set (nobad hg)).trans h3, h4, (RunK.set (norun hg)).trans h5⟩
  | resumeRunning hg _ ih =>
    intro hf G r
    obtain ⟨y, hy, q⟩ := r.at_ _ _ hg
    cases q
    obtain ⟨G', h1, h2⟩ := ih hf G r
    exact ⟨G', .resumeRunning hy h1, h2⟩
  | resumeFinished hg _ ih =>
    intro hf G r
    obtain ⟨y, hy, q⟩ := r.at_ _ _ hg
    cases q
    obtain ⟨G', h1, h2⟩ := ih hf G r
    exact ⟨G', .resumeFinished hy h1, h2⟩
  | segRet _ _ ih1 ih2 =>
    intro hf G r
    obtain ⟨G1, a1, a2, a3, a4, a5⟩ := ih1 .nil G r
    obtain ⟨G2, b1, b2, b3, b4, b5⟩ := ih2 hf.tail G1 a2
    exact ⟨G2, .segRet a1 b1, b2, a3.trans b3, b4, a5.trans b5⟩
  | segGen _ _ _ _ =>
    intro hf
    obtain ⟨_, _, _, _, _, _, _, z⟩ := hf _ List.mem_cons_self
    cases z
  | segSuspOut hsp _ ih =>
    intro hf G r
    obtain ⟨G1, a1, a2, a3, a4, a5⟩ := ih .nil G r
    exact ⟨G1, .segSuspOut hsp a1, a2, a3, OnlyRet.append a4 hf, a5⟩
  | segSuspGen hsp _ _ _ _ _ =>
    intro hf
    rw [hf.split] at hsp
    cases hsp
theorem returns_rel {M : Model} {Γ : Ctx} {p : Pos} {s s' : Shared} {r : Result} (h : Returns M Γ p s r s') {G : Array GenState} (q : GRel s.gens G) :
    ∃ G', Returns M Γ p { s with gens := G } r { s' with gens := G' } ∧ GRel s'.gens G' ∧ Kept s.gens G s'.gens G' := let ⟨G', h1, h2, h3, _⟩ := runs_rel h .nil G q; ⟨G', h1, h2, h3⟩
theorem wakes_rel {M : Model} {Γ : Ctx} {p : Pos} {g : Nat} {r : Resume} {s s' : Shared} {res : GenResult} (h : Wakes M Γ p g r s res s') {G : Array GenState} (q : GRel s.gens G) :
    ∃ G', Wakes M Γ p g r { s with gens := G } res { s' with gens := G' } ∧ GRel s'.gens G' ∧ Kept s.gens G s'.gens G' := by
  unfold Wakes at h ⊢
  split at h
  · exact h.elim
  · rename_i c hg
    obtain ⟨y, hy, z⟩ := q.at_ _ _ hg
    cases z
    have hlt : g < s.gens.size := (Array.getElem?_eq_some_iff.mp hg).1
    split at h
    · obtain ⟨e1, s1, h1, hq, hr, rfl⟩ := h
      obtain ⟨G1, a1, a2, a3, a4, a5⟩ := runs_rel h1 .nil (G.setIfInBounds g .running) (q.set g trivial)
      have hr1 : s1.gens[g]? = some GenState.running := a5 g (Array.getElem?_setIfInBounds_self_of_lt hlt)
      have hk1 : ∀ l c p fs cl, s1.gens[g]? ≠ some (GenState.suspended bad l c p fs cl) := fun l c p fs cl z => by rw [hr1] at z; cases z
      refine ⟨G1.setIfInBounds g e1.genState, ?_, a2.set g a4.gs, (kept_set (nobad hg)).trans (a3.trans (kept_set hk1))⟩
      simp only [hy]
      exact ⟨e1, _, a1, hq, hr, rfl⟩
    · obtain ⟨hr, rfl⟩ := h
      refine ⟨G, ?_, q, .refl⟩
      simp only [hy]
      exact ⟨hr, trivial⟩
    · obtain ⟨hr, rfl⟩ := h
      refine ⟨G.setIfInBounds g .finished, ?_, q.set g trivial, kept_set (nobad hg)⟩
      simp only [hy]
      exact ⟨hr, rfl⟩
  · rename_i k0 l0 c0 p0 fs cl hg
    obtain ⟨e1, s1, h1, hq, hr, rfl⟩ := h
    obtain ⟨y, hy, z⟩ := q.at_ _ _ hg
    have hlt : g < s.gens.size := (Array.getElem?_eq_some_iff.mp hg).1
    have nb : k0 ≠ bad := fun z => no_unsup h1 (by rw [z]; rfl)
    have hk : ∀ l c p fs cl, s.gens[g]? ≠ some (GenState.suspended bad l c p fs cl) := fun _ _ _ _ _ z => by rw [hg] at z; injection z with z; injection z with z; exact nb z
    cases z with
    | poi => exact absurd rfl nb
    | same hcl =>
      obtain ⟨G1, a1, a2, a3, a4, a5⟩ := runs_rel h1 hcl (G.setIfInBounds g .running) (q.set g trivial)
      have hr1 : s1.gens[g]? = some GenState.running := a5 g (Array.getElem?_setIfInBounds_self_of_lt hlt)
      have hk1 : ∀ l c p fs cl, s1.gens[g]? ≠ some (GenState.suspended bad l c p fs cl) := fun l c p fs cl z => by rw [hr1] at z; cases z
      refine ⟨G1.setIfInBounds g e1.genState, ?_, a2.set g a4.gs, (kept_set hk).trans (a3.trans (kept_set hk1))⟩
      simp only [hy]
      exact ⟨e1, _, a1, hq, hr, rfl⟩
  · rename_i hg
    obtain ⟨hr, rfl⟩ := h
    obtain ⟨y, hy, z⟩ := q.at_ _ _ hg
    cases z
    refine ⟨G, ?_, q, .refl⟩
    simp only [hy]
    exact ⟨hr, trivial⟩
  · rename_i hg
    obtain ⟨hr, rfl⟩ := h
    obtain ⟨y, hy, z⟩ := q.at_ _ _ hg
    cases z
    refine ⟨G, ?_, q, .refl⟩
    simp only [hy]
    exact ⟨hr, trivial⟩
/-- beside generators that sleep -/
theorem wp_rel {α : Type} (M : Model) (Γ : Ctx) (t : Sem α) : ∀ (Q : α → Pos → Shared → Prop) (E : Value → Pos → Shared → Prop) (p : Pos) (s : Shared) (G : Array GenState), GRel s.gens G → wp M Γ t Q E p s →
    wp M Γ t (fun a p' s' => ∃ (s2 : Shared) (G' : Array GenState), s' = { s2 with gens := G' } ∧ GRel s2.gens G' ∧ Kept s.gens G s2.gens G' ∧ Q a p' s2) (fun e p' s' => ∃ (s2 : Shared) (G' : Array GenState), s' = { s2 with gens := G' } ∧ GRel s2.gens G' ∧ Kept s.gens G s2.gens G' ∧ E e p' s2) p { s with gens := G } := by
  induction t with
  | pure a => intro Q E p s G q h; exact ⟨s, G, rfl, q, .refl, h⟩
  | raise e => intro Q E p s G q h; exact ⟨s, G, rfl, q, .refl, h⟩
  | unsupported _ => intro Q E p s G _ h; exact h
  | finish _ => intro Q E p s G _ h; exact h
  | rule _ k ih => intro Q E p s G q h; exact ih () Q E p s G q h
  | «at» p' k ih => intro Q E p s G q h; exact ih () Q E p' s G q h
  | load a _ k ih => intro Q E p s G q h; obtain ⟨o, ho, h⟩ := h; exact ⟨o, ho, ih o Q E p s G q h⟩
  | update a _ f k ih => intro Q E p s G q h; exact ⟨h.1, ih () Q E p { s with heap := s.heap.update a f } G q h.2⟩
  | loadIfAlive a k ih => intro Q E p s G q h; exact ih _ Q E p s G q h
  | point _ k ih => intro Q E p s G q h; exact ih () Q E p s G q h
  | register _ _ => intro Q E p s G _ h; exact h
  | alloc o k ih => intro Q E p s G q h; exact ih _ Q E p { s with heap := s.heap.push o } G q h
  | fresh k ih => intro Q E p s G q h; exact ih _ Q E p { s with toks := s.toks + 1 } G q h
  | ask k ih => intro Q E p s G q h; exact ih _ Q E p s G q h
  | choose src m k ih => intro Q E p s G q h; exact ⟨h.1, ih _ Q E p { s with drawn := s.drawn.bump src } G q h.2⟩
  | os qq _ k ih => intro Q E p s G q h; exact ih _ Q E p { s with os := (Os.step s.os qq).1 } G q h
  | call c hd _ _ k ih =>
    intro Q E p s G q h
    obtain ⟨r, s', hr, h⟩ := h
    obtain ⟨G', h1, h2, h3⟩ := returns_rel hr q
    refine ⟨r, _, h1, Sem.wp_mono M _ _ ?_ ?_ _ _ (ih r Q E p s' G' h2 h)⟩
    · rintro a p' s'' ⟨s2, G2, e, b1, b2, b3⟩
      exact ⟨s2, G2, e, b1, h3.trans b2, b3⟩
    · rintro a p' s'' ⟨s2, G2, e, b1, b2, b3⟩
      exact ⟨s2, G2, e, b1, h3.trans b2, b3⟩
  | handled own k ih => intro Q E p s G q h; exact ih _ Q E p s G q h
  | genState g k ih =>
    intro Q E p s G q h
    obtain ⟨st, hs, h⟩ := h
    obtain ⟨y, hy, z⟩ := q.at_ _ _ hs
    exact ⟨y, hy, by rw [z.seen]; exact ih _ Q E p s G q h⟩
  | newGen c k ih =>
    intro Q E p s G q h
    have := ih s.gens.size Q E p { s with gens := s.gens.push (.fresh c) } (G.push (.fresh c)) (q.push trivial) h
    show wp M Γ (k G.size) _ _ p _
    rw [← q.size]
    refine Sem.wp_mono M _ _ ?_ ?_ _ _ this
    · rintro a p' s'' ⟨s2, G2, e, b1, b2, b3⟩
      exact ⟨s2, G2, e, b1, (kept_push q.size).trans b2, b3⟩
    · rintro a p' s'' ⟨s2, G2, e, b1, b2, b3⟩
      exact ⟨s2, G2, e, b1, (kept_push q.size).trans b2, b3⟩
  | resume g r _ k ih =>
    intro Q E p s G q h
    obtain ⟨res, s', hw, h⟩ := h
    obtain ⟨G', h1, h2, h3⟩ := wakes_rel hw q
    refine ⟨res, _, h1, Sem.wp_mono M _ _ ?_ ?_ _ _ (ih res Q E p s' G' h2 h)⟩
    · rintro a p' s'' ⟨s2, G2, e, b1, b2, b3⟩
      exact ⟨s2, G2, e, b1, h3.trans b2, b3⟩
    · rintro a p' s'' ⟨s2, G2, e, b1, b2, b3⟩
      exact ⟨s2, G2, e, b1, h3.trans b2, b3⟩
  | yield _ _ _ _ => intro Q E p s G _ h; exact h
  | stack k ih => intro Q E p s G q h; exact ih _ Q E p s G q h
  | fork _ _ => intro Q E p s G _ h; exact h
  | thread k ih => intro Q E p s G q h; exact ih _ Q E p s G q h
  | await _ _ _ _ _ => intro Q E p s G _ h; exact h
/-- all that sleeps can not be woken -/
def asleep : GenState → GenState
  | .suspended _ l c p fs cl => .suspended bad l c p fs cl
  | x => x
theorem asleep_rel (x : GenState) : GRel1 (asleep x) x := by
  cases x with
  | suspended k l c p fs cl => exact .poi
  | fresh c => exact .same trivial
  | running => exact .same trivial
  | finished => exact .same trivial
theorem map_rel (G : Array GenState) : GRel (G.map asleep) G := by
  refine ⟨by simp, fun i x e => ?_⟩
  rw [Array.getElem?_map] at e
  obtain ⟨y, hy, rfl⟩ := Option.map_eq_some_iff.mp e
  exact ⟨y, hy, asleep_rel y⟩
theorem bare_asleep {x : GenState} (h : x.bare = true) : (asleep x).bare = true := by cases x <;> exact h
theorem bare_rel {a b : Array GenState} (h : GRel a b) (ha : ∀ x ∈ a, x.bare = true) : ∀ y ∈ b, y.bare = true := by
  intro y hy
  obtain ⟨i, hi, rfl⟩ := Array.mem_iff_getElem.mp hy
  have hi' : i < a.size := by rw [h.size]; exact hi
  obtain ⟨z, h1, h2⟩ := h.at_ i a[i] (Array.getElem?_eq_getElem hi')
  rw [Array.getElem?_eq_getElem hi] at h1
  cases h1
  exact h2.bare (ha _ (Array.getElem_mem hi'))
theorem wpAny_rel {α : Type} {M : Model} {A : Around} {s : Shared} {t : Sem α} {Q : α → Shared → Prop} {E : Value → Shared → Prop} {G : Array GenState} (r : GRel s.gens G) (h : wpAny M A t Q E s) :
    wpAny M A t (fun a s' => ∃ (s2 : Shared) (G' : Array GenState), s' = { s2 with gens := G' } ∧ GRel s2.gens G' ∧ Kept s.gens G s2.gens G' ∧ Q a s2) (fun e s' => ∃ (s2 : Shared) (G' : Array GenState), s' = { s2 with gens := G' } ∧ GRel s2.gens G' ∧ Kept s.gens G s2.gens G' ∧ E e s2) { s with gens := G } := fun Γ p0 hΓ =>
  wp_rel M Γ t _ _ p0 s G r (h Γ p0 hΓ)
theorem wpAny_sleeps {α : Type} {M : Model} {A : Around} {s : Shared} {t : Sem α} {Q : α → Shared → Prop} {E : Value → Shared → Prop} {g : Nat} {k l c p fs cl} (hg : s.gens[g]? = some (GenState.suspended k l c p fs cl))
    (h : wpAny M A t Q E { s with gens := s.gens.map asleep }) : wpAny M A t (fun a s' => ∃ (s2 : Shared) (G' : Array GenState), s' = { s2 with gens := G' } ∧ GRel s2.gens G' ∧ G'[g]? = some (GenState.suspended k l c p fs cl) ∧ Q a s2) (fun e s' => ∃ (s2 : Shared) (G' : Array GenState), s' = { s2 with gens := G' } ∧ GRel s2.gens G' ∧ E e s2) s := by
  intro Γ p0 hΓ
  have := wp_rel M Γ t _ _ p0 { s with gens := s.gens.map asleep } s.gens (map_rel _) (h Γ p0 hΓ)
  refine Sem.wp_mono M _ _ ?_ ?_ _ _ this
  · rintro a p' s' ⟨s2, G', e, r, kp, q⟩
    refine ⟨s2, G', e, r, ?_, q⟩
    have := (kp g l c p fs cl (by
      show (s.gens.map asleep)[g]? = _
      rw [Array.getElem?_map, hg]
      rfl)).2
    rw [this]
    exact hg
  · rintro a p' s' ⟨s2, G', e, r, kp, q⟩
    exact ⟨s2, G', e, r, q⟩
end GenP

/-! GB -/
set_option maxHeartbeats 4000000
/-! a generator's body, anchored anew at each waking -/
namespace Bh
open PySem PySem.Spec PyProof.Rows L2
/-! ### a heap cut off -/
def cut (h : Heap) (n : Nat) : Heap := { h with objs := h.objs.extract 0 n }
theorem cut_at (h : Heap) (n b : Nat) : (cut h n).objs[b]? = if b < n then h.objs[b]? else none := by
  show (h.objs.extract 0 n)[b]? = _
  rw [Array.getElem?_extract]
  simp only [Nat.zero_add, Nat.sub_zero]
  by_cases hb : b < n
  · rw [if_pos hb]
    by_cases h2 : b < h.objs.size
    · rw [if_pos (by omega)]
    · rw [if_neg (by omega)]
      simp; omega
  · rw [if_neg hb, if_neg (by omega)]
theorem cut_get {h : Heap} {n b : Nat} {o : Obj} (e : h.get? b = some o) (hb : b < n) : (cut h n).get? b = some o := by
  unfold Heap.get? at e ⊢
  rw [cut_at, if_pos hb]
  exact e
theorem of_cut {h : Heap} {n b : Nat} {o : Obj} (e : (cut h n).get? b = some o) : h.get? b = some o ∧ b < n := by
  unfold Heap.get? at e ⊢
  rw [cut_at] at e
  by_cases hb : b < n
  · rw [if_pos hb] at e
    exact ⟨e, hb⟩
  · rw [if_neg hb] at e
    cases e
theorem cut_size {h : Heap} {n : Nat} (hn : n ≤ h.objs.size) : (cut h n).objs.size = n := by
  show (h.objs.extract 0 n).size = n
  simp
  omega
theorem cut_frames {h base : Heap} {n : Nat} : ∀ {l : List Env}, h.FunFrames base l → (∀ b ∈ frs l, b < n) → (cut h n).FunFrames base l
  | [], _, _ => trivial
  | env :: r, hf, hl => by
    obtain ⟨k, ⟨L, o, e1, e2, e3, e4⟩, hr⟩ := hf
    have hm : L ∈ frs (env :: r) := by
      unfold frs
      rw [List.filterMap_cons, e1]
      exact List.mem_cons_self
    refine ⟨k, ⟨L, o, e1, e2, cut_get e3 (hl L hm), e4⟩, cut_frames hr fun b hb => hl b ?_⟩
    unfold frs at hb ⊢
    rw [List.filterMap_cons, e1]
    exact List.mem_cons_of_mem _ hb
/-! ### the context -/
structure GS0 where
  P : Program
  w : World
  K : PySem.W.Frag
  mg : Str → Option Value
  base : Heap
  N : List Str
  env : Env
  A : Around
  outer : List Env
def GS0.cx (G : GS0) (s : Shared) (H : Hp) : Cx where
  prog := G.P
  w := G.w
  K := G.K
  mg := G.mg
  base := G.base
  A := G.A.deeper G.env
  N := G.N
  s_0 := { s with heap := cut s.heap G.env.locals }
  H_0 := H
  env := G.env
  outer := G.outer
  stack := G.env :: G.outer
  ex := []
  calm := true
  fn := fun _ => true
  pn := []
  xe := fun _ _ => False
abbrev GS0.L (G : GS0) : Addr := G.env.locals
/-- what never changes -/
structure GS0.Ok (G : GS0) : Prop where
  mod : Mod G.K G.mg G.base
  kind : G.env.scope.kind = .function
  glob : G.env.globals = mainGlobals
  blt : G.env.builtins = builtinsNs
  cells : G.env.cells = []
  kinds : ∀ x, ¬ (G.env.kindOf x = some .cell ∨ G.env.kindOf x = some .free)
  frame : G.env.frame = some G.env.locals
  hd : G.A.handled = none
  fr : G.A.frames = some G.outer
  bsz : G.base.objs.size ≤ G.env.locals
  fl : ∀ b ∈ frs G.outer, b < G.env.locals
  fb : ∀ b ∈ frs G.outer, G.base.get? b = none
/-- the frame holds these -/
def GS0.Fr (G : GS0) (h : Heap) (σ : L2.St) : Prop := ∃ m, h.Ns G.env.locals m ∧ ∀ (i : Nat) (x : Str) (v : V), G.N[i]? = some x → σ[i]? = some (some v) → Vis G.env.scope x → ∃ u, RelV v u ∧ G.env.kindOf x = some .local ∧ m x = some u
theorem GS0.Fr.keep {G : GS0} {h h' : Heap} {σ : L2.St} (f : G.Fr h σ) (k : ∀ o, h.get? G.env.locals = some o → h'.get? G.env.locals = some o) : G.Fr h' σ := by
  obtain ⟨m, ⟨o, es, ep, e1, e2⟩, hl⟩ := f
  exact ⟨m, ⟨o, es, ep, k o e1, e2⟩, hl⟩
theorem GS0.fr_of {G : GS0} (O : G.Ok) {s0 s : Shared} {H0 H : Hp} {pins : List (Addr × Obj)} {σ : L2.St} (I : Inv (G.cx s0 H0) pins σ H s) : G.Fr s.heap σ := by
  obtain ⟨m, hn, hl⟩ := I.loc
  refine ⟨m, hn, fun i x v h1 h2 h3 => ?_⟩
  obtain ⟨u, ru, hk⟩ := hl i x v h1 h2 h3
  rcases hk with ⟨k, e⟩ | ⟨k, _⟩
  · exact ⟨u, ru, k, e⟩
  · exact absurd k (O.kinds x)
theorem GS0.inv {G : GS0} (O : G.Ok) {s : Shared} {H : Hp} {σ : L2.St} (hb : ∀ b o, G.base.get? b = some o → s.heap.get? b = some o ∧ H b = none) (funs : s.heap.FunFrames G.base G.outer) (hf : ∀ b ∈ frs G.outer, H b = none)
    (hg : AllBare s.gens) (loc : G.Fr s.heap σ) (hL : H G.env.locals = none) (hok : HOk G.P G.w H s.heap) (len : σ.length = G.N.length) : Inv (G.cx s H) [] σ H s := by
  have hlt : G.env.locals ≤ s.heap.objs.size := Nat.le_of_lt (let ⟨_, hn, _⟩ := loc; hn.lt)
  have noA : ∀ b : Addr, b ∉ (G.cx s H).ex := fun b z => absurd (show b ∈ ([] : List Addr) from z) (by simp)
  have noC : ∀ (x : Str) (c : Addr), G.env.cells.lookup x ≠ some c := fun x c => by rw [O.cells]; intro z; cases z
  refine ⟨⟨O.mod, O.kind, O.glob, O.blt, ?_, fun x y c e => absurd e (noC x c), fun x hx => absurd hx (O.kinds x), fun x c _ e => absurd e (noC x c), fun _ => O.hd, Around.frames_deeper O.fr, .inr ⟨rfl, O.frame⟩, fun b z => absurd z (noA b), fun b o e => ?_, ?_, fun b _ _ => noA b, fun b z => absurd z (noA b), cut_frames funs O.fl, hf⟩,
    rfl, hg, Un.kept fun b u e => (of_cut e).1, ?_, fun x c e => absurd e (noC x c), hL, fun x c e => absurd e (noC x c), fun p hp => absurd hp (by simp [GS0.cx]), hok, len⟩
  · show (cut s.heap G.env.locals).objs.size ≤ _
    rw [cut_size hlt]
    exact Nat.le_refl _
  · exact ⟨cut_get (hb b o e).1 (Nat.lt_of_lt_of_le (Heap.lt_size e) O.bsz), (hb b o e).2⟩
  · show G.base.objs.size ≤ (cut s.heap G.env.locals).objs.size
    rw [cut_size hlt]
    exact O.bsz
  · obtain ⟨m, hn, hl⟩ := loc
    refine ⟨m, hn, fun i x v h1 h2 h3 => ?_⟩
    obtain ⟨u, ru, hk, e⟩ := hl i x v h1 h2 h3
    exact ⟨u, ru, .inl ⟨hk, e⟩⟩
/-! ### what is known at a waking: some things, and all other objects as they stand -/
def GS0.ban (G : GS0) (b : Addr) : Prop := b = G.env.locals ∨ b ∈ frs G.outer ∨ (∃ o, G.base.get? b = some o)
open Classical in
noncomputable def GS0.wakeH (G : GS0) (h : Heap) (Hk : Hp) : Hp := fun b => match Hk b with
  | some u => some u
  | none => if G.ban b then none else (h.get? b).map fun o => .frz o (.own 0)
theorem GS0.wakeH_k {G : GS0} {h : Heap} {Hk : Hp} {b : Addr} {u : HO} (e : Hk b = some u) : G.wakeH h Hk b = some u := by unfold GS0.wakeH; rw [e]
theorem GS0.wakeH_o {G : GS0} {h : Heap} {Hk : Hp} {b : Addr} {o : Obj} (e : Hk b = none) (hb : ¬ G.ban b) (g : h.get? b = some o) : G.wakeH h Hk b = some (.frz o (.own 0)) := by unfold GS0.wakeH; rw [e]; simp only; rw [if_neg hb, g]; rfl
theorem GS0.wakeH_ban {G : GS0} {h : Heap} {Hk : Hp} {b : Addr} (e : Hk b = none) (hb : G.ban b) : G.wakeH h Hk b = none := by unfold GS0.wakeH; rw [e]; simp only; rw [if_pos hb]
theorem GS0.wakeH_none {G : GS0} {h : Heap} {Hk : Hp} {b : Addr} (e : G.wakeH h Hk b = none) : Hk b = none ∧ (G.ban b ∨ h.get? b = none) := by
  unfold GS0.wakeH at e
  cases q : Hk b with
  | some u => rw [q] at e; cases e
  | none =>
    rw [q] at e
    simp only at e
    refine ⟨rfl, ?_⟩
    by_cases hb : G.ban b
    · exact .inl hb
    · rw [if_neg hb] at e
      exact .inr (Option.map_eq_none_iff.mp e)
/-- tuples that stand: their objects, what they hold -/
structure Tup1 where
  at_ : Addr
  obj : Obj
  xs : List V
def Tup1.ok (P : Program) (w : World) (t : Tup1) (h : Heap) : Prop := t.obj.dict = none ∧ ObjOk P w (fun _ => none) h t.at_ (.frz t.obj (.tup t.xs))
theorem frzT_ok {P : Program} {w : World} {H H' : Hp} {h : Heap} {a : Addr} {o : Obj} {xs : List V} (x : ObjOk P w H h a (.frz o (.tup xs))) : ObjOk P w H' h a (.frz o (.tup xs)) := x
theorem tup_ok {P : Program} {w : World} {H H' : Hp} {h : Heap} {a : Addr} {xs : List V} (x : ObjOk P w H h a (.tup xs)) : ObjOk P w H' h a (.tup xs) := x
theorem frzT_keep {P : Program} {w : World} {H H' : Hp} {h h' : Heap} {a : Addr} {o : Obj} {xs : List V} (x : ObjOk P w H h a (.frz o (.tup xs))) (k : h'.get? a = some o) : ObjOk P w H' h' a (.frz o (.tup xs)) := by
  obtain ⟨e, z, its, r, ob, e2, c⟩ := x
  rw [e] at e2
  cases e2
  exact ⟨k, z, its, r, _, k, c⟩
/-- a four's parts -/
structure FourP (K : PySem.W.Frag) where
  x : Addr
  dx : Addr
  t : Addr
  o : Obj
  ns : List Int
def FourP.hp {K : PySem.W.Frag} (F : FourP K) : Hp := fun b => if b = F.x then some (.ins (He.ga K "Four") F.dx [("bends", .ref F.t), ("total", .int F.ns.sum)]) else if b = F.dx then some (.own F.x) else if b = F.t then some (.frz F.o (.tup (vi F.ns))) else none
structure FourP.In {K : PySem.W.Frag} (F : FourP K) (H : Hp) : Prop where
  x : H F.x = some (.ins (He.ga K "Four") F.dx [("bends", .ref F.t), ("total", .int F.ns.sum)])
  dx : H F.dx = some (.own F.x)
  t : H F.t = some (.frz F.o (.tup (vi F.ns)))
  d : F.o.dict = none
theorem FourP.In.same {K : PySem.W.Frag} {F : FourP K} {H H' : Hp} (h : F.In H) (s : Same H H') : F.In H' := ⟨s _ _ h.x, s _ _ h.dx, s _ _ h.t, h.d⟩
theorem FourP.In.four {K : PySem.W.Frag} {F : FourP K} {H : Hp} (h : F.In H) : FourAt K H F.x F.ns := ⟨F.dx, F.t, h.x, F.o, h.d, h.t⟩
theorem FourP.In.nx {K : PySem.W.Frag} {F : FourP K} {H : Hp} (h : F.In H) : F.dx ≠ F.x ∧ F.t ≠ F.x ∧ F.t ≠ F.dx :=
  ⟨ne_of h.dx h.x (by intro z; cases z), ne_of h.t h.x (by intro z; cases z), ne_of h.t h.dx (by intro z; cases z)⟩
theorem FourP.In.sub {K : PySem.W.Frag} {F : FourP K} {H : Hp} (h : F.In H) {b : Addr} {u : HO} (e : F.hp b = some u) : H b = some u := by
  unfold FourP.hp at e
  split at e
  · rename_i z; rw [z, ← e]; exact h.x
  · split at e
    · rename_i z; rw [z, ← e]; exact h.dx
    · split at e
      · rename_i z; rw [z, ← e]; exact h.t
      · cases e
theorem FourP.In.self {K : PySem.W.Frag} {F : FourP K} {H : Hp} (h : F.In H) : F.In F.hp := by
  obtain ⟨n1, n2, n3⟩ := h.nx
  refine ⟨?_, ?_, ?_, h.d⟩
  · unfold FourP.hp; rw [if_pos rfl]
  · unfold FourP.hp; rw [if_neg n1, if_pos rfl]
  · unfold FourP.hp; rw [if_neg n2, if_neg n3, if_pos rfl]
theorem FourP.In.ok {K : PySem.W.Frag} {F : FourP K} {H : Hp} {P : Program} {w : World} {h : Heap} (i : F.In H) (x : HOk P w H h) : HOk P w F.hp h := fun b u e => by
  have q := x b u (i.sub e)
  unfold FourP.hp at e
  split at e
  · rename_i z
    cases e
    subst z
    obtain ⟨_, q⟩ := q
    exact ⟨i.self.dx, q⟩
  · split at e
    · cases e
      exact q
    · split at e
      · cases e
        exact frzT_ok q
      · cases e
theorem FourP.none_of {K : PySem.W.Frag} {F : FourP K} {H : Hp} (i : F.In H) {b : Addr} (e : H b = none) : F.hp b = none := by
  cases q : F.hp b with
  | none => rfl
  | some u => rw [i.sub q] at e; cases e
end Bh

/-! GC -/
set_option maxHeartbeats 4000000
/-! the fan: a generator without end -/
namespace Bh
open PySem PySem.Spec PyProof.Rows L2 GenW Bs
/-! ### what it hands out -/
def fq (ns : List Int) (i j lo hi : Nat) (k : Nat) : Int := fv (ns.getD i 0) (ns.getD j 0) (ns.getD lo 0) (ns.getD hi 0) k
/-- ahead of the exchange that gives the circle k + 2 -/
structure Cur (ns : List Int) (i j lo hi k : Nat) (at_ : Nat) (cur : List Int) : Prop where
  len : cur.length = 4
  ci : cur.getD i 0 = ns.getD i 0
  cj : cur.getD j 0 = ns.getD j 0
  at_ : (at_ = lo ∧ cur.getD lo 0 = fq ns i j lo hi k ∧ cur.getD hi 0 = fq ns i j lo hi (k + 1)) ∨ (at_ = hi ∧ cur.getD hi 0 = fq ns i j lo hi k ∧ cur.getD lo 0 = fq ns i j lo hi (k + 1))
theorem fq_next (ns : List Int) (i j lo hi k : Nat) : fq ns i j lo hi (k + 2) = 2 * (ns.getD i 0 + ns.getD j 0 + fq ns i j lo hi (k + 1)) - fq ns i j lo hi k := by
  unfold fq
  have := fv_next (a := ns.getD i 0) (b := ns.getD j 0) (c := ns.getD lo 0) (d := ns.getD hi 0) ((k : Int) + 1)
  rw [show ((k : Int) + 1 + 1) = ((k + 2 : Nat) : Int) by omega, show ((k : Int) + 1 - 1) = (k : Int) by omega, show ((k : Int) + 1) = ((k + 1 : Nat) : Int) by omega] at this
  exact this
theorem oth2_cases {i j lo hi : Nat} (hi4 : i < 4) (hj4 : j < 4) (hij : i ≠ j) (e : oth2 i j = [lo, hi]) : lo < 4 ∧ hi < 4 ∧ lo ≠ hi ∧ lo ≠ i ∧ lo ≠ j ∧ hi ≠ i ∧ hi ≠ j := by
  have : ∀ i j : Fin 4, i ≠ j → ∀ lo hi : Fin 4, oth2 i j = [lo.val, hi.val] → lo.val ≠ hi.val ∧ lo.val ≠ i.val ∧ lo.val ≠ j.val ∧ hi.val ≠ i.val ∧ hi.val ≠ j.val := by decide
  have hlo : lo ∈ oth2 i j := by rw [e]; simp
  have hhi : hi ∈ oth2 i j := by rw [e]; simp
  have l4 : lo < 4 := by simpa using (List.mem_filter.mp hlo).1
  have h4 : hi < 4 := by simpa using (List.mem_filter.mp hhi).1
  exact ⟨l4, h4, this ⟨i, hi4⟩ ⟨j, hj4⟩ (fun z => hij (congrArg Fin.val z)) ⟨lo, l4⟩ ⟨hi, h4⟩ e⟩
theorem oth2_two {i j : Nat} (hi4 : i < 4) (hj4 : j < 4) (hij : i ≠ j) : ∃ lo hi, oth2 i j = [lo, hi] := by
  have : ∀ i j : Fin 4, i ≠ j → ∃ lo hi : Fin 4, oth2 i j = [lo.val, hi.val] := by decide
  obtain ⟨lo, hi, e⟩ := this ⟨i, hi4⟩ ⟨j, hj4⟩ fun z => hij (congrArg Fin.val z)
  exact ⟨lo.val, hi.val, e⟩
theorem exch_getD {cur : List Int} {a b : Nat} (h4 : cur.length = 4) (ha : a < 4) (hb : b < 4) : (exch cur a).getD b 0 = if b = a then letIn cur a else cur.getD b 0 := by
  match cur, h4 with
  | [p, q, r, s], _ =>
    rcases (by omega : a = 0 ∨ a = 1 ∨ a = 2 ∨ a = 3) with rfl | rfl | rfl | rfl <;> rcases (by omega : b = 0 ∨ b = 1 ∨ b = 2 ∨ b = 3) with rfl | rfl | rfl | rfl <;> simp [exch, letIn]
theorem sum4 {cur : List Int} {i j lo hi : Nat} (h4 : cur.length = 4) (a : i < 4) (b : j < 4) (c : lo < 4) (d : hi < 4) (n1 : i ≠ j) (n2 : lo ≠ hi) (n3 : lo ≠ i) (n4 : lo ≠ j) (n5 : hi ≠ i) (n6 : hi ≠ j) :
    cur.sum = cur.getD i 0 + cur.getD j 0 + cur.getD lo 0 + cur.getD hi 0 := by
  match cur, h4 with
  | [p, q, r, s], _ =>
    rcases (by omega : i = 0 ∨ i = 1 ∨ i = 2 ∨ i = 3) with rfl | rfl | rfl | rfl <;> rcases (by omega : j = 0 ∨ j = 1 ∨ j = 2 ∨ j = 3) with rfl | rfl | rfl | rfl <;>
      first
      | (exfalso; exact n1 rfl)
      | (rcases (by omega : lo = 0 ∨ lo = 1 ∨ lo = 2 ∨ lo = 3) with rfl | rfl | rfl | rfl <;>
          first
          | (exfalso; exact n3 rfl)
          | (exfalso; exact n4 rfl)
          | (rcases (by omega : hi = 0 ∨ hi = 1 ∨ hi = 2 ∨ hi = 3) with rfl | rfl | rfl | rfl <;>
              first
              | (exfalso; exact n2 rfl)
              | (exfalso; exact n5 rfl)
              | (exfalso; exact n6 rfl)
              | (simp; omega)))
theorem Cur.step {ns : List Int} {i j lo hi k at_ : Nat} {cur : List Int} (hi4 : i < 4) (hj4 : j < 4) (hij : i ≠ j) (e : oth2 i j = [lo, hi]) (C : Cur ns i j lo hi k at_ cur) :
    at_ < 4 ∧ (exch cur at_).getD at_ 0 = fq ns i j lo hi (k + 2) ∧ Cur ns i j lo hi (k + 1) (if at_ = lo then hi else lo) (exch cur at_) := by
  obtain ⟨c, d, n1, n2, n3, n4, n5⟩ := oth2_cases hi4 hj4 hij e
  have h4 := C.len
  have hs := sum4 h4 hi4 hj4 c d hij n1 n2 n3 n4 n5
  have hn := fq_next ns i j lo hi k
  rcases C.at_ with ⟨rfl, e1, e2⟩ | ⟨rfl, e1, e2⟩
  · refine ⟨c, ?_, ?_, ?_, ?_, ?_⟩
    · rw [exch_getD h4 c c, if_pos rfl, hn]; unfold letIn; rw [hs, C.ci, C.cj, e1, e2]; omega
    · rw [exch_len (by omega)]; exact h4
    · rw [exch_getD h4 c hi4, if_neg (Ne.symm n2)]; exact C.ci
    · rw [exch_getD h4 c hj4, if_neg (Ne.symm n3)]; exact C.cj
    · rw [if_pos rfl]
      refine .inr ⟨rfl, ?_, ?_⟩
      · rw [exch_getD h4 c d, if_neg (Ne.symm n1)]; exact e2
      · rw [exch_getD h4 c c, if_pos rfl]; rw [show k + 1 + 1 = k + 2 from rfl, hn]; unfold letIn; rw [hs, C.ci, C.cj, e1, e2]; omega
  · refine ⟨d, ?_, ?_, ?_, ?_, ?_⟩
    · rw [exch_getD h4 d d, if_pos rfl, hn]; unfold letIn; rw [hs, C.ci, C.cj, e1, e2]; omega
    · rw [exch_len (by omega)]; exact h4
    · rw [exch_getD h4 d hi4, if_neg (Ne.symm n4)]; exact C.ci
    · rw [exch_getD h4 d hj4, if_neg (Ne.symm n5)]; exact C.cj
    · rw [if_neg (Ne.symm n1)]
      refine .inl ⟨rfl, ?_, ?_⟩
      · rw [exch_getD h4 d c, if_neg n1]; exact e2
      · rw [exch_getD h4 d d, if_pos rfl]; rw [show k + 1 + 1 = k + 2 from rfl, hn]; unfold letIn; rw [hs, C.ci, C.cj, e1, e2]; omega
/-! ### the protocol -/
structure Gave (G : GS0) (F : FourP G.K) (s0 s : Shared) (v : Value) (ls : List Int) (at_ : Nat) (z : Int) (T l : Addr) (ol : Obj) (kp : List (Addr × Obj)) : Prop where
  os : s.os = s0.os
  bare : AllBare s.gens
  keep : ∀ b o, b ≠ G.L → b ∉ frs G.outer → F.hp b = none → s0.heap.get? b = some o → s.heap.get? b = some o
  slot : ∀ b o, b ∈ frs G.outer → s0.heap.get? b = some o → ∃ sl, s.heap.get? b = some { o with slots := sl }
  four : HOk G.P G.w F.hp s.heap
  val : v = .ref T
  ne : T ≠ l
  nT : s0.heap.get? T = none
  nl : s0.heap.get? l = none
  dl : ol.dict = none
  tl : ObjOk G.P G.w (fun _ => none) s.heap l (.frz ol (.tup (vi ls)))
  tT : ObjOk G.P G.w (fun _ => none) s.heap T (.tup [.ref l, .int at_, .int z])
  kpo : ∀ p ∈ kp, s.heap.get? p.1 = some p.2 ∧ (p.1 = G.L ∨ s0.heap.get? p.1 = none) ∧ p.1 ≠ l ∧ p.1 ≠ T ∧ ∀ v, p.2.data ≠ .cell v
  lin : ∃ o, (G.L, o) ∈ kp
structure Woken (G : GS0) (F : FourP G.K) (s s2 : Shared) (l : Addr) (ol : Obj) (kp : List (Addr × Obj)) : Prop where
  bare : AllBare s2.gens
  base : ∀ b o, G.base.get? b = some o → s2.heap.get? b = some o
  funs : s2.heap.FunFrames G.base G.outer
  four : HOk G.P G.w F.hp s2.heap
  keep : ∀ p ∈ kp, s2.heap.get? p.1 = some p.2
  kl : s2.heap.get? l = some ol
def YP (G : GS0) (F : FourP G.K) (M : Nat) (seq : Nat → Int) : Protocol := fun n s0 v s kap => ∃ (j : Nat) (ls : List Int) (at_ : Nat) (T l : Addr) (ol : Obj) (kp : List (Addr × Obj)), j + (n + 1) = M ∧ Gave G F s0 s v ls at_ (seq j) T l ol kp ∧ ls.length ≤ j ∧ at_ < 4 ∧
  (0 < n → ∀ s2, Woken G F s s2 l ol kp → kap (.send .none) s2 ∧ kap (.send (.bool true)) s2)
/-- the four's parts stand apart -/
structure FOk (G : GS0) (F : FourP G.K) : Prop where
  i : F.In F.hp
  lt : ∀ b u, F.hp b = some u → b < G.L
  nf : ∀ b ∈ frs G.outer, F.hp b = none
  nb : ∀ b o, G.base.get? b = some o → F.hp b = none
/-- what is known at a waking -/
structure Kn (G : GS0) (F : FourP G.K) (Hk : Hp) (h : Heap) : Prop where
  f : F.In Hk
  ok : HOk G.P G.w Hk h
  L : Hk G.L = none
  nf : ∀ b ∈ frs G.outer, Hk b = none
  nb : ∀ b o, G.base.get? b = some o → Hk b = none
  more : ∀ b u, Hk b = some u → F.hp b = some u ∨ ∃ o x, u = .frz o x
theorem Kn.four {G : GS0} {F : FourP G.K} {h : Heap} (O : FOk G F) (x : HOk G.P G.w F.hp h) : Kn G F F.hp h :=
  ⟨O.i, x, by
    cases q : F.hp G.L with
    | none => rfl
    | some u => exact absurd (O.lt _ _ q) (Nat.lt_irrefl _), O.nf, O.nb, fun b u e => .inl e⟩
/-- one tuple more -/
theorem Kn.tup {G : GS0} {F : FourP G.K} {Hk : Hp} {h : Heap} (k : Kn G F Hk h) {a : Addr} {o : Obj} {xs : List V} (n : Hk a = none) (x : ObjOk G.P G.w (fun _ => none) h a (.frz o (.tup xs))) (aL : a ≠ G.L) (af : a ∉ frs G.outer) (ab : G.base.get? a = none) :
    Kn G F (upd Hk a (.frz o (.tup xs))) h := by
  have s := same_new (o := .frz o (.tup xs)) n
  refine ⟨k.f.same s, fun b u e => ?_, by rw [upd_ne (Ne.symm aL)]; exact k.L, fun b hb => ?_, fun b ob hb => ?_, fun b u e => ?_⟩
  · by_cases hb : b = a
    · subst hb
      rw [upd_same] at e
      cases e
      exact frzT_ok x
    · rw [upd_ne hb] at e
      exact (k.ok b u e).stay (fun _ _ _ z => z) (fun c z => s _ _ z) fun c y z => s _ _ z
  · rw [upd_ne (fun z : b = a => af (by rw [← z]; exact hb))]; exact k.nf b hb
  · rw [upd_ne (fun z : b = a => by rw [z, ab] at hb; cases hb)]; exact k.nb b ob hb
  · by_cases hb : b = a
    · subst hb
      rw [upd_same] at e
      cases e
      exact .inr ⟨_, _, rfl⟩
    · rw [upd_ne hb] at e
      exact k.more b u e
theorem Kn.inv {G : GS0} {F : FourP G.K} {Hk : Hp} {s : Shared} {σ : L2.St} (O : G.Ok) (k : Kn G F Hk s.heap) (hb : ∀ b o, G.base.get? b = some o → s.heap.get? b = some o) (funs : s.heap.FunFrames G.base G.outer) (hg : AllBare s.gens) (loc : G.Fr s.heap σ) (len : σ.length = G.N.length) :
    Inv (G.cx s (G.wakeH s.heap Hk)) [] σ (G.wakeH s.heap Hk) s := by
  have up : Same Hk (G.wakeH s.heap Hk) := fun b u e => G.wakeH_k e
  refine G.inv O (fun b o e => ⟨hb b o e, G.wakeH_ban (k.nb b o e) (.inr (.inr ⟨o, e⟩))⟩) funs (fun b h => G.wakeH_ban (k.nf b h) (.inr (.inl h))) hg loc (G.wakeH_ban k.L (.inl rfl)) (fun b u e => ?_) len
  cases q : Hk b with
  | some u2 =>
    rw [G.wakeH_k q] at e
    cases e
    exact (k.ok b u q).stay (fun _ _ _ z => z) (fun c z => up _ _ z) fun c y z => up _ _ z
  | none =>
    by_cases hbn : G.ban b
    · rw [G.wakeH_ban q hbn] at e
      cases e
    · cases g : s.heap.get? b with
      | none =>
        unfold GS0.wakeH at e
        rw [q] at e
        simp only at e
        rw [if_neg hbn, g] at e
        cases e
      | some o =>
        rw [G.wakeH_o q hbn g] at e
        cases e
        exact ⟨g, o, g⟩
section
variable {G : GS0} {F : FourP G.K} {Hk : Hp} {s0 s : Shared} {σ : L2.St} {H : Hp}
/-- what is new was not there at the waking -/
theorem fresh_of (I : Inv (G.cx s0 (G.wakeH s0.heap Hk)) [] σ H s) {b : Addr} {u : HO} (n : G.wakeH s0.heap Hk b = none) (e : H b = some u) : s0.heap.get? b = none ∧ b ≠ G.L ∧ b ∉ frs G.outer ∧ G.base.get? b = none := by
  have nL : b ≠ G.L := fun z => by
    have := I.free
    rw [show (G.cx s0 (G.wakeH s0.heap Hk)).env.locals = G.L from rfl, ← z, e] at this
    cases this
  have nf : b ∉ frs G.outer := fun z => by
    have := I.base.free b
    have h1 : (cut s0.heap G.env.locals).FunFrames G.base G.outer := I.ok.funs
    obtain ⟨_, o, ho, _⟩ := h1.mem z
    have h2 := this o ho (I.ok.frf b z) (by show b ∉ ([] : List Addr); simp)
    rw [e] at h2
    cases h2
  have nb : G.base.get? b = none := by
    cases q : G.base.get? b with
    | none => rfl
    | some o =>
      have := (I.bs b o q).2
      rw [e] at this
      cases this
  refine ⟨?_, nL, nf, nb⟩
  rcases (G.wakeH_none n).2 with z | z
  · rcases z with z | z | ⟨o, z⟩
    · exact absurd z nL
    · exact absurd z nf
    · rw [nb] at z; cases z
  · exact z
theorem gave_of (k : Kn G F Hk s0.heap) (hb : ∀ b o, G.base.get? b = some o → s0.heap.get? b = some o) (O : G.Ok) (I : Inv (G.cx s0 (G.wakeH s0.heap Hk)) [] σ H s) (up : Same (G.wakeH s0.heap Hk) H) {T l : Addr} {oT ol : Obj} {ls : List Int} {at_ : Nat} {z : Int} (dl : ol.dict = none)
    (hT : H T = some (.frz oT (.tup [.ref l, .int at_, .int z]))) (hl : H l = some (.frz ol (.tup (vi ls)))) (nT : G.wakeH s0.heap Hk T = none) (nl : G.wakeH s0.heap Hk l = none) (ne : T ≠ l) {kp : List (Addr × Obj)}
    (hkp : ∀ p ∈ kp, s.heap.get? p.1 = some p.2 ∧ (p.1 = G.L ∨ s0.heap.get? p.1 = none) ∧ p.1 ≠ l ∧ p.1 ≠ T ∧ ∀ v, p.2.data ≠ .cell v) (lin : ∃ o, (G.L, o) ∈ kp) : Gave G F s0 s (.ref T) ls at_ z T l ol kp where
  os := I.os
  bare := I.bare
  keep := fun b o nL nf n4 e => by
    by_cases hbase : ∃ o, G.base.get? b = some o
    · obtain ⟨o2, hbase⟩ := hbase
      have e1 := hb b o2 hbase
      rw [e] at e1
      cases e1
      exact (I.bs b o hbase).1
    · have nban : ¬ G.ban b := fun q => by
        rcases q with q | q | q
        · exact nL q
        · exact nf q
        · exact hbase q
      cases q : Hk b with
      | none => exact (I.hok b _ (up _ _ (G.wakeH_o q nban e))).1
      | some u =>
        rcases k.more b u q with q2 | ⟨o2, x, rfl⟩
        · rw [n4] at q2; cases q2
        · have h1 := (k.ok b _ q).1
          rw [e] at h1
          cases h1
          exact (I.hok b _ (up _ _ (G.wakeH_k q))).1
  slot := fun b o hm e => I.base.slot b o (cut_get e (O.fl b hm)) (I.ok.frf b hm) hm (by show b ∉ ([] : List Addr); simp)
  four := ((k.f.same (H' := G.wakeH s0.heap Hk) fun b u e => G.wakeH_k e).same up).ok I.hok
  val := rfl
  ne := ne
  nT := (fresh_of I nT hT).1
  nl := (fresh_of I nl hl).1
  dl := dl
  tl := frzT_ok (I.hok l _ hl)
  tT := tup_ok (I.hok T _ hT).2
  kpo := hkp
  lin := lin
end
end Bh

/-! GD -/
set_option maxHeartbeats 4000000
/-! the fan's body -/
namespace Bh
open PySem PySem.Spec PyProof.Rows L2 GenW Bs
theorem seg_run {X : Cx} {st : Stmt} {t : TS} {A : Around} {R : GenEnd} {Y : Protocol} {n : Nat} {s0 : Shared} {c : Code} {fs : List Frame} {K : Flow → Sem PySem.Fin} {J : Value → Sem PySem.Fin} {gd : Bool → Bool} {lv : List Value → List Value}
    {pins : List (Addr × Obj)} {s : Shared} {σ : L2.St} {H : Hp} {D : Ends} (hx : ∀ e s, ¬ X.xe e s) (ho : A.over c fs = X.A) (h : PS X st t) (I : Inv X pins σ H s) (q : t D σ H)
    (k : ∀ f s', SP X pins D f s' → Seg (model X.prog X.w) A R Y n s0 c (K f) fs s') : Seg (model X.prog X.w) A R Y n s0 c ((exec st X.env).wrap K J gd lv) fs s := by
  refine seg_wrap ?_
  rw [ho]
  exact wpAny_mono (h.run pins s σ H D I q) (fun f s' hs => k f s' hs) fun x s' z => absurd z (hx x s')
theorem seg_give {X : Cx} {e : Expr} {te : TE} {A : Around} {R : GenEnd} {Y : Protocol} {n : Nat} {s0 : Shared} {c : Code} {fs : List Frame} {K : Flow → Sem PySem.Fin} {J : Value → Sem PySem.Fin} {gd : Bool → Bool} {lv : List Value → List Value}
    {pins : List (Addr × Obj)} {s : Shared} {σ : L2.St} {H : Hp} {yp pos : Pos} (Q : VK) (hx : ∀ e s, ¬ X.xe e s) (ho : A.over c fs = X.A) (h1 : splitAtGen fs = none) (h2 : gd false = false) (h3 : fs.any Frame.guarded = false) (h : PE X e te) (I : Inv X pins σ H s) (q : te σ H Q)
    (k : ∀ v u H' s', Inv X pins σ H' s' → RelV v u → Q v H' → ∀ kap : Resume → Shared → Prop, (∀ x s2, (match x with | .ref _ => False | _ => Seg (model X.prog X.w) A R Y n s2 c (K .next) fs s2) → kap (.send x) s2) → Y n s0 u s' kap)
    (hco : X.env.scope.isCoroutine = false := by rfl) (hi : interactive X.env = false := by rfl) : Seg (model X.prog X.w) A R Y (n + 1) s0 c ((exec (.Expr (.Yield (some e) yp) pos) X.env).wrap K J gd lv) fs s := by
  refine seg_Expr_Yield h1 h2 h3 ?_ hco hi
  rw [ho]
  refine wpAny_mono (h.run pins s σ H Q I q) (fun u s' hu => ?_) fun x s' z => absurd z (hx x s')
  obtain ⟨v, H', I', rv, hq⟩ := hu
  exact fun kap hk => k v u H' s' I' rv hq kap hk
def wTest : Stmt → Expr
  | .While t _ _ _ => t
  | _ => .Name "" ⟨0, 0, 0, 0⟩
def wBody : Stmt → List Stmt
  | .While _ b _ _ => b
  | _ => []
def fanW : Stmt := (defBody (top 84)).getD 5 (.Pass ⟨0, 0, 0, 0⟩)
abbrev fanN : List Str := ["four", "place", "other", "low", "high", "bends", "letters", "at"]
theorem sc_fan : GScope fanN ["four", "place", "other"] (defScope (top 84)) := ⟨rfl, rfl, rfl, by decide +kernel, rfl, by decide +kernel, by decide +kernel⟩
abbrev fanG (P : Program) (w : World) (K : PySem.W.Frag) (mg : Str → Option Value) (base : Heap) (L f : Addr) (cdv : Value) (A : Around) (outer : List Env) : GS0 := ⟨P, w, K, mg, base, fanN, envOfC "fan" (defScope (top 84)) L f cdv, A, outer⟩
section
variable {P : Program} {w : World} {K : PySem.W.Frag} {mg : Str → Option Value} {base : Heap} {L f : Addr} {cdv : Value} {A : Around} {outer : List Env}
/-- the loop's slots -/
def lpS (x : Addr) (i j lo hi : Nat) (b l : Addr) (at_ : Nat) : L2.St := [some (.ref x), some (.int i), some (.int j), some (.int lo), some (.int hi), some (.ref b), some (.ref l), some (.int at_)]
theorem fan_loop (T : Tx K mg) {F : FourP K} {M i j lo hi : Nat} (hMb : M ≤ 16770000) (O : (fanG P w K mg base L f cdv A outer).Ok) (FO : FOk (fanG P w K mg base L f cdv A outer) F) (hr : Room 9 (A.deeper (envOfC "fan" (defScope (top 84)) L f cdv)))
    (hi4 : i < 4) (hj4 : j < 4) (hij : i ≠ j) (eo : oth2 i j = [lo, hi]) {R : GenEnd} {fs : List Frame} (ho : ∀ t b, A.over (.whileLoop t b [] (envOfC "fan" (defScope (top 84)) L f cdv)) fs = A.deeper (envOfC "fan" (defScope (top 84)) L f cdv)) (hs1 : splitAtGen fs = none) (hs2 : fs.any Frame.guarded = false) :
    ∀ (n : Nat) (s0 s : Shared) (Hk H : Hp) (b l : Addr) (ls cur : List Int) (k at_ : Nat), 1 ≤ n → (k + 2) + n = M → Kn (fanG P w K mg base L f cdv A outer) F Hk s0.heap → (∀ b o, base.get? b = some o → s0.heap.get? b = some o) →
      Inv ((fanG P w K mg base L f cdv A outer).cx s0 ((fanG P w K mg base L f cdv A outer).wakeH s0.heap Hk)) [] (lpS F.x i j lo hi b l at_) H s → Same ((fanG P w K mg base L f cdv A outer).wakeH s0.heap Hk) H → Bq H b (vi cur) → Bq H l (vi ls) → ls.length ≤ k → Cur F.ns i j lo hi k at_ cur →
      Seg (model P w) A R (YP (fanG P w K mg base L f cdv A outer) F M (fun k => fq F.ns i j lo hi k)) n s0 (.whileLoop (wTest fanW) (wBody fanW) [] (envOfC "fan" (defScope (top 84)) L f cdv)) ((model P w).den (.whileLoop (wTest fanW) (wBody fanW) [] (envOfC "fan" (defScope (top 84)) L f cdv))) fs s := by
  intro n
  induction n using Nat.strongRecOn with
  | ind n ih =>
    intro s0 s Hk H b l ls cur k at_ hn hM kn hb I up hbq hlq hls C
    obtain ⟨m, rfl⟩ : ∃ m, n = m + 1 := ⟨n - 1, by omega⟩
    have hxe : ∀ e s, ¬ ((fanG P w K mg base L f cdv A outer).cx s0 ((fanG P w K mg base L f cdv A outer).wakeH s0.heap Hk)).xe e s := fun _ _ z => z
    refine seg_whileLoop ?_
    rw [ho]
    refine wpAny_mono ((pt_val pe_bl : PT ((fanG P w K mg base L f cdv A outer).cx s0 ((fanG P w K mg base L f cdv A outer).wakeH s0.heap Hk)) _ _).run [] s _ H (fun b H' => b = true ∧ H' = H) I ?_) (fun bb s1 hbb => ?_) fun x s' z => absurd z (hxe x s')
    · repeat (first | refine ⟨_, rfl, ?_⟩ | refine ⟨_, _, rfl, rfl, ?_⟩ | refine ⟨rfl, ?_⟩ | refine ⟨_, _, rfl, ?_⟩ | refine ⟨_, _, _, rfl, ?_⟩ | refine ⟨small_le (by simp), ?_⟩ | refine ⟨Or.inl ⟨by decide, by decide⟩, ?_⟩ | refine ⟨⟨by decide, by decide⟩, ?_⟩ | refine ⟨by show (0 : Int) < _; decide, ?_⟩)
      rfl
    obtain ⟨H1, I1, eb, eH⟩ := hbb
    subst eb
    rw [eH] at I1
    clear eH H1
    rw [if_pos rfl]
    have h4 := C.len
    obtain ⟨hat, hnew, hC⟩ := C.step hi4 hj4 hij eo
    refine seg_execs_cons ?_
    refine seg_run (D := { nx := fun σ' H' => ∃ b2 l2 ls2, σ' = lpS F.x i j lo hi b2 l2 at_ ∧ Same H H' ∧ Bq H' b2 (vi (exch cur at_)) ∧ Bq H' l2 (vi ls2) ∧ H b2 = none ∧ H l2 = none ∧ b2 ≠ l2 ∧ ls2.length ≤ k + 1, rt := fun _ _ => False }) hxe (ho _ _)
      (ps_par (i := 5) (j := 6) (by rfl) sc_fan.nd rfl rfl (by decide) rfl rfl (pa_cons (pc (ok_exchanged_at T) (hr.mono (by decide)) (by first | exact pass0 | exact passL) (pa_cons (pv 5) (pa_cons (pv 7) pa_nil))) (pa_cons (pe_tupB (StX.pa_star (pv 6) (pa_cons (pv 7) pa_nil))) pa_nil)) (by rfl)) I1 ?_ fun fl s2 hs => ?_
    · repeat (first | refine ⟨_, rfl, ?_⟩ | refine ⟨_, _, rfl, rfl, ?_⟩ | refine ⟨rfl, ?_⟩ | refine ⟨_, _, rfl, ?_⟩ | refine ⟨_, _, _, rfl, ?_⟩ | refine ⟨small_le (by simp), ?_⟩ | refine ⟨Or.inl ⟨by decide, by decide⟩, ?_⟩ | refine ⟨⟨by decide, by decide⟩, ?_⟩ | refine ⟨by show (0 : Int) < _; decide, ?_⟩)
      refine ⟨b, cur, at_, rfl, hbq.t, by omega, h4, fun H2 b2 q1 nb2 eb2 => ?_⟩
      repeat (first | refine ⟨_, rfl, ?_⟩ | refine ⟨_, _, rfl, rfl, ?_⟩ | refine ⟨rfl, ?_⟩ | refine ⟨_, _, rfl, ?_⟩ | refine ⟨_, _, _, rfl, ?_⟩ | refine ⟨small_le (by simp), ?_⟩ | refine ⟨Or.inl ⟨by decide, by decide⟩, ?_⟩ | refine ⟨⟨by decide, by decide⟩, ?_⟩ | refine ⟨by show (0 : Int) < _; decide, ?_⟩)
      refine ⟨l, _, rfl, .inl (hlq.same q1).sqT, ?_⟩
      refine ⟨_, rfl, ?_⟩
      refine ⟨by rw [show sizeLine = 16777216 by decide]; simp; omega, ?_⟩
      (intro oZ l2 hoZ nl2; generalize hqZ : upd _ l2 _ = H3; have q2 := new_same hqZ nl2; have el2 := new_bq hqZ hoZ; clear hqZ hoZ)
      repeat (first | refine ⟨_, rfl, ?_⟩ | refine ⟨_, _, rfl, rfl, ?_⟩ | refine ⟨rfl, ?_⟩ | refine ⟨_, _, rfl, ?_⟩ | refine ⟨_, _, _, rfl, ?_⟩ | refine ⟨small_le (by simp), ?_⟩ | refine ⟨Or.inl ⟨by decide, by decide⟩, ?_⟩ | refine ⟨⟨by decide, by decide⟩, ?_⟩ | refine ⟨by show (0 : Int) < _; decide, ?_⟩)
      have nb := q1.free nl2
      refine ⟨b2, l2, ls ++ [(at_ : Int)], rfl, q1.trans q2, eb2.same q2, ?_, nb2, nb, fun z => ?_, by simp; omega⟩
      · refine Eq.mp ?_ el2
        simp [vi]
      · obtain ⟨ob, _, eb2⟩ := eb2
        rw [z, nl2] at eb2
        cases eb2
    cases fl with
    | brk => obtain ⟨_, _, _, z⟩ := hs; exact z.elim
    | cont => obtain ⟨_, _, _, z⟩ := hs; exact z.elim
    | ret u => obtain ⟨_, _, _, _, _, z⟩ := hs; exact z.elim
    | next =>
      obtain ⟨σ2, H2, I2, b2, l2, ls2, rfl, q1, ⟨ob2, db2, eb2⟩, ⟨ol2, dl2, el2⟩, nb2, nl2, nbl, hls2⟩ := hs
      refine seg_execs_cons ?_
      refine seg_give (fun v H' => ∃ T oT, v = .ref T ∧ oT.dict = none ∧ Same H2 H' ∧ H2 T = none ∧ H' T = some (.frz oT (.tup [.ref l2, .int at_, .int (fq F.ns i j lo hi (k + 2))]))) hxe (ho _ _) hs1 rfl hs2
        (pe_tupB (pa_cons (pv 6) (pa_cons (pv 7) (pa_cons (pe_ix ix_tup (pv 5) (pv 7) (fun _ _ => rfl)) pa_nil)))) I2 ?_ fun v u H3 s3 I3 rv hv kap hk => ?_
      · repeat (first | refine ⟨_, rfl, ?_⟩ | refine ⟨_, _, rfl, rfl, ?_⟩ | refine ⟨rfl, ?_⟩ | refine ⟨_, _, rfl, ?_⟩ | refine ⟨_, _, _, rfl, ?_⟩ | refine ⟨small_le (by simp), ?_⟩ | refine ⟨Or.inl ⟨by decide, by decide⟩, ?_⟩ | refine ⟨⟨by decide, by decide⟩, ?_⟩ | refine ⟨by show (0 : Int) < _; decide, ?_⟩)
        refine ⟨b2, _, at_, _, rfl, rfl, Bq.sqT ⟨ob2, db2, eb2⟩, atI_vi (by rw [exch_len (by omega)]; omega), ?_⟩
        rw [hnew]
        repeat (first | refine ⟨_, rfl, ?_⟩ | refine ⟨_, _, rfl, rfl, ?_⟩ | refine ⟨rfl, ?_⟩ | refine ⟨_, _, rfl, ?_⟩ | refine ⟨_, _, _, rfl, ?_⟩ | refine ⟨small_le (by simp), ?_⟩ | refine ⟨Or.inl ⟨by decide, by decide⟩, ?_⟩ | refine ⟨⟨by decide, by decide⟩, ?_⟩ | refine ⟨by show (0 : Int) < _; decide, ?_⟩)
        intro o p ho2 np
        exact ⟨p, o, rfl, ho2, same_new np, np, upd_same⟩
      · obtain ⟨T, oT, rfl, dT, q2, nT, eT⟩ := hv
        cases rv
        have up2 := up.trans q1
        have up3 := up2.trans q2
        have b3 := q2 _ _ eb2
        have l3 := q2 _ _ el2
        have nb0 := up.free nb2
        have nl0 := up.free nl2
        have nT0 := up2.free nT
        obtain ⟨fb1, fb2, fb3, fb4⟩ := fresh_of I3 nb0 b3
        obtain ⟨fl1, fl2, fl3, fl4⟩ := fresh_of I3 nl0 l3
        have hfr := (fanG P w K mg base L f cdv A outer).fr_of O I3
        obtain ⟨_, ⟨oL, es, ep, eL, dL, _⟩, _⟩ := id hfr
        have hTl : T ≠ l2 := fun z => by rw [z, el2] at nT; cases nT
        have hTb : T ≠ b2 := fun z => by rw [z, eb2] at nT; cases nT
        have lT : (fanG P w K mg base L f cdv A outer).L ≠ T := fun z => (fresh_of I3 nT0 eT).2.1 z.symm
        have obB := I3.hok b2 _ b3
        have obL := I3.hok l2 _ l3
        have cellT : ∀ {h : Heap} {a : Addr} {o : Obj} {xs : List V} {H : Hp}, ObjOk P w H h a (.frz o (.tup xs)) → ∀ v, o.data ≠ .cell v := fun {h a o xs H} x v z => by
          obtain ⟨e, _, its, _, ob, e2, c, nn, d⟩ := x
          rw [e] at e2
          cases e2
          rw [z] at d
          cases d
        refine ⟨k + 2, ls2, at_, T, l2, ol2, [((fanG P w K mg base L f cdv A outer).L, oL), (b2, ob2)], by omega, gave_of kn hb O I3 up3 dl2 eT l3 nT0 nl0 hTl (fun p hp => ?_) ⟨oL, by simp⟩, by omega, hat, fun hm s4 W => ?_⟩
        · simp only [List.mem_cons, List.mem_nil_iff, or_false] at hp
          rcases hp with rfl | rfl
          · exact ⟨eL, .inl rfl, Ne.symm fl2, lT, fun v z => by rw [dL] at z; cases z⟩
          · exact ⟨obB.1, .inr fb1, nbl, Ne.symm hTb, cellT obB⟩
        · have F4 : F.hp b2 = none := FourP.none_of ((kn.f.same (H' := (fanG P w K mg base L f cdv A outer).wakeH s0.heap Hk) fun b u e => GS0.wakeH_k e).same up) nb2
          have F5 : F.hp l2 = none := FourP.none_of ((kn.f.same (H' := (fanG P w K mg base L f cdv A outer).wakeH s0.heap Hk) fun b u e => GS0.wakeH_k e).same up) nl2
          have kn2 := ((Kn.four FO W.four).tup F4 (frzT_keep obB (W.keep (b2, ob2) (by simp))) fb2 fb3 fb4).tup (a := l2) (o := ol2) (xs := vi ls2) (by rw [upd_ne (Ne.symm nbl)]; exact F5) (frzT_keep obL W.kl) fl2 fl3 fl4
          have I4 := kn2.inv O W.base W.funs W.bare (hfr.keep fun o e => by
            rw [eL] at e
            cases e
            exact W.keep ((fanG P w K mg base L f cdv A outer).L, oL) (by simp)) rfl
          refine (fun go => ⟨hk .none s4 go, hk (.bool true) s4 go⟩) ?_
          show Seg _ _ _ _ _ _ _ _ _ _
          · refine seg_execs_cons ?_
            refine seg_run (X := (fanG P w K mg base L f cdv A outer).cx s4 ((fanG P w K mg base L f cdv A outer).wakeH s4.heap (upd (upd F.hp b2 (.frz ob2 (.tup (vi (exch cur at_))))) l2 (.frz ol2 (.tup (vi ls2)))))) (D := { nx := fun σ' H' => σ' = lpS F.x i j lo hi b2 l2 (if at_ = lo then hi else lo) ∧ H' = (fanG P w K mg base L f cdv A outer).wakeH s4.heap (upd (upd F.hp b2 (.frz ob2 (.tup (vi (exch cur at_))))) l2 (.frz ol2 (.tup (vi ls2)))), rt := fun _ _ => False }) (fun _ _ z => z) (ho _ _)
              (ps_set (i := 7) sc_fan.nd rfl (Or.inl rfl) (pe_ifExp (pt_cmpR op_eq (pv 7) (pv 3) (nomark _)) (pv 4) (pv 3))) I4 ?_ fun fl s5 hs5 => ?_
            · repeat (first | refine ⟨_, rfl, ?_⟩ | refine ⟨_, _, rfl, rfl, ?_⟩ | refine ⟨rfl, ?_⟩ | refine ⟨_, _, rfl, ?_⟩ | refine ⟨_, _, _, rfl, ?_⟩ | refine ⟨small_le (by simp), ?_⟩ | refine ⟨Or.inl ⟨by decide, by decide⟩, ?_⟩ | refine ⟨⟨by decide, by decide⟩, ?_⟩ | refine ⟨by show (0 : Int) < _; decide, ?_⟩)
              refine eB (fun e => ?_) (fun e => ?_)
              · repeat (first | refine ⟨_, rfl, ?_⟩ | refine ⟨_, _, rfl, rfl, ?_⟩ | refine ⟨rfl, ?_⟩ | refine ⟨_, _, rfl, ?_⟩ | refine ⟨_, _, _, rfl, ?_⟩ | refine ⟨small_le (by simp), ?_⟩ | refine ⟨Or.inl ⟨by decide, by decide⟩, ?_⟩ | refine ⟨⟨by decide, by decide⟩, ?_⟩ | refine ⟨by show (0 : Int) < _; decide, ?_⟩)
                exact ⟨by rw [if_pos (by omega)]; rfl, rfl⟩
              · repeat (first | refine ⟨_, rfl, ?_⟩ | refine ⟨_, _, rfl, rfl, ?_⟩ | refine ⟨rfl, ?_⟩ | refine ⟨_, _, rfl, ?_⟩ | refine ⟨_, _, _, rfl, ?_⟩ | refine ⟨small_le (by simp), ?_⟩ | refine ⟨Or.inl ⟨by decide, by decide⟩, ?_⟩ | refine ⟨⟨by decide, by decide⟩, ?_⟩ | refine ⟨by show (0 : Int) < _; decide, ?_⟩)
                exact ⟨by rw [if_neg (by omega)]; rfl, rfl⟩
            · cases fl with
              | brk => obtain ⟨_, _, _, z⟩ := hs5; exact z.elim
              | cont => obtain ⟨_, _, _, z⟩ := hs5; exact z.elim
              | ret u => obtain ⟨_, _, _, _, _, z⟩ := hs5; exact z.elim
              | next =>
                obtain ⟨σ5, H5, I5, rfl, rfl⟩ := hs5
                refine seg_execs_nil ?_
                exact seg_again rfl (ih m (by omega) s4 s5 _ _ b2 l2 ls2 (exch cur at_) (k + 1) _ hm (by omega) kn2 W.base I5 (Same.refl _)
                  ⟨ob2, db2, by rw [GS0.wakeH_k (u := .frz ob2 (.tup (vi (exch cur at_))))]; rw [upd_ne nbl, upd_same]⟩ ⟨ol2, dl2, GS0.wakeH_k upd_same⟩ (by omega) hC)
/-- one of the first two circles -/
theorem fan_give {F : FourP K} {M : Nat} {seq : Nat → Int} (O : (fanG P w K mg base L f cdv A outer).Ok) (FO : FOk (fanG P w K mg base L f cdv A outer) F)
    {R : GenEnd} {c : Code} (ho : A.over c [] = A.deeper (envOfC "fan" (defScope (top 84)) L f cdv)) {Kf : Flow → Sem PySem.Fin} {J : Value → Sem PySem.Fin} {lv : List Value → List Value} {yp pos : Pos} {e : Expr} {te : TE} {s0 s : Shared} {H : Hp} {σ : L2.St} {k m at_ : Nat}
    (kn : Kn (fanG P w K mg base L f cdv A outer) F F.hp s0.heap) (hb : ∀ b o, base.get? b = some o → s0.heap.get? b = some o)
    (h : PE ((fanG P w K mg base L f cdv A outer).cx s0 ((fanG P w K mg base L f cdv A outer).wakeH s0.heap F.hp)) e te)
    (I : Inv ((fanG P w K mg base L f cdv A outer).cx s0 ((fanG P w K mg base L f cdv A outer).wakeH s0.heap F.hp)) [] σ H s) (up : Same ((fanG P w K mg base L f cdv A outer).wakeH s0.heap F.hp) H)
    (q : te σ H fun v H' => ∃ T oT l ol, v = .ref T ∧ ol.dict = none ∧ Same H H' ∧ H T = none ∧ H l = none ∧ T ≠ l ∧ H' l = some (.frz ol (.tup (vi []))) ∧ H' T = some (.frz oT (.tup [.ref l, .int at_, .int (seq k)])))
    (hM : k + (m + 1) = M) (hat : at_ < 4) (len : σ.length = 8)
    (next : 0 < m → ∀ s2, Kn (fanG P w K mg base L f cdv A outer) F F.hp s2.heap → (∀ b o, base.get? b = some o → s2.heap.get? b = some o) → Inv ((fanG P w K mg base L f cdv A outer).cx s2 ((fanG P w K mg base L f cdv A outer).wakeH s2.heap F.hp)) [] σ ((fanG P w K mg base L f cdv A outer).wakeH s2.heap F.hp) s2 →
      Seg (model P w) A R (YP (fanG P w K mg base L f cdv A outer) F M seq) m s2 c (Kf .next) [] s2) :
    Seg (model P w) A R (YP (fanG P w K mg base L f cdv A outer) F M seq) (m + 1) s0 c ((exec (.Expr (.Yield (some e) yp) pos) (envOfC "fan" (defScope (top 84)) L f cdv)).wrap Kf J id lv) [] s := by
  refine seg_give (X := (fanG P w K mg base L f cdv A outer).cx s0 ((fanG P w K mg base L f cdv A outer).wakeH s0.heap F.hp)) _ (fun _ _ z => z) ho rfl rfl rfl h I q fun v u H3 s3 I3 rv hv kap hk => ?_
  obtain ⟨T, oT, l, ol, rfl, dl, q2, nT, nl, ne, el, eT⟩ := hv
  cases rv
  have up3 := up.trans q2
  have nT0 := up.free nT
  have nl0 := up.free nl
  obtain ⟨fl1, fl2, fl3, fl4⟩ := fresh_of I3 nl0 el
  have lT : (fanG P w K mg base L f cdv A outer).L ≠ T := fun z => (fresh_of I3 nT0 eT).2.1 z.symm
  have hfr := (fanG P w K mg base L f cdv A outer).fr_of O I3
  obtain ⟨_, ⟨oL, es, ep, eL, dL, _⟩, _⟩ := id hfr
  refine ⟨k, [], at_, T, l, ol, [((fanG P w K mg base L f cdv A outer).L, oL)], hM, gave_of kn hb O I3 up3 dl eT el nT0 nl0 ne (fun p hp => ?_) ⟨oL, by simp⟩, Nat.zero_le _, hat, fun hm s4 W => ?_⟩
  · rw [List.mem_singleton.mp hp]
    exact ⟨eL, .inl rfl, Ne.symm fl2, lT, fun v z => by rw [dL] at z; cases z⟩
  · have kn2 := Kn.four FO W.four
    have I4 := kn2.inv O W.base W.funs W.bare (hfr.keep fun o e => by
      rw [eL] at e
      cases e
      exact W.keep ((fanG P w K mg base L f cdv A outer).L, oL) (by simp)) len
    have go := next hm s4 kn2 W.base I4
    exact ⟨hk .none s4 go, hk (.bool true) s4 go⟩
def fanS (x : Addr) (i j : Nat) : L2.St := [some (.ref x), some (.int i), some (.int j), none, none, none, none, none]
def fanS2 (x : Addr) (i j lo hi : Nat) : L2.St := [some (.ref x), some (.int i), some (.int j), some (.int lo), some (.int hi), none, none, none]
theorem fan_seg (T : Tx K mg) {F : FourP K} {M i j lo hi : Nat} (hMb : M ≤ 16770000) (hM0 : 3 ≤ M) (O : (fanG P w K mg base L f cdv A outer).Ok) (FO : FOk (fanG P w K mg base L f cdv A outer) F) (hr : Room 9 (A.deeper (envOfC "fan" (defScope (top 84)) L f cdv)))
    (hi4 : i < 4) (hj4 : j < 4) (hij : i ≠ j) (eo : oth2 i j = [lo, hi]) (h4 : F.ns.length = 4) {R : GenEnd} {s0 : Shared} (four : HOk P w F.hp s0.heap) (hb : ∀ b o, base.get? b = some o → s0.heap.get? b = some o)
    (funs : s0.heap.FunFrames base outer) (hg : AllBare s0.gens) (loc : (fanG P w K mg base L f cdv A outer).Fr s0.heap (fanS F.x i j)) :
    Seg (model P w) A R (YP (fanG P w K mg base L f cdv A outer) F M (fun k => fq F.ns i j lo hi k)) M s0 (.func (defBody (top 84)) (envOfC "fan" (defScope (top 84)) L f cdv)) ((model P w).den (.func (defBody (top 84)) (envOfC "fan" (defScope (top 84)) L f cdv))) [] s0 := by
  obtain ⟨m, rfl⟩ : ∃ m, M = m + 3 := ⟨M - 3, by omega⟩
  obtain ⟨c4, d4, n1, n2, n3, n4, n5⟩ := oth2_cases hi4 hj4 hij eo
  have ho : A.over (.func (defBody (top 84)) (envOfC "fan" (defScope (top 84)) L f cdv)) [] = A.deeper (envOfC "fan" (defScope (top 84)) L f cdv) := over_func
  have kn := Kn.four FO four
  have I0 := kn.inv (σ := fanS F.x i j) O hb funs hg loc rfl
  have up0 : Same ((fanG P w K mg base L f cdv A outer).wakeH s0.heap F.hp) ((fanG P w K mg base L f cdv A outer).wakeH s0.heap F.hp) := Same.refl _
  have fw : ∀ h, F.In ((fanG P w K mg base L f cdv A outer).wakeH h F.hp) := fun h => FO.i.same fun b u e => GS0.wakeH_k e
  refine seg_func ?_
  refine seg_execs_cons ?_
  refine seg_run (X := (fanG P w K mg base L f cdv A outer).cx s0 ((fanG P w K mg base L f cdv A outer).wakeH s0.heap F.hp)) (D := { nx := fun σ' H' => σ' = fanS F.x i j ∧ H' = (fanG P w K mg base L f cdv A outer).wakeH s0.heap F.hp, rt := fun _ _ => False }) (fun _ _ z => z) ho
    (ps_expr (pc (ok_need_fan T) (hr.mono (by decide)) (by first | exact pass0 | exact passL) (pa_cons (pv 0) (pa_cons (pv 1) (pa_cons (pv 2) pa_nil))))) I0 ?_ fun fl s1 hs => ?_
  · repeat (first | refine ⟨_, rfl, ?_⟩ | refine ⟨_, _, rfl, rfl, ?_⟩ | refine ⟨rfl, ?_⟩ | refine ⟨_, _, rfl, ?_⟩ | refine ⟨_, _, _, rfl, ?_⟩ | refine ⟨small_le (by simp), ?_⟩ | refine ⟨Or.inl ⟨by decide, by decide⟩, ?_⟩ | refine ⟨⟨by decide, by decide⟩, ?_⟩ | refine ⟨by show (0 : Int) < _; decide, ?_⟩)
    exact ⟨F.x, F.ns, i, j, rfl, (fw _).four, hi4, hj4, hij, rfl, rfl⟩
  cases fl with
  | brk => obtain ⟨_, _, _, z⟩ := hs; exact z.elim
  | cont => obtain ⟨_, _, _, z⟩ := hs; exact z.elim
  | ret u => obtain ⟨_, _, _, _, _, z⟩ := hs; exact z.elim
  | next =>
  obtain ⟨σ1, H1, I1, rfl, rfl⟩ := hs
  refine seg_execs_cons ?_
  refine seg_run (X := (fanG P w K mg base L f cdv A outer).cx s0 ((fanG P w K mg base L f cdv A outer).wakeH s0.heap F.hp)) (D := { nx := fun σ' H' => σ' = fanS2 F.x i j lo hi ∧ Same ((fanG P w K mg base L f cdv A outer).wakeH s0.heap F.hp) H', rt := fun _ _ => False }) (fun _ _ z => z) ho
    (ps_asg (pc (ok_other_places T) (hr.mono (by decide)) (by first | exact pass0 | exact passL) (pa_cons (pv 1) (pa_cons (pv 2) pa_nil))) (pg_tupL rfl (pgs_cons (pg_name (i := 3) sc_fan.nd rfl (Or.inl rfl)) (pgs_cons (pg_name (i := 4) sc_fan.nd rfl (Or.inl rfl)) pgs_nil)))) I1 ?_ fun fl s2 hs => ?_
  · repeat (first | refine ⟨_, rfl, ?_⟩ | refine ⟨_, _, rfl, rfl, ?_⟩ | refine ⟨rfl, ?_⟩ | refine ⟨_, _, rfl, ?_⟩ | refine ⟨_, _, _, rfl, ?_⟩ | refine ⟨small_le (by simp), ?_⟩ | refine ⟨Or.inl ⟨by decide, by decide⟩, ?_⟩ | refine ⟨⟨by decide, by decide⟩, ?_⟩ | refine ⟨by show (0 : Int) < _; decide, ?_⟩)
    refine fun H' p s' np ep => ?_
    rw [eo] at ep
    refine ⟨p, _, rfl, sqL ep, rfl, ?_⟩
    repeat (first | refine ⟨_, rfl, ?_⟩ | refine ⟨_, _, rfl, rfl, ?_⟩ | refine ⟨rfl, ?_⟩ | refine ⟨_, _, rfl, ?_⟩ | refine ⟨_, _, _, rfl, ?_⟩ | refine ⟨small_le (by simp), ?_⟩ | refine ⟨Or.inl ⟨by decide, by decide⟩, ?_⟩ | refine ⟨⟨by decide, by decide⟩, ?_⟩ | refine ⟨by show (0 : Int) < _; decide, ?_⟩)
    exact s'
  cases fl with
  | brk => obtain ⟨_, _, _, z⟩ := hs; exact z.elim
  | cont => obtain ⟨_, _, _, z⟩ := hs; exact z.elim
  | ret u => obtain ⟨_, _, _, _, _, z⟩ := hs; exact z.elim
  | next =>
  obtain ⟨σ2, H2, I2, rfl, up2⟩ := hs
  refine seg_execs_cons ?_
  refine fan_give (k := 0) (at_ := lo) O FO ho kn hb (pe_tupB (pa_cons (pe_tupB pa_nil) (pa_cons (pv 3) (pa_cons (pe_ix ix_tup (pe_fld (pv 0) rfl) (pv 3) (fun _ _ => rfl)) pa_nil)))) I2 up2 ?_ (by omega) c4 rfl fun _ s3 kn3 hb3 I3 => ?_
  · have F2 := (fw _).same up2
    repeat (first | refine ⟨_, rfl, ?_⟩ | refine ⟨_, _, rfl, rfl, ?_⟩ | refine ⟨rfl, ?_⟩ | refine ⟨_, _, rfl, ?_⟩ | refine ⟨_, _, _, rfl, ?_⟩ | refine ⟨small_le (by simp), ?_⟩ | refine ⟨Or.inl ⟨by decide, by decide⟩, ?_⟩ | refine ⟨⟨by decide, by decide⟩, ?_⟩ | refine ⟨by show (0 : Int) < _; decide, ?_⟩)
    (intro oZ l hoZ nl; generalize hqZ : upd _ l _ = H3; have q1 := new_same hqZ nl; have el := new_bq hqZ hoZ; clear hqZ hoZ)
    obtain ⟨ol, dl, el⟩ := el
    have F3 := F2.same q1
    repeat (first | refine ⟨_, rfl, ?_⟩ | refine ⟨_, _, rfl, rfl, ?_⟩ | refine ⟨rfl, ?_⟩ | refine ⟨_, _, rfl, ?_⟩ | refine ⟨_, _, _, rfl, ?_⟩ | refine ⟨small_le (by simp), ?_⟩ | refine ⟨Or.inl ⟨by decide, by decide⟩, ?_⟩ | refine ⟨⟨by decide, by decide⟩, ?_⟩ | refine ⟨by show (0 : Int) < _; decide, ?_⟩)
    refine ⟨F.x, _, F.dx, _, _, rfl, F3.x, T.cls_Four, T.noat_Four_bends, rfl, ?_⟩
    repeat (first | refine ⟨_, rfl, ?_⟩ | refine ⟨_, _, rfl, rfl, ?_⟩ | refine ⟨rfl, ?_⟩ | refine ⟨_, _, rfl, ?_⟩ | refine ⟨_, _, _, rfl, ?_⟩ | refine ⟨small_le (by simp), ?_⟩ | refine ⟨Or.inl ⟨by decide, by decide⟩, ?_⟩ | refine ⟨⟨by decide, by decide⟩, ?_⟩ | refine ⟨by show (0 : Int) < _; decide, ?_⟩)
    refine ⟨F.t, _, lo, _, rfl, rfl, Bq.sqT ⟨F.o, F3.d, F3.t⟩, atI_vi (by omega), ?_⟩
    repeat (first | refine ⟨_, rfl, ?_⟩ | refine ⟨_, _, rfl, rfl, ?_⟩ | refine ⟨rfl, ?_⟩ | refine ⟨_, _, rfl, ?_⟩ | refine ⟨_, _, _, rfl, ?_⟩ | refine ⟨small_le (by simp), ?_⟩ | refine ⟨Or.inl ⟨by decide, by decide⟩, ?_⟩ | refine ⟨⟨by decide, by decide⟩, ?_⟩ | refine ⟨by show (0 : Int) < _; decide, ?_⟩)
    intro o p ho2 np
    have np2 := q1.free np
    refine ⟨p, o, l, ol, rfl, dl, q1.trans (same_new np), np2, nl, fun z => (by rw [z, el] at np; cases np), same_new np _ _ el, ?_⟩
    rw [upd_same]
    have e : fq F.ns i j lo hi 0 = F.ns.getD lo 0 := by unfold fq; exact fv_0
    rw [e]
  refine seg_execs_cons ?_
  refine fan_give (k := 1) (at_ := hi) O FO ho kn3 hb3 (pe_tupB (pa_cons (pe_tupB pa_nil) (pa_cons (pv 4) (pa_cons (pe_ix ix_tup (pe_fld (pv 0) rfl) (pv 4) (fun _ _ => rfl)) pa_nil)))) I3 (Same.refl _) ?_ (by omega) d4 rfl fun _ s4 kn4 hb4 I4 => ?_
  · have F2 := fw s3.heap
    repeat (first | refine ⟨_, rfl, ?_⟩ | refine ⟨_, _, rfl, rfl, ?_⟩ | refine ⟨rfl, ?_⟩ | refine ⟨_, _, rfl, ?_⟩ | refine ⟨_, _, _, rfl, ?_⟩ | refine ⟨small_le (by simp), ?_⟩ | refine ⟨Or.inl ⟨by decide, by decide⟩, ?_⟩ | refine ⟨⟨by decide, by decide⟩, ?_⟩ | refine ⟨by show (0 : Int) < _; decide, ?_⟩)
    (intro oZ l hoZ nl; generalize hqZ : upd _ l _ = H3; have q1 := new_same hqZ nl; have el := new_bq hqZ hoZ; clear hqZ hoZ)
    obtain ⟨ol, dl, el⟩ := el
    have F3 := F2.same q1
    repeat (first | refine ⟨_, rfl, ?_⟩ | refine ⟨_, _, rfl, rfl, ?_⟩ | refine ⟨rfl, ?_⟩ | refine ⟨_, _, rfl, ?_⟩ | refine ⟨_, _, _, rfl, ?_⟩ | refine ⟨small_le (by simp), ?_⟩ | refine ⟨Or.inl ⟨by decide, by decide⟩, ?_⟩ | refine ⟨⟨by decide, by decide⟩, ?_⟩ | refine ⟨by show (0 : Int) < _; decide, ?_⟩)
    refine ⟨F.x, _, F.dx, _, _, rfl, F3.x, T.cls_Four, T.noat_Four_bends, rfl, ?_⟩
    repeat (first | refine ⟨_, rfl, ?_⟩ | refine ⟨_, _, rfl, rfl, ?_⟩ | refine ⟨rfl, ?_⟩ | refine ⟨_, _, rfl, ?_⟩ | refine ⟨_, _, _, rfl, ?_⟩ | refine ⟨small_le (by simp), ?_⟩ | refine ⟨Or.inl ⟨by decide, by decide⟩, ?_⟩ | refine ⟨⟨by decide, by decide⟩, ?_⟩ | refine ⟨by show (0 : Int) < _; decide, ?_⟩)
    refine ⟨F.t, _, hi, _, rfl, rfl, Bq.sqT ⟨F.o, F3.d, F3.t⟩, atI_vi (by omega), ?_⟩
    repeat (first | refine ⟨_, rfl, ?_⟩ | refine ⟨_, _, rfl, rfl, ?_⟩ | refine ⟨rfl, ?_⟩ | refine ⟨_, _, rfl, ?_⟩ | refine ⟨_, _, _, rfl, ?_⟩ | refine ⟨small_le (by simp), ?_⟩ | refine ⟨Or.inl ⟨by decide, by decide⟩, ?_⟩ | refine ⟨⟨by decide, by decide⟩, ?_⟩ | refine ⟨by show (0 : Int) < _; decide, ?_⟩)
    intro o p ho2 np
    have np2 := q1.free np
    refine ⟨p, o, l, ol, rfl, dl, q1.trans (same_new np), np2, nl, fun z => (by rw [z, el] at np; cases np), same_new np _ _ el, ?_⟩
    rw [upd_same]
    have e : fq F.ns i j lo hi 1 = F.ns.getD hi 0 := by unfold fq; exact fv_1
    rw [e]
  refine seg_execs_cons ?_
  refine seg_run (X := (fanG P w K mg base L f cdv A outer).cx s4 ((fanG P w K mg base L f cdv A outer).wakeH s4.heap F.hp)) (D := { nx := fun σ' H' => ∃ l, σ' = lpS F.x i j lo hi F.t l lo ∧ Same ((fanG P w K mg base L f cdv A outer).wakeH s4.heap F.hp) H' ∧ Bq H' l (vi []), rt := fun _ _ => False }) (fun _ _ z => z) ho
    (ps_par3 (i := 5) (j := 6) (l := 7) (by rfl) sc_fan.nd rfl rfl rfl (by decide) (by decide) (by decide) rfl rfl rfl (pa_cons (pe_fld (pv 0) rfl) (pa_cons (pe_tupB pa_nil) (pa_cons (pv 3) pa_nil))) (by rfl)) I4 ?_ fun fl s5 hs => ?_
  · have F2 := fw s4.heap
    repeat (first | refine ⟨_, rfl, ?_⟩ | refine ⟨_, _, rfl, rfl, ?_⟩ | refine ⟨rfl, ?_⟩ | refine ⟨_, _, rfl, ?_⟩ | refine ⟨_, _, _, rfl, ?_⟩ | refine ⟨small_le (by simp), ?_⟩ | refine ⟨Or.inl ⟨by decide, by decide⟩, ?_⟩ | refine ⟨⟨by decide, by decide⟩, ?_⟩ | refine ⟨by show (0 : Int) < _; decide, ?_⟩)
    refine ⟨F.x, _, F.dx, _, _, rfl, F2.x, T.cls_Four, T.noat_Four_bends, rfl, ?_⟩
    repeat (first | refine ⟨_, rfl, ?_⟩ | refine ⟨_, _, rfl, rfl, ?_⟩ | refine ⟨rfl, ?_⟩ | refine ⟨_, _, rfl, ?_⟩ | refine ⟨_, _, _, rfl, ?_⟩ | refine ⟨small_le (by simp), ?_⟩ | refine ⟨Or.inl ⟨by decide, by decide⟩, ?_⟩ | refine ⟨⟨by decide, by decide⟩, ?_⟩ | refine ⟨by show (0 : Int) < _; decide, ?_⟩)
    (intro oZ l hoZ nl; generalize hqZ : upd _ l _ = H3; have q1 := new_same hqZ nl; have el := new_bq hqZ hoZ; clear hqZ hoZ)
    repeat (first | refine ⟨_, rfl, ?_⟩ | refine ⟨_, _, rfl, rfl, ?_⟩ | refine ⟨rfl, ?_⟩ | refine ⟨_, _, rfl, ?_⟩ | refine ⟨_, _, _, rfl, ?_⟩ | refine ⟨small_le (by simp), ?_⟩ | refine ⟨Or.inl ⟨by decide, by decide⟩, ?_⟩ | refine ⟨⟨by decide, by decide⟩, ?_⟩ | refine ⟨by show (0 : Int) < _; decide, ?_⟩)
    exact ⟨q1, el⟩
  cases fl with
  | brk => obtain ⟨_, _, _, z⟩ := hs; exact z.elim
  | cont => obtain ⟨_, _, _, z⟩ := hs; exact z.elim
  | ret u => obtain ⟨_, _, _, _, _, z⟩ := hs; exact z.elim
  | next =>
  obtain ⟨σ5, H5, I5, l, rfl, up5, bl⟩ := hs
  refine seg_execs_cons ?_
  refine seg_While fun pp => ?_
  have F5 := (fw s4.heap).same up5
  exact fan_loop T hMb O FO hr hi4 hj4 hij eo (fun t b => (over_loop rfl rfl).trans over_func) rfl rfl (m + 1) s4 s5 F.hp H5 F.t l [] F.ns 0 lo (by omega) (by omega) kn4 hb4 I5 up5 ⟨F.o, F5.d, F5.t⟩ bl (Nat.le_refl _)
    ⟨h4, rfl, rfl, .inl ⟨rfl, (by unfold fq; exact fv_0.symm), (by unfold fq; exact fv_1.symm)⟩⟩
end
end Bh

/-! GE -/
set_option maxHeartbeats 4000000
/-! for .. in fan(..) -/
namespace Bh
open PySem PySem.Spec PyProof.Rows L2 GenW Bs GenP
theorem obj_there {P : Program} {w : World} {H : Hp} {h : Heap} {a : Addr} {u : HO} (x : ObjOk P w H h a u) : ∃ o, h.get? a = some o := by
  cases u with
  | lst xs => obtain ⟨_, _, _, _, e⟩ := x; exact ⟨_, e⟩
  | tup xs => obtain ⟨_, _, _, _, e, _⟩ := x; exact ⟨_, e⟩
  | dK kvs => obtain ⟨_, _, _, _, o, _, _, e, _⟩ := x; exact ⟨_, e⟩
  | dT kvs => obtain ⟨_, _, _, _, o, _, _, e, _⟩ := x; exact ⟨_, e⟩
  | set S n => obtain ⟨o, _, _, _, e, _⟩ := x; exact ⟨_, e⟩
  | ins C dx fs => obtain ⟨_, _, _, e, _⟩ := x; exact ⟨_, e⟩
  | own y => exact x
  | xd fs => obtain ⟨_, ⟨_, _, _, e, _⟩, _⟩ := x; exact ⟨_, e⟩
  | rng lo hi => obtain ⟨_, _, _, e⟩ := x; exact ⟨_, e⟩
  | frz ob u => exact ⟨_, x.1⟩
  | tbl ps => exact ⟨_, x⟩
  | met f y => exact ⟨_, x⟩
  | ext φ => exact x.2.1
theorem none_there {P : Program} {w : World} {H : Hp} {h : Heap} {a : Addr} (x : HOk P w H h) (e : h.get? a = none) : H a = none := by
  cases q : H a with
  | none => rfl
  | some u =>
    obtain ⟨o, ho⟩ := obj_there (x a u q)
    rw [e] at ho
    cases ho
theorem inv_gens {X : Cx} {pins : List (Addr × Obj)} {σ : L2.St} {H : Hp} {s : Shared} {G : Array GenState} (I : Inv X pins σ H s) (h : AllBare G) : Inv X pins σ H { s with gens := G } :=
  ⟨I.ok, I.os, h, I.base, I.loc, I.cell, I.free, I.freeC, I.pin, I.hok, I.len⟩
/-- the generator's frame stands apart from the consumer's things -/
structure Apt (X : Cx) (L : Addr) : Prop where
  above : X.s_0.heap.objs.size ≤ L
  loc : L ≠ X.env.locals
  cell : ∀ x c, X.env.cells.lookup x = some c → c ≠ L
  fs : L ∉ frs X.stack
theorem cons_gave {X : Cx} {G : GS0} {F : FourP G.K} (eP : G.P = X.prog) (ew : G.w = X.w) (eo : G.outer = X.stack) {pins : List (Addr × Obj)} {σ : L2.St} {H : Hp} {s s0 s1 : Shared} {v : Value} {ls : List Int} {at_ : Nat} {z : Int} {T l : Addr} {ol : Obj} {kp : List (Addr × Obj)}
    (I : Inv X pins σ H s) (FI : F.In H) (ap : Apt X G.L) (hL : H G.L = none) (pL : ∀ p ∈ X.pn ++ pins, p.1 ≠ G.L) (gv : Gave G F s0 s1 v ls at_ z T l ol kp) (e0 : s0.heap = s.heap) (eos : s0.os = s.os) {g2 : Array GenState} (hg : AllBare g2) :
    Inv X (pins ++ kp) σ (upd (upd H l (.frz ol (.tup (vi ls)))) T (.tup [.ref l, .int at_, .int z])) { s1 with gens := g2 } := by
  have nT := gv.nT
  have nl := gv.nl
  rw [e0] at nT nl
  have hT0 := none_there I.hok nT
  have hl0 := none_there I.hok nl
  have keep : ∀ b o, b ≠ G.L → b ∉ frs X.stack → F.hp b = none → s.heap.get? b = some o → s1.heap.get? b = some o := fun b o h1 h2 h3 h4 => gv.keep b o h1 (by rw [eo]; exact h2) h3 (by rw [e0]; exact h4)
  have n4 : ∀ b, H b = none → F.hp b = none := fun b => FourP.none_of FI
  have neT : ∀ {b o}, s.heap.get? b = some o → b ≠ T := fun {b o} h z => by rw [z, nT] at h; cases h
  have nel : ∀ {b o}, s.heap.get? b = some o → b ≠ l := fun {b o} h z => by rw [z, nl] at h; cases h
  have up : Same H (upd (upd H l (.frz ol (.tup (vi ls)))) T (.tup [.ref l, .int at_, .int z])) := same_mut (same_new hl0) hT0
  have four : HOk X.prog X.w F.hp s1.heap := by rw [← eP, ← ew]; exact gv.four
  have tl : ObjOk X.prog X.w (fun _ => none) s1.heap l (.frz ol (.tup (vi ls))) := by rw [← eP, ← ew]; exact gv.tl
  have tT : ObjOk X.prog X.w (fun _ => none) s1.heap T (.tup [.ref l, .int at_, .int z]) := by rw [← eP, ← ew]; exact gv.tT
  have u : Un (frs X.stack) [G.L] H (upd (upd H l (.frz ol (.tup (vi ls)))) T (.tup [.ref l, .int at_, .int z])) s.heap s1.heap := by
    refine ⟨fun b o e n hb hx => keep b o (fun q => hx (by simp [q])) hb (n4 b n) e, fun b o e n hb hx => gv.slot b o (by rw [eo]; exact hb) (by rw [e0]; exact e), fun b o e n hx => ?_, fun b o e hx => ?_, fun b xs e => up _ _ e, fun b o x e => up _ _ e, fun b ps e => ⟨#[], by rw [up _ _ e]; simp⟩⟩
    · rw [upd_ne (neT e), upd_ne (nel e)]
      exact n
    · by_cases hf : b ∈ frs X.stack
      · obtain ⟨sl, q⟩ := gv.slot b o (by rw [eo]; exact hf) (by rw [e0]; exact e)
        exact ⟨_, q⟩
      · cases q : F.hp b with
        | none => exact ⟨o, keep b o (fun q => hx (by simp [q])) hf q e⟩
        | some u => exact obj_there (four b u q)
  have hok : HOk X.prog X.w (upd (upd H l (.frz ol (.tup (vi ls)))) T (.tup [.ref l, .int at_, .int z])) s1.heap := fun b x e => by
    by_cases hbT : b = T
    · subst hbT
      rw [upd_same] at e
      cases e
      exact tup_ok tT
    rw [upd_ne hbT] at e
    by_cases hbl : b = l
    · subst hbl
      rw [upd_same] at e
      cases e
      exact frzT_ok tl
    rw [upd_ne hbl] at e
    cases q : F.hp b with
    | some y =>
      have := FI.sub q
      rw [e] at this
      cases this
      exact (four b x q).stay (fun _ _ _ z => z) (fun c h => up _ _ (FI.sub h)) fun c y h => up _ _ (FI.sub h)
    | none =>
      refine (I.hok b x e).stay (fun c v hc hv => ?_) (fun c h => up _ _ h) fun c y h => up _ _ h
      have hcs : ∃ y, H c = some y := by
        rcases hc with h | h
        · exact ⟨x, by rw [h]; exact e⟩
        · exact ⟨_, h⟩
      obtain ⟨y, hy⟩ := hcs
      refine keep c v (fun z => by rw [z, hL] at hy; cases hy) (fun z => by rw [I.stkFree c z] at hy; cases hy) ?_ hv
      rcases hc with h | h
      · rw [h]; exact q
      · cases r : F.hp c with
        | none => rfl
        | some y2 =>
          exfalso
          have h2 := FI.sub r
          rw [h] at h2
          cases h2
          unfold FourP.hp at r
          split at r
          · cases r
          · split at r
            · injection r with r
              injection r with r
              have := FI.self.x
              rw [r, q] at this
              cases this
            · split at r
              · cases r
              · cases r
  have I1 := I.call (g' := g2) (t' := s1.toks) (d' := s1.drawn) u hok hg fun b hb => by
    rw [List.mem_singleton.mp hb]
    exact ⟨.inr ap.above, ap.loc, ap.cell, pL⟩
  have es : ({ s with heap := s1.heap, gens := g2, drawn := s1.drawn, toks := s1.toks } : Shared) = { s1 with gens := g2 } := by
    have := gv.os
    rw [eos] at this
    obtain ⟨a1, a2, a3, a4, a5⟩ := s1
    obtain ⟨b1, b2, b3, b4, b5⟩ := s
    simp only at this
    subst this
    rfl
  rw [es] at I1
  refine I1.pins_of fun p hp => ?_
  rcases List.mem_append.mp hp with hp | hp
  · exact I1.pin p (List.mem_append_right _ hp)
  · obtain ⟨k1, k2, k3, k4, k5⟩ := gv.kpo p hp
    rw [e0] at k2
    refine ⟨k1, ?_, ?_, ?_, k5⟩
    · rw [upd_ne k4, upd_ne k3]
      rcases k2 with k2 | k2
      · rw [k2]; exact hL
      · exact none_there I.hok k2
    · rcases k2 with k2 | k2
      · rw [k2]; exact ap.loc
      · obtain ⟨m, ⟨o, _, _, ho, _⟩, _⟩ := I.loc
        exact fun z => by rw [z, ho] at k2; cases k2
    · have hns : p.1 ∉ frs X.stack := by
        rcases k2 with k2 | k2
        · rw [k2]; exact ap.fs
        · intro z
          obtain ⟨_, o, ho, _⟩ := I.stack.mem z
          rw [k2] at ho
          cases ho
      rcases I.ok.stk with e | ⟨e, hf⟩
      · rw [e] at hns; exact hns
      · intro z
        apply hns
        rw [e]
        unfold frs
        rw [List.filterMap_cons, hf]
        exact List.mem_cons_of_mem _ z
/-! ### the call -/
/-- a fan that has not begun -/
structure FMade (X : Cx) (x : Addr) (i j : Nat) (sc : Shared) (u : Value) (s : Shared) : Prop where
  ex : ∃ (a : Addr) (g : Nat) (f : Addr) (cdv : Value) (go : Obj), u = .ref a ∧ sc.heap.objs.size < a ∧ s.heap.get? a = some go ∧ go.cls = .type "generator" ∧ (∃ nm qn, go.data = .fields #[.int g 0, nm, qn]) ∧ go.slots = #[] ∧
    s.gens[g]? = some (.fresh (.func (defBody (top 84)) (envOfC "fan" (defScope (top 84)) sc.heap.objs.size f cdv))) ∧ s.os = sc.os ∧ AllBare s.gens ∧ (∀ b o, sc.heap.get? b = some o → s.heap.get? b = some o) ∧
    ∀ A outer, (fanG X.prog X.w X.K X.mg X.base sc.heap.objs.size f cdv A outer).Fr s.heap (fanS x i j)
theorem fan_noncell : ∀ y ∈ (defScope (top 84)).names, y.2 ≠ .cell ∧ y.2 ≠ .free := by decide +kernel
theorem fan_kinds (x : Str) : ¬ ((defScope (top 84)).names.lookup x = some .cell ∨ (defScope (top 84)).names.lookup x = some .free) := fun h => by
  rcases h with h | h
  · exact (fan_noncell _ (PySem.mem_of_lookup h)).1 rfl
  · exact (fan_noncell _ (PySem.mem_of_lookup h)).2 rfl
theorem call_fan {X : Cx} (T : Tx X.K X.mg) {pins : List (Addr × Obj)} {σ : L2.St} {H : Hp} {sc : Shared} {us : List Value} {x : Addr} {i j k : Nat} {E : Value → Shared → Prop} (hr : Room k X.A) (I : Inv X pins σ H sc) (r : Vals [.ref x, .int i, .int j] us) :
    wpAny (model X.prog X.w) X.A (call (.ref (He.ga X.K "fan")) us) (FMade X x i j sc) E sc := by
  obtain ⟨fd, FD⟩ := T.f_fan
  obtain ⟨oc, od, dV, kV, doc, pm, an, cdv, ct, osl, efd, lk, hcd, hdd, _⟩ := FD.ex
  have e0 : dV = .none := by
    rcases hdd with ⟨_, e⟩ | ⟨hd, _⟩
    · exact e
    · exact absurd rfl hd
  subst e0 efd
  obtain ⟨u1, u2, u3, rfl⟩ : ∃ u1 u2 u3, us = [u1, u2, u3] := by
    have hl := r.length
    match us, hl with
    | [a, b, c], _ => exact ⟨a, b, c, rfl⟩
  have KX := I.kIn
  have hkind : ∀ y ∈ (["four", "place", "other"] : List Str).zip [u1, u2, u3], (defScope (top 84)).names.lookup y.1 = some .local ∨ ((defScope (top 84)).names.lookup y.1 = some .cell ∧ ((cellsFrom (sc.heap.objs.size + 1) (defScope (top 84)).names []).lookup y.1).isSome = true) := fun ⟨n, v⟩ hy => by
    rcases sc_fan.par n (List.of_mem_zip hy).1 with q | q
    · exact .inl q
    · exact absurd (.inl q) (fan_kinds n)
  refine wpAny_call (codeAny_mono (R := fun rr s' => match rr with | .ok (.ret u) => FMade X x i j sc u s' | _ => False) ?_ fun rr s' hq => ?_)
  · refine codeAny_call_generator hr.depth (KX _ _ lk) rfl sc_fan.co sc_fan.gen rfl (PySem.W.codeRec_of KX hcd) ?_
    refine wpAny_of_eq (a := (["four", "place", "other"] : List Str).zip [u1, u2, u3]) rfl ?_
    refine wpAny_newFunctionEnv_cells sc_fan.kind hkind fun env he s1 ic => ?_
    subst he
    have kp := ic.toInCall.keep
    have lim := I.nolimit.keeps kp
    refine ⟨lim, ?_⟩
    obtain ⟨h1, tk, es1, hk1⟩ := ic.done
    have os1 : s1.os = sc.os := by rw [es1]
    have gen1 : s1.gens = sc.gens := by rw [es1]
    refine ⟨s1.heap.objs.size, s1.gens.size, He.ga X.K "fan", cdv, _, rfl, ic.toInCall.ns.lt, Heap.get?_push_size _ rfl, rfl, ⟨_, _, rfl⟩, rfl, Array.getElem?_push_size .., os1, AllBare.push (by rw [gen1]; exact I.bare) rfl, fun b o e => Heap.get?_push_of_some _ (kp b o e), fun A outer => ?_⟩
    obtain ⟨o, es, ep, eo, r1, r2, r3⟩ := ic.toInCall.ns
    refine ⟨_, ⟨o, es, ep, Heap.get?_push_of_some _ eo, r1, r2, r3⟩, fun n y v h1 h2 h3 => ?_⟩
    have hloc : (defScope (top 84)).names.lookup y = some .local := by
      rcases h3 with h | h | h
      · exact h
      · exact absurd (.inl h) (fan_kinds y)
      · exact absurd (.inr h) (fan_kinds y)
    have hn : n < 3 := by
      rcases Nat.lt_or_ge n 3 with h | h
      · exact h
      · exfalso
        unfold fanS at h2
        match n, h with
        | 3, _ => simp at h2
        | 4, _ => simp at h2
        | 5, _ => simp at h2
        | 6, _ => simp at h2
        | 7, _ => simp at h2
        | n + 8, _ => simp at h2
    have hp : (["four", "place", "other"] : List Str)[n]? = some y := by
      have : (fanN.take 3)[n]? = some y := by rw [List.getElem?_take_of_lt hn]; exact h1
      exact this
    have hv : ([.ref x, .int i, .int j] : List V)[n]? = some v := by
      unfold fanS at h2
      match n, hn with
      | 0, _ => simpa using h2
      | 1, _ => simpa using h2
      | 2, _ => simpa using h2
    obtain ⟨u, hu, rv⟩ := r.get hv
    exact ⟨u, rv, hloc, bindL_get (by decide +kernel) hp hu hloc⟩
  · cases rr with
    | error e => exact False.elim hq
    | ok fl =>
      cases fl with
      | ret u => exact hq
      | next => exact False.elim hq
      | brk => exact False.elim hq
      | cont => exact False.elim hq
end Bh

/-! GF -/
set_option maxHeartbeats 4000000
namespace Bh
open PySem PySem.Spec PyProof.Rows L2 GenW Bs GenP
/-! ### the loop -/
def tForFan (K : PySem.W.Frag) (ta : TA) (g : TG) (tb : TS) : TS := fun D σ H => ta σ H fun vs H1 => ∃ (x : Addr) (ns : List Int) (i j lo hi : Nat), vs = [.ref x, .int i, .int j] ∧ FourAt K H1 x ns ∧ ns.length = 4 ∧ i < 4 ∧ j < 4 ∧ i ≠ j ∧ oth2 i j = [lo, hi] ∧
  ∃ Pv : Nat → L2.St → Hp → Prop, Pv 0 σ H1 ∧ ∀ k σ H, Pv k σ H → Same H1 H ∧ k < 16760000 ∧ ∀ H' T l ls (at_ : Nat), Same H H' → H' T = some (.tup [.ref l, .int at_, .int (fq ns i j lo hi k)]) → Bq H' l (vi ls) → ls.length ≤ k → at_ < 4 →
    g (.ref T) σ H' fun σ2 H2 => tb { D with nx := fun σ3 H3 => Same H' H3 ∧ Pv (k + 1) σ3 H3, ct := fun σ3 H3 => Same H' H3 ∧ Pv (k + 1) σ3 H3, bk := D.nx } σ2 H2
/-- no end -/
def noEnd : GenEnd := fun _ _ r _ => ((r = .ok (.ret .none) ∨ r = .ok .next) ∧ False) ∨ ∃ e, r = .error e ∧ False
abbrev fG (X : Cx) (L f : Addr) (cdv : Value) : GS0 := fanG X.prog X.w X.K X.mg X.base L f cdv X.A.in1 X.stack
theorem shared_eq {s s2 : Shared} (h : s2.os = s.os) : ({ s with heap := s2.heap, gens := s2.gens, drawn := s2.drawn, toks := s2.toks } : Shared) = s2 := by
  obtain ⟨a1, a2, a3, a4, a5⟩ := s
  obtain ⟨b1, b2, b3, b4, b5⟩ := s2
  simp only at h
  subst h
  rfl
theorem ps_for_fan {X : Cx} (T : Tx X.K X.mg) {tg : Expr} {es : List Expr} {e1 : Expr} {body : List Stmt} {ta : TA} {g : TG} {tb : TS} {p cpos pos : Pos} (hx : ∀ e s, ¬ X.xe e s) (hc : X.calm = true) (hr : Room 12 X.A)
    (ha : PA X (e1 :: es) ta) (hg : PG X tg g) (hb : PSs X body tb) (hgl : Gl X "fan") (hf : X.env.frame = some X.env.locals) (hst2 : X.stack = X.env :: X.outer)
    (he : starEach (e1 :: es) X.env = (false, eval e1 X.env) :: starEach es X.env := by rfl) (hpl : (backTo cpos (starEach es X.env)).any (·.1) = false := by rfl)
    (hs : ∀ x, foldedSetIterable (.Call (.Name "fan" p) (e1 :: es) [] cpos) X.env x = pure x := by intro _; rfl) : PS X (.For tg (.Call (.Name "fan" p) (e1 :: es) [] cpos) body [] pos) (tForFan X.K ta g tb) := by
  obtain ⟨fd, FD⟩ := T.f_fan
  refine ⟨fun pins s σ H D I h => ?_⟩
  refine wpAny_For ?_ hs
  refine wpAny_Call_Name_kw (ld_glob I hgl T.g_fan ?_)
  refine PySem.W.callWith_K (h₀ := X.base) I.ok.mod.kin FD.kp (thn (ha.run cpos pins s σ H _ I h) fun us s1 ⟨vs, H1, I1, r, q⟩ => ⟨I1.kIn, ?_⟩) he hpl
  obtain ⟨x, ns, i, j, lo, hi, rfl, FA, h4, hi4, hj4, hij, eo, Pv, p0, hP⟩ := q
  obtain ⟨F, rfl, rfl, FI⟩ : ∃ F : FourP X.K, F.x = x ∧ F.ns = ns ∧ F.In H1 := by
    obtain ⟨dx, t, hx1, o, ho, ht⟩ := FA
    exact ⟨⟨x, dx, t, o, ns⟩, rfl, rfl, hx1, (I1.hok x _ hx1).1, ht, ho⟩
  refine thn (call_fan (k := 12) T hr I1 r) fun u s2 ⟨a, gn, f, cdv, go, eu, haL, hgo, hcls, hdat, hslo, hgen, hos, hbare, hkeep, hfr⟩ => ?_
  subst eu
  obtain ⟨L, hL⟩ : ∃ L, L = s1.heap.objs.size := ⟨_, rfl⟩
  rw [← hL] at haL hgen hfr
  have hisgen : ∀ h : Heap, h.get? a = some go → h.IsGen a gn := fun h e => let ⟨nm, qn, d⟩ := hdat; ⟨go, nm, qn, e, hcls, d, hslo⟩
  refine wpAny_pyIter_gen (hisgen _ hgo) ?_
  have I2 : Inv X pins σ H1 s2 := by
    have := I1.call (g' := s2.gens) (t' := s2.toks) (d' := s2.drawn) (ch := []) (Un.kept hkeep) (I1.hok.kept hkeep) hbare fun b hb => absurd hb (by simp)
    rw [shared_eq hos] at this
    exact this
  have frlt : ∀ b ∈ frs X.stack, b < L := fun b hb => by
    obtain ⟨_, o, ho, _⟩ := I1.stack.mem hb
    rw [hL]
    exact Heap.lt_size ho
  have OG : (fG X L f cdv).Ok := ⟨I1.ok.mod, sc_fan.kind, rfl, rfl, rfl, fan_kinds, rfl, hr.hd, I1.ok.frames, by rw [show (fG X L f cdv).env.locals = s1.heap.objs.size from hL]; exact Nat.le_trans I1.ok.bsz I1.sz, frlt, fun b hb => (I1.stack.mem hb).1⟩
  have ap : Apt X L := ⟨by rw [hL]; exact I1.sz, by rw [hL]; exact Ne.symm (Nat.ne_of_lt I1.lt), fun x c e z => by
    obtain ⟨v, o, ho, _⟩ := I1.cell x c e
    rw [z, hL] at ho
    exact absurd (Heap.lt_size ho) (Nat.lt_irrefl _), fun z => absurd (frlt L z) (Nat.lt_irrefl _)⟩
  have FO : FOk (fG X L f cdv) F := ⟨FI.self, fun b u e => by rw [show (fG X L f cdv).L = s1.heap.objs.size from hL]; exact I1.hok.lt (FI.sub e), fun b hb => FourP.none_of FI (I1.stkFree b hb), fun b o e => FourP.none_of FI (I1.bs b o e).2⟩
  have HL0 : H1 L = none := I1.hok.fresh (by rw [hL]; exact Nat.le_refl _)
  have hsa : s1.heap.objs.size < a := by rw [← hL]; exact haL
  have Ha0 : H1 a = none := I1.hok.fresh (Nat.le_of_lt hsa)
  have pinL : ∀ p ∈ X.pn ++ pins, p.1 ≠ L := fun p hp z => by
    have := Heap.lt_size (I1.pin p hp).1
    rw [z, hL] at this
    exact Nat.lt_irrefl _ this
  have Ia : Inv X (pins ++ [(a, go)]) σ H1 s2 := I2.pins_of fun p hp => by
    rcases List.mem_append.mp hp with hp | hp
    · exact I2.pin p (List.mem_append_right _ hp)
    · rw [List.mem_singleton.mp hp]
      refine ⟨hgo, Ha0, fun z => ?_, fun z => ?_, fun v z => ?_⟩
      · have := I1.lt
        rw [← z] at this
        exact Nat.lt_irrefl _ (Nat.lt_trans hsa this)
      · have hz : a ∈ frs X.stack := by
          rw [hst2]
          unfold frs
          rw [List.filterMap_cons, hf]
          exact List.mem_cons_of_mem _ z
        exact Nat.lt_irrefl _ (Nat.lt_trans haL (frlt a hz))
      · obtain ⟨nm, qn, d⟩ := hdat
        rw [d] at z
        cases z
  have pinLa : ∀ p ∈ X.pn ++ (pins ++ [(a, go)]), p.1 ≠ L := fun p hp => by
    rw [← List.append_assoc] at hp
    rcases List.mem_append.mp hp with hp | hp
    · exact pinL p hp
    · rw [List.mem_singleton.mp hp]
      exact Nat.ne_of_gt haL
  have fns : s2.heap.FunFrames X.base X.stack := I2.stack
  have hbs : ∀ b o, X.base.get? b = some o → s2.heap.get? b = some o := I2.bk
  have hr9 : Room 9 (X.A.in1.deeper (envOfC "fan" (defScope (top 84)) L f cdv)) := ((hr.in1 (k := 11)).deeper (k := 10) _).mono (by decide)
  have g0 : (GenState.fresh (.func (defBody (top 84)) (envOfC "fan" (defScope (top 84)) L f cdv))).Goes (model X.prog X.w) X.A.in1 noEnd (YP (fG X L f cdv) F 16770000 (fun k => fq F.ns i j lo hi k)) 16770000 (.send .none) (s2.setGen gn .running) :=
    ⟨rfl, fan_seg T (Nat.le_refl _) (by decide) OG FO hr9 hi4 hj4 hij eo h4 (FI.ok I2.hok) hbs fns (allBare_setGen hbare rfl) (hfr _ _)⟩
  refine codeAny_forLoop_any (fun n s' => ∃ k σ' H' gs, n + k = 16770000 ∧ Inv X (pins ++ [(a, go)]) σ' H' s' ∧ Pv k σ' H' ∧ H' L = none ∧ s'.gens[gn]? = some gs ∧
    gs.Goes (model X.prog X.w) X.A.in1 noEnd (YP (fG X L f cdv) F 16770000 (fun k => fq F.ns i j lo hi k)) n (.send .none) (s'.setGen gn .running)) ?_ 16770000 ⟨0, σ, H1, _, rfl, Ia, p0, HL0, hgen, g0⟩
  rintro n s3 ⟨k, σ3, H3, gs, hnk, I3, pv, HL3, hgs, hgoes⟩
  obtain ⟨up3, hk, turn⟩ := hP k σ3 H3 pv
  have FI3 := FI.same up3
  have hgl3 : gn < s3.gens.size := (Array.getElem?_eq_some_iff.mp hgs).1
  refine wpAny_gsz (n := gn + 1) hgl3 (next_genG (F := fun _ _ _ => False) (Er := fun _ _ => False) hr.hd I3.nolimit (by have := hr.dp; omega) (hisgen _ (I3.pin (a, go) (by simp)).1) hgs hgoes (fun v s4 gs' hbr hY => ?_) (fun _ z => z.elim) fun _ _ z => z.elim)
  intro hsz
  obtain ⟨k2, ls, at_, T2, l, ol, kp, hk2, gv, hls, hat, kap⟩ := hY
  have ek : k2 = k := by omega
  subst ek
  obtain ⟨m, rfl⟩ : ∃ m, n = m + 1 := ⟨n - 1, by omega⟩
  have hm0 : 0 < m := by omega
  have hbr4 : AllBare (s4.setGen gn gs').gens := allBare_setGen gv.bare hbr
  have I4 := cons_gave (G := fG X L f cdv) (F := F) rfl rfl rfl I3 FI3 ap HL3 pinLa gv rfl rfl hbr4
  have I4' := cons_gave (G := fG X L f cdv) (F := F) rfl rfl rfl I3 FI3 ap HL3 pinLa gv rfl rfl gv.bare
  have W0 : Woken (fG X L f cdv) F s4 s4 l ol kp := ⟨gv.bare, I4'.bk, I4'.stack, gv.four, fun p hp => (gv.kpo p hp).1, gv.tl.1⟩
  have hk0 : gs'.Goes (model X.prog X.w) X.A.in1 noEnd (YP (fG X L f cdv) F 16770000 (fun k => fq F.ns i j lo hi k)) m (.send (.bool true)) s4 := (kap hm0 s4 W0).2
  obtain ⟨ks, lvs, cs, pss, fss, cls, egs⟩ : ∃ ks lvs cs pss fss cls, gs' = GenState.suspended ks lvs cs pss fss cls := by
    cases gs' with
    | suspended a1 a2 a3 a4 a5 a6 => exact ⟨_, _, _, _, _, _, rfl⟩
    | fresh c =>
      obtain ⟨z, _⟩ := hk0
      cases z
    | running => exact False.elim hk0
    | finished => exact False.elim hk0
  have hgl4 : gn < s4.gens.size := by
    have q : (s4.setGen gn gs').gens.size = s4.gens.size := setGen_size _ _ _
    have hsz' : gn + 1 ≤ (s4.setGen gn gs').gens.size := hsz
    omega
  have hgy : (s4.setGen gn gs').gens[gn]? = some gs' := setGen_at hgl4
  obtain ⟨sy, hsy⟩ : ∃ sy, sy = s4.setGen gn gs' := ⟨_, rfl⟩
  have Iy : Inv X (pins ++ [(a, go)] ++ kp) σ3 (upd (upd H3 l (.frz ol (.tup (vi ls)))) T2 (.tup [.ref l, .int at_, .int (fq F.ns i j lo hi k2)])) sy := by rw [hsy]; exact I4
  rw [← hsy] at hgy hbr4 ⊢
  have hT0 := none_there I3.hok gv.nT
  have hl0 := none_there I3.hok gv.nl
  have upY : Same H3 (upd (upd H3 l (.frz ol (.tup (vi ls)))) T2 (.tup [.ref l, .int at_, .int (fq F.ns i j lo hi k2)])) := same_mut (same_new hl0) hT0
  have eT : (upd (upd H3 l (.frz ol (.tup (vi ls)))) T2 (.tup [.ref l, .int at_, .int (fq F.ns i j lo hi k2)])) T2 = some (.tup [.ref l, .int at_, .int (fq F.ns i j lo hi k2)]) := upd_same
  have el : (upd (upd H3 l (.frz ol (.tup (vi ls)))) T2 (.tup [.ref l, .int at_, .int (fq F.ns i j lo hi k2)])) l = some (.frz ol (.tup (vi ls))) := by rw [upd_ne (Ne.symm gv.ne)]; exact upd_same
  generalize upd (upd H3 l (.frz ol (.tup (vi ls)))) T2 (.tup [.ref l, .int at_, .int (fq F.ns i j lo hi k2)]) = H4 at Iy upY eT el
  have q4 := turn H4 T2 l ls at_ upY eT ⟨ol, gv.dl, el⟩ hls hat
  have hga : sy.heap.get? a = some go := (Iy.pin (a, go) (by simp)).1
  obtain ⟨nm, qn, hdat⟩ := hdat
  refine go_of hga hcls hdat (by decide) ?_
  have bmap : AllBare (sy.gens.map asleep) := fun y hy => by
    obtain ⟨y0, h0, rfl⟩ := Array.mem_map.mp hy
    exact bare_asleep (hbr4 y0 h0)
  have Ip := inv_gens Iy bmap
  have hgp : (sy.gens.map asleep)[gn]? = some (GenState.suspended bad lvs cs pss fss cls) := by
    rw [Array.getElem?_map, hgy, egs]
    rfl
  have A1 := hg.run _ _ σ3 H4 (.ref T2) v _ Ip gv.val q4
  refine wpAny_mono (wpAny_rel (s := { sy with gens := sy.gens.map asleep }) (G := sy.gens) (map_rel _) A1) (fun _ s5 hs5 => ?_) fun e s5 hs5 => let ⟨_, _, _, _, _, z⟩ := hs5; absurd z (hx _ _)
  obtain ⟨s6, G6, rfl, r6, k6, σ6, H6, I6, q6⟩ := hs5
  refine wpAny_mono (wpAny_rel r6 (hb.run _ s6 σ6 H6 _ I6 q6)) (fun fl s7 hs7 => ?_) fun e s7 hs7 => let ⟨_, _, _, _, _, z⟩ := hs7; absurd z (hx _ _)
  obtain ⟨s8, G8, rfl, r8, k8, q8⟩ := hs7
  have hg8 : G8[gn]? = some gs' := by
    have := ((k6.trans k8) gn _ _ _ _ _ hgp).2
    rw [this]
    exact hgy
  have again : ∀ {σ9 : L2.St} {H9 : Hp}, Inv X (pins ++ [(a, go)] ++ kp) σ9 H9 s8 → Same H4 H9 → Pv (k2 + 1) σ9 H9 → ∃ m2, m2 < m + 1 ∧ ∃ k σ' H' gs, m2 + k = 16770000 ∧ Inv X (pins ++ [(a, go)]) σ' H' { s8 with gens := G8 } ∧ Pv k σ' H' ∧ H' L = none ∧ ({ s8 with gens := G8 } : Shared).gens[gn]? = some gs ∧
      gs.Goes (model X.prog X.w) X.A.in1 noEnd (YP (fG X L f cdv) F 16770000 (fun k => fq F.ns i j lo hi k)) m2 (.send .none) (({ s8 with gens := G8 } : Shared).setGen gn .running) := fun {σ9 H9} I9 up9 p9 => by
    have b8 : AllBare G8 := bare_rel r8 I9.bare
    have I9g := inv_gens I9 b8
    obtain ⟨oL, hLin⟩ := gv.lin
    refine ⟨m, Nat.lt_succ_self m, k2 + 1, σ9, H9, gs', by omega, I9g.unpinned, p9, (I9g.pin (L, oL) (List.mem_append_right _ (List.mem_append_right _ hLin))).2.1, hg8, ?_⟩
    have W9 : Woken (fG X L f cdv) F s4 (({ s8 with gens := G8 } : Shared).setGen gn .running) l ol kp :=
      ⟨allBare_setGen (s := { s8 with gens := G8 }) b8 rfl, I9g.bk, I9g.stack, (FI.same (hP _ _ _ p9).1).ok I9g.hok, fun p hp => (I9g.pin p (List.mem_append_right _ (List.mem_append_right _ hp))).1, (I9g.hok l _ (up9 _ _ el)).1⟩
    exact (kap hm0 _ W9).1
  cases fl with
  | next => obtain ⟨σ9, H9, I9, u9, p9⟩ := q8; exact again I9 u9 p9
  | cont => obtain ⟨σ9, H9, I9, u9, p9⟩ := q8; exact again I9 u9 p9
  | brk =>
    obtain ⟨σ9, H9, I9, p9⟩ := q8
    exact ⟨σ9, H9, (inv_gens I9 (bare_rel r8 I9.bare)).unpinned.unpinned, p9⟩
  | ret u =>
    obtain ⟨x9, σ9, H9, I9, r9, p9⟩ := q8
    exact ⟨x9, σ9, H9, (inv_gens I9 (bare_rel r8 I9.bare)).unpinned.unpinned, r9, p9⟩
end Bh

/-! WL -/
set_option maxHeartbeats 4000000
namespace Bh
open PySem PySem.Spec PyProof.Rows L2 Bs
/-! ### the sign of a four -/
theorem gcdL4 {a b c d e : Int} (h : gcdL [a, b, c, d] ≤ 1) (h1 : e ∣ a) (h2 : e ∣ b) (h3 : e ∣ c) (h4 : e ∣ d) (h0 : a ≠ 0 ∨ b ≠ 0 ∨ c ≠ 0 ∨ d ≠ 0) : e ∣ 1 := by
  have hg : gcdL [a, b, c, d] = (Int.gcd (Int.gcd (Int.gcd a b : Nat) c : Nat) d : Nat) := by
    show (Nat.gcd (Nat.gcd (Nat.gcd (Nat.gcd 0 a.natAbs) b.natAbs : Nat) c.natAbs) d.natAbs : Nat) = ((Int.gcd _ d : Nat) : Int)
    rw [Nat.gcd_zero_left]
    rfl
  have hd : e ∣ ((Int.gcd (Int.gcd (Int.gcd a b : Nat) c : Nat) d : Nat) : Int) := Int.dvd_coe_gcd (Int.dvd_coe_gcd (Int.dvd_coe_gcd h1 h2) h3) h4
  rw [← hg] at hd
  have hge : 0 ≤ gcdL [a, b, c, d] := by rw [hg]; omega
  rcases (by omega : gcdL [a, b, c, d] = 0 ∨ gcdL [a, b, c, d] = 1) with z | z
  · exfalso
    rw [hg] at z
    have z' : Int.gcd (Int.gcd (Int.gcd a b : Nat) c : Nat) d = 0 := by omega
    obtain ⟨z1, z2⟩ := Int.gcd_eq_zero_iff.mp z'
    have z1' : Int.gcd (Int.gcd a b : Nat) c = 0 := by omega
    obtain ⟨z3, z4⟩ := Int.gcd_eq_zero_iff.mp z1'
    have z3' : Int.gcd a b = 0 := by omega
    obtain ⟨z5, z6⟩ := Int.gcd_eq_zero_iff.mp z3'
    rcases h0 with h | h | h | h
    · exact h z5
    · exact h z6
    · exact h z4
    · exact h z2
  · rw [z] at hd
    exact hd
theorem Four4.fr {ns : List Int} (F : Four4 ns) {i j lo hi : Nat} (hi4 : i < 4) (hj4 : j < 4) (hij : i ≠ j) (eo : oth2 i j = [lo, hi]) : Fr4 (ns.getD i 0) (ns.getD j 0) (ns.getD lo 0) (ns.getD hi 0) := by
  obtain ⟨c4, d4, n1, n2, n3, n4, n5⟩ := oth2_cases hi4 hj4 hij eo
  have base : Fr4 (ns.getD 0 0) (ns.getD 1 0) (ns.getD 2 0) (ns.getD 3 0) := by
    have h4 := F.len
    have ht := F.touch
    have hp := F.pos
    have hg := F.prim
    match ns, h4 with
    | [a, b, c, d], _ =>
      simp only [List.sum_cons, List.sum_nil, List.map_cons, List.map_nil] at ht hp
      refine ⟨?_, ?_, fun e h1 h2 h3 h4 => gcdL4 hg h1 h2 h3 h4 ?_⟩
      · show 2 * (a * a + b * b + c * c + d * d) = (a + b + c + d) * (a + b + c + d)
        have e1 : a + (b + (c + (d + 0))) = a + b + c + d := by omega
        rw [e1] at ht
        omega
      · show 0 < a + b + c + d
        omega
      · omega
  have all : ∀ x y z w : Nat, (x = 0 ∨ x = 1 ∨ x = 2 ∨ x = 3) → (y = 0 ∨ y = 1 ∨ y = 2 ∨ y = 3) → (z = 0 ∨ z = 1 ∨ z = 2 ∨ z = 3) → (w = 0 ∨ w = 1 ∨ w = 2 ∨ w = 3) → x ≠ y → z ≠ w → z ≠ x → z ≠ y → w ≠ x → w ≠ y → Fr4 (ns.getD x 0) (ns.getD y 0) (ns.getD z 0) (ns.getD w 0) := by
    have e0 := base.eq
    have p0 := base.pos
    have g0 := base.prim
    intro x y z w hx hy hz hw m1 m2 m3 m4 m5 m6
    have fin : ∀ {a b c d : Int}, a + b + c + d = ns.getD 0 0 + ns.getD 1 0 + ns.getD 2 0 + ns.getD 3 0 → a * a + b * b + c * c + d * d = ns.getD 0 0 * ns.getD 0 0 + ns.getD 1 0 * ns.getD 1 0 + ns.getD 2 0 * ns.getD 2 0 + ns.getD 3 0 * ns.getD 3 0 →
        (∀ e : Int, e ∣ a → e ∣ b → e ∣ c → e ∣ d → e ∣ ns.getD 0 0 ∧ e ∣ ns.getD 1 0 ∧ e ∣ ns.getD 2 0 ∧ e ∣ ns.getD 3 0) → Fr4 a b c d := fun h1 h2 h3 => ⟨by rw [h1, h2]; exact e0, by rw [h1]; exact p0, fun e a1 a2 a3 a4 => let ⟨b1, b2, b3, b4⟩ := h3 e a1 a2 a3 a4; g0 e b1 b2 b3 b4⟩
    rcases hx with rfl | rfl | rfl | rfl <;> rcases hy with rfl | rfl | rfl | rfl <;> first
      | exact absurd rfl m1
      | (rcases hz with rfl | rfl | rfl | rfl <;> first
          | exact absurd rfl m3
          | exact absurd rfl m4
          | (rcases hw with rfl | rfl | rfl | rfl <;> first
              | exact absurd rfl m2
              | exact absurd rfl m5
              | exact absurd rfl m6
              | exact fin (by omega) (by omega) fun e a1 a2 a3 a4 => ⟨by assumption, by assumption, by assumption, by assumption⟩))
  exact all i j lo hi (by omega) (by omega) (by omega) (by omega) hij n1 n2 n3 n4 n5
section
variable {P : Program} {w : World} {K : PySem.W.Frag} {mg : Str → Option Value} {base : Heap}
theorem fq_size {ns : List Int} {B : Nat} (h : ∀ b ∈ ns, b.natAbs < 2 ^ B) (i j lo hi : Nat) {k : Nat} (hk : k < 16760000) : (fq ns i j lo hi k).natAbs < 2 ^ (B + 60) := by
  have hg : ∀ n, (ns.getD n 0).natAbs < 2 ^ B := fun n => by
    rw [List.getD_eq_getElem?_getD]
    cases e : ns[n]? with
    | none => exact Nat.two_pow_pos _
    | some x => exact h x (List.mem_of_getElem? e)
  unfold fq fv
  generalize ha : ns.getD i 0 = a
  generalize hb : ns.getD j 0 = b
  generalize hc : ns.getD lo 0 = c
  generalize hd : ns.getD hi 0 = d
  have h1 := hg i
  have h2 := hg j
  have h3 := hg lo
  have h4 := hg hi
  rw [ha] at h1
  rw [hb] at h2
  rw [hc] at h3
  rw [hd] at h4
  generalize hN : 2 ^ B = N at h1 h2 h3 h4
  have e60 : (2:Nat) ^ (B + 60) = N * 1152921504606846976 := by rw [Nat.pow_add, hN]
  rw [e60]
  have hab : (a + b).natAbs ≤ 2 * N := by omega
  have hdc : (d - c - a - b).natAbs ≤ 4 * N := by omega
  have hkk : (((k : Int) * k)).natAbs ≤ 16760000 * 16760000 := by
    rw [Int.natAbs_mul]
    exact Nat.mul_le_mul (by omega) (by omega)
  have t1 : ((a + b) * ((k : Int) * k)).natAbs ≤ 2 * N * (16760000 * 16760000) := by
    rw [Int.natAbs_mul]
    exact Nat.mul_le_mul hab hkk
  have t2 : ((d - c - a - b) * (k : Int)).natAbs ≤ 4 * N * 16760000 := by
    rw [Int.natAbs_mul]
    exact Nat.mul_le_mul hdc (by omega)
  generalize (a + b) * ((k : Int) * k) = u at t1
  generalize (d - c - a - b) * (k : Int) = v at t2
  omega
theorem sc_sign : FnScope ["four", "place", "bend", "letters", "at", "other"] ["four"] (defScope (top 89)) := ⟨rfl, rfl, rfl, by decide +kernel, rfl, by decide +kernel, by decide +kernel⟩
/-- which sign -/
def pairSg (a b : Int) : Int := if b % 2 = 1 then chi a b else chi b a
def spSign (K : PySem.W.Frag) : Sp := fun vs H Q _ => ∃ (x : Addr) (ns : List Int), vs = [.ref x] ∧ FourAt K H x ns ∧ Four4 ns ∧ (∀ b ∈ ns, b.natAbs < 2 ^ 256) ∧
  ∀ H' z (i j lo hi k : Nat), Same H H' → i < 4 → j < 4 → i ≠ j → oth2 i j = [lo, hi] → ns.getD i 0 ≠ 0 → Cop (ns.getD i 0) (fq ns i j lo hi k) → SignAt K H' z (pairSg (ns.getD i 0) (fq ns i j lo hi k)) → Q (.ref z) H'
theorem ok_sign (T : Tx K mg) : Fx R.prog w K mg base CX0 13 "sign" (spSign K) := by
  refine Fx.of T.g_sign T.f_sign (fnr0 (N := ["four", "place", "bend", "letters", "at", "other"]) (ps := ["four"]) T.f_sign sc_sign (fun _ _ _ _ _ _ us hl => match us, hl with | [_], _ => rfl) (by intro vs H Q E h; repeat (first | (obtain ⟨e, _⟩ := h; subst e; rfl) | (obtain ⟨_, h⟩ := h))) fun cdv A outer s H vs Q E hr h => ?_)
  obtain ⟨x, ns, rfl, hx, F4, hz, q⟩ := h
  have h4 := F4.len
  have hx0 := hx
  obtain ⟨dx, t, h1, h2⟩ := hx
  refine ⟨_, (pss_cons (ps_expr (pc (ok_need_four T) (hr.mono (by decide)) (by first | exact pass0 | exact passL) (pa_cons (pv 0) pa_nil)))
      (pss_cons (ps_set (i := 1) sc_sign.nd rfl (Or.inl rfl) (pc (ok_first_place T) (hr.mono (by decide)) (by first | exact pass0 | exact passL) (pa_cons (pe_fld (pv 0) rfl) pa_nil)))
      (pss_cons (ps_set (i := 2) sc_sign.nd rfl (Or.inl rfl) (pe_ix ix_tup (pe_fld (pv 0) rfl) (pv 1) (fun _ _ => rfl)))
      (pss_cons (ps_for_fan T (fun _ _ z => z) rfl (hr.mono (by decide)) (pa_cons (pv 0) (pa_cons (pv 1) (pa_cons (pe_op op_modP (pe_op op_add (pv 1) pe_int) (pe_glob (v := .int 4) rfl T.i_PLACES.choose_spec ⟨_, rfl⟩)) pa_nil))) (pg_tup rfl (pgs_cons (pg_name (i := 3) sc_sign.nd rfl (Or.inl rfl)) (pgs_cons (pg_name (i := 4) sc_sign.nd rfl (Or.inl rfl)) (pgs_cons (pg_name (i := 5) sc_sign.nd rfl (Or.inl rfl)) pgs_nil)))) (pss_one (ps_if (pt_val (pc (ok_are_coprime T) (hr.mono (by decide)) (by first | exact pass0 | exact passL) (pa_cons (pv 2) (pa_cons (pv 5) pa_nil)))) (pss_one (ps_ret (StX.pe_makeR T.mkr_Sign (ok_Sign_init T) (hr.mono (by decide)) rfl T.g_Sign (by first | exact pass0 | exact passL) (pa_cons (pc (ok_sign_of_two T) (hr.mono (by decide)) (by first | exact pass0 | exact passL) (pa_cons (pv 2) (pa_cons (pv 5) pa_nil))) (pa_cons (pv 3) (pa_cons (pv 1) (pa_cons (pv 4) pa_nil))))))) pss_nil)) rfl rfl rfl)
      (pss_one (ps_ret pe_non)))))), ?_⟩
  repeat (first | refine ⟨_, rfl, ?_⟩ | refine ⟨_, _, rfl, rfl, ?_⟩ | refine ⟨rfl, ?_⟩ | refine ⟨_, _, rfl, ?_⟩ | refine ⟨_, _, _, rfl, ?_⟩ | refine ⟨small_le (by simp), ?_⟩ | refine ⟨Or.inl ⟨by decide, by decide⟩, ?_⟩ | refine ⟨⟨by decide, by decide⟩, ?_⟩ | refine ⟨by show (0 : Int) < _; decide, ?_⟩)
  refine ⟨x, ns, rfl, hx0, ?_⟩
  repeat (first | refine ⟨_, rfl, ?_⟩ | refine ⟨_, _, rfl, rfl, ?_⟩ | refine ⟨rfl, ?_⟩ | refine ⟨_, _, rfl, ?_⟩ | refine ⟨_, _, _, rfl, ?_⟩ | refine ⟨small_le (by simp), ?_⟩ | refine ⟨Or.inl ⟨by decide, by decide⟩, ?_⟩ | refine ⟨⟨by decide, by decide⟩, ?_⟩ | refine ⟨by show (0 : Int) < _; decide, ?_⟩)
  refine ⟨x, _, dx, _, _, rfl, h1, T.cls_Four, T.noat_Four_bends, rfl, ?_⟩
  repeat (first | refine ⟨_, rfl, ?_⟩ | refine ⟨_, _, rfl, rfl, ?_⟩ | refine ⟨rfl, ?_⟩ | refine ⟨_, _, rfl, ?_⟩ | refine ⟨_, _, _, rfl, ?_⟩ | refine ⟨small_le (by simp), ?_⟩ | refine ⟨Or.inl ⟨by decide, by decide⟩, ?_⟩ | refine ⟨⟨by decide, by decide⟩, ?_⟩ | refine ⟨by show (0 : Int) < _; decide, ?_⟩)
  refine ⟨t, ns, rfl, h2.t, h4, ?_, fun H1 i hi4 hi0 s1 => ?_⟩
  · match ns, h4, F4.pos with
    | [a, b, c, d], _, hp =>
      simp only [List.sum_cons, List.sum_nil] at hp
      have : a ≠ 0 ∨ b ≠ 0 ∨ c ≠ 0 ∨ d ≠ 0 := by omega
      rcases this with h | h | h | h
      · exact ⟨a, by simp, h⟩
      · exact ⟨b, by simp, h⟩
      · exact ⟨c, by simp, h⟩
      · exact ⟨d, by simp, h⟩
  repeat (first | refine ⟨_, rfl, ?_⟩ | refine ⟨_, _, rfl, rfl, ?_⟩ | refine ⟨rfl, ?_⟩ | refine ⟨_, _, rfl, ?_⟩ | refine ⟨_, _, _, rfl, ?_⟩ | refine ⟨small_le (by simp), ?_⟩ | refine ⟨Or.inl ⟨by decide, by decide⟩, ?_⟩ | refine ⟨⟨by decide, by decide⟩, ?_⟩ | refine ⟨by show (0 : Int) < _; decide, ?_⟩)
  refine ⟨x, _, dx, _, _, rfl, s1 _ _ h1, T.cls_Four, T.noat_Four_bends, rfl, ?_⟩
  repeat (first | refine ⟨_, rfl, ?_⟩ | refine ⟨_, _, rfl, rfl, ?_⟩ | refine ⟨rfl, ?_⟩ | refine ⟨_, _, rfl, ?_⟩ | refine ⟨_, _, _, rfl, ?_⟩ | refine ⟨small_le (by simp), ?_⟩ | refine ⟨Or.inl ⟨by decide, by decide⟩, ?_⟩ | refine ⟨⟨by decide, by decide⟩, ?_⟩ | refine ⟨by show (0 : Int) < _; decide, ?_⟩)
  refine ⟨t, _, i, _, rfl, rfl, (h2.same s1).sqT, atI_vi (by omega), ?_⟩
  repeat (first | refine ⟨_, rfl, ?_⟩ | refine ⟨_, _, rfl, rfl, ?_⟩ | refine ⟨rfl, ?_⟩ | refine ⟨_, _, rfl, ?_⟩ | refine ⟨_, _, _, rfl, ?_⟩ | refine ⟨small_le (by simp), ?_⟩ | refine ⟨Or.inl ⟨by decide, by decide⟩, ?_⟩ | refine ⟨⟨by decide, by decide⟩, ?_⟩ | refine ⟨by show (0 : Int) < _; decide, ?_⟩)
  obtain ⟨j, hj⟩ : ∃ j, j = (i + 1) % 4 := ⟨_, rfl⟩
  have hj4 : j < 4 := by omega
  have hij : i ≠ j := by omega
  obtain ⟨lo, hi, eo⟩ := oth2_two hi4 hj4 hij
  have Fr := F4.fr hi4 hj4 hij eo
  have hsz : (ns.getD i 0).natAbs < 2 ^ 256 := by
    have hm : ns.getD i 0 ∈ ns := by
      rw [List.getD_eq_getElem?_getD, List.getElem?_eq_getElem (by omega : i < ns.length)]
      exact List.getElem_mem _
    exact hz _ hm
  obtain ⟨k0, hk0, hc0⟩ := soon (fv_cls Fr (Int.dvd_mul_right (ns.getD i 0) (ns.getD j 0))) hi0 hsz
  have hc0 : Cop (ns.getD i 0) (fq ns i j lo hi k0) := hc0.comm
  refine ⟨x, ns, i, j, lo, hi, ?_, hx0.same s1, h4, hi4, hj4, hij, eo, fun k σ H' => Same H1 H' ∧ (∀ k', k' < k → ¬ Cop (ns.getD i 0) (fq ns i j lo hi k')) ∧ ∃ y z u, σ = [some (.ref x), some (.int i), some (.int (ns.getD i 0)), y, z, u], ⟨Same.refl _, fun _ h => absurd h (Nat.not_lt_zero _), _, _, _, rfl⟩, fun k σ H2 hp => ?_⟩
  · have e : ((i : Int) + 1) % 4 = ((j : Nat) : Int) := by omega
    rw [← e]
  obtain ⟨p1, p2, y, z, u, rfl⟩ := hp
  have hk : k ≤ k0 := by
    rcases Nat.lt_or_ge k0 k with h | h
    · exact absurd hc0 (p2 k0 h)
    · exact h
  refine ⟨p1, by omega, fun H3 TT l ls at_ s3 eT bl hls hat => ?_⟩
  refine ⟨TT, _, rfl, sqT eT, rfl, ?_⟩
  repeat (first | refine ⟨_, rfl, ?_⟩ | refine ⟨_, _, rfl, rfl, ?_⟩ | refine ⟨rfl, ?_⟩ | refine ⟨_, _, rfl, ?_⟩ | refine ⟨_, _, _, rfl, ?_⟩ | refine ⟨small_le (by simp), ?_⟩ | refine ⟨Or.inl ⟨by decide, by decide⟩, ?_⟩ | refine ⟨⟨by decide, by decide⟩, ?_⟩ | refine ⟨by show (0 : Int) < _; decide, ?_⟩)
  refine fun H4 s4 => ?_
  repeat (first | refine ⟨_, rfl, ?_⟩ | refine ⟨_, _, rfl, rfl, ?_⟩ | refine ⟨rfl, ?_⟩ | refine ⟨_, _, rfl, ?_⟩ | refine ⟨_, _, _, rfl, ?_⟩ | refine ⟨small_le (by simp), ?_⟩ | refine ⟨Or.inl ⟨by decide, by decide⟩, ?_⟩ | refine ⟨⟨by decide, by decide⟩, ?_⟩ | refine ⟨by show (0 : Int) < _; decide, ?_⟩)
  refine dB (fun e => ?_) (fun e => ?_)
  · repeat (first | refine ⟨_, rfl, ?_⟩ | refine ⟨_, _, rfl, rfl, ?_⟩ | refine ⟨rfl, ?_⟩ | refine ⟨_, _, rfl, ?_⟩ | refine ⟨_, _, _, rfl, ?_⟩ | refine ⟨small_le (by simp), ?_⟩ | refine ⟨Or.inl ⟨by decide, by decide⟩, ?_⟩ | refine ⟨⟨by decide, by decide⟩, ?_⟩ | refine ⟨by show (0 : Int) < _; decide, ?_⟩)
    have hb := big_le
    have hsf := fq_size hz i j lo hi (k := k) (by omega)
    have pw1 : (2:Nat) ^ (256 + 60) ≤ 2 ^ (BIG + 2) := Nat.pow_le_pow_right (by decide) (by unfold BIG; decide)
    have pw2 : (2:Nat) ^ 256 ≤ 2 ^ (BIG + 2) := Nat.pow_le_pow_right (by decide) (by unfold BIG; decide)
    refine ⟨e, not_both_even e, Nat.lt_of_lt_of_le hsz pw2, Nat.lt_of_lt_of_le hsf pw1, fun H5 s5 => ?_⟩
    repeat (first | refine ⟨_, rfl, ?_⟩ | refine ⟨_, _, rfl, rfl, ?_⟩ | refine ⟨rfl, ?_⟩ | refine ⟨_, _, rfl, ?_⟩ | refine ⟨_, _, _, rfl, ?_⟩ | refine ⟨small_le (by simp), ?_⟩ | refine ⟨Or.inl ⟨by decide, by decide⟩, ?_⟩ | refine ⟨⟨by decide, by decide⟩, ?_⟩ | refine ⟨by show (0 : Int) < _; decide, ?_⟩)
    have s35 := s4.trans s5
    exact mk_sign (bl.same s35).t (by omega) fun H6 zz s6 nz ez => q H6 zz i j lo hi k (s1.trans (p1.trans (s3.trans (s35.trans s6)))) hi4 hj4 hij eo hi0 e ez
  · refine ⟨s4, p1.trans (s3.trans s4), fun k' hk' => ?_, _, _, _, rfl⟩
    rcases Nat.lt_or_ge k' k with h | h
    · exact p2 k' h
    · have : k' = k := by omega
      rw [this]
      exact e
end
end Bh

/-! WX -/
set_option maxHeartbeats 4000000
/-! exceptions whose __init__ begins with super().__init__ -/
namespace Bh
open PySem PySem.Spec PyProof.Rows L2
open NdefX (NF envF ncx NScope startF inv_startN CellsAt nscope_by nscB)
/-- ValueError.__init__ bound to x -/
def mwX (q x : Addr) : HO := .frz (PySem.W.kxs_mw "ValueError.__init__" x) (.own 0)
/-- .. called: nothing of it is told -/
theorem call_mw {X : Cx} {pins : List (Addr × Obj)} {σ : L2.St} {H : Hp} {s : Shared} {a C u : Addr} {us : List Value} {Q : Value → Shared → Prop} {E : Value → Shared → Prop} (T : OexC X.K C) (I : L2.Inv X pins σ H s) (e : H a = some (exo a C none)) (hu : s.heap.get? u = some (PySem.W.kxs_mw "ValueError.__init__" a)) (hl : us.length ≤ sizeLine)
    (h : ∀ s', L2.Inv X pins σ H s' → Q .none s') : wpAny (model X.prog X.w) X.A (call (.ref u) us) Q E s := by
  obtain ⟨nm, q, N, bs, bm, sn, sub, ab, col, dd, k0, k1, k2, k3, k5, hC, hbm⟩ := T.cls
  obtain ⟨t1, ho⟩ := exo_at I.hok e
  obtain ⟨hp, g, d, t, os⟩ := s
  have fin : ∀ h', (∀ b o, b ≠ a → hp.get? b = some o → h'.get? b = some o) → h'.get? a = some (PySem.W.excRec (.ref C) hp.objs.size none .none .none (.bool false)) → Q .none ⟨h', g, d, t, os⟩ := fun h' k hx => by
    have J := I.write (t' := t) (x := a) (e := a) (o := exo a C none) (by rw [e]; exact True.intro) (.inl rfl) k ⟨_, hx⟩ (exo_ok hx)
    have eu : upd H a (exo a C none) = H := funext fun b => by
      by_cases hb : b = a
      · rw [hb, upd_same, e]
      · rw [upd_ne hb]
    rw [eu] at J
    exact h _ J
  have FB := F.excBase_ValueError
  refine wpAny_call (codeAny_of_tree ?_)
  show wpAny _ X.A.in1 (callAny (.ref u) ⟨us, []⟩) _ _ _
  simp only [callAny]
  refine wpAny_bind (wpAny_load hu ?_)
  have d1 : (Value.type "method-wrapper" == Value.type "method" || Value.type "method-wrapper" == Value.type "builtin_function_or_method" || Value.type "method-wrapper" == Value.type "method-wrapper") = true := by decide
  simp only [PySem.W.kxs_mw, d1, if_true]
  refine PySem.W.KFB.if_so (by decide) ?_
  refine wpAny_bind (PySem.W.check_bound_init FB.toExcCallFacts (I.kIn _ _ hC) ho rfl ?_)
  refine wpAny_bind (wpAny_pure (wpAny_pure ?_))
  refine ⟨plainId_quiet FB.init.plain _, codeAny_builtin FB.initEntry ?_⟩
  exact PySem.W.exc_init_tree (cls := .ref C) (t0 := t1) (dv := none) (c2 := .none) (c3 := .none) (b4 := .bool false) ho hl fun h' k hx _ => fin h' k hx
section
variable {P : Program} {w : World} {K : PySem.W.Frag} {mg : Str → Option Value} {base : Heap} {CX : CXT} {name qual : Str} {params : Arguments} {scope : Scope} {f C cc cda : Addr} {N ps : List Str} {k : Nat} {sp : Sp}
theorem fnr_superX {e : Expr} {es : List Expr} {rest : List Stmt} {p0 p1 p2 p3 p4 : Pos} {ar : Arg} {pl : Sem Bool}
    (S : SupD P K f C name qual params (.Expr (.Call (.Attribute (.Call (.Name "super" p0) [] [] p1) "__init__" p2) (e :: es) [] p3) p4 :: rest) scope cc cda) (ms : mg "super" = none) (htop : (P.main.scope.names.lookup ("super" : Str)).isSome = false) (opq : PySem.W.nsIn K cStatics "thirdparty.any" = some none) (OX : OexC K C) (hsup : PySem.W.ks_superIn K C C "__init__" = some (some (.builtin "ValueError.__init__"))) (hV : PySem.W.subIn K (.ref C) (.type "ValueError") = some true)
    (Sc : NScope N ps ["__class__"] scope) (hp : (params.posonlyargs ++ params.args).head? = some ar) (hp0 : ps.head? = some ar.arg)
    (hks : scope.names.lookup ("super" : Str) = some .globalImplicit) (hka : scope.names.lookup ar.arg = some .local)
    (hb : ∀ (kV doc pm : Value) (an : Option Addr) (ct : Value) (us : List Value), us.length = ps.length → bindArgs (PySem.W.fnX name qual params (.Expr (.Call (.Attribute (.Call (.Name "super" p0) [] [] p1) "__init__" p2) (e :: es) [] p3) p4 :: rest) scope [("__class__", cc)] .none kV doc pm an (.ref cda) ct) ⟨us, []⟩ = pure (ps.zip us))
    (len : ∀ vs H Q E, sp vs H Q E → vs.length = ps.length) 
    (he : ∀ (L : Addr), eval (.Call (.Attribute (.Call (.Name "super" p0) [] [] p1) "__init__" p2) (e :: es) [] p3) (envF ⟨name, qual, params, rest, scope, [("__class__", cc)], cda⟩ f L) = (do
      let ov ← attributeBase (.Call (.Name "super" p0) [] [] p1) "__init__" (envF ⟨name, qual, params, rest, scope, [("__class__", cc)], cda⟩ f L) (eval (.Call (.Name "super" p0) [] [] p1) (envF ⟨name, qual, params, rest, scope, [("__class__", cc)], cda⟩ f L))
      standAt p2.atName
      let (fx, first) ← holding [ov] (getMethod ov "__init__" pl)
      callWith p3 fx first (backTo p3 (starEach (e :: es) (envF ⟨name, qual, params, rest, scope, [("__class__", cc)], cda⟩ f L))) []))
    (hsw : ∀ (L : Addr), swapsWith (.Call (.Attribute (.Call (.Name "super" p0) [] [] p1) "__init__" p2) (e :: es) [] p3) none p4.line (envF ⟨name, qual, params, rest, scope, [("__class__", cc)], cda⟩ f L) = pure false)
    (hst : ∀ (L : Addr), starEach (e :: es) (envF ⟨name, qual, params, rest, scope, [("__class__", cc)], cda⟩ f L) = (false, eval e (envF ⟨name, qual, params, rest, scope, [("__class__", cc)], cda⟩ f L)) :: starEach es (envF ⟨name, qual, params, rest, scope, [("__class__", cc)], cda⟩ f L))
    (hpl : ∀ (L : Addr), (backTo p3 (starEach es (envF ⟨name, qual, params, rest, scope, [("__class__", cc)], cda⟩ f L))).any (·.1) = false)
    (hbody : ∀ (A : Around) (outer : List Env) (s : Shared) (H : Hp) (vs : List V) (Q : VK) (E : XK), Room k (A.deeper (envF ⟨name, qual, params, rest, scope, [("__class__", cc)], cda⟩ f s.heap.objs.size)) → sp vs H Q E →
      ∃ t tr, PA (ncx CX P w K mg base N ⟨name, qual, params, rest, scope, [("__class__", cc)], cda⟩ f A outer s H E) (e :: es) t ∧ PSs (ncx CX P w K mg base N ⟨name, qual, params, rest, scope, [("__class__", cc)], cda⟩ f A outer s H E) rest tr ∧
        ∃ x, vs[0]? = some (.ref x) ∧ H x = some (exo x C none) ∧ ∀ q, H q = none → t (startF N vs [some (.ref C)]) (upd H q (mwX q x)) fun ws H1 => ws.length ≤ 1000 ∧ H1 q = some (mwX q x) ∧ H1 x = some (exo x C none) ∧ tr { nx := fun _ H' => Q .non H', rt := Q } (startF N vs [some (.ref C)]) H1) :
    FnR P w K mg base CX (k + 1) f sp := by
  intro A outer s H us vs Q E hr e0 r hsp
  obtain ⟨oc, od, osl, kV, doc, pm, ct, an, lk⟩ := S.at_
  have KX : K.In s.heap := e0.mod.kin.keeps fun b o z => (e0.bs b o z).1
  have lim : s.heap.NoLimit := e0.mod.nolimit.keeps fun b o z => (e0.bs b o z).1
  have hl := len _ _ _ _ hsp
  have KB : K.In base := e0.mod.kin
  obtain ⟨ccl, cdd, vs2, ccs, file, tf, hcda, hv2, hfile⟩ := S.file
  obtain ⟨cl, cld, csl, hcell⟩ := S.cell
  obtain ⟨cdD, hD⟩ := S.cls
  have hcc : H cc = none := (e0.bs _ _ (KB _ _ hcell)).2
  have C0 : CellsAt [("__class__", cc)] ["__class__"] [some (V.ref C)] s.heap H := by
    have e1 : ∀ (y : Str) (c : Addr), ([("__class__", cc)] : List (Str × Addr)).lookup y = some c → y = "__class__" ∧ c = cc := by
      intro y c z
      by_cases hy : y = "__class__"
      · subst hy
        exact ⟨rfl, (Option.some.inj z).symm⟩
      · have hb : (y == ("__class__" : Str)) = false := beq_eq_false_iff_ne.mpr hy
        simp [List.lookup, hb] at z
    refine ⟨rfl, fun y c z => ?_, fun x y c z1 z2 => ?_, fun i y z => ?_⟩
    · obtain ⟨_, rfl⟩ := e1 y c z
      exact ⟨hcc, _, _, KX _ _ hcell, rfl⟩
    · rw [(e1 x c z1).1, (e1 y c z2).1]
    · have hi : i = 0 ∧ y = "__class__" := by
        match i, z with
        | 0, z => exact ⟨rfl, (Option.some.inj z).symm⟩
      obtain ⟨rfl, rfl⟩ := hi
      refine ⟨cc, rfl, fun v z => ⟨.ref C, ?_, _, KX _ _ hcell, rfl⟩⟩
      have : v = V.ref C := (Option.some.inj (Option.some.inj z)).symm
      subst this
      rfl
  obtain ⟨t, tr, hA, hR, x, hx0, hxH, hq⟩ := hbody A outer s H vs Q E (hr.deeper _) hsp
  refine ks_codeAny_call_defAt (fd := PySem.W.fnX name qual params (.Expr (.Call (.Attribute (.Call (.Name "super" p0) [] [] p1) "__init__" p2) (e :: es) [] p3) p4 :: rest) scope [("__class__", cc)] .none kV doc pm an (.ref cda) ct)
    (body := .Expr (.Call (.Attribute (.Call (.Name "super" p0) [] [] p1) "__init__" p2) (e :: es) [] p3) p4 :: rest) (binds := ps.zip us) hr.depth (KX _ _ lk) rfl lim (PySem.W.codeRec_of KX S.code) rfl (.of_eq (hb kV doc pm an ct us (by rw [← r.length]; exact hl)))
    Sc.nocell (fun y hy => Sc.par y.1 (List.of_mem_zip hy).1) (fun h₁ hns kp => ?_) Sc.co Sc.gen Sc.kind
  have I : L2.Inv (ncx CX P w K mg base N ⟨name, qual, params, rest, scope, [("__class__", cc)], cda⟩ f A outer s H E) [] (startF N vs [some (V.ref C)]) H { s with heap := h₁, toks := s.toks + (ps.zip us).length } :=
    inv_startN Sc hr.hd e0 hl r C0 hns kp
  have K1 : K.In h₁ := KX.keeps kp
  have hkc : scope.names.lookup ("__class__" : Str) = some .free := Sc.frk _ (by simp)
  -- self
  have hself : (ps.zip us).reverse.lookup ar.arg = some (Value.ref x) := by
    obtain ⟨u, hu, ru⟩ := r.get hx0
    have eu : u = Value.ref x := ru
    subst eu
    have h0 : ps[0]? = some ar.arg := by rw [← List.head?_eq_getElem?]; exact hp0
    have hpn : ps.Nodup := by
      have q := Sc.nd.sublist (List.take_sublist (ps.length + 1) N)
      have e2 := Sc.pre
      simp only [List.length_cons, List.length_nil] at e2
      rw [e2] at q
      exact (List.nodup_append.mp q).1
    exact NdefX.zip_look hpn h0 hu
  obtain ⟨tx, hxo⟩ := exo_at I.hok hxH
  have J : PySem.W.InstAt h₁ x { cls := .ref C, dict := none, data := .fields #[.ref tx, .none, .none, .none, .bool false, .none] } C none := ⟨hxo, rfl, rfl, trivial⟩
  obtain ⟨oD, hD1, hD2⟩ : ∃ oD, h₁.get? C = some oD ∧ oD.data = .cls cdD := by
    unfold PySem.W.clsIn at hD
    split at hD
    · rename_i c d cd' sl ho
      cases hD
      exact ⟨_, K1 _ _ ho, rfl⟩
    · cases hD
  refine ks_wpAt_execs_cons (ks_wpAt_Expr_any (ks_wpAt_MethodCall (pl := pl) ?_ (he _)) I.quiet (hsw _))
  refine ks_wpAt_super_base (env := envF ⟨name, qual, params, rest, scope, [("__class__", cc)], cda⟩ f s.heap.objs.size) hks hkc (by decide) rfl (K1 _ _ lk) rfl hp rfl (K1 _ _ hcda) rfl hv2 hfile htop ?_
  obtain ⟨mb, hb1, hb2⟩ := I.mod.blt
  refine PySem.W.ks_loadName_global Sc.kind hks (PySem.Calls.loadGlobal_builtin (env := envF ⟨name, qual, params, rest, scope, [("__class__", cc)], cda⟩ f s.heap.objs.size) (I.mod.glob.keeps I.bk) ms (hb1.keeps I.bk) ((hb2 _ (by decide)).trans (by decide +kernel : bootBuiltins "super" = some (.type "super"))) ⟨rfl, ?_⟩)
  refine wpAny_loadName_free Sc.kind hkc rfl ⟨_, K1 _ _ hcell, rfl⟩ ?_
  refine wpAny_loadName_local Sc.kind hka hns hself ?_
  refine ks_wpAny_isType_cls hD1 hD2 ⟨rfl, ?_⟩
  refine ks_wpAny_call_super hD1 hD2 J.at_ J.cls (fun c z => by cases z) (PySem.W.looks_mroIn K1 S.sub) (fun h2 e2 k2 => ?_)
  have I2 := I.kept (t' := s.toks + (ps.zip us).length) k2
  have K2 : K.In h2 := K1.keeps k2
  have J2 : PySem.W.InstAt h2 x { cls := .ref C, dict := none, data := .fields #[.ref tx, .none, .none, .none, .bool false, .none] } C none := ⟨k2 _ _ hxo, rfl, rfl, trivial⟩
  unfold PySem.W.ks_superIn at hsup
  cases hcC : PySem.W.clsIn K C with
  | none => rw [hcC] at hsup; cases hsup
  | some cdC =>
    rw [hcC, Option.bind_some] at hsup
    refine PySem.W.kxs_getMethod PySem.W.kxs_ValueError e2 (PySem.W.looks_opaque K2 opq) (l₀ := cdC.mro) ?_ rfl K2 hsup (J2.type.andThen (PySem.W.looks_subIn K2 hV)) (PySem.W.ks_ne K1 J hcC) (by decide) ?_
    · exact fun A Q E s k q => wpAny_bind ((PySem.W.looks_clsIn K2 hcC) A _ E s k (wpAny_pure q))
    have nq : H h2.objs.size = none := I2.hok.fresh (Nat.le_refl _)
    have I3 : L2.Inv (ncx CX P w K mg base N ⟨name, qual, params, rest, scope, [("__class__", cc)], cda⟩ f A outer s H E) [] (startF N vs [some (V.ref C)]) (upd H h2.objs.size (mwX h2.objs.size x)) { s with heap := h2.push (PySem.W.kxs_mw "ValueError.__init__" x), toks := s.toks + (ps.zip us).length + 1 } :=
      I2.laid (t' := s.toks + (ps.zip us).length + 1) (a := h2.objs.size) (o := mwX h2.objs.size x) (fun b u z => Heap.get?_push_of_some _ z) (Nat.le_refl _)
        (show ObjOk P w _ (h2.push (PySem.W.kxs_mw "ValueError.__init__" x)) h2.objs.size (.frz _ (.own 0)) from ⟨Heap.get?_push_size h2 rfl, _, Heap.get?_push_size h2 rfl⟩)
    have hA2 := hA.run p3 [] _ (startF N vs [some (V.ref C)]) _ _ I3 (hq _ nq)
    change wpAny _ _ (callWith p3 (.ref h2.objs.size) [] (backTo p3 (starEach (e :: es) (envF ⟨name, qual, params, rest, scope, [("__class__", cc)], cda⟩ f s.heap.objs.size))) []) _ _ _
    change wpAny _ _ (spliced (backTo p3 (starEach (e :: es) (envF ⟨name, qual, params, rest, scope, [("__class__", cc)], cda⟩ f s.heap.objs.size)))) _ _ _ at hA2
    rw [hst] at hA2 ⊢
    refine PySem.W.kxs_callWith (i := "ValueError.__init__") (x := x) (by
      show (false || (backTo p3 (starEach es (envF ⟨name, qual, params, rest, scope, [("__class__", cc)], cda⟩ f s.heap.objs.size))).any (·.1)) = false
      rw [hpl]; rfl) (PySem.Calls.evalArgs_plain ?_)
    refine wpAny_mono hA2 (fun us2 s4 h4 => ?_) fun _ _ z => z
    obtain ⟨ws, H4, I4, rw4, hw4, hm4, hx4, hq4⟩ := h4
    have hu4 : s4.heap.get? h2.objs.size = some (PySem.W.kxs_mw "ValueError.__init__" x) := (I4.hok _ _ hm4).1
    refine ⟨hu4, ?_⟩
    refine call_mw OX I4 hx4 hu4 (by show us2.length ≤ sizeLine; rw [← Paired.length rw4]; exact Nat.le_trans hw4 (by decide)) fun s5 I5 => ?_
    refine PySem.wpAt_of_wpAny ?_
    refine wpAny_mono (hR.run [] _ (startF N vs [some (V.ref C)]) H4 _ I5 hq4) (fun fl s' hs => ?_) fun e s' hs => hs
    have fin : ∀ {σ' : L2.St} {H' : Hp} {v : V} {u : Value}, L2.Inv (ncx CX P w K mg base N ⟨name, qual, params, rest, scope, [("__class__", cc)], cda⟩ f A outer s H E) [] σ' H' s' → L2.RelV v u → Q v H' → CE outer P w H s Q u s' :=
      fun {σ' H' v u} J rv q => ⟨v, H', J.os, J.bare, J.base, J.hok, rv, q⟩
    cases fl with
    | ret u =>
      obtain ⟨v, σ', H', J, rv, q⟩ := hs
      exact fin J rv q
    | next =>
      obtain ⟨σ', H', J, q⟩ := hs
      exact fin (v := V.non) (u := Value.none) J rfl q
    | brk =>
      obtain ⟨_, _, _, q⟩ := hs
      exact False.elim q
    | cont =>
      obtain ⟨_, _, _, q⟩ := hs
      exact False.elim q
end
/-! ### the classes -/
section
variable {P : Program} {w : World} {K : PySem.W.Frag} {mg : Str → Option Value} {base : Heap}
theorem oexC_of {C : Addr} (h : oexB K C = true) (sa : PySem.W.findIn K (.ref C) "__setattr__" = some (some (.builtin "object.__setattr__"))) (e1 : PySem.W.subIn K (.ref C) (.type "BaseException") = some true) (e2 : PySem.W.typeIn K (.ref C) = some (.type "type")) (e3 : PySem.W.keepIn K (.ref C) = true) : OexC K C := by
  refine ⟨?_, sa, e1, e2, e3⟩
  unfold oexB at h
  split at h
  · rename_i od cd sl q
    split at h
    · rename_i C' bm a0 a1 a2 a3 n a5 hm hsl
      obtain ⟨h1, h⟩ := Bool.and_eq_true_iff.mp h
      obtain ⟨h2, h⟩ := Bool.and_eq_true_iff.mp h
      obtain ⟨h3, h⟩ := Bool.and_eq_true_iff.mp h
      obtain ⟨h4, h5⟩ := Bool.and_eq_true_iff.mp h
      have f1 : C' = C := by simpa using h1
      have f2 : n = "ValueError.__new__" := by simpa using h2
      have f3 : cd.hasDel = false := by simpa using h3
      subst f1 f2
      have es : sl = #[a0, a1, a2, a3, some (.builtin "ValueError.__new__"), a5] := by
        apply Array.ext'
        rw [hsl]
      obtain ⟨nm, bs, mro, ns, qn, hd, sn, sb, ab, col, del⟩ := cd
      simp only at hm h4 f3
      subst hm h4 f3 es
      exact ⟨nm, qn, ns, bs, bm, sn, sb, ab, col, od, a0, a1, a2, a3, a5, q, h5⟩
    · cases h
  · cases h
theorem oex_BadFour (T : Tx K mg) : OexC K (He.ga K "BadFour") := oexC_of T.x_oex_BadFour T.x_sa_BadFour T.x_exb_BadFour T.x_ty_BadFour T.x_kp_BadFour
theorem oex_TooMany (T : Tx K mg) : OexC K (He.ga K "TooMany") := oexC_of T.x_oex_TooMany T.x_sa_TooMany T.x_exb_TooMany T.x_ty_TooMany T.x_kp_TooMany
/-- an exception's init: the fields, in the order in which they come -/
def spExcInit (C : Addr) (names : List Str) : Sp := fun vs H Q _ => ∃ (x : Addr) (ps : List V), vs = .ref x :: ps ∧ ps.length = names.length ∧ H x = some (exo x C none) ∧
  ∀ H' dx, (∀ b o, b ≠ x → H b = some o → H' b = some o) → H dx = none → H' x = some (exo x C (some dx)) → H' dx = some (exd dx (names.zip ps).reverse) → Q .non H'
theorem ok_BadFour_init (T : Tx K mg) : FnR R.prog w K mg base CX0 1 (He.ma K (He.ga K "BadFour") "__init__") (spExcInit (He.ga K "BadFour") ["part"]) := by
  obtain ⟨cc, cda, S⟩ := supD_of (d := c_BadFour_init) T.x_sup_BadFour T.cs_BadFour
  refine fnr_superX (N := ["self", "part", "__class__"]) (ps := ["self", "part"]) S T.m_super no_super T.x_opq (oex_BadFour T) T.x_super_BadFour T.x_exv_BadFour (nscope_by (by decide +kernel)) rfl rfl (by decide +kernel) (by decide +kernel)
    (fun _ _ _ _ _ us hl => match us, hl with | [_, _], _ => rfl) (fun vs H Q E h => by obtain ⟨x, ps, rfl, h1, _⟩ := h; simp; exact h1) (fun _ => rfl) (fun _ => rfl) (fun _ => rfl) (fun _ => rfl) fun A outer s H vs Q E hr h => ?_
  obtain ⟨x, ps, rfl, hl, hx, q⟩ := h
  match ps, hl with
  | [p], _ =>
    refine ⟨_, _, (pa_cons pe_str pa_nil), (pss_one (ps_ost (pv 0) (pv 1))), x, rfl, hx, fun m nm => ?_⟩
    have s1 := same_new (o := mwX m x) nm
    have em : (upd H m (mwX m x)) m = _ := upd_same
    generalize upd H m (mwX m x) = H1 at s1 em ⊢
    refine ⟨by simp, em, s1 _ _ hx, ?_⟩
    repeat (first | refine ⟨_, rfl, ?_⟩ | refine ⟨_, _, rfl, rfl, ?_⟩ | refine ⟨rfl, ?_⟩ | refine ⟨_, _, rfl, ?_⟩ | refine ⟨_, _, _, rfl, ?_⟩ | refine ⟨small_le (by simp), ?_⟩ | refine ⟨Or.inl ⟨by decide, by decide⟩, ?_⟩ | refine ⟨⟨by decide, by decide⟩, ?_⟩ | refine ⟨by show (0 : Int) < _; decide, ?_⟩)
    refine ⟨x, He.ga K "BadFour", rfl, oex_BadFour T, T.x_no_BadFour_part, .inl ⟨s1 _ _ hx, fun dx ndx hne => ?_⟩⟩
    refine q _ dx (fun b o hb e => ?_) (s1.free ndx) upd_same ?_
    · rw [upd_ne hb, upd_ne (ne_of_none (s1 _ _ e) ndx)]
      exact s1 _ _ e
    · rw [upd_ne hne, upd_same]
      rfl
theorem ok_TooMany_init (T : Tx K mg) : FnR R.prog w K mg base CX0 1 (He.ma K (He.ga K "TooMany") "__init__") (spExcInit (He.ga K "TooMany") ["what", "most"]) := by
  obtain ⟨cc, cda, S⟩ := supD_of (d := c_TooMany_init) T.x_sup_TooMany T.cs_TooMany
  refine fnr_superX (N := ["self", "what", "most", "__class__"]) (ps := ["self", "what", "most"]) S T.m_super no_super T.x_opq (oex_TooMany T) T.x_super_TooMany T.x_exv_TooMany (nscope_by (by decide +kernel)) rfl rfl (by decide +kernel) (by decide +kernel)
    (fun _ _ _ _ _ us hl => match us, hl with | [_, _, _], _ => rfl) (fun vs H Q E h => by obtain ⟨x, ps, rfl, h1, _⟩ := h; simp; exact h1) (fun _ => rfl) (fun _ => rfl) (fun _ => rfl) (fun _ => rfl) fun A outer s H vs Q E hr h => ?_
  obtain ⟨x, ps, rfl, hl, hx, q⟩ := h
  match ps, hl with
  | [p, r], _ =>
    refine ⟨_, _, (pa_cons pe_str pa_nil), (pss_cons (ps_ost (pv 0) (pv 1)) (pss_one (ps_ost (pv 0) (pv 2)))), x, rfl, hx, fun m nm => ?_⟩
    have s1 := same_new (o := mwX m x) nm
    have em : (upd H m (mwX m x)) m = _ := upd_same
    generalize upd H m (mwX m x) = H1 at s1 em ⊢
    refine ⟨by simp, em, s1 _ _ hx, ?_⟩
    repeat (first | refine ⟨_, rfl, ?_⟩ | refine ⟨_, _, rfl, rfl, ?_⟩ | refine ⟨rfl, ?_⟩ | refine ⟨_, _, rfl, ?_⟩ | refine ⟨_, _, _, rfl, ?_⟩ | refine ⟨small_le (by simp), ?_⟩ | refine ⟨Or.inl ⟨by decide, by decide⟩, ?_⟩ | refine ⟨⟨by decide, by decide⟩, ?_⟩ | refine ⟨by show (0 : Int) < _; decide, ?_⟩)
    refine ⟨x, He.ga K "TooMany", rfl, oex_TooMany T, T.x_no_TooMany_what, .inl ⟨s1 _ _ hx, fun dx ndx hne => ?_⟩⟩
    repeat (first | refine ⟨_, rfl, ?_⟩ | refine ⟨_, _, rfl, rfl, ?_⟩ | refine ⟨rfl, ?_⟩ | refine ⟨_, _, rfl, ?_⟩ | refine ⟨_, _, _, rfl, ?_⟩ | refine ⟨small_le (by simp), ?_⟩ | refine ⟨Or.inl ⟨by decide, by decide⟩, ?_⟩ | refine ⟨⟨by decide, by decide⟩, ?_⟩ | refine ⟨by show (0 : Int) < _; decide, ?_⟩)
    refine ⟨x, He.ga K "TooMany", rfl, oex_TooMany T, T.x_no_TooMany_most, .inr ⟨dx, [("what", p)], upd_same, ?_, by simp, ?_⟩⟩
    · rw [upd_ne hne, upd_same]
    refine q _ dx (fun b o hb e => ?_) (s1.free ndx) ?_ ?_
    · have nb : b ≠ dx := ne_of_none (s1 _ _ e) ndx
      rw [upd_ne nb, upd_ne hb, upd_ne nb]
      exact s1 _ _ e
    · rw [upd_ne (Ne.symm hne), upd_same]
    · rw [upd_same]
      rfl
/-! ### such an exception made, raised -/
def tMkX (C : Addr) (names : List Str) (ta : TA) : L2.St → Hp → XK → Prop := fun σ H Q => ta σ H fun vs H1 => vs.length = names.length ∧ names.length ≤ 1000 ∧ ∀ H2 d, Same H1 H2 → H1 d = none → H2 d = some (.xd (names.zip vs).reverse) → Q (.ref C) (some d) H2
theorem pmk_x {X : Cx} {x : Str} {C fI : Addr} {k : Nat} {names : List Str} {e : Expr} {es : List Expr} {ta : TA} {p pos : Pos} (OX : OexC X.K C) (iC : PySem.W.findIn X.K (.ref C) "__init__" = some (some (.ref fI))) (tI : PySem.W.typeIn X.K (.ref fI) = some (.type "function"))
    (F1 : FnR X.prog X.w X.K X.mg X.base CX0 k fI (spExcInit C names)) (hr : Room (k + 1) X.A) (hg : Gl X x) (hm : X.mg x = some (.ref C)) (ha : PA X (e :: es) ta)
    (hdb : (x == ("__debug__" : Str)) = false := by decide) (he : starEach (e :: es) X.env = (false, eval e X.env) :: starEach es X.env := by rfl) (hpl : (backTo pos (starEach es X.env)).any (·.1) = false := by rfl) :
    PMk X (.Call (.Name x p) (e :: es) [] pos) (tMkX C names ta) := by
  intro pins s σ H Q I h
  obtain ⟨nm, q, N, bs, bm, sn, sub, ab, col, dd, k0, k1, k2, k3, k5, hC, hbm⟩ := OX.cls
  refine wpAny_Call_Name_kw (ld_glob I hg hm ?_ hdb)
  refine PySem.W.callWith_K (h₀ := X.base) I.ok.mod.kin OX.kC (thn (ha.run pos pins s σ H _ I h) fun us s1 ⟨vs, H1, I1, r1, hlen, hz, q1⟩ => ⟨I1.kIn, ?_⟩) he hpl
  show wpAny _ _ (call (.ref C) us) _ _ _
  obtain ⟨hp, g, dr, tk, os⟩ := s1
  have hsz : hp.objs.size ≤ hp.objs.size + 1 := Nat.le_succ _
  have hn : H1 (hp.objs.size + 1) = none := I1.hok.fresh hsz
  have keep : ∀ b o, hp.get? b = some o → ((hp.push (PySem.W.kdv_tup us)).push (PySem.HandSPX.excO C hp.objs.size)).get? b = some o := fun b o z => Heap.get?_push_of_some _ (Heap.get?_push_of_some _ z)
  have there : ((hp.push (PySem.W.kdv_tup us)).push (PySem.HandSPX.excO C hp.objs.size)).get? (hp.objs.size + 1) = some (PySem.HandSPX.excO C hp.objs.size) := by heap_get
  have I2 : L2.Inv X pins σ (upd H1 (hp.objs.size + 1) (exo (hp.objs.size + 1) C none)) ⟨(hp.push (PySem.W.kdv_tup us)).push (PySem.HandSPX.excO C hp.objs.size), g, dr, tk, os⟩ :=
    I1.laid (t' := tk) (a := hp.objs.size + 1) (o := exo (hp.objs.size + 1) C none) (h' := (hp.push (PySem.W.kdv_tup us)).push (PySem.HandSPX.excO C hp.objs.size)) keep hsz (exo_ok there)
  have hus : us.length ≤ sizeLine := by
    rw [← Paired.length r1, sizeLine_eq]
    omega
  have run := F1 _ X.stack _ _ (Value.ref (hp.objs.size + 1) :: us) (V.ref (hp.objs.size + 1) :: vs) (fun v H2 => v = .non ∧ ∃ dx, (∀ b o, b ≠ hp.objs.size + 1 → H1 b = some o → H2 b = some o) ∧ H1 dx = none ∧ H2 (hp.objs.size + 1) = some (exo (hp.objs.size + 1) C (some dx)) ∧ H2 dx = some (exd dx (names.zip vs).reverse)) (fun _ _ _ => False)
    (hr.make C us []) (I2.env0.make C us []) (.cons rfl r1) ⟨hp.objs.size + 1, vs, rfl, hlen, upd_same, fun H' dx k1 n1 e1 e2 => ⟨rfl, dx, fun b o hb eb => k1 b o hb (by rw [upd_ne hb]; exact eb), by
      have hd : dx ≠ hp.objs.size + 1 := fun z => by rw [z, upd_same] at n1; cases n1
      rw [upd_ne hd] at n1
      exact n1, e1, e2⟩⟩
  refine wpAny_call (PySem.HandSPX.call_own F.excBase_ValueError (fun Y => PySem.HandSPX.refsVE_contains Y bm hbm) (I1.kIn _ _ hC) (PySem.W.looks_findIn I1.kIn iC) (fun self => PySem.W.bind_fn I1.kIn self tI) hus (codeAny_mono run fun r s' hq' => ?_))
  cases r with
  | error er => exact False.elim hq'
  | ok fl =>
    cases fl with
    | ret u =>
      obtain ⟨v, H2, os2, bare2, un2, hok2, rv, ev, dx, kk, nd, ea, ed⟩ := hq'
      subst ev
      obtain ⟨h2, g2, d2, t2, os'⟩ := s'
      refine ⟨rv, mk_end (raises_own OX.exC OX.tyC) I1 hsz keep un2 hok2 os2 bare2 ea ed nd (q1 _ dx (fun b o eb => ?_) nd upd_same)⟩
      have hba : b ≠ hp.objs.size + 1 := ne_of_none eb hn
      rw [upd_ne (ne_of_none eb nd), del_ne hba]
      exact kk b o hba eb
    | next => exact False.elim hq'
    | brk => exact False.elim hq'
    | cont => exact False.elim hq'
end
end Bh

/-! WY -/
set_option maxHeartbeats 4000000
namespace Bh
open PySem PySem.Spec PyProof.Rows L2 Bs
section
variable {P : Program} {w : World} {K : PySem.W.Frag} {mg : Str → Option Value} {base : Heap}
/-! ### what is refused -/
abbrev sc_need_four_x := sc_need_four
/-- no four -/
def NotFour (K : PySem.W.Frag) (H : Hp) (v : V) : Prop := ∃ t, TyX K H v t ∧ PySem.W.kitOne K t (.ref (He.ga K "Four")) = some false
def spNeedFourX (K : PySem.W.Frag) : Sp := fun vs H Q E => ∃ v, vs = [v] ∧ NotFour K H v ∧ ∀ H' d, Same H H' → H d = none → H' d = some (.xd [("part", .str "four")]) → E (.ref (He.ga K "BadFour")) (some d) H'
def spNeedFourX2 (K : PySem.W.Frag) : Sp := fun vs H Q E => ∃ v, vs = [v, .str "four"] ∧ NotFour K H v ∧ ∀ H' d, Same H H' → H d = none → H' d = some (.xd [("part", .str "four")]) → E (.ref (He.ga K "BadFour")) (some d) H'
theorem ok_need_four_x (T : Tx K mg) : Fx R.prog w K mg base (CX R.prog w) 3 "need_four" (spNeedFourX K) := by
  refine Fx.of T.g_need_four T.f_need_four ?_
  obtain ⟨fd, F⟩ := T.f_need_four
  obtain ⟨ds, hd, hb⟩ := need_four_binds F
  refine FnR.imp (fnrD (N := ["value", "part"]) (ps := ["value", "part"]) (sp := spNeedFourX2 K) F sc_need_four hb hd (by intro vs H Q E h; repeat (first | (obtain ⟨e, _⟩ := h; subst e; rfl) | (obtain ⟨_, h⟩ := h))) fun cdv A outer s H vs Q E hr h => ?_) fun vs H Q E h => ?_
  · obtain ⟨v, rfl, ⟨t, ht, hk⟩, q⟩ := h
    refine ⟨_, (pss_one (ps_if (pt_not (pt_val (pe_callB call_isi (by rfl) T.m_isinstance (by decide +kernel) (pa_cons (pv 0) (pa_cons (pe_glob (v := .ref (He.ga K "Four")) rfl T.g_Four rfl) pa_nil))))) (pss_one (ps_raise rfl (takes_of rfl rfl rfl rfl) (pmk_x (oex_BadFour T) T.x_init_BadFour T.x_ti_BadFour (ok_BadFour_init T) (hr.mono (by decide)) rfl T.g_BadFour (pa_cons (pv 1) pa_nil)))) pss_nil)), ?_⟩
    repeat (first | refine ⟨_, rfl, ?_⟩ | refine ⟨_, _, rfl, rfl, ?_⟩ | refine ⟨rfl, ?_⟩ | refine ⟨_, _, rfl, ?_⟩ | refine ⟨_, _, _, rfl, ?_⟩ | refine ⟨small_le (by simp), ?_⟩ | refine ⟨Or.inl ⟨by decide, by decide⟩, ?_⟩ | refine ⟨⟨by decide, by decide⟩, ?_⟩ | refine ⟨by show (0 : Int) < _; decide, ?_⟩)
    refine ⟨_, _, _, _, false, rfl, .own _, ht, hk, ?_⟩
    repeat (first | refine ⟨_, rfl, ?_⟩ | refine ⟨_, _, rfl, rfl, ?_⟩ | refine ⟨rfl, ?_⟩ | refine ⟨_, _, rfl, ?_⟩ | refine ⟨_, _, _, rfl, ?_⟩ | refine ⟨small_le (by simp), ?_⟩ | refine ⟨Or.inl ⟨by decide, by decide⟩, ?_⟩ | refine ⟨⟨by decide, by decide⟩, ?_⟩ | refine ⟨by show (0 : Int) < _; decide, ?_⟩)
    exact ⟨by decide, fun H2 d s2 nd ed => q H2 d s2 nd ed⟩
  · obtain ⟨v, rfl, h1, q⟩ := h
    exact ⟨v, rfl, h1, q⟩
def spNeedPrimesX (K : PySem.W.Frag) : Sp := fun vs H Q E => ∃ n : Int, vs = [.int n] ∧ 1000000 < n ∧ ∀ H' d, Same H H' → H d = none → H' d = some (.xd [("most", .int 1000000), ("what", .str "side")]) → E (.ref (He.ga K "TooMany")) (some d) H'
theorem ok_need_primes_x (T : Tx K mg) : Fx R.prog w K mg base (CX R.prog w) 3 "need_primes" (spNeedPrimesX K) := by
  refine Fx.of T.g_need_primes T.f_need_primes (fnrX (N := ["side"]) (ps := ["side"]) T.f_need_primes sc_need_primes (fun _ _ _ _ _ _ us hl => match us, hl with | [_], _ => rfl) (by intro vs H Q E h; repeat (first | (obtain ⟨e, _⟩ := h; subst e; rfl) | (obtain ⟨_, h⟩ := h))) fun cdv A outer s H vs Q E hr h => ?_)
  obtain ⟨n, rfl, hn, q⟩ := h
  refine ⟨_, (pss_one (ps_if (pt_cmpR op_gt (pv 0) (pe_glob (v := .int 1000000) rfl T.i_MOST_SIDE.choose_spec ⟨_, rfl⟩) (nomark _)) (pss_one (ps_raise rfl (takes_of rfl rfl rfl rfl) (pmk_x (oex_TooMany T) T.x_init_TooMany T.x_ti_TooMany (ok_TooMany_init T) (hr.mono (by decide)) rfl T.g_TooMany (pa_cons pe_str (pa_cons (pe_glob (v := .int 1000000) rfl T.i_MOST_SIDE.choose_spec ⟨_, rfl⟩) pa_nil))))) pss_nil)), ?_⟩
  repeat (first | refine ⟨_, rfl, ?_⟩ | refine ⟨_, _, rfl, rfl, ?_⟩ | refine ⟨rfl, ?_⟩ | refine ⟨_, _, rfl, ?_⟩ | refine ⟨_, _, _, rfl, ?_⟩ | refine ⟨small_le (by simp), ?_⟩ | refine ⟨Or.inl ⟨by decide, by decide⟩, ?_⟩ | refine ⟨⟨by decide, by decide⟩, ?_⟩ | refine ⟨by show (0 : Int) < _; decide, ?_⟩)
  refine dT hn ?_
  exact ⟨rfl, by decide, fun H2 d s2 nd ed => q H2 d s2 nd ed⟩
/-- so many steps down -/
inductive Long : Nat → List Int → Prop where
  | zero {ns : List Int} : Long 0 ns
  | succ {k : Nat} {ns : List Int} {i : Nat} (h : lowPl ns = some i) (r : Long k (exch ns i)) : Long (k + 1) ns
def spDownX (K : PySem.W.Frag) : Sp := fun vs H Q E => ∃ (a : Addr) (ns : List Int), vs = [.ref a] ∧ Bq H a (vi ns) ∧ ns.length = 4 ∧ Long 201 ns ∧ ∀ H' d, Same H H' → H d = none → H' d = some (.xd [("most", .int 200), ("what", .str "letters")]) → E (.ref (He.ga K "TooMany")) (some d) H'
theorem ok_down_x (T : Tx K mg) : Fx R.prog w K mg base (CX R.prog w) 3 "down" (spDownX K) := by
  refine Fx.of T.g_down T.f_down (fnrX (N := ["bends", "letters", "place"]) (ps := ["bends"]) T.f_down sc_down (fun _ _ _ _ _ _ us hl => match us, hl with | [_], _ => rfl) (by intro vs H Q E h; repeat (first | (obtain ⟨e, _⟩ := h; subst e; rfl) | (obtain ⟨_, h⟩ := h))) fun cdv A outer s H vs Q E hr h => ?_)
  obtain ⟨a, ns, rfl, hs, h4, hL, q⟩ := h
  refine ⟨_, (pss_cons (ps_par (i := 1) (j := 2) (by rfl) sc_down.nd rfl rfl (by decide) rfl rfl (pa_cons (pe_lst pa_nil) (pa_cons (pc (ok_lowering T) (hr.mono (by decide)) (by first | exact pass0 | exact passL) (pa_cons (pv 0) pa_nil)) pa_nil)) (by rfl))
      (pss_cons (ps_while (passes_of rfl) (pt_cmpR op_notN (pv 2) pe_non (nomark _)) (pss_cons (ps_expr (pe_bm PySem.F.plainAttrs_list PySem.F.slot_list_append PySem.F.type_list_append mt_append (pv 1) (pa_cons (pv 2) pa_nil)))
      (pss_cons (ps_if (pt_cmpR op_gt (pe_callB call_len_seq (by rfl) T.m_len PySem.boot_len (pa_cons (pv 1) pa_nil)) (pe_glob (v := .int 200) rfl T.i_MOST_LETTERS.choose_spec ⟨_, rfl⟩) (nomark _)) (pss_one (ps_raise rfl (takes_of rfl rfl rfl rfl) (pmk_x (oex_TooMany T) T.x_init_TooMany T.x_ti_TooMany (ok_TooMany_init T) (hr.mono (by decide)) rfl T.g_TooMany (pa_cons pe_str (pa_cons (pe_glob (v := .int 200) rfl T.i_MOST_LETTERS.choose_spec ⟨_, rfl⟩) pa_nil))))) pss_nil)
      (pss_cons (ps_set (i := 0) sc_down.nd rfl (Or.inl rfl) (pc (ok_exchanged_at T) (hr.mono (by decide)) (by first | exact pass0 | exact passL) (pa_cons (pv 0) (pa_cons (pv 2) pa_nil))))
      (pss_one (ps_set (i := 2) sc_down.nd rfl (Or.inl rfl) (pc (ok_lowering T) (hr.mono (by decide)) (by first | exact pass0 | exact passL) (pa_cons (pv 0) pa_nil))))))))
      (pss_one (ps_ret (pe_tup (pa_cons (pe_callTy call_tuple_ofB (by rfl) T.m_tuple (by decide +kernel) (pa_cons (pv 0) pa_nil)) (pa_cons (pe_callTy call_tuple_ofB (by rfl) T.m_tuple (by decide +kernel) (pa_cons (pe_revL (pv 1)) pa_nil)) pa_nil))))))), ?_⟩
  repeat (first | refine ⟨_, rfl, ?_⟩ | refine ⟨_, _, rfl, rfl, ?_⟩ | refine ⟨rfl, ?_⟩ | refine ⟨_, _, rfl, ?_⟩ | refine ⟨_, _, _, rfl, ?_⟩ | refine ⟨small_le (by simp), ?_⟩ | refine ⟨Or.inl ⟨by decide, by decide⟩, ?_⟩ | refine ⟨⟨by decide, by decide⟩, ?_⟩ | refine ⟨by show (0 : Int) < _; decide, ?_⟩)
  (intro L nLH; generalize hqZ : upd _ L _ = H1; have s1 := new_same hqZ nLH; have e1 := new_at hqZ; clear hqZ)
  repeat (first | refine ⟨_, rfl, ?_⟩ | refine ⟨_, _, rfl, rfl, ?_⟩ | refine ⟨rfl, ?_⟩ | refine ⟨_, _, rfl, ?_⟩ | refine ⟨_, _, _, rfl, ?_⟩ | refine ⟨small_le (by simp), ?_⟩ | refine ⟨Or.inl ⟨by decide, by decide⟩, ?_⟩ | refine ⟨⟨by decide, by decide⟩, ?_⟩ | refine ⟨by show (0 : Int) < _; decide, ?_⟩)
  refine ⟨a, ns, rfl, (hs.same s1).t, fun H2 s2 => ?_⟩
  repeat (first | refine ⟨_, rfl, ?_⟩ | refine ⟨_, _, rfl, rfl, ?_⟩ | refine ⟨rfl, ?_⟩ | refine ⟨_, _, rfl, ?_⟩ | refine ⟨_, _, _, rfl, ?_⟩ | refine ⟨small_le (by simp), ?_⟩ | refine ⟨Or.inl ⟨by decide, by decide⟩, ?_⟩ | refine ⟨⟨by decide, by decide⟩, ?_⟩ | refine ⟨by show (0 : Int) < _; decide, ?_⟩)
  refine ⟨fun m σ H' => Same H H' ∧ ∃ b cur dn, Bq H' b (vi cur) ∧ cur.length = 4 ∧ H' L = some (.lst (vn dn)) ∧ dn.length ≤ 200 ∧ Long (201 - dn.length) cur ∧ m = 201 - dn.length ∧ σ = [some (.ref b), some (.ref L), some (oN (lowPl cur))],
    ⟨_, s1.trans s2, a, ns, [], (hs.same s1).same s2, h4, s2 _ _ e1, by simp, hL, rfl, rfl⟩, fun m σ H' hp => ?_⟩
  obtain ⟨s3, b, cur, dn, hb, hc, eL, hdl, hdn, hm, rfl⟩ := hp
  repeat (first | refine ⟨_, rfl, ?_⟩ | refine ⟨_, _, rfl, rfl, ?_⟩ | refine ⟨rfl, ?_⟩ | refine ⟨_, _, rfl, ?_⟩ | refine ⟨_, _, _, rfl, ?_⟩ | refine ⟨small_le (by simp), ?_⟩ | refine ⟨Or.inl ⟨by decide, by decide⟩, ?_⟩ | refine ⟨⟨by decide, by decide⟩, ?_⟩ | refine ⟨by show (0 : Int) < _; decide, ?_⟩)
  obtain ⟨k, hk⟩ : ∃ k, 201 - dn.length = k + 1 := ⟨200 - dn.length, by omega⟩
  rw [hk] at hdn
  cases hdn with
  | succ hlo hr2 =>
    rename_i i
    rw [hlo]
    refine nT (fun z => nomatch z) ?_
    refine ⟨_, fun _ _ z => z, ?_⟩
    have hi := lowPl_lt hlo
    repeat (first | refine ⟨_, rfl, ?_⟩ | refine ⟨_, _, rfl, rfl, ?_⟩ | refine ⟨rfl, ?_⟩ | refine ⟨_, _, rfl, ?_⟩ | refine ⟨_, _, _, rfl, ?_⟩ | refine ⟨small_le (by simp), ?_⟩ | refine ⟨Or.inl ⟨by decide, by decide⟩, ?_⟩ | refine ⟨⟨by decide, by decide⟩, ?_⟩ | refine ⟨by show (0 : Int) < _; decide, ?_⟩)
    refine ⟨Or.inl ⟨rfl, _, sqL eL⟩, ?_⟩
    repeat (first | refine ⟨_, rfl, ?_⟩ | refine ⟨_, _, rfl, rfl, ?_⟩ | refine ⟨rfl, ?_⟩ | refine ⟨_, _, rfl, ?_⟩ | refine ⟨_, _, _, rfl, ?_⟩ | refine ⟨small_le (by simp), ?_⟩ | refine ⟨Or.inl ⟨by decide, by decide⟩, ?_⟩ | refine ⟨⟨by decide, by decide⟩, ?_⟩ | refine ⟨by show (0 : Int) < _; decide, ?_⟩)
    refine ⟨L, _, _, rfl, rfl, eL, small_lt (by simp; omega), ?_⟩
    have s4 : Same H (upd H' L (.lst (vn dn ++ [oN (some i)]))) := same_mut s3 nLH
    have s34 : ∀ {x xs}, Bq H' x xs → Bq (upd H' L (.lst (vn dn ++ [oN (some i)]))) x xs := fun {x xs} ⟨o, ho, hx⟩ => ⟨o, ho, by rw [upd_ne (ne_of hx eL (by intro z; cases z))]; exact hx⟩
    have e4 : (upd H' L (.lst (vn dn ++ [oN (some i)]))) L = _ := upd_same
    generalize upd H' L (.lst (vn dn ++ [oN (some i)])) = H4 at s4 s34 e4 ⊢
    repeat (first | refine ⟨_, rfl, ?_⟩ | refine ⟨_, _, rfl, rfl, ?_⟩ | refine ⟨rfl, ?_⟩ | refine ⟨_, _, rfl, ?_⟩ | refine ⟨_, _, _, rfl, ?_⟩ | refine ⟨small_le (by simp), ?_⟩ | refine ⟨Or.inl ⟨by decide, by decide⟩, ?_⟩ | refine ⟨⟨by decide, by decide⟩, ?_⟩ | refine ⟨by show (0 : Int) < _; decide, ?_⟩)
    refine ⟨L, _, rfl, .inl (sqL e4), ?_⟩
    repeat (first | refine ⟨_, rfl, ?_⟩ | refine ⟨_, _, rfl, rfl, ?_⟩ | refine ⟨rfl, ?_⟩ | refine ⟨_, _, rfl, ?_⟩ | refine ⟨_, _, _, rfl, ?_⟩ | refine ⟨small_le (by simp), ?_⟩ | refine ⟨Or.inl ⟨by decide, by decide⟩, ?_⟩ | refine ⟨⟨by decide, by decide⟩, ?_⟩ | refine ⟨by show (0 : Int) < _; decide, ?_⟩)
    refine dB (fun e5 => ?_) (fun e5 => ?_)
    · exact ⟨rfl, by decide, fun H5 d s5 nd ed => q H5 d (s4.trans s5) (s4.free nd) ed⟩
    · have e5' : dn.length + 1 ≤ 200 := by simp at e5; omega
      repeat (first | refine ⟨_, rfl, ?_⟩ | refine ⟨_, _, rfl, rfl, ?_⟩ | refine ⟨rfl, ?_⟩ | refine ⟨_, _, rfl, ?_⟩ | refine ⟨_, _, _, rfl, ?_⟩ | refine ⟨small_le (by simp), ?_⟩ | refine ⟨Or.inl ⟨by decide, by decide⟩, ?_⟩ | refine ⟨⟨by decide, by decide⟩, ?_⟩ | refine ⟨by show (0 : Int) < _; decide, ?_⟩)
      refine ⟨b, cur, i, rfl, (s34 hb).t, hi, hc, fun H5 b2 s5 nb2 eb2 => ?_⟩
      repeat (first | refine ⟨_, rfl, ?_⟩ | refine ⟨_, _, rfl, rfl, ?_⟩ | refine ⟨rfl, ?_⟩ | refine ⟨_, _, rfl, ?_⟩ | refine ⟨_, _, _, rfl, ?_⟩ | refine ⟨small_le (by simp), ?_⟩ | refine ⟨Or.inl ⟨by decide, by decide⟩, ?_⟩ | refine ⟨⟨by decide, by decide⟩, ?_⟩ | refine ⟨by show (0 : Int) < _; decide, ?_⟩)
      refine ⟨b2, _, rfl, eb2.t, fun H6 s6 => ?_⟩
      refine ⟨k, by omega, s4.trans (s5.trans s6), b2, _, dn ++ [i], eb2.same s6, by rw [exch_len hi]; exact hc, ?_, by simp; omega, ?_, by simp; omega, rfl⟩
      · rw [s6 _ _ (s5 _ _ e4)]
        simp [vn, oN]
      · rw [show 201 - (dn ++ [i]).length = k by simp; omega]
        exact hr2
def spLeastX (K : PySem.W.Frag) : Sp := fun vs H Q E => ∃ (x : Addr) (ns : List Int), vs = [.ref x] ∧ FourAt K H x ns ∧ ns.length = 4 ∧ Long 201 ns ∧ ∀ H' d, Same H H' → H d = none → H' d = some (.xd [("most", .int 200), ("what", .str "letters")]) → E (.ref (He.ga K "TooMany")) (some d) H'
theorem ok_least_x (T : Tx K mg) : Fx R.prog w K mg base (CX R.prog w) 7 "least" (spLeastX K) := by
  refine Fx.of T.g_least T.f_least (fnrX (N := ["four", "bends", "letters"]) (ps := ["four"]) T.f_least sc_least (fun _ _ _ _ _ _ us hl => match us, hl with | [_], _ => rfl) (by intro vs H Q E h; repeat (first | (obtain ⟨e, _⟩ := h; subst e; rfl) | (obtain ⟨_, h⟩ := h))) fun cdv A outer s H vs Q E hr h => ?_)
  obtain ⟨x, ns, rfl, hx, h4, hL, q⟩ := h
  have hx0 := hx
  obtain ⟨dx, t, h1, h2⟩ := hx
  refine ⟨_, (pss_cons (ps_expr (pc (ok_need_four T) (hr.mono (by decide)) (by first | exact pass0 | exact passL) (pa_cons (pv 0) pa_nil)))
      (pss_cons (ps_asg (pc (ok_down_x T) (hr.mono (by decide)) (passes_call (takes_of rfl rfl rfl rfl) (fun _ _ _ _ h => h)) (pa_cons (pe_fld (pv 0) rfl) pa_nil)) (pg_tup rfl (pgs_cons (pg_name (i := 1) sc_least.nd rfl (Or.inl rfl)) (pgs_cons (pg_name (i := 2) sc_least.nd rfl (Or.inl rfl)) pgs_nil))))
      (pss_one (ps_ret (StX.pe_makeR T.mkr_Least (ok_Least_init T) (hr.mono (by decide)) rfl T.g_Least (by first | exact pass0 | exact passL) (pa_cons (StX.pe_makeR T.mkr_Four (ok_Four_init T) (hr.mono (by decide)) rfl T.g_Four (by first | exact pass0 | exact passL) (pa_cons (pv 1) pa_nil)) (pa_cons (pv 2) pa_nil))))))), ?_⟩
  repeat (first | refine ⟨_, rfl, ?_⟩ | refine ⟨_, _, rfl, rfl, ?_⟩ | refine ⟨rfl, ?_⟩ | refine ⟨_, _, rfl, ?_⟩ | refine ⟨_, _, _, rfl, ?_⟩ | refine ⟨small_le (by simp), ?_⟩ | refine ⟨Or.inl ⟨by decide, by decide⟩, ?_⟩ | refine ⟨⟨by decide, by decide⟩, ?_⟩ | refine ⟨by show (0 : Int) < _; decide, ?_⟩)
  refine ⟨x, ns, rfl, hx0, ?_⟩
  repeat (first | refine ⟨_, rfl, ?_⟩ | refine ⟨_, _, rfl, rfl, ?_⟩ | refine ⟨rfl, ?_⟩ | refine ⟨_, _, rfl, ?_⟩ | refine ⟨_, _, _, rfl, ?_⟩ | refine ⟨small_le (by simp), ?_⟩ | refine ⟨Or.inl ⟨by decide, by decide⟩, ?_⟩ | refine ⟨⟨by decide, by decide⟩, ?_⟩ | refine ⟨by show (0 : Int) < _; decide, ?_⟩)
  refine ⟨x, _, dx, _, _, rfl, h1, T.cls_Four, T.noat_Four_bends, rfl, ?_⟩
  repeat (first | refine ⟨_, rfl, ?_⟩ | refine ⟨_, _, rfl, rfl, ?_⟩ | refine ⟨rfl, ?_⟩ | refine ⟨_, _, rfl, ?_⟩ | refine ⟨_, _, _, rfl, ?_⟩ | refine ⟨small_le (by simp), ?_⟩ | refine ⟨Or.inl ⟨by decide, by decide⟩, ?_⟩ | refine ⟨⟨by decide, by decide⟩, ?_⟩ | refine ⟨by show (0 : Int) < _; decide, ?_⟩)
  exact ⟨t, ns, rfl, h2, h4, hL, q⟩
/-! the three ways -/
def spSignByRimX1 (K : PySem.W.Frag) : Sp := spNeedFourX K
theorem ok_sign_by_rim_1 (T : Tx K mg) : Fx R.prog w K mg base (CX R.prog w) 8 "sign_by_rim" (spSignByRimX1 K) := by
  refine Fx.of T.g_sign_by_rim T.f_sign_by_rim (fnrX (N := ["four", "lowest", "rim"]) (ps := ["four"]) T.f_sign_by_rim sc_sign_by_rim (fun _ _ _ _ _ _ us hl => match us, hl with | [_], _ => rfl) (by intro vs H Q E h; repeat (first | (obtain ⟨e, _⟩ := h; subst e; rfl) | (obtain ⟨_, h⟩ := h))) fun cdv A outer s H vs Q E hr h => ?_)
  obtain ⟨v, rfl, hv, q⟩ := h
  refine ⟨_, (pss_cons (ps_expr (pc (ok_need_four_x T) (hr.mono (by decide)) (passes_call (takes_of rfl rfl rfl rfl) (fun _ _ _ _ h => h)) (pa_cons (pv 0) pa_nil)))
      (pss_cons (ps_set (i := 1) sc_sign_by_rim.nd rfl (Or.inl rfl) (pe_fld (pc (ok_least T) (hr.mono (by decide)) (by first | exact pass0 | exact passL) (pa_cons (pv 0) pa_nil)) rfl))
      (pss_cons (ps_set (i := 2) sc_sign_by_rim.nd rfl (Or.inl rfl) (pe_un un_neg (pe_callB (cr_minX rfl) (by rfl) T.m_min (by decide +kernel) (pa_cons (pe_fld (pv 1) rfl) pa_nil))))
      (pss_cons (ps_if (pt_cmpR op_eq (pv 2) pe_int (nomark _)) (pss_one (ps_ret pe_int)) pss_nil)
      (pss_cons (ps_expr (pc (ok_need_primes T) (hr.mono (by decide)) (by first | exact pass0 | exact passL) (pa_cons (pv 2) pa_nil)))
      (pss_one (ps_ret (pc (ok_sign_of_rim T) (hr.mono (by decide)) (by first | exact pass0 | exact passL) (pa_cons (pc (ok_gasket_form T) (hr.mono (by decide)) (by first | exact pass0 | exact passL) (pa_cons (pv 1) pa_nil)) (pa_cons (pv 2) pa_nil)))))))))), ?_⟩
  repeat (first | refine ⟨_, rfl, ?_⟩ | refine ⟨_, _, rfl, rfl, ?_⟩ | refine ⟨rfl, ?_⟩ | refine ⟨_, _, rfl, ?_⟩ | refine ⟨_, _, _, rfl, ?_⟩ | refine ⟨small_le (by simp), ?_⟩ | refine ⟨Or.inl ⟨by decide, by decide⟩, ?_⟩ | refine ⟨⟨by decide, by decide⟩, ?_⟩ | refine ⟨by show (0 : Int) < _; decide, ?_⟩)
  exact ⟨hv, q⟩
theorem ok_sign_by_rim_2 (T : Tx K mg) : Fx R.prog w K mg base (CX R.prog w) 8 "sign_by_rim" (spLeastX K) := by
  refine Fx.of T.g_sign_by_rim T.f_sign_by_rim (fnrX (N := ["four", "lowest", "rim"]) (ps := ["four"]) T.f_sign_by_rim sc_sign_by_rim (fun _ _ _ _ _ _ us hl => match us, hl with | [_], _ => rfl) (by intro vs H Q E h; repeat (first | (obtain ⟨e, _⟩ := h; subst e; rfl) | (obtain ⟨_, h⟩ := h))) fun cdv A outer s H vs Q E hr h => ?_)
  obtain ⟨x, ns, rfl, hx, h4, hL, q⟩ := h
  refine ⟨_, (pss_cons (ps_expr (pc (ok_need_four T) (hr.mono (by decide)) (by first | exact pass0 | exact passL) (pa_cons (pv 0) pa_nil)))
      (pss_cons (ps_set (i := 1) sc_sign_by_rim.nd rfl (Or.inl rfl) (pe_fld (pc (ok_least_x T) (hr.mono (by decide)) (passes_call (takes_of rfl rfl rfl rfl) (fun _ _ _ _ h => h)) (pa_cons (pv 0) pa_nil)) rfl))
      (pss_cons (ps_set (i := 2) sc_sign_by_rim.nd rfl (Or.inl rfl) (pe_un un_neg (pe_callB (cr_minX rfl) (by rfl) T.m_min (by decide +kernel) (pa_cons (pe_fld (pv 1) rfl) pa_nil))))
      (pss_cons (ps_if (pt_cmpR op_eq (pv 2) pe_int (nomark _)) (pss_one (ps_ret pe_int)) pss_nil)
      (pss_cons (ps_expr (pc (ok_need_primes T) (hr.mono (by decide)) (by first | exact pass0 | exact passL) (pa_cons (pv 2) pa_nil)))
      (pss_one (ps_ret (pc (ok_sign_of_rim T) (hr.mono (by decide)) (by first | exact pass0 | exact passL) (pa_cons (pc (ok_gasket_form T) (hr.mono (by decide)) (by first | exact pass0 | exact passL) (pa_cons (pv 1) pa_nil)) (pa_cons (pv 2) pa_nil)))))))))), ?_⟩
  repeat (first | refine ⟨_, rfl, ?_⟩ | refine ⟨_, _, rfl, rfl, ?_⟩ | refine ⟨rfl, ?_⟩ | refine ⟨_, _, rfl, ?_⟩ | refine ⟨_, _, _, rfl, ?_⟩ | refine ⟨small_le (by simp), ?_⟩ | refine ⟨Or.inl ⟨by decide, by decide⟩, ?_⟩ | refine ⟨⟨by decide, by decide⟩, ?_⟩ | refine ⟨by show (0 : Int) < _; decide, ?_⟩)
  refine ⟨x, ns, rfl, hx, ?_⟩
  repeat (first | refine ⟨_, rfl, ?_⟩ | refine ⟨_, _, rfl, rfl, ?_⟩ | refine ⟨rfl, ?_⟩ | refine ⟨_, _, rfl, ?_⟩ | refine ⟨_, _, _, rfl, ?_⟩ | refine ⟨small_le (by simp), ?_⟩ | refine ⟨Or.inl ⟨by decide, by decide⟩, ?_⟩ | refine ⟨⟨by decide, by decide⟩, ?_⟩ | refine ⟨by show (0 : Int) < _; decide, ?_⟩)
  exact ⟨x, ns, rfl, hx, h4, hL, q⟩
def spSignByRimX3 (K : PySem.W.Frag) : Sp := fun vs H Q E => ∃ (x : Addr) (ns ms : List Int) (path : List Nat) (m : Int), vs = [.ref x] ∧ FourAt K H x ns ∧ ns.length = 4 ∧ Down ns path ms ∧ path.length ≤ 200 ∧ Four4 ms ∧ m ∈ ms ∧ (∀ y ∈ ms, m ≤ y) ∧ 1000000 < -m ∧
  ∀ H' d, Same H H' → H d = none → H' d = some (.xd [("most", .int 1000000), ("what", .str "side")]) → E (.ref (He.ga K "TooMany")) (some d) H'
theorem ok_sign_by_rim_3 (T : Tx K mg) : Fx R.prog w K mg base (CX R.prog w) 8 "sign_by_rim" (spSignByRimX3 K) := by
  refine Fx.of T.g_sign_by_rim T.f_sign_by_rim (fnrX (N := ["four", "lowest", "rim"]) (ps := ["four"]) T.f_sign_by_rim sc_sign_by_rim (fun _ _ _ _ _ _ us hl => match us, hl with | [_], _ => rfl) (by intro vs H Q E h; repeat (first | (obtain ⟨e, _⟩ := h; subst e; rfl) | (obtain ⟨_, h⟩ := h))) fun cdv A outer s H vs Q E hr h => ?_)
  obtain ⟨x, ns, ms, path, m0, rfl, hx, h4, hd, hz, F4, hm0, hle0, hbig, q⟩ := h
  refine ⟨_, (pss_cons (ps_expr (pc (ok_need_four T) (hr.mono (by decide)) (by first | exact pass0 | exact passL) (pa_cons (pv 0) pa_nil)))
      (pss_cons (ps_set (i := 1) sc_sign_by_rim.nd rfl (Or.inl rfl) (pe_fld (pc (ok_least T) (hr.mono (by decide)) (by first | exact pass0 | exact passL) (pa_cons (pv 0) pa_nil)) rfl))
      (pss_cons (ps_set (i := 2) sc_sign_by_rim.nd rfl (Or.inl rfl) (pe_un un_neg (pe_callB (cr_minX rfl) (by rfl) T.m_min (by decide +kernel) (pa_cons (pe_fld (pv 1) rfl) pa_nil))))
      (pss_cons (ps_if (pt_cmpR op_eq (pv 2) pe_int (nomark _)) (pss_one (ps_ret pe_int)) pss_nil)
      (pss_cons (ps_expr (pc (ok_need_primes_x T) (hr.mono (by decide)) (passes_call (takes_of rfl rfl rfl rfl) (fun _ _ _ _ h => h)) (pa_cons (pv 2) pa_nil)))
      (pss_one (ps_ret (pc (ok_sign_of_rim T) (hr.mono (by decide)) (by first | exact pass0 | exact passL) (pa_cons (pc (ok_gasket_form T) (hr.mono (by decide)) (by first | exact pass0 | exact passL) (pa_cons (pv 1) pa_nil)) (pa_cons (pv 2) pa_nil)))))))))), ?_⟩
  repeat (first | refine ⟨_, rfl, ?_⟩ | refine ⟨_, _, rfl, rfl, ?_⟩ | refine ⟨rfl, ?_⟩ | refine ⟨_, _, rfl, ?_⟩ | refine ⟨_, _, _, rfl, ?_⟩ | refine ⟨small_le (by simp), ?_⟩ | refine ⟨Or.inl ⟨by decide, by decide⟩, ?_⟩ | refine ⟨⟨by decide, by decide⟩, ?_⟩ | refine ⟨by show (0 : Int) < _; decide, ?_⟩)
  refine ⟨x, ns, rfl, hx, ?_⟩
  repeat (first | refine ⟨_, rfl, ?_⟩ | refine ⟨_, _, rfl, rfl, ?_⟩ | refine ⟨rfl, ?_⟩ | refine ⟨_, _, rfl, ?_⟩ | refine ⟨_, _, _, rfl, ?_⟩ | refine ⟨small_le (by simp), ?_⟩ | refine ⟨Or.inl ⟨by decide, by decide⟩, ?_⟩ | refine ⟨⟨by decide, by decide⟩, ?_⟩ | refine ⟨by show (0 : Int) < _; decide, ?_⟩)
  refine ⟨x, ns, ms, path, rfl, hx, h4, hd, hz, F4, fun H1 z s1 nz ez => ?_⟩
  obtain ⟨dz, wd, pz, y, lz, hz1, hy⟩ := ez
  obtain ⟨dy, t, hy1, hy2⟩ := hy
  refine ⟨z, _, dz, _, _, rfl, hz1, T.cls_Least, T.noat_Least_four, rfl, ?_⟩
  repeat (first | refine ⟨_, rfl, ?_⟩ | refine ⟨_, _, rfl, rfl, ?_⟩ | refine ⟨rfl, ?_⟩ | refine ⟨_, _, rfl, ?_⟩ | refine ⟨_, _, _, rfl, ?_⟩ | refine ⟨small_le (by simp), ?_⟩ | refine ⟨Or.inl ⟨by decide, by decide⟩, ?_⟩ | refine ⟨⟨by decide, by decide⟩, ?_⟩ | refine ⟨by show (0 : Int) < _; decide, ?_⟩)
  refine ⟨y, _, dy, _, _, rfl, hy1, T.cls_Four, T.noat_Four_bends, rfl, ?_⟩
  repeat (first | refine ⟨_, rfl, ?_⟩ | refine ⟨_, _, rfl, rfl, ?_⟩ | refine ⟨rfl, ?_⟩ | refine ⟨_, _, rfl, ?_⟩ | refine ⟨_, _, _, rfl, ?_⟩ | refine ⟨small_le (by simp), ?_⟩ | refine ⟨Or.inl ⟨by decide, by decide⟩, ?_⟩ | refine ⟨⟨by decide, by decide⟩, ?_⟩ | refine ⟨by show (0 : Int) < _; decide, ?_⟩)
  refine ⟨t, ms, rfl, .inr hy2.sqT, by have := F4.len; omega, fun m hm hle => ?_⟩
  have em : m = m0 := by
    have := hle m0 hm0
    have := hle0 m hm
    omega
  subst em
  repeat (first | refine ⟨_, rfl, ?_⟩ | refine ⟨_, _, rfl, rfl, ?_⟩ | refine ⟨rfl, ?_⟩ | refine ⟨_, _, rfl, ?_⟩ | refine ⟨_, _, _, rfl, ?_⟩ | refine ⟨small_le (by simp), ?_⟩ | refine ⟨Or.inl ⟨by decide, by decide⟩, ?_⟩ | refine ⟨⟨by decide, by decide⟩, ?_⟩ | refine ⟨by show (0 : Int) < _; decide, ?_⟩)
  refine eF (by omega) ?_
  repeat (first | refine ⟨_, rfl, ?_⟩ | refine ⟨_, _, rfl, rfl, ?_⟩ | refine ⟨rfl, ?_⟩ | refine ⟨_, _, rfl, ?_⟩ | refine ⟨_, _, _, rfl, ?_⟩ | refine ⟨small_le (by simp), ?_⟩ | refine ⟨Or.inl ⟨by decide, by decide⟩, ?_⟩ | refine ⟨⟨by decide, by decide⟩, ?_⟩ | refine ⟨by show (0 : Int) < _; decide, ?_⟩)
  exact ⟨hbig, fun H2 d s2 nd ed => q H2 d (s1.trans s2) (s1.free nd) ed⟩
end
end Bh

/-! WZ -/
set_option maxHeartbeats 4000000
/-! a caught error that is kept behind the try -/
namespace Bh
open PySem PySem.Spec PyProof.Rows L2 LamX
def CauO (cls : Value) (d : Option Addr) (a : Addr) : HO := .ext fun h => ∃ (oe : Obj) (vs : Array Value), h.get? a = some oe ∧ Zc cls d oe ∧ oe.data = .fields vs
theorem cau_ok {P : Program} {w : World} {H : Hp} {h : Heap} {a : Addr} {cls : Value} {d : Option Addr} {oe : Obj} {vs : Array Value} (e : h.get? a = some oe) (z : Zc cls d oe) (dd : oe.data = .fields vs) : ObjOk P w H h a (CauO cls d a) :=
  ⟨⟨oe, vs, e, z, dd⟩, ⟨oe, e⟩, fun _ _ ⟨o, v, q, r⟩ k => ⟨o, v, k o q, r⟩⟩
section
variable {X : Cx} {pins : List (Addr × Obj)} {σ : L2.St} {H : Hp} {sI s' s : Shared} {B : Heap}
theorem landedK {a : Addr} {o : HO} (I : L2.Inv X pins σ H sI) (nb : ∀ b u, sI.heap.get? b = some u → b ∉ frs X.stack → B.get? b = some u) (st : B.StaysIn s'.heap) (up : sI.heap.UpToSlots s'.heap) (os : s'.os = sI.os) (ag : AllBare s'.gens)
    (na : H a = none) (ni : sI.heap.get? a = none) (new : ObjOk X.prog X.w (upd H a o) s'.heap a o) : L2.Inv X pins σ (upd H a o) s' := by
  have slots : ∀ b ∈ frs X.stack, ∀ u, sI.heap.get? b = some u → ∃ sl, s'.heap.get? b = some { u with slots := sl } := fun b hb u e => by
    obtain ⟨_, u2, e2, hd⟩ := I.stack.mem hb
    rw [e] at e2
    cases e2
    exact up b u e hd
  have ne : ∀ b u, H b = some u → b ≠ a := fun b u e => ne_of_none e na
  have J := I.call (ch := []) (h' := s'.heap) (g' := s'.gens) (t' := s'.toks) (d' := s'.drawn) (H' := upd H a o)
    ⟨fun b u e _ hb _ => st b u (nb b u e hb), fun b u e _ hb _ => slots b hb u e, fun b u e n _ => by rw [upd_ne (fun z => by rw [z, ni] at e; cases e)]; exact n, fun b u e _ => by
      by_cases hb : b ∈ frs X.stack
      · obtain ⟨sl, q⟩ := slots b hb u e
        exact ⟨_, q⟩
      · exact ⟨u, st b u (nb b u e hb)⟩, fun b xs e => by rw [upd_ne (ne b _ e)]; exact e, fun b u xs e => by rw [upd_ne (ne b _ e)]; exact e, fun b ps e => ⟨#[], by rw [upd_ne (ne b _ e), e]; simp⟩⟩
    ((I.inGround nb).laidN st na new) ag (fun _ z => nomatch z)
  obtain ⟨a1, a2, a3, a4, a5⟩ := s'
  have e5 : a5 = sI.os := os
  subst e5
  exact J
theorem inv_suiteK (I : L2.Inv X pins σ H s) (a : Addr) : L2.Inv (X.suite a (X.pn ++ pins)) [] σ H s :=
  ⟨I.ok.suite _ _, I.os, I.bare, I.base, I.loc, I.cell, I.free, I.freeC, fun p hp => I.pin p (by rw [List.append_nil] at hp; exact hp), I.hok, I.len⟩
theorem inv_unsuiteK {a : Addr} {pn2 : List (Addr × Obj)} (I : L2.Inv (X.suite a (X.pn ++ pins)) pn2 σ H s) (ok : X.Ok) : L2.Inv X pins σ H s :=
  ⟨ok, I.os, I.bare, I.base, I.loc, I.cell, I.free, I.freeC, fun p hp => I.pin p (List.mem_append_left _ hp), I.hok, I.len⟩
end
def wKeep (K : PySem.W.Frag) (c : Value) (i : Nat) (ts : Addr → TS) (Wout : WX) (D : Ends) : WX := fun cls d σ H =>
  ∃ b, PySem.W.exmOne K cls c = some b ∧ (b = true → ∀ a, H a = none → ts a { nx := fun σ' H' => D.nx (σ'.set i none) H', rt := D.rt, bk := fun σ' H' => D.bk (σ'.set i none) H', ct := fun σ' H' => D.ct (σ'.set i none) H' } (σ.set i (some (.ref a))) (upd H a (CauO cls d a))) ∧
    (b = false → Wout cls d σ H)
section
variable {X : Cx} {x n : Str} {c : Value} {i : Nat} {body suite : List Stmt} {b₀ : Stmt} {np pos pos' : Pos} {tb : WX → TS} {ts : Addr → TS} {Wout : WX}
theorem ps_try_keep (hs : X.stack = X.env :: X.outer) (hf : X.env.frame = some X.env.locals) (hN : X.N.Nodup) (hi : X.N[i]? = some n) (hln : X.env.kindOf n = some .local) (hc : Names X x c) (tk : Takes X Wout)
    (hb : ∀ (W : WX) (pn : List (Addr × Obj)) (xe : Value → Shared → Prop), Takes (X.tr pn xe) W → PassesOwn (model X.prog X.w) X.A X.env xe → PSs (X.tr pn xe) body (tb W))
    (hsu : ∀ (a : Addr) (pn : List (Addr × Obj)), PSs (X.suite a pn) (b₀ :: suite) (ts a)) :
    PS X (.Try body [.ExceptHandler (some (.Name x np)) (some n) (b₀ :: suite) pos'] [] [] pos) (fun D σ H => tb (wKeep X.K c i ts Wout D) D σ H) := by
  refine ⟨fun pins s σ H D I h => ?_⟩
  have ok := I.ok
  have fr0 : X.A.frames = some (X.env :: X.outer) := by rw [ok.frames, hs]
  have lc : Loc X.env.scope n := .inl hln
  refine wpAny_Try_except ?_
  refine wpAny_mono ((hb (wKeep X.K c i ts Wout D) (X.pn ++ pins) (fun e s₁ => wpAny (model X.prog X.w) X.A (noteFrame e X.env) (fun _ s₂ => wpAny (model X.prog X.w) X.A (setFlight e none) (fun _ s₃ =>
    wpAny (model X.prog X.w) X.A (handleBy e X.env [.ExceptHandler (some (.Name x np)) (some n) (b₀ :: suite) pos']) (SP X pins D) X.xe s₃) X.xe s₂) X.xe s₁) (fun u s' xx => ?_) PassesOwn.looking).run [] s σ H D (I.toTry _) h) (fun f s1 hsp => ?_) (fun e s1 he => he)
  · obtain ⟨a, B, sI, pinsZ, σ1, H1, cls, d, rfl, JZ, nb, up, sky, na, os, ag, b, hb1, hyes, hno⟩ := xx
    have J : L2.Inv X pins σ1 H1 sI := JZ.ofTry ok
    have skyZ : Sky B (X.env :: X.outer) a (Zc cls d) X.env.locals s'.heap := by rw [← hs]; exact sky
    show wpAny (model X.prog X.w) X.A (noteFrame (.ref a) X.env) _ _ _
    refine Sky.land Zc.steady fr0 hf skyZ fun h3 fl3 up3 => ?_
    have J3 : L2.Inv X pins σ1 H1 { s' with heap := h3 } := J.landed nb fl3.1 (up.trans up3) os ag
    obtain ⟨oe3, vs3, he3, hz3, hd3⟩ := fl3.there
    have nfr : a ∉ frs (X.env :: X.outer) := fun hm => by
      obtain ⟨_, o2, e2, hnf⟩ := fl3.2.2.1.mem hm
      rw [he3] at e2
      cases e2
      exact hnf _ hd3
    have ni : sI.heap.get? a = none := by
      cases e : sI.heap.get? a with
      | none => rfl
      | some u =>
        have z := nb a u e (by rw [hs]; exact nfr)
        rw [fl3.2.1] at z
        cases z
    have S3 := inv_suiteK J3 a
    refine wpAny_handleBy_cons (codeAny_handlers_test ?_) (by intro q; cases q)
    have LT : PySem.W.Looks (model X.prog X.w) h3 (typeOf (.ref a)) cls := fun A Q E s k q => wpAny_typeOf_ref (k _ _ he3) (by rw [hz3.1]; exact q)
    have LM := PySem.W.exm_one (M := model X.prog X.w) (J3.kIn) LT hb1
    have test : ∀ {Q : Value → Shared → Prop} {E : Value → Shared → Prop}, Q c { s' with heap := h3 } → wpAny (model X.prog X.w) (X.A.mark (some (.ref a))) (eval (.Name x np) X.env) Q E { s' with heap := h3 } := fun {Q E} q => by
      obtain ⟨hg, hdbg, hm | ⟨hm, hv, hnn⟩⟩ := hc
      · exact ld_glob (X := X.suite a (X.pn ++ pins)) S3 hg hm q hdbg
      · exact ld_blt (X := X.suite a (X.pn ++ pins)) S3 hg hm hv q hnn hdbg
    refine test (LM.here ?_)
    cases b with
    | true =>
      refine codeAny_handlers_suite_as ?_
      refine HandSPX.lands_againZ fl3 fun h4 fl4 up4 => ?_
      obtain ⟨oe4, vs4, he4, hz4, hd4⟩ := fl4.there
      have J4 : L2.Inv X pins σ1 (upd H1 a (CauO cls d a)) { s' with heap := h4 } := landedK J nb fl4.1 ((up.trans up3).trans up4) os ag na ni (cau_ok he4 hz4 hd4)
      refine store_ok (X := X.suite a (X.pn ++ pins)) (v := .ref a) (inv_suiteK J4 a) hN hi lc rfl (fun s5 S5 => ?_) (.inr hln)
      refine wpAny_mono ((hsu a (X.pn ++ pins)).run [] s5 _ _ _ S5 (hyes rfl a na)) (fun f s6 hsp => ?_) (fun _ _ z => False.elim z)
      have over : ∀ {σ6 : L2.St} {H6 : Hp} {Q : Shared → Prop}, L2.Inv (X.suite a (X.pn ++ pins)) [] σ6 H6 s6 → (∀ s7, L2.Inv X pins (σ6.set i none) H6 s7 → Q s7) →
          wpAny (model X.prog X.w) X.A (do bindName X.env n .none; unbindBehindTheSuite X.env n pos') (fun _ s7 => Q s7) X.xe s6 := fun {σ6 H6 Q} S6 hq => gone_ok (inv_unsuiteK S6 ok) hN hi hln hq
      cases f with
      | next =>
        obtain ⟨σ6, H6, S6, q6⟩ := hsp
        exact over S6 fun s7 J7 => ⟨_, _, J7, q6⟩
      | brk =>
        obtain ⟨σ6, H6, S6, q6⟩ := hsp
        exact over S6 fun s7 J7 => ⟨_, _, J7, q6⟩
      | cont =>
        obtain ⟨σ6, H6, S6, q6⟩ := hsp
        exact over S6 fun s7 J7 => ⟨_, _, J7, q6⟩
      | ret u =>
        obtain ⟨v6, σ6, H6, S6, r6, q6⟩ := hsp
        exact over S6 fun s7 J7 => ⟨_, _, _, J7, r6, q6⟩
    | false =>
      show wpAny _ X.A (handleBy (.ref a) X.env []) _ _ _
      refine wpAny_handleBy_nil ?_
      obtain ⟨k1, k2, k3, oe, vs, T, oT, ts2, he, hz, hd, h1, hr⟩ := id fl3
      unfold PySem.passOn
      refine wpAny_bind (wpAny_field he hd h1 ?_)
      rw [if_neg (show ¬ ((Value.ref T == Value.none) = true) from by simp)]
      have fin : wpAny (model X.prog X.w) X.A (setFlight (.ref a) X.env.frame) (fun _ s4 => wpAny (model X.prog X.w) X.A (throw (.ref a) : Sem Flow) (SP X pins D) X.xe s4) X.xe { s' with heap := h3 } := by
        rw [hf]
        refine HandSPX.setFlight_upZ fl3 fun h4 hh4 up4 => wpAny_throw (tk _ _ ?_)
        exact ⟨a, B, sI, pins, σ1, H1, cls, d, rfl, J, nb, (up.trans up3).trans up4, .inr (.inr (by rw [hs]; exact hh4)), na, os, ag, hno rfl⟩
      first
        | exact wpAny_bind (wpAny_pure (wpAny_bind fin))
        | exact wpAny_bind fin
  · cases f with
    | next =>
      obtain ⟨σ1, H1, J1, q⟩ := hsp
      exact wpAny_execs_nil ⟨σ1, H1, J1.ofTry ok, q⟩
    | brk =>
      obtain ⟨σ1, H1, J1, q⟩ := hsp
      exact ⟨σ1, H1, J1.ofTry ok, q⟩
    | cont =>
      obtain ⟨σ1, H1, J1, q⟩ := hsp
      exact ⟨σ1, H1, J1.ofTry ok, q⟩
    | ret u =>
      obtain ⟨v, σ1, H1, J1, r, q⟩ := hsp
      exact ⟨v, σ1, H1, J1.ofTry ok, r, q⟩
end
/-! ### asked of it -/
theorem cau_inst {X : Cx} {pins : List (Addr × Obj)} {σ : L2.St} {H : Hp} {s : Shared} {a C dd : Addr} {fs : List (Str × V)} (I : L2.Inv X pins σ H s) (ea : H a = some (CauO (.ref C) (some dd) a)) (ed : H dd = some (.xd fs)) :
    ∃ oe od, PySem.W.InstAt s.heap a oe C (some od) ∧ ∀ n, ∃ o, PySem.W.lookIn n od = some o ∧ RelO (fs.lookup n) o := by
  obtain ⟨⟨oe, vs, ha, hz, hd⟩, _, _⟩ := I.hok a _ ea
  have hx : ObjOk X.prog X.w H s.heap dd (.xd fs) := I.hok dd _ ed
  obtain ⟨mA, hns, hr⟩ := hx
  obtain ⟨od, ho, hl⟩ := lookIn_ns hns
  exact ⟨oe, od, ⟨ha, hz.1, by unfold PySem.W.notCls; rw [hd] <;> rfl, by rw [hz.2]; exact ho⟩, fun n => ⟨_, hl n, hr n⟩⟩
/-- isinstance(e, c), e a kept error -/
def rIsC (K : PySem.W.Frag) : List V → Hp → VK → Prop := fun xs H Q => ∃ (a C dd : Addr) (fs : List (Str × V)) (c : V) (cv : Value) (b : Bool), xs = [.ref a, c] ∧ H a = some (CauO (.ref C) (some dd) a) ∧ H dd = some (.xd fs) ∧ ExcC K C ∧ (PySem.W.clsIn K C).isSome = true ∧ (∀ u, RelV c u → u = cv) ∧ PySem.W.kitOne K (.ref C) cv = some b ∧ Q (.bl b) H
theorem call_isC {X : Cx} : CallR X (.builtin "isinstance") (rIsC X.K) := by
  intro pins s σ H xs us Q I r h
  obtain ⟨a, C, dd, fs, c, cv, b, rfl, ea, ed, EC, hcl, hcv, e, q⟩ := h
  cases r with
  | cons rx rr =>
    cases rr with
    | cons rt rr =>
      cases rr
      cases rx
      have ec := hcv _ rt
      subst ec
      obtain ⟨oe, od, J, _⟩ := cau_inst I ea ed
      exact PySem.W.kia_one (PySem.W.kitx_exc hcl EC.hg EC.hk EC.hs EC.ha EC.hn EC.ht EC.hm) I.kIn J e (fun z => nomatch z) fun tk => ⟨.bl b, H, I.tok _, rfl, q⟩
/-- e.f, e a kept error of the class C -/
def tCau (C : Addr) (f : Str) (te : TE) : TE := fun σ H Q => te σ H fun x H1 => ∃ (a dd : Addr) (fs : List (Str × V)) (v : V), x = .ref a ∧ H1 a = some (CauO (.ref C) (some dd) a) ∧ H1 dd = some (.xd fs) ∧ fs.lookup f = some v ∧ Q v H1
theorem pe_cau {X : Cx} {C : Addr} {e : Expr} {te : TE} {pos : Pos} {n : Str} (T : XfC X.K C) (hno : PySem.W.findIn X.K (.ref C) n = some none) (he : PE X e te) (hb : attributeBase e n X.env (eval e X.env) = eval e X.env := by rfl) :
    PE X (.Attribute e n pos) (tCau C n te) := by
  refine ⟨fun pins s σ H Q I h => ?_⟩
  refine attr_of hb (thn (he.run pins s σ H _ I h) fun u s1 hh => ?_)
  obtain ⟨x, H1, I1, rx, a, dd, fs, v, ex, ea, ed, l, q⟩ := hh
  subst ex
  obtain rfl : u = Value.ref a := rx
  obtain ⟨oe, od, J, hr⟩ := cau_inst I1 ea ed
  obtain ⟨o, ho, hro⟩ := hr n
  obtain ⟨u, hu, ru⟩ := RelO.some_of (v := v) (o := o) (by rw [← l]; exact hro)
  exact HandSPX.exc_get I1.kIn J T.ga T.gg T.exC (PySem.W.findObj_own T.hdC hno rfl (by rw [ho, hu])) (handed_of ru) ⟨v, H1, I1.tok _, ru, q⟩
end Bh

/-! XA -/
set_option maxHeartbeats 4000000
/-! the def that hears what a call raises -/
namespace Bh
open PySem PySem.Spec PyProof.Rows L2 LamX
section
variable {K : PySem.W.Frag} {mg : Str → Option Value}
theorem excC_BadFour (T : Tx K mg) : ExcC K (He.ga K "BadFour") := ⟨T.x_ga_BadFour, T.x_gg_BadFour, T.x_exb_BadFour, T.x_hd_BadFour, T.x_cls_BadFour, T.x_oc_get, T.x_oc_takes, T.x_mro_BadFour⟩
theorem excC_TooMany (T : Tx K mg) : ExcC K (He.ga K "TooMany") := ⟨T.x_ga_TooMany, T.x_gg_TooMany, T.x_exb_TooMany, T.x_hd_TooMany, T.x_cls_TooMany, T.x_oc_get, T.x_oc_takes, T.x_mro_TooMany⟩
theorem xfC_BadFour (T : Tx K mg) : XfC K (He.ga K "BadFour") := ⟨T.x_ga_BadFour, T.x_gg_BadFour, T.x_exb_BadFour, T.x_hd_BadFour⟩
theorem xfC_TooMany (T : Tx K mg) : XfC K (He.ga K "TooMany") := ⟨T.x_ga_TooMany, T.x_gg_TooMany, T.x_exb_TooMany, T.x_hd_TooMany⟩
theorem cls_there {C : Addr} (h : PySem.W.hasDictIn K C = true) : (PySem.W.clsIn K C).isSome = true := by
  obtain ⟨cd, hc, _⟩ := PySem.W.any_some h
  rw [hc]
  rfl
end
/-- what is heard of an error, told -/
def Heard (K : PySem.W.Frag) (Q : VK) : XK := fun cls d H => ∃ (dd : Addr) (fs : List (Str × V)), d = some dd ∧ H dd = some (.xd fs) ∧
  ((cls = .ref (He.ga K "BadFour") ∧ ∃ p, fs.lookup ("part" : Str) = some p ∧ ∀ H2 t, Same H H2 → H t = none → H2 t = some (.tup [.str "four", p]) → Q (.ref t) H2) ∨
   (cls = .ref (He.ga K "TooMany") ∧ ∃ p r, fs.lookup ("what" : Str) = some p ∧ fs.lookup ("most" : Str) = some r ∧ ∀ H2 t, Same H H2 → H t = none → H2 t = some (.tup [p, r]) → Q (.ref t) H2))
def TTh (K : PySem.W.Frag) : (XK → Hp → VK → Prop) → Hp → VK → Prop := fun tl H Q => ∀ R, tl (Heard K Q) H R
theorem takes_len {X : Cx} {W : WX} (tk : Takes X W) : Takes X (fun c d σ H => σ.length = X.N.length → W c d σ H) := fun u s' ⟨a, B, sI, pins, σ, H, cls, d, e, I, nb, up, sky, na, os, ag, w⟩ =>
  tk u s' ⟨a, B, sI, pins, σ, H, cls, d, e, I, nb, up, sky, na, os, ag, w I.len⟩
abbrev Nheard : List Str := ["_law_ask", "_law_caught", "error"]
theorem sc_heard : FnScope Nheard ["_law_ask"] (defScope (top 112)) := ⟨rfl, rfl, rfl, by decide +kernel, rfl, by decide +kernel, by decide +kernel⟩
theorem heard_gives {X : Cx} {q : Str} {g : Addr} {cdg : Value} (T : Tx X.K X.mg) : GivesTo X Nheard "_law_heard" (defScope (top 112)) g cdg (defBody (top 112)) "_law_ask" q (TTh X.K) := by
  intro f c' s H Q tl act hc h
  refine ⟨_, pss_cons (ps_set (i := 1) sc_heard.nd rfl (Or.inl rfl) pe_non)
    (pss_cons (ps_try_keep (i := 2) (c := .ref (He.ga X.K "BendError")) (Wout := fun _ _ _ _ => False)
      (tb := fun W D σ H => ∃ Ech : XK, (∀ cls d σ' H', Ech cls d H' → σ'.length = 3 → W cls d σ' H') ∧ σ[0]? = some (some (.ref f)) ∧ H c' = some (CodeO c' q) ∧ ∀ R, tl Ech H R)
      rfl rfl sc_heard.nd rfl rfl ⟨rfl, by decide, .inl T.g_BendError⟩ takes0 (fun W pn xe tk _ => ?_) (fun a pn => pss_one (ps_set (i := 1) sc_heard.nd rfl (Or.inl rfl) (pv 2))))
    (pss_cons (ps_if (pt_val (pe_callB call_isC (by rfl) T.m_isinstance (by decide +kernel) (pa_cons (pv 1) (pa_cons (pe_glob (v := .ref (He.ga X.K "TooMany")) rfl T.g_TooMany rfl) pa_nil))))
        (pss_one (ps_ret (pe_tup (pa_cons (pe_cau (xfC_TooMany T) T.x_no_TooMany_what (pv 1)) (pa_cons (pe_cau (xfC_TooMany T) T.x_no_TooMany_most (pv 1)) pa_nil))))) pss_nil)
    (pss_cons (ps_if (pt_val (pe_callB call_isC (by rfl) T.m_isinstance (by decide +kernel) (pa_cons (pv 1) (pa_cons (pe_glob (v := .ref (He.ga X.K "BadFour")) rfl T.g_BadFour rfl) pa_nil))))
        (pss_one (ps_ret (pe_tup (pa_cons pe_str (pa_cons (pe_cau (xfC_BadFour T) T.x_no_BadFour_part (pv 1)) pa_nil))))) pss_nil)
    (pss_one (ps_ret (pe_ifExp (pt_cmpR op_isN (pv 1) pe_non (nomark _)) pe_non (pe_tup (pa_cons pe_str (pa_cons pe_str pa_nil))))))))), ?_⟩
  · refine ⟨fun pins s2 σ H2 D I h2 => ?_⟩
    obtain ⟨Ech, hW, h1, h2, h3⟩ := h2
    have key := fun p1 p2 => act (fun c d σ H => σ.length = 3 → W c d σ H) pn xe (fun c d H => Ech c d H) p1 p2 (takes_len tk) (fun cls d σ' H' e l => hW cls d σ' H' e l)
    refine (pss_one (ps_expr (key _ _))).run pins s2 σ H2 D I ?_
    exact ⟨h1, h2, h3 _⟩
  · repeat (first | refine ⟨_, rfl, ?_⟩ | refine ⟨_, _, rfl, rfl, ?_⟩ | refine ⟨rfl, ?_⟩ | refine ⟨_, _, rfl, ?_⟩ | refine ⟨_, _, _, rfl, ?_⟩ | refine ⟨small_le (by simp), ?_⟩ | refine ⟨Or.inl ⟨by decide, by decide⟩, ?_⟩ | refine ⟨⟨by decide, by decide⟩, ?_⟩ | refine ⟨by show (0 : Int) < _; decide, ?_⟩)
    refine ⟨Heard X.K Q, fun cls d σ1 H1 e hl => ?_, rfl, hc, h⟩
    obtain ⟨dd, fs, rfl, ed, e⟩ := e
    match σ1, hl with
    | [x, y, z], _ =>
      have hb : PySem.W.exmOne X.K cls (.ref (He.ga X.K "BendError")) = some true := by
        rcases e with ⟨rfl, _⟩ | ⟨rfl, _⟩
        · exact T.x_exm_BadFour
        · exact T.x_exm_TooMany
      refine ⟨true, hb, fun _ a na => ?_, fun z => nomatch z⟩
      have sA := same_new (o := CauO cls (some dd) a) na
      have eA : (upd H1 a (CauO cls (some dd) a)) a = _ := upd_same
      have edA := sA _ _ ed
      generalize upd H1 a (CauO cls (some dd) a) = HA at sA eA edA ⊢
      repeat (first | refine ⟨_, rfl, ?_⟩ | refine ⟨_, _, rfl, rfl, ?_⟩ | refine ⟨rfl, ?_⟩ | refine ⟨_, _, rfl, ?_⟩ | refine ⟨_, _, _, rfl, ?_⟩ | refine ⟨small_le (by simp), ?_⟩ | refine ⟨Or.inl ⟨by decide, by decide⟩, ?_⟩ | refine ⟨⟨by decide, by decide⟩, ?_⟩ | refine ⟨by show (0 : Int) < _; decide, ?_⟩)
      rcases e with ⟨rfl, p, hp, q⟩ | ⟨rfl, p, r, hp, hr, q⟩
      · refine ⟨a, _, dd, fs, _, _, false, rfl, eA, edA, excC_BadFour T, cls_there T.x_hd_BadFour, fun u e => e, T.x_kit_BadFour, ?_⟩
        repeat (first | refine ⟨_, rfl, ?_⟩ | refine ⟨_, _, rfl, rfl, ?_⟩ | refine ⟨rfl, ?_⟩ | refine ⟨_, _, rfl, ?_⟩ | refine ⟨_, _, _, rfl, ?_⟩ | refine ⟨small_le (by simp), ?_⟩ | refine ⟨Or.inl ⟨by decide, by decide⟩, ?_⟩ | refine ⟨⟨by decide, by decide⟩, ?_⟩ | refine ⟨by show (0 : Int) < _; decide, ?_⟩)
        refine ⟨a, _, dd, fs, _, _, true, rfl, eA, edA, excC_BadFour T, cls_there T.x_hd_BadFour, fun u e => e, T.x_kit_BadFour_BadFour, ?_⟩
        repeat (first | refine ⟨_, rfl, ?_⟩ | refine ⟨_, _, rfl, rfl, ?_⟩ | refine ⟨rfl, ?_⟩ | refine ⟨_, _, rfl, ?_⟩ | refine ⟨_, _, _, rfl, ?_⟩ | refine ⟨small_le (by simp), ?_⟩ | refine ⟨Or.inl ⟨by decide, by decide⟩, ?_⟩ | refine ⟨⟨by decide, by decide⟩, ?_⟩ | refine ⟨by show (0 : Int) < _; decide, ?_⟩)
        refine ⟨a, dd, fs, p, rfl, eA, edA, hp, ?_⟩
        repeat (first | refine ⟨_, rfl, ?_⟩ | refine ⟨_, _, rfl, rfl, ?_⟩ | refine ⟨rfl, ?_⟩ | refine ⟨_, _, rfl, ?_⟩ | refine ⟨_, _, _, rfl, ?_⟩ | refine ⟨small_le (by simp), ?_⟩ | refine ⟨Or.inl ⟨by decide, by decide⟩, ?_⟩ | refine ⟨⟨by decide, by decide⟩, ?_⟩ | refine ⟨by show (0 : Int) < _; decide, ?_⟩)
        intro t nt
        exact q _ t (sA.trans (same_new nt)) (sA.free nt) upd_same
      · refine ⟨a, _, dd, fs, _, _, true, rfl, eA, edA, excC_TooMany T, cls_there T.x_hd_TooMany, fun u e => e, T.x_kit_TooMany, ?_⟩
        repeat (first | refine ⟨_, rfl, ?_⟩ | refine ⟨_, _, rfl, rfl, ?_⟩ | refine ⟨rfl, ?_⟩ | refine ⟨_, _, rfl, ?_⟩ | refine ⟨_, _, _, rfl, ?_⟩ | refine ⟨small_le (by simp), ?_⟩ | refine ⟨Or.inl ⟨by decide, by decide⟩, ?_⟩ | refine ⟨⟨by decide, by decide⟩, ?_⟩ | refine ⟨by show (0 : Int) < _; decide, ?_⟩)
        refine ⟨a, dd, fs, p, rfl, eA, edA, hp, ?_⟩
        repeat (first | refine ⟨_, rfl, ?_⟩ | refine ⟨_, _, rfl, rfl, ?_⟩ | refine ⟨rfl, ?_⟩ | refine ⟨_, _, rfl, ?_⟩ | refine ⟨_, _, _, rfl, ?_⟩ | refine ⟨small_le (by simp), ?_⟩ | refine ⟨Or.inl ⟨by decide, by decide⟩, ?_⟩ | refine ⟨⟨by decide, by decide⟩, ?_⟩ | refine ⟨by show (0 : Int) < _; decide, ?_⟩)
        refine ⟨a, dd, fs, r, rfl, eA, edA, hr, ?_⟩
        repeat (first | refine ⟨_, rfl, ?_⟩ | refine ⟨_, _, rfl, rfl, ?_⟩ | refine ⟨rfl, ?_⟩ | refine ⟨_, _, rfl, ?_⟩ | refine ⟨_, _, _, rfl, ?_⟩ | refine ⟨small_le (by simp), ?_⟩ | refine ⟨Or.inl ⟨by decide, by decide⟩, ?_⟩ | refine ⟨⟨by decide, by decide⟩, ?_⟩ | refine ⟨by show (0 : Int) < _; decide, ?_⟩)
        intro t nt
        exact q _ t (sA.trans (same_new nt)) (sA.free nt) upd_same
end Bh

/-! XB -/
set_option maxHeartbeats 4000000
/-! a lambda with one parameter that has a default, handed to a def that calls it without arguments -/
namespace Bh
open PySem PySem.Spec PyProof.Rows L2 LamX
abbrev tupO (v : Value) : Obj := { cls := .type "tuple", data := .seq [v].toArray }
section
variable {X : Cx} {pins : List (Addr × Obj)} {σ : L2.St} {H HZ : Hp} {s s1 : Shared}
theorem lamd_make {T : List (Addr × Str)} {c P : Addr} {params : Arguments} {e body : Expr} {te : TE} {scope : Scope} {pos : Pos} {Q : Value → Shared → Prop} (I : L2.Inv X pins σ H s) (TB : TabB X.base X.mg c P) (hcode : X.env.code = .ref c)
    (hm : (P, X.env.qual ++ "<lambda>") ∈ T) (hu : ∀ p ∈ T, p.1 = P → p.2 = X.env.qual ++ "<lambda>") (hT : Tabs T H) (hdef : defaultsOf params X.env = ([eval e X.env], [])) (hkw : params.kwonlyargs = []) (he : PE X e te) (hte : te σ H fun _ H1 => H1 = H)
    (hfree : ∀ y ∈ scope.names, y.2 = .free → ∃ c, X.env.cells.lookup y.1 = some c)
    (h : ∀ (f d c2 : Addr) (pm ctv doc v0 : Value) (H1 : Hp) (s2 : Shared), L2.Inv X pins σ H1 s2 → ExtN H H1 → Tabs T H1 →
      s2.heap.get? f = some (PySem.W.kdv_obj "<lambda>" (X.env.qual ++ "<lambda>") params (.expr body) scope (cloFrom X.env.cells scope.names []) (.ref d) doc pm c2 ctv) → H1 f = none → f ∉ frs X.stack →
      s2.heap.get? d = some (tupO v0) → H1 d = none → d ∉ frs X.stack → H1 c2 = some (CodeO c2 (X.env.qual ++ "<lambda>")) → Q (.ref f) s2) :
    wpAny (model X.prog X.w) X.A (eval (.Lambda params body scope pos) X.env) Q X.xe s := by
  rw [arm_eval_Lambda, hdef]
  show wpAny _ _ (do let dv ← evalAll [eval e X.env]; let kdv ← holding dv (evalAllOpt []); makeFunction "<lambda>" (X.env.qual ++ "<lambda>") params (.expr body) scope X.env dv kdv [] pos pos.line) Q X.xe s
  refine wpAny_bind (wpAny_bind (thn (he.run pins s σ H _ I hte) fun v0 s0 ⟨vv, HH, I0, rv0, eH⟩ => ?_))
  rw [eH] at I0
  refine wpAny_bind (wpAny_holding (wpAny_pure (wpAny_pure (wpAny_bind (wpAny_holding (wpAny_pure ?_))))))
  rw [makeFunction_eq]
  simp only [hkw, List.zip_nil_left, List.filterMap_nil, List.isEmpty_nil, List.isEmpty_cons, Bool.false_eq_true, if_true, if_false, pure_bind]
  refine wpAny_bind (wpAny_newTextTuple ?_)
  have Id : L2.Inv X pins σ H { s0 with heap := s0.heap.push (tupO v0) } := I0.kept (t' := s0.toks) fun b o q => Heap.get?_push_of_some _ q
  have hd0 : (s0.heap.push (tupO v0)).get? s0.heap.objs.size = some (tupO v0) := Heap.get?_push_size _ rfl
  have nd0 : H s0.heap.objs.size = none := I0.hok.fresh (Nat.le_refl _)
  have far : ∀ {S : Shared}, L2.Inv X pins σ H S → ∀ f, S.heap.objs.size ≤ f → f ∉ frs X.stack := fun J f hf z => by
    rcases List.mem_cons.mp (J.stkSub _ z) with q | q
    · have h1 := J.lt
      rw [← q] at h1
      exact Nat.lt_irrefl _ (Nat.lt_of_lt_of_le h1 hf)
    · exact J.nofs hf q
  have fd0 := far I0 s0.heap.objs.size (Nat.le_refl _)
  generalize hS : ({ s0 with heap := s0.heap.push (tupO v0) } : Shared) = S at Id
  have hdS : S.heap.get? s0.heap.objs.size = some (tupO v0) := by rw [← hS]; exact hd0
  generalize s0.heap.objs.size = d at *
  obtain ⟨ps, hP, ht, ha⟩ := hT _ hm
  have bP : S.heap.BuiltinsAt X.mg P := TB.bm.keeps Id.bk
  have aP : S.heap.get? P = some { cls := .none, data := .fields ps } := Id.hok P _ hP
  have ndP : d ≠ P := fun z => by rw [z, hP] at nd0; cases nd0
  cases hc : codeAmong pos ps.toList with
  | none =>
    refine PySem.W.kdv_makeTail (mg := X.mg) (c := c) (P := P) (ps := ps) (closure_ok hfree) Id.ok.glob (Id.mod.glob.keeps Id.bk) hcode (TB.code.keeps Id.bk) aP ht hc TB.gP bP fun c2 ctv doc h2 tk hx hge hlt hrec htb => ?_
    obtain ⟨c3, oc, vs, t, e3, hoc, hd, hv⟩ := hrec
    cases e3
    have hsz : S.heap.objs.size ≤ h2.objs.size := Nat.le_trans hge (Nat.le_of_lt hlt)
    have nC : H c2 = none := Id.hok.fresh hge
    have I1 := inv_table (t' := tk) (more := #[rawInt pos.line, rawInt pos.col, .ref c2]) (h' := h2.push (PySem.W.kdv_obj "<lambda>" (X.env.qual ++ "<lambda>") params (.expr body) scope (cloFrom X.env.cells scope.names []) (.ref d) doc ((X.mg "__name__").getD .none) c2 ctv)) Id hP
      (fun b o hb q => Heap.get?_push_of_some _ (hx b o hb q)) (Heap.get?_push_of_some _ htb) hge ⟨oc, vs, t, Heap.get?_push_of_some _ hoc, hd, hv⟩
    have hE : ExtN H (upd (upd H P (.tbl (ps ++ #[rawInt pos.line, rawInt pos.col, .ref c2]))) c2 (CodeO c2 (X.env.qual ++ "<lambda>"))) := fun b o q n => by
      rw [upd_ne (ne_of_none q nC), upd_ne (fun z => n ps (Option.some.inj (q.symm.trans (by rw [z]; exact hP))))]
      exact q
    have eL : (ps ++ #[rawInt pos.line, rawInt pos.col, .ref c2]).toList = ps.toList ++ [rawInt pos.line, rawInt pos.col, .ref c2] := by simp
    refine h h2.objs.size d c2 ((X.mg "__name__").getD .none) ctv doc v0 _ _ I1 hE (fun p hp => ?_) (Heap.get?_push_size _ rfl) ?_ (far Id _ hsz) (Heap.get?_push_of_some _ (hx _ _ ndP hdS)) ?_ fd0 upd_same
    · by_cases hb : p.1 = P
      · rw [hu p hp hb, hb]
        refine ⟨_, by rw [upd_ne (ne_of_none hP nC), upd_same], by rw [eL]; exact PySem.TriplesOk_snoc _ _ _ _ ht, fun p2 cv hcv => ?_⟩
        rw [eL] at hcv
        rcases among_app _ ht hcv with z | z
        · obtain ⟨c0, e1, e2⟩ := ha p2 cv z
          exact ⟨c0, e1, hE _ _ e2 codeO_ne⟩
        · exact ⟨c2, z, upd_same⟩
      · obtain ⟨ps2, a1, a2, a3⟩ := hT p hp
        refine ⟨ps2, by rw [upd_ne (ne_of_none a1 nC), upd_ne hb]; exact a1, a2, fun p2 cv hcv => ?_⟩
        obtain ⟨c0, e1, e2⟩ := a3 p2 cv hcv
        exact ⟨c0, e1, hE _ _ e2 codeO_ne⟩
    · have n1 : h2.objs.size ≠ c2 := Nat.ne_of_gt hlt
      have n2 : h2.objs.size ≠ P := Nat.ne_of_gt (Nat.lt_of_lt_of_le (Heap.lt_size aP) hsz)
      rw [upd_ne n1, upd_ne n2]
      exact Id.hok.fresh hsz
    · have n1 : d ≠ c2 := Nat.ne_of_lt (Nat.lt_of_lt_of_le (Heap.lt_size hdS) hge)
      rw [upd_ne n1, upd_ne ndP]
      exact nd0
  | some cv =>
    obtain ⟨c2, ec, hco⟩ := ha pos cv hc
    subst ec
    refine PySem.W.kdv_makeTailHit (mg := X.mg) (c := c) (P := P) (ps := ps) (closure_ok hfree) Id.ok.glob (Id.mod.glob.keeps Id.bk) hcode (TB.code.keeps Id.bk) aP ht hc bP fun ctv doc h2 tk hx hsz => ?_
    have I1 : L2.Inv X pins σ H { S with heap := h2.push (PySem.W.kdv_obj "<lambda>" (X.env.qual ++ "<lambda>") params (.expr body) scope (cloFrom X.env.cells scope.names []) (.ref d) doc ((X.mg "__name__").getD .none) c2 ctv), toks := tk } := Id.kept fun b o q => Heap.get?_push_of_some _ (hx b o q)
    exact h h2.objs.size d c2 ((X.mg "__name__").getD .none) ctv doc v0 H _ I1 (ExtN.refl H) hT (Heap.get?_push_size _ rfl) (Id.hok.fresh hsz) (far Id _ hsz) (Heap.get?_push_of_some _ (hx _ _ hdS)) nd0 fd0 hco
end
/-- one parameter of its own that the names do not know, captured names, globals -/
structure LamD (N : List Str) (x : Str) (sc scope : Scope) : Prop where
  kind : scope.kind = .function
  co : scope.isCoroutine = false
  gen : scope.isGenerator = false
  own : ∀ y ∈ scope.names, y.2 ≠ .cell ∧ (y.2 = .local → y.1 ∉ N)
  here : scope.names.lookup x = some .local
  free : ∀ y ∈ scope.names, y.2 = .free → sc.names.lookup y.1 = some .cell ∨ sc.names.lookup y.1 = some .free
def lamDB (N : List Str) (x : Str) (sc scope : Scope) : Bool :=
  decide (scope.kind = .function) && !scope.isCoroutine && !scope.isGenerator && (scope.names.all fun y => !decide (y.2 = .cell) && (!decide (y.2 = .local) || !decide (y.1 ∈ N))) && decide (scope.names.lookup x = some .local) &&
    scope.names.all fun y => !decide (y.2 = .free) || (decide (sc.names.lookup y.1 = some .cell) || decide (sc.names.lookup y.1 = some .free))
theorem lamD_by {N : List Str} {x : Str} {sc scope : Scope} (h : lamDB N x sc scope = true) : LamD N x sc scope := by
  unfold lamDB at h
  simp only [Bool.and_eq_true, Bool.or_eq_true, Bool.not_eq_true', decide_eq_true_eq, decide_eq_false_iff_not, List.all_eq_true] at h
  obtain ⟨⟨⟨⟨⟨h1, h2⟩, h3⟩, h4⟩, h5⟩, h6⟩ := h
  refine ⟨h1, h2, h3, fun y hy => ⟨(h4 y hy).1, fun e => (h4 y hy).2.elim (fun z => absurd e z) id⟩, h5, fun y hy e => ?_⟩
  rcases h6 y hy with z | z | z
  · exact absurd e z
  · exact .inl z
  · exact .inr z
theorem LamD.has {X : Cx} {N : List Str} {x : Str} {scope : Scope} (L : LamD N x X.env.scope scope) (ok : X.Ok) : ∀ y ∈ scope.names, y.2 = .free → ∃ c, X.env.cells.lookup y.1 = some c := fun y hy e => by
  rcases L.free y hy e with k | k
  · exact ok.has _ (.inl k)
  · exact ok.has _ (.inr k)
section
variable {X : Cx} {pins : List (Addr × Obj)} {σ : L2.St} {H HZ : Hp} {s s1 : Shared}
theorem lamd_start {A : Around} {outer : List Env} {E : XK} {scope : Scope} {f c2 : Addr} {x : Str} {v0 : Value} {h₁ : Heap} {tk : Nat} (I : L2.Inv X pins σ H s) (L : LamD X.N x X.env.scope scope) (e0 : Env0 X.prog X.w X.K X.mg X.base A outer s1 HZ) (hd : A.handled = none)
    (un : Un (frs X.stack) [] H HZ s.heap s1.heap) (hns : h₁.Ns s1.heap.objs.size fun y => [(x, v0)].reverse.lookup y) (kp : ∀ b o, s1.heap.get? b = some o → h₁.get? b = some o) :
    L2.Inv (lamCx X A outer s1 HZ E scope f c2) [] σ HZ { s1 with heap := h₁, toks := tk } := by
  have hfree := L.has I.ok
  have cm : ∀ {y c}, (cloFrom X.env.cells scope.names []).lookup y = some c → X.env.cells.lookup y = some c := fun {y c} e => by
    rcases cloFrom_mem (PySem.mem_of_lookup e) with hm | ⟨h1, h2⟩
    · cases hm
    · obtain ⟨c1, hc⟩ := hfree _ h1 rfl
      have hc : X.env.cells.lookup y = some c1 := hc
      have e2 : c = c1 := by
        rw [h2, hc] <;> rfl
      rw [e2]
      exact hc
  have look : ∀ {y}, scope.names.lookup y = some .free → ∃ c, (cloFrom X.env.cells scope.names []).lookup y = some c := fun {y} hl => by
    have hy : (y, NameKind.free) ∈ scope.names := PySem.mem_of_lookup hl
    exact mem_lookup (cloFrom_has (cells := X.env.cells) (acc := []) hy)
  have stays : ∀ {c : Addr} {v : Option Value}, H c = none → s.heap.IsCell c v → h₁.IsCell c v := fun {c v} n ⟨o, ho, hd⟩ => by
    obtain ⟨sl, q⟩ := un.any ho n (by simp)
    exact ⟨_, kp _ _ q, hd⟩
  have noA : ∀ b : Addr, b ∉ (lamCx X A outer s1 HZ E scope f c2).ex := fun b z => absurd (show b ∈ ([] : List Addr) from z) (by simp)
  refine ⟨⟨e0.mod, L.kind, rfl, rfl, Nat.le_refl _, fun y z c e1 e2 => I.ok.inj y z c (cm e1) (cm e2), fun y hy => ?_, fun y c z _ => ?_, fun _ => hd, Around.frames_deeper e0.frames, .inr ⟨rfl, rfl⟩, fun b z => absurd z (noA b), e0.bs, e0.bsz, fun b _ _ => noA b,
      fun b z => absurd z (noA b), e0.funs, e0.frf⟩,
    rfl, e0.bare, Un.kept kp, ⟨_, hns, fun i y v e1 e2 e3 => ?_⟩, fun y c e => ?_, e0.hok.fresh (Nat.le_refl _), fun y c e => ?_, fun q hq => absurd (show q ∈ ([] : List (Addr × Obj)) ++ [] from hq) (by simp), e0.hok.kept kp, I.len⟩
  · have hy : scope.names.lookup y = some .cell ∨ scope.names.lookup y = some .free := hy
    rcases hy with hy | hy
    · exact absurd rfl (L.own _ (PySem.mem_of_lookup hy)).1
    · exact look hy
  · have z : false = true := z
    cases z
  · have e3 : Vis scope y := e3
    rcases e3 with k | k | k
    · exact absurd (List.mem_of_getElem? (show X.N[i]? = some y from e1)) ((L.own _ (PySem.mem_of_lookup k)).2 rfl)
    · exact absurd rfl (L.own _ (PySem.mem_of_lookup k)).1
    · obtain ⟨m, hn, hl⟩ := I.loc
      have hvis : Vis X.env.scope y := (L.free _ (PySem.mem_of_lookup k) rfl).elim (fun k => .inr (.inl k)) (fun k => .inr (.inr k))
      obtain ⟨w2, r, q⟩ := hl i y v e1 e2 hvis
      obtain ⟨c3, h2⟩ := look k
      refine ⟨w2, r, .inr ⟨.inr k, c3, h2, ?_⟩⟩
      have c1 := cm h2
      rcases q with ⟨k2, _⟩ | ⟨_, c4, e4, z⟩
      · have k2 : X.env.scope.names.lookup y = some .local := k2
        rcases L.free _ (PySem.mem_of_lookup k) rfl with k3 | k3 <;> rw [show X.env.scope.names.lookup y = _ from k3] at k2 <;> cases k2
      · rw [c1] at e4
        cases e4
        exact stays (I.freeC y _ c1) z
  · obtain ⟨w2, z⟩ := I.cell y c (cm e)
    exact ⟨w2, stays (I.freeC y c (cm e)) z⟩
  · obtain ⟨v, o, ho, hd⟩ := I.cell y c (cm e)
    exact un.free c o ho (I.freeC y c (cm e)) (by simp)
/-- called where it came to -/
theorem ped_act {CXg : CXT} {Eg : XK} {Ng : List Str} {qg : Str} {sg : Scope} {g f d c2 : Addr} {cdg pm ctv doc v0 : Value} {x : Str} {params : Arguments} {body : Expr} {scope : Scope} {k i : Nat} {a : Str} {pn : List (Addr × Obj)} {xe : Value → Shared → Prop} {W : WX} {E : XK} {tb : TE} {p1 p2 : Pos}
    (I : L2.Inv X pins σ H s) (L : LamD X.N x X.env.scope scope) (hf : s.heap.get? f = some (PySem.W.kdv_obj "<lambda>" (X.env.qual ++ "<lambda>") params (.expr body) scope (cloFrom X.env.cells scope.names []) (.ref d) doc pm c2 ctv)) (hfn : H f = none) (hfr : f ∉ frs X.stack)
    (hdt : s.heap.get? d = some (tupO v0)) (hdn : H d = none) (hdr : d ∉ frs X.stack)
    (hbind : ∃ kk, bindArgs (PySem.W.kdv_fn "<lambda>" (X.env.qual ++ "<lambda>") params (.expr body) scope (cloFrom X.env.cells scope.names []) (.ref d) doc pm (.ref c2) ctv) ⟨[], []⟩ = seqItems? (.ref d) >>= kk ∧ kk (some [v0].toArray) = pure [(x, v0)])
    (tk : Takes ((cxOf CXg X.prog X.w X.K X.mg X.base Ng qg sg g cdg X.A X.stack s H Eg).tr pn xe) W) (hW : ∀ cls dd σ' H', E cls dd H' → W cls dd σ' H') (hr : Room (k + 1) (X.A.deeper (envOfC qg sg s.heap.objs.size g cdg)))
    (hbody : ∀ (A : Around) (outer : List Env) (s : Shared) (H : Hp), Room k (A.deeper (lamEnv X scope s.heap.objs.size f c2)) → PE (lamCx X A outer s H E scope f c2) body tb)
    (hN : Ng[i]? = some a) (hv : Vis sg a) (hda : (a == ("__debug__" : Str)) = false := by decide) (hcd : (a == ("__classdict__" : Str)) = false := by decide) :
    PE ((cxOf CXg X.prog X.w X.K X.mg X.base Ng qg sg g cdg X.A X.stack s H Eg).tr pn xe) (.Call (.Name a p1) [] [] p2)
      (fun σZ HZ Q => σZ[i]? = some (some (.ref f)) ∧ HZ c2 = some (CodeO c2 (X.env.qual ++ "<lambda>")) ∧ tb σ HZ Q) := by
  refine ⟨fun pinsZ sZ σZ HZ Q IZ h => ?_⟩
  obtain ⟨hs, hc, ht⟩ := h
  refine wpAny_Call_Name_kw (thn ((pe_var (pos := p1) (i := i) hN hv hda hcd).run pinsZ sZ σZ HZ (fun v H1 => v = .ref f ∧ H1 = HZ) IZ ⟨.ref f, hs, rfl, rfl⟩) fun u s1 ⟨v, H1, I1, r1, q1⟩ => ?_)
  obtain ⟨ev, eH⟩ := q1
  subst ev
  rw [eH] at I1
  obtain rfl : u = Value.ref f := r1
  have noE : ∀ b : Addr, b ∉ ((cxOf CXg X.prog X.w X.K X.mg X.base Ng qg sg g cdg X.A X.stack s H Eg).tr pn xe).ex := fun b z => nomatch (show b ∈ ([] : List Addr) from z)
  have of1 : s1.heap.get? f = some (PySem.W.kdv_obj "<lambda>" (X.env.qual ++ "<lambda>") params (.expr body) scope (cloFrom X.env.cells scope.names []) (.ref d) doc pm c2 ctv) := I1.base.keep f _ hf hfn hfr (noE f)
  have od1 : s1.heap.get? d = some (tupO v0) := I1.base.keep d _ hdt hdn hdr (noE d)
  refine PySem.W.callWith_F0 ⟨_, _, _, _, of1⟩ ?_
  have un : Un (frs X.stack) [] H HZ s.heap s1.heap := I1.base
  obtain ⟨⟨oc, vs, t, hoc, hdc, hvc⟩, _, _⟩ := I1.hok c2 _ hc
  have rc : codeAny (model X.prog X.w) (X.A.deeper (envOfC qg sg s.heap.objs.size g cdg)) (.call (.ref f) ⟨[], []⟩) (CR (L2.CX X.prog X.w) (envOfC qg sg s.heap.objs.size g cdg :: X.stack) X.prog X.w HZ s1 Q E) s1 := by
    refine PySem.W.kla_callFunE hr.depth of1 rfl L.co L.gen rfl ⟨c2, oc, vs, t, rfl, hoc, hdc, hvc⟩ ?_
    obtain ⟨kk, e1, e2⟩ := hbind
    rw [e1]
    refine wpAny_bind (wpAny_seqItems od1 rfl ?_)
    rw [e2]
    refine wpAny_pure (wpAny_newFunctionEnv (fun y hy => (L.own y hy).1) (fun y hy => ?_) (fun h₁ hns hsb => ⟨I1.nolimit.fresh _ hsb, ?_⟩) L.kind)
    · rcases List.mem_cons.mp hy with e | e
      · rw [e]
        exact L.here
      · exact absurd e (by simp)
    show codeAny _ _ (.expr body (lamEnv X scope s1.heap.objs.size f c2)) _ _
    have kp : ∀ b o, s1.heap.get? b = some o → h₁.get? b = some o := fun b o e => hsb.extBut b o (Nat.ne_of_lt (Heap.lt_size e)) (Heap.get?_push_of_some _ e)
    have J : L2.Inv (lamCx X (X.A.deeper (envOfC qg sg s.heap.objs.size g cdg)) (envOfC qg sg s.heap.objs.size g cdg :: X.stack) s1 HZ E scope f c2) [] σ HZ { s1 with heap := h₁, toks := s1.toks + [(x, v0)].length } :=
      lamd_start I L I1.env0 hr.hd un hns kp
    refine PySem.W.kla_codeExpr (wpAny_mono ((hbody _ _ s1 HZ (hr.deeper _)).run [] _ _ HZ Q J ht) (fun v s2 hq => ?_) fun e s2 hq => hq)
    obtain ⟨w2, H2, J2, rv, q⟩ := hq
    exact ⟨w2, H2, J2.os, J2.bare, J2.base, J2.hok, rv, q⟩
  have hx : Passes (L2.CX X.prog X.w) ((cxOf CXg X.prog X.w X.K X.mg X.base Ng qg sg g cdg X.A X.stack s H Eg).tr pn xe) E := passes_call tk hW
  refine wpAny_call (codeAny_mono rc fun r s2 hq => ?_)
  cases r with
  | error e => exact hx pinsZ σZ HZ s1 e s2 I1 hq
  | ok fl =>
    cases fl with
    | ret u => exact I1.after hq
    | next => exact False.elim hq
    | brk => exact False.elim hq
    | cont => exact False.elim hq
end
/-- x(lambda p=e: body) -/
theorem pe_lamd {X : Cx} {T : List (Addr × Str)} {TT : (XK → Hp → VK → Prop) → Hp → VK → Prop} {x y a : Str} {g c P : Addr} {k : Nat} {pg : Arguments} {bg : List Stmt} {sg : Scope} {dV kV doc pm cdv ct oc : Value} {an od : Option Addr} {osl : Array (Option Value)} {Ng : List Str}
    {params : Arguments} {e body : Expr} {te : TE} {scope : Scope} {t : XK → TE} {p lpos pos : Pos} (hg : Gl X x) (hm : X.mg x = some (.ref g)) (hk : PySem.W.keepIn X.K (.ref g) = true)
    (lk : X.K.lookup g = some ⟨oc, od, .func (PySem.W.fnOf x x pg bg sg dV kV doc pm an cdv ct), osl⟩) (hcg : PySem.W.codeIn X.K cdv x = true) (hb : L2.Binds X.K (PySem.W.fnOf x x pg bg sg dV kV doc pm an cdv ct) [a] []) (Sg : FnScope Ng [a] sg) (hNg : Ng[0]? = some a) (hva : Vis sg a)
    (hG : GivesTo X Ng x sg g cdv bg a (X.env.qual ++ "<lambda>") TT)
    (TB : TabB X.base X.mg c P) (hcode : X.env.code = .ref c) (hmT : (P, X.env.qual ++ "<lambda>") ∈ T) (hu : ∀ p ∈ T, p.1 = P → p.2 = X.env.qual ++ "<lambda>") (hr : Room (k + 2) X.A) (L : LamD X.N y X.env.scope scope)
    (hdef : defaultsOf params X.env = ([eval e X.env], [])) (hkw : params.kwonlyargs = []) (he : PE X e te) (hte : ∀ σ H, te σ H fun _ H1 => H1 = H)
    (hbind : ∀ (q : Str) (cl : List (Str × Addr)) (d : Addr) (doc pm cv ctv v0 : Value), ∃ kk, bindArgs (PySem.W.kdv_fn "<lambda>" q params (.expr body) scope cl (.ref d) doc pm cv ctv) ⟨[], []⟩ = seqItems? (.ref d) >>= kk ∧ kk (some [v0].toArray) = pure [(y, v0)])
    (hbody : ∀ (A : Around) (outer : List Env) (s : Shared) (H : Hp) (E : XK) (f c2 : Addr), Room k (A.deeper (lamEnv X scope s.heap.objs.size f c2)) → PE (lamCx X A outer s H E scope f c2) body (t E))
    (hdb : (x == ("__debug__" : Str)) = false := by decide) (hd : (a == ("__debug__" : Str)) = false := by decide) (hcd : (a == ("__classdict__" : Str)) = false := by decide) :
    PE X (.Call (.Name x p) [.Lambda params body scope lpos] [] pos) (tLam T TT t) := by
  refine ⟨fun pins s σ H Q I h => ?_⟩
  obtain ⟨hT, h⟩ := h
  refine wpAny_Call_Name_kw (ld_glob I hg hm ?_ hdb)
  refine PySem.W.callWith_K (h₀ := X.base) I.ok.mod.kin hk ?_ (by rfl) (by rfl)
  show wpAny _ _ (spliced ((false, eval (.Lambda params body scope lpos) X.env) :: backTo pos (starEach [] X.env))) _ _ s
  refine Calls.spliced_cons (lamd_make I TB hcode hmT hu hT hdef hkw he (hte _ _) (L.has I.ok) fun f d c2 pm2 ctv doc2 v0 H1 s2 I1 eN T1 hf hfn hfr hdt hdn hdr hco => ?_)
  refine Calls.spliced_nil ⟨I1.kIn, ?_⟩
  have rc : codeAny (model X.prog X.w) X.A (.call (.ref g) ⟨[.ref f], []⟩) (CR C8.CX0 X.stack X.prog X.w H1 s2 Q C8.E0) s2 := by
    refine run_ofS (N := Ng) (ps := [a]) (us := [.ref f]) (vs := [.ref f]) lk hcg Sg hr I1.env0 (hb s2 [.ref f] I1.kIn rfl) (.cons rfl .nil) rfl fun hr2 => ?_
    obtain ⟨t2, ht2, hq2⟩ := hG f c2 s2 H1 Q (fun E H2 Q2 => t E σ H2 Q2) (fun W pn xe E p1 p2 tk hW => ped_act (i := 0) I1 L hf hfn hfr hdt hdn hdr (hbind _ _ _ _ _ _ _ _) tk hW hr2 (fun A outer s H hr3 => hbody A outer s H E f c2 hr3) hNg hva hd hcd) hco (h H1 eN T1)
    exact ⟨t2, ht2.nox, hq2⟩
  refine wpAny_call (codeAny_mono rc fun r s3 hq => ?_)
  cases r with
  | error e => exact (show False from hq).elim
  | ok fl =>
    cases fl with
    | ret u => exact I1.after hq
    | next => exact False.elim hq
    | brk => exact False.elim hq
    | cont => exact False.elim hq
end Bh

/-! XM1 -/
set_option maxHeartbeats 4000000
/-! fours with their sign, in plain numbers -/
namespace Bh
open Bs
/-- four bends, their sign -/
structure Gq (s a b c d : Int) : Prop where
  F : Fr4 a b c d
  S : SF a b c d s
section
variable {s a b c d : Int}
theorem Gq.swap01 (g : Gq s a b c d) : Gq s b a c d := ⟨g.F.swap01, g.S.swap01⟩
theorem Gq.swap12 (g : Gq s a b c d) : Gq s a c b d := ⟨g.F.swap12, g.S.swap12⟩
theorem Gq.swap23 (g : Gq s a b c d) : Gq s a b d c := ⟨g.F.swap23, g.S.swap23⟩
theorem Gq.exch3 (g : Gq s a b c d) : Gq s a b c (2 * (a + b + c) - d) := ⟨g.F.exch3, SF.exch3 g.F g.S⟩
theorem Gq.cast {a2 b2 c2 d2 : Int} (g : Gq s a b c d) (e1 : a = a2) (e2 : b = b2) (e3 : c = c2) (e4 : d = d2) : Gq s a2 b2 c2 d2 := by
  subst e1 e2 e3 e4
  exact g
end
def GL (s : Int) (ns : List Int) : Prop := ∃ a b c d, ns = [a, b, c, d] ∧ Gq s a b c d
theorem GL.len {s : Int} {ns : List Int} (g : GL s ns) : ns.length = 4 := by
  obtain ⟨a, b, c, d, rfl, _⟩ := g
  rfl
theorem GL.ex {s : Int} {ns : List Int} (g : GL s ns) {i : Nat} (hi : i < 4) : GL s (exch ns i) := by
  obtain ⟨a, b, c, d, rfl, g⟩ := g
  rcases (by omega : i = 0 ∨ i = 1 ∨ i = 2 ∨ i = 3) with rfl | rfl | rfl | rfl
  · exact ⟨_, b, c, d, rfl, (g.swap01.swap12.swap23.exch3.swap23.swap12.swap01).cast (by simp [letIn]; omega) rfl rfl rfl⟩
  · exact ⟨a, _, c, d, rfl, (g.swap12.swap23.exch3.swap23.swap12).cast rfl (by simp [letIn]; omega) rfl rfl⟩
  · exact ⟨a, b, _, d, rfl, (g.swap23.exch3.swap23).cast rfl rfl (by simp [letIn]; omega) rfl⟩
  · exact ⟨a, b, c, _, rfl, g.exch3.cast rfl rfl rfl (by simp [letIn]; omega)⟩
theorem GL.arr {s : Int} {ns : List Int} (g : GL s ns) {x y z w : Nat} (hx : x < 4) (hy : y < 4) (hz : z < 4) (hw : w < 4) (m1 : x ≠ y) (m2 : z ≠ w) (m3 : z ≠ x) (m4 : z ≠ y) (m5 : w ≠ x) (m6 : w ≠ y) : Gq s (ns.getD x 0) (ns.getD y 0) (ns.getD z 0) (ns.getD w 0) := by
  obtain ⟨a, b, c, d, rfl, g⟩ := g
  rcases (by omega : x = 0 ∨ x = 1 ∨ x = 2 ∨ x = 3) with rfl | rfl | rfl | rfl <;> rcases (by omega : y = 0 ∨ y = 1 ∨ y = 2 ∨ y = 3) with rfl | rfl | rfl | rfl <;> first
    | exact absurd rfl m1
    | (rcases (by omega : z = 0 ∨ z = 1 ∨ z = 2 ∨ z = 3) with rfl | rfl | rfl | rfl <;> first
        | exact absurd rfl m3
        | exact absurd rfl m4
        | (rcases (by omega : w = 0 ∨ w = 1 ∨ w = 2 ∨ w = 3) with rfl | rfl | rfl | rfl <;> first
            | exact absurd rfl m2
            | exact absurd rfl m5
            | exact absurd rfl m6
            | exact g
            | exact g.swap23
            | exact g.swap12
            | exact g.swap12.swap23
            | exact g.swap23.swap12
            | exact g.swap12.swap23.swap12
            | exact g.swap01
            | exact g.swap01.swap23
            | exact g.swap01.swap12
            | exact g.swap01.swap12.swap23
            | exact g.swap01.swap23.swap12
            | exact g.swap01.swap12.swap23.swap12
            | exact g.swap12.swap01
            | exact g.swap12.swap01.swap23
            | exact g.swap01.swap12.swap01
            | exact g.swap01.swap12.swap01.swap23
            | exact g.swap12.swap01.swap23.swap12
            | exact g.swap01.swap12.swap01.swap23.swap12
            | exact g.swap23.swap12.swap01
            | exact g.swap12.swap23.swap12.swap01
            | exact g.swap01.swap23.swap12.swap01
            | exact g.swap01.swap12.swap23.swap12.swap01
            | exact g.swap12.swap01.swap23.swap12.swap01
            | exact g.swap01.swap12.swap01.swap23.swap12.swap01))
/-- the two other places -/
theorem others {i j : Nat} (hi : i < 4) (hj : j < 4) (hij : i ≠ j) : ∃ lo hi2, lo < 4 ∧ hi2 < 4 ∧ lo ≠ hi2 ∧ lo ≠ i ∧ lo ≠ j ∧ hi2 ≠ i ∧ hi2 ≠ j := by
  obtain ⟨lo, h2, e⟩ := oth2_two hi hj hij
  exact ⟨lo, h2, oth2_cases hi hj hij e⟩
/-! ### sizes -/
theorem of_sq {x y : Int} (hy : 0 ≤ y) (h : x * x ≤ y * y) : -y ≤ x ∧ x ≤ y := by
  constructor
  · apply Int.not_lt.mp
    intro z
    have : (y + 1) * (y + 1) ≤ (-x) * (-x) := Int.mul_le_mul (by omega) (by omega) (by omega) (by omega)
    have e : (-x) * (-x) = x * x := by grind
    have e2 : (y + 1) * (y + 1) = y * y + 2 * y + 1 := by grind
    omega
  · apply Int.not_lt.mp
    intro z
    have : (y + 1) * (y + 1) ≤ x * x := Int.mul_le_mul (by omega) (by omega) (by omega) (by omega)
    have e2 : (y + 1) * (y + 1) = y * y + 2 * y + 1 := by grind
    omega
theorem fr_abs {a b c d : Int} (F : Fr4 a b c d) : -(a + b + c + d) ≤ a ∧ a ≤ a + b + c + d := by
  have e := F.eq
  have p := F.pos
  have h1 := sq_nonneg a
  have h2 := sq_nonneg b
  have h3 := sq_nonneg c
  have h4 := sq_nonneg d
  exact of_sq (by omega) (by omega)
theorem GL.sum_pos {s : Int} {ns : List Int} (g : GL s ns) : 0 < ns.sum := by
  obtain ⟨a, b, c, d, rfl, g⟩ := g
  have := g.F.pos
  simp
  omega
theorem GL.abs {s : Int} {ns : List Int} (g : GL s ns) : ∀ b ∈ ns, -ns.sum ≤ b ∧ b ≤ ns.sum := by
  obtain ⟨a, b, c, d, rfl, g⟩ := g
  have h1 := fr_abs g.F
  have h2 := fr_abs g.swap01.F
  have h3 := fr_abs g.swap12.swap01.F
  have h4 := fr_abs g.swap23.swap12.swap01.F
  intro x hx
  simp only [List.sum_cons, List.sum_nil]
  simp only [List.mem_cons, List.not_mem_nil, or_false] at hx
  rcases hx with rfl | rfl | rfl | rfl <;> omega
theorem GL.natAbs {s : Int} {ns : List Int} (g : GL s ns) {N : Nat} (h : ns.sum < (2 : Int) ^ N) : ∀ b ∈ ns, b.natAbs < 2 ^ N := fun b hb => by
  have h1 := g.abs b hb
  have h2 : ((2 ^ N : Nat) : Int) = (2 : Int) ^ N := by simp
  omega
theorem exch_sumQ {ns : List Int} {i : Nat} (h4 : ns.length = 4) (hi : i < 4) : (exch ns i).sum = 3 * ns.sum - 4 * ns.getD i 0 := by
  match ns, h4 with
  | [a, b, c, d], _ =>
    rcases (by omega : i = 0 ∨ i = 1 ∨ i = 2 ∨ i = 3) with rfl | rfl | rfl | rfl <;> simp [exch, letIn] <;> omega
theorem getD_mem {ns : List Int} {i : Nat} (h : i < ns.length) : ns.getD i 0 ∈ ns := by
  rw [List.getD_eq_getElem?_getD, List.getElem?_eq_getElem h]
  exact List.getElem_mem h
theorem GL.grow {s : Int} {ns : List Int} (g : GL s ns) {i : Nat} (hi : i < 4) : (exch ns i).sum ≤ 7 * ns.sum := by
  rw [exch_sumQ g.len hi]
  have := g.abs _ (getD_mem (ns := ns) (i := i) (by rw [g.len]; exact hi))
  omega
theorem GL.four {s : Int} {ns : List Int} (g : GL s ns) (h : ns.sum < (2 : Int) ^ BIG) : Four4 ns := by
  have sz := g.natAbs h
  have ps := g.sum_pos
  obtain ⟨a, b, c, d, rfl, g⟩ := g
  have e := g.F.eq
  refine ⟨rfl, ?_, ps, ?_, sz⟩
  · simp only [List.map_cons, List.map_nil, List.sum_cons, List.sum_nil]
    have e1 : a + (b + (c + (d + 0))) = a + b + c + d := by omega
    rw [e1]
    omega
  · have hg : gcdL [a, b, c, d] = (Int.gcd (Int.gcd (Int.gcd a b : Nat) c : Nat) d : Nat) := by
      show (Nat.gcd (Nat.gcd (Nat.gcd (Nat.gcd 0 a.natAbs) b.natAbs : Nat) c.natAbs) d.natAbs : Nat) = ((Int.gcd _ d : Nat) : Int)
      rw [Nat.gcd_zero_left]
      rfl
    rw [hg]
    have d4 := Int.gcd_dvd_right (Int.gcd (Int.gcd a b : Nat) c : Nat) d
    have d3 := Int.gcd_dvd_left (Int.gcd (Int.gcd a b : Nat) c : Nat) d
    have d2 := Int.dvd_trans d3 (Int.gcd_dvd_right (Int.gcd a b : Nat) c)
    have d1 := Int.dvd_trans d3 (Int.gcd_dvd_left (Int.gcd a b : Nat) c)
    exact Int.le_of_dvd (by decide) (g.F.prim _ (Int.dvd_trans d1 (Int.gcd_dvd_left a b)) (Int.dvd_trans d1 (Int.gcd_dvd_right a b)) d2 d4)
/-! ### led and back -/
theorem GL.led {s : Int} {ns : List Int} (g : GL s ns) : ∀ {path : List Nat} {ms : List Int}, Led ns path ms → GL s ms ∧ ms.sum ≤ 7 ^ path.length * ns.sum := by
  intro path ms h
  induction h with
  | nil => exact ⟨g, by simp⟩
  | @snoc path cur i h hi lt ih =>
    refine ⟨ih.1.ex hi, ?_⟩
    have h1 := ih.1.grow hi
    rw [List.length_append]
    have e : (7 : Int) ^ (path.length + [i].length) = 7 ^ path.length * 7 := Int.pow_succ ..
    rw [e]
    have h2 := ih.2
    have e2 : (7 : Int) ^ path.length * 7 * ns.sum = 7 * (7 ^ path.length * ns.sum) := by grind
    omega
theorem exch_back {ns : List Int} {i : Nat} (h4 : ns.length = 4) (hi : i < 4) : exch (exch ns i) i = ns := by
  match ns, h4 with
  | [a, b, c, d], _ =>
    rcases (by omega : i = 0 ∨ i = 1 ∨ i = 2 ∨ i = 3) with rfl | rfl | rfl | rfl <;> simp [exch, letIn] <;> omega
theorem lowPl_of {ns : List Int} {i : Nat} (h : i < ns.length) (h1 : ns.sum < 2 * ns.getD i 0) (h2 : ∀ j, j < ns.length → j ≠ i → 2 * ns.getD j 0 ≤ ns.sum) : lowPl ns = some i := by
  unfold lowPl
  rw [List.findIdx?_eq_some_iff_getElem]
  refine ⟨h, ?_, fun j hj => ?_⟩
  · rw [List.getD_eq_getElem?_getD, List.getElem?_eq_getElem h] at h1
    exact decide_eq_true h1
  · have hj2 : j < ns.length := Nat.lt_trans hj h
    have h3 := h2 j hj2 (Nat.ne_of_lt hj)
    rw [List.getD_eq_getElem?_getD, List.getElem?_eq_getElem hj2] at h3
    simp
    exact h3
theorem GL.lower {s : Int} {ns : List Int} (g : GL s ns) {i : Nat} (hi : i < 4) (up : 2 * ns.getD i 0 < ns.sum) : lowPl (exch ns i) = some i := by
  have g2 := g.ex hi
  have h4 := g2.len
  have hn : (exch ns i).getD i 0 = letIn ns i := by rw [exch_getD g.len hi hi, if_pos rfl]
  have hs := exch_sumQ g.len hi
  have hl : letIn ns i = 2 * ns.sum - 3 * ns.getD i 0 := by unfold letIn; omega
  refine lowPl_of (by omega) (by rw [hs, hn, hl]; omega) fun j hj hji => ?_
  obtain ⟨lo, h2, c1, c2, c3, c4, c5, c6, c7⟩ := others hi (by omega : j < 4) (Ne.symm hji)
  have q := g2.arr hi (by omega : j < 4) c1 c2 (Ne.symm hji) c3 c4 c5 c6 c7
  have p := (q.swap12.swap23.swap01.swap12).F.sum_nonneg
  have e := sum4 h4 hi (by omega : j < 4) c1 c2 (Ne.symm hji) c3 c4 c5 c6 c7
  omega
theorem Led.back {s : Int} {ns : List Int} (g : GL s ns) : ∀ {path : List Nat} {cur : List Int}, Led ns path cur → ∀ {p2 : List Nat} {ms : List Int}, Down ns p2 ms → Down cur (path.reverse ++ p2) ms := by
  intro path cur h
  induction h with
  | nil => exact fun d => d
  | @snoc path cur i h hi lt ih =>
    intro p2 ms d
    have gc := (g.led h).1
    rw [List.reverse_append]
    show Down (exch cur i) (i :: (path.reverse ++ p2)) ms
    refine .step (gc.lower hi lt) ?_
    rw [exch_back gc.len hi]
    exact ih d
theorem Down.long : ∀ {ns : List Int} {path : List Nat} {ms : List Int}, Down ns path ms → ∀ {k : Nat}, k ≤ path.length → Long k ns := by
  intro ns path ms h
  induction h with
  | done h =>
    intro k hk
    have : k = 0 := by simpa using hk
    subst this
    exact .zero
  | step h r ih =>
    intro k hk
    cases k with
    | zero => exact .zero
    | succ k => exact .succ h (ih (by simpa using hk))
end Bh

/-! XM2 -/
set_option maxHeartbeats 4000000
/-! gaskets by their least forms -/
namespace Bh
open Bs
theorem sf_of {a b c d : Int} (F : Fr4 a b c d) (h0 : a ≠ 0) : ∃ s, SF a b c d s := by
  obtain ⟨k, hk⟩ := exists_cop (fv_cls F (Int.dvd_mul_right a b)) h0
  exact ⟨sg a (fv a b c d k), SF.of0 F h0 (SG.of F h0 (fv_worth k) (fv_tch F h0 hk.comm))⟩
theorem gl_ex {a b c d : Int} (F : Fr4 a b c d) : ∃ s, GL s [a, b, c, d] := by
  by_cases ha : a = 0
  · by_cases hb : b = 0
    · by_cases hc : c = 0
      · exfalso
        subst ha hb hc
        have e := F.eq
        have p := F.pos
        have d0 : d * d = 0 := by simp at e; omega
        have : d = 0 := by rcases Int.mul_eq_zero.mp d0 with q | q <;> exact q
        omega
      · obtain ⟨s, h⟩ := sf_of F.swap12.swap01 hc
        exact ⟨s, a, b, c, d, rfl, F, h.swap01.swap12⟩
    · obtain ⟨s, h⟩ := sf_of F.swap01 hb
      exact ⟨s, a, b, c, d, rfl, F, h.swap01⟩
  · obtain ⟨s, h⟩ := sf_of F ha
    exact ⟨s, a, b, c, d, rfl, F, h⟩
/-- the sign by any form at the rim -/
theorem rim_val {n b c d s A H C : Int} (g : Gq s (-n) b c d) (hn : 0 < n) (hA : A = -n + b) (hC : C = -n + c) (sq : A * C = H * H + n * n) (prim : ∀ p : Nat, Pr p → (p : Int) ∣ A → (p : Int) ∣ H → (p : Int) ∣ C → False)
    {ps : List Nat} (hps : ∀ p ∈ ps, Pr p) (hprod : ((nprod ps : Nat) : Int) = n) : s = alone n * (ps.map fun (p : Nat) => loc A C n p).prod := by
  have n0 : -n ≠ 0 := by omega
  obtain ⟨k, hk⟩ := exists_cop (fv_cls g.F (Int.dvd_mul_right (-n) b)) n0
  have t := fv_tch g.F n0 hk.comm
  have hs := (g.S.p0 n0).fan g.F n0 hk.comm
  generalize hw : fv (-n) b c d (k : Int) = w at t hs
  have hw := hw.symm
  have hh := g.F.hsq
  have h2 := g.F.hv2
  have ew : -n + w = A * ((k : Int) * k) - 2 * hv (-n) b c d * k + C := by
    rw [hw, hA, hC]
    unfold fv
    grind
  have eAC : A * C = hv (-n) b c d * hv (-n) b c d + n * n := by rw [hh, hA, hC]; grind
  generalize hv (-n) b c d = V at *
  have F : Fm A H C n (w - n) := ⟨sq, prim, ⟨A * k - V, 1, by rw [show w - n = -n + w by omega, ew]; grind⟩, ⟨C - V * k, k, by rw [show w - n = -n + w by omega, ew]; grind⟩⟩
  have t2 : Tch (-n) (w - n + n) := by rw [show w - n + n = w by omega]; exact t
  have r := rim_sign F hn ps hps hprod t2
  rw [show w - n + n = w by omega, hs] at r
  exact r
theorem form_cop {A H C : Int} {n : Nat} (sq : A * C = H * H + (n : Int) * n) (prim : ∀ p : Nat, Pr p → (p : Int) ∣ A → (p : Int) ∣ H → (p : Int) ∣ C → False) : ∀ p : Nat, Pr p → p ∣ n → Cop (bes A C p) p := fun p hp hd =>
  ((⟨sq, prim, ⟨A, 0, by simp⟩, ⟨H, 1, by rw [sq]; simp⟩⟩ : Fm A H C n A).beside hp (Int.natCast_dvd_natCast.mpr hd)).1
theorem dvd_one_of {e : Int} (h : ∀ p : Nat, Pr p → (p : Int) ∣ e → False) : e ∣ 1 := by
  by_cases h0 : e.natAbs = 0
  · exact (h 2 pr_two (by rw [Int.natAbs_eq_zero.mp h0]; exact Int.dvd_zero _)).elim
  · by_cases h1 : e.natAbs = 1
    · exact Int.natAbs_dvd_natAbs.mp (by rw [h1]; exact Nat.dvd_refl 1)
    · obtain ⟨p, hp, hd⟩ := exists_prime e.natAbs h1 h0
      exact (h p hp (Int.ofNat_dvd_left.mpr hd)).elim
theorem gcdL3_le {A H C : Int} (prim : ∀ p : Nat, Pr p → (p : Int) ∣ A → (p : Int) ∣ H → (p : Int) ∣ C → False) : gcdL [A, H, C] ≤ 1 := by
  have hg : gcdL [A, H, C] = (Int.gcd (Int.gcd A H : Nat) C : Nat) := by
    show (Nat.gcd (Nat.gcd (Nat.gcd 0 A.natAbs) H.natAbs : Nat) C.natAbs : Nat) = ((Int.gcd _ C : Nat) : Int)
    rw [Nat.gcd_zero_left]
    rfl
  rw [hg]
  have d3 := Int.gcd_dvd_right (Int.gcd A H : Nat) C
  have d2 := Int.gcd_dvd_left (Int.gcd A H : Nat) C
  exact Int.le_of_dvd (by decide) (dvd_one_of fun p hp h => prim p hp (Int.dvd_trans h (Int.dvd_trans d2 (Int.gcd_dvd_left A H))) (Int.dvd_trans h (Int.dvd_trans d2 (Int.gcd_dvd_right A H))) (Int.dvd_trans h d3))
theorem nprodI {n : Nat} {fs : List (Nat × Nat)} (F : PF n fs) : ((nprod (flat fs) : Nat) : Int) = n := by rw [nprod_flat, F.prod]
theorem rimProd_flat {A C : Int} {n : Nat} {fs : List (Nat × Nat)} (F : PF n fs) (hc : ∀ p : Nat, Pr p → p ∣ n → Cop (bes A C p) p) : rimProd A C n fs = ((flat fs).map fun (p : Nat) => loc A C n p).prod := by
  rw [loc_prod fs fun f hf => loc_pm (F.pr f hf).1 (hc f.1 (F.pr f hf).1 (F.dvd hf))]
  rfl
/-- what the numbers at the rim are -/
structure NumsF (s : Int) (ns : List Int) (i n : Nat) (A H C : Int) : Prop where
  nums : numsAt ns i = [A, H, C]
  form : Form3 A H C n
  cop : ∀ p : Nat, Pr p → p ∣ n → Cop (bes A C p) p
  val : ∀ fs, PF n fs → s = alone n * rimProd A C n fs
theorem nums_form {s : Int} {ns : List Int} (g : GL s ns) {n : Nat} (hn : 0 < n) (hn2 : n < 2 ^ 32) (hsum : 4 * ns.sum < (2 : Int) ^ BIG) {i : Nat} (hi : i < 4) (hi2 : ns.getD i 0 = -(n : Int)) : ∃ A H C, NumsF s ns i n A H C := by
  obtain ⟨x, y, z, hx, hy, hz, n1, n2, n3, n4, n5, n6, en⟩ : ∃ x y z : Nat, x < 4 ∧ y < 4 ∧ z < 4 ∧ i ≠ x ∧ y ≠ z ∧ y ≠ i ∧ y ≠ x ∧ z ≠ i ∧ z ≠ x ∧ numsAt ns i = [ns.getD i 0 + ns.getD x 0, (ns.getD i 0 + ns.getD x 0 + ns.getD y 0 - ns.getD z 0) / 2, ns.getD i 0 + ns.getD y 0] := by
    rcases (by omega : i = 0 ∨ i = 1 ∨ i = 2 ∨ i = 3) with rfl | rfl | rfl | rfl
    · exact ⟨1, 2, 3, by decide, by decide, by decide, by decide, by decide, by decide, by decide, by decide, by decide, rfl⟩
    · exact ⟨0, 2, 3, by decide, by decide, by decide, by decide, by decide, by decide, by decide, by decide, by decide, rfl⟩
    · exact ⟨0, 1, 3, by decide, by decide, by decide, by decide, by decide, by decide, by decide, by decide, by decide, rfl⟩
    · exact ⟨0, 1, 2, by decide, by decide, by decide, by decide, by decide, by decide, by decide, by decide, by decide, rfl⟩
  have q := g.arr hi hx hy hz n1 n2 n3 n4 n5 n6
  have hab : ∀ j, j < 4 → -ns.sum ≤ ns.getD j 0 ∧ ns.getD j 0 ≤ ns.sum := fun j hj => g.abs _ (getD_mem (by rw [g.len]; exact hj))
  have hb := hab x hx
  have hc := hab y hy
  have hd := hab z hz
  have ha := hab i hi
  rw [hi2] at q en ha
  generalize ns.getD x 0 = b at *
  generalize ns.getD y 0 = c at *
  generalize ns.getD z 0 = d at *
  have h2 := q.F.hv2
  have hq := q.F.hsq
  have hAC : (-(n : Int) + b) * (-(n : Int) + c) = hv (-(n : Int)) b c d * hv (-(n : Int)) b c d + (n : Int) * n := by rw [hq]; grind
  have eh : (-(n : Int) + b + c - d) / 2 = hv (-(n : Int)) b c d := rfl
  rw [eh] at en
  generalize hv (-(n : Int)) b c d = H at *
  have nn : 0 < (n : Int) * n := Int.mul_pos (by omega) (by omega)
  have HH := sq_nonneg H
  have p1 := q.F.sum_nonneg
  have p2 := q.F.swap12.sum_nonneg
  have p3 : 0 < -(n : Int) + b := by
    rcases Int.lt_or_eq_of_le p1 with z | z
    · exact z
    · rw [← z] at hAC
      simp at hAC
      omega
  have p4 : 0 < -(n : Int) + c := by
    rcases Int.lt_or_eq_of_le p2 with z | z
    · exact z
    · rw [← z] at hAC
      simp at hAC
      omega
  have prim : ∀ p : Nat, Pr p → (p : Int) ∣ -(n : Int) + b → (p : Int) ∣ H → (p : Int) ∣ -(n : Int) + c → False := fun p hp d1 d2 d3 => by
    have e1 : (p : Int) ∣ (n : Int) * n := by
      have e2 : (n : Int) * n = (-(n : Int) + b) * (-(n : Int) + c) - H * H := by omega
      rw [e2]
      exact Int.dvd_sub (Int.dvd_mul_of_dvd_left d1) (Int.dvd_mul_of_dvd_left d2)
    have dn : (p : Int) ∣ (n : Int) := by rcases hp.dvd_mul e1 with q | q <;> exact q
    have dm : (p : Int) ∣ -(n : Int) := Int.dvd_neg.mpr dn
    have db : (p : Int) ∣ b := by
      have e3 : b = (-(n : Int) + b) + n := by omega
      rw [e3]
      exact Int.dvd_add d1 dn
    have dc : (p : Int) ∣ c := by
      have e3 : c = (-(n : Int) + c) + n := by omega
      rw [e3]
      exact Int.dvd_add d3 dn
    have dd : (p : Int) ∣ d := by
      have e3 : d = -(n : Int) + b + c - H * 2 := by omega
      rw [e3]
      exact Int.dvd_sub (Int.dvd_add (Int.dvd_add dm db) dc) (Int.dvd_mul_of_dvd_left d2)
    exact hp.not_dvd_one (q.F.prim _ dm db dc dd)
  have hcop := form_cop hAC prim
  have e2 : ((2 ^ BIG : Nat) : Int) = (2 : Int) ^ BIG := by simp
  refine ⟨-(n : Int) + b, H, -(n : Int) + c, en, ⟨p3, p4, by omega, hn, hn2, gcdL3_le prim, by omega, by omega, by omega⟩, hcop, fun fs pf => ?_⟩
  rw [rimProd_flat pf hcop]
  exact rim_val q (by omega) rfl rfl hAC prim pf.flat_pr (nprodI pf)
/-! ### orders -/
theorem perm_sum {l m : List Int} (p : l.Perm m) : l.sum = m.sum := by
  induction p with
  | nil => rfl
  | cons x _ ih => simp [ih]
  | swap x y l => simp; omega
  | trans _ _ ih1 ih2 => rw [ih1, ih2]
theorem perm_fr {ns : List Int} {a b c d : Int} (p : ns.Perm [a, b, c, d]) (F : Fr4 a b c d) : ∃ s, GL s ns := by
  have h4 := p.length_eq
  have hs := perm_sum p
  have hq := perm_sum (p.map fun x => x * x)
  match ns, h4 with
  | [x, y, z, w], _ =>
    simp only [List.sum_cons, List.sum_nil, List.map_cons, List.map_nil] at hs hq
    have e := F.eq
    have ps := F.pos
    refine gl_ex ⟨?_, by omega, fun e h1 h2 h3 h4 => ?_⟩
    · have e1 : x + y + z + w = a + b + c + d := by omega
      have e2 : x * x + y * y + z * z + w * w = a * a + b * b + c * c + d * d := by omega
      rw [e1, e2]
      exact e
    · have all : ∀ v ∈ [x, y, z, w], e ∣ v := fun v hv => by
        simp only [List.mem_cons, List.not_mem_nil, or_false] at hv
        rcases hv with rfl | rfl | rfl | rfl <;> assumption
      have back : ∀ v ∈ [a, b, c, d], e ∣ v := fun v hv => all v (p.mem_iff.mpr hv)
      exact F.prim e (back a (by simp)) (back b (by simp)) (back c (by simp)) (back d (by simp))
theorem perm2 {c d z w : Int} (p : [c, d].Perm [z, w]) : (c = z ∧ d = w) ∨ (c = w ∧ d = z) := by
  have h := (p.mem_iff (a := c)).mp (by simp)
  simp only [List.mem_cons, List.not_mem_nil, or_false] at h
  rcases h with rfl | rfl
  · exact .inl ⟨rfl, by simpa using p⟩
  · exact .inr ⟨rfl, by simpa using p.trans (List.Perm.swap c z [])⟩
theorem perm3 {b c d y z w : Int} (p : [b, c, d].Perm [y, z, w]) : (b = y ∧ [c, d].Perm [z, w]) ∨ (b = z ∧ [c, d].Perm [y, w]) ∨ (b = w ∧ [c, d].Perm [y, z]) := by
  have h := (p.mem_iff (a := b)).mp (by simp)
  simp only [List.mem_cons, List.not_mem_nil, or_false] at h
  rcases h with rfl | rfl | rfl
  · exact .inl ⟨rfl, p.cons_inv⟩
  · exact .inr (.inl ⟨rfl, (p.trans (List.Perm.swap b y [w])).cons_inv⟩)
  · exact .inr (.inr ⟨rfl, (p.trans (((List.Perm.swap b z []).cons y).trans (List.Perm.swap b y [z]))).cons_inv⟩)
theorem perm4 {a b c d x y z w : Int} (p : [a, b, c, d].Perm [x, y, z, w]) : (a = x ∧ [b, c, d].Perm [y, z, w]) ∨ (a = y ∧ [b, c, d].Perm [x, z, w]) ∨ (a = z ∧ [b, c, d].Perm [x, y, w]) ∨ (a = w ∧ [b, c, d].Perm [x, y, z]) := by
  have h := (p.mem_iff (a := a)).mp (by simp)
  simp only [List.mem_cons, List.not_mem_nil, or_false] at h
  rcases h with rfl | rfl | rfl | rfl
  · exact .inl ⟨rfl, p.cons_inv⟩
  · exact .inr (.inl ⟨rfl, (p.trans (List.Perm.swap a x [z, w])).cons_inv⟩)
  · exact .inr (.inr (.inl ⟨rfl, (p.trans (((List.Perm.swap a y [w]).cons x).trans (List.Perm.swap a x [y, w]))).cons_inv⟩))
  · exact .inr (.inr (.inr ⟨rfl, (p.trans ((((List.Perm.swap a z []).cons y).cons x).trans (((List.Perm.swap a y [z]).cons x).trans (List.Perm.swap a x [y, z])))).cons_inv⟩))
theorem perm_gq {s : Int} {ns : List Int} (g : GL s ns) {a b c d : Int} (p : ns.Perm [a, b, c, d]) : Gq s a b c d := by
  obtain ⟨x, y, z, w, rfl, g⟩ := g
  rcases perm4 p with ⟨e1, p2⟩ | ⟨e1, p2⟩ | ⟨e1, p2⟩ | ⟨e1, p2⟩ <;> rcases perm3 p2 with ⟨e2, p3⟩ | ⟨e2, p3⟩ | ⟨e2, p3⟩ <;> rcases perm2 p3 with ⟨e3, e4⟩ | ⟨e3, e4⟩ <;> subst e1 e2 e3 e4 <;> first
    | exact g
    | exact g.swap23
    | exact g.swap12
    | exact g.swap12.swap23
    | exact g.swap23.swap12
    | exact g.swap12.swap23.swap12
    | exact g.swap01
    | exact g.swap01.swap23
    | exact g.swap01.swap12
    | exact g.swap01.swap12.swap23
    | exact g.swap01.swap23.swap12
    | exact g.swap01.swap12.swap23.swap12
    | exact g.swap12.swap01
    | exact g.swap12.swap01.swap23
    | exact g.swap01.swap12.swap01
    | exact g.swap01.swap12.swap01.swap23
    | exact g.swap12.swap01.swap23.swap12
    | exact g.swap01.swap12.swap01.swap23.swap12
    | exact g.swap23.swap12.swap01
    | exact g.swap12.swap23.swap12.swap01
    | exact g.swap01.swap23.swap12.swap01
    | exact g.swap01.swap12.swap23.swap12.swap01
    | exact g.swap12.swap01.swap23.swap12.swap01
    | exact g.swap01.swap12.swap01.swap23.swap12.swap01
/-- the least four of a form, both ways about -/
structure G0 (A B C : Int) (n : Nat) : Prop where
  a0 : 0 < A
  c0 : 0 < C
  b0 : 0 ≤ B
  ba : 2 * B ≤ A
  bc : 2 * B ≤ C
  det : A * C - B * B = (n : Int) * n
  prim : Prim3 A B C
abbrev g0L (A B C n : Int) : List Int := [-n, A + n, C + n, A + C - 2 * B + n]
theorem least_g0 {A B C : Int} {n : Nat} (F : LeastF A B C n) : ∃ A2 B2 C2, G0 A2 B2 C2 n ∧ bendsOf A B C n = g0L A2 B2 C2 n ∧ ((A = A2 ∧ C = C2) ∨ (A = C2 ∧ C = A2)) := by
  have ac := F.ac
  have a0 := F.a0
  have lo := F.low
  have hi := F.high
  have dt := F.det
  unfold bendsOf
  by_cases h : B < 0
  · rw [if_pos h]
    refine ⟨C, -B, A, ⟨by omega, a0, by omega, by omega, by omega, by grind, fun c h1 h2 h3 => F.prim c h3 (Int.dvd_neg.mp h2) h1⟩, rfl, .inr ⟨rfl, rfl⟩⟩
  · rw [if_neg h]
    exact ⟨A, B, C, ⟨a0, by omega, by omega, by omega, by omega, dt, F.prim⟩, rfl, .inl ⟨rfl, rfl⟩⟩
theorem prim_pr {A B C : Int} (h : Prim3 A B C) : ∀ p : Nat, Pr p → (p : Int) ∣ A → (p : Int) ∣ B → (p : Int) ∣ C → False := fun p hp h1 h2 h3 => hp.not_dvd_one (h _ h1 h2 h3)
theorem G0.fr {A B C : Int} {n : Nat} (G : G0 A B C n) : Fr4 (-(n : Int)) (A + n) (C + n) (A + C - 2 * B + n) := by
  have dt := G.det
  refine ⟨by grind, by have := G.a0; have := G.c0; have := G.ba; have := G.bc; omega, fun e h1 h2 h3 h4 => dvd_one_of fun p hp hd => ?_⟩
  have dn : (p : Int) ∣ (n : Int) := Int.dvd_neg.mp (Int.dvd_trans hd h1)
  have dA : (p : Int) ∣ A := by
    have e3 : A = (A + n) - n := by omega
    rw [e3]
    exact Int.dvd_sub (Int.dvd_trans hd h2) dn
  have dC : (p : Int) ∣ C := by
    have e3 : C = (C + n) - n := by omega
    rw [e3]
    exact Int.dvd_sub (Int.dvd_trans hd h3) dn
  have dB : (p : Int) ∣ B * B := by
    have e3 : B * B = A * C - (n : Int) * n := by omega
    rw [e3]
    exact Int.dvd_sub (Int.dvd_mul_of_dvd_left dA) (Int.dvd_mul_of_dvd_left dn)
  have dB : (p : Int) ∣ B := by rcases hp.dvd_mul dB with q | q <;> exact q
  exact prim_pr G.prim p hp dA dB dC
theorem lowPl_none {ns : List Int} (h : ∀ b ∈ ns, 2 * b ≤ ns.sum) : lowPl ns = none := by
  unfold lowPl
  rw [List.findIdx?_eq_none_iff]
  intro b hb
  simp
  exact h b hb
theorem mem_ix {ns : List Int} {x : Int} (h : x ∈ ns) : ∃ i, i < ns.length ∧ ns.getD i 0 = x := by
  obtain ⟨i, hi, e⟩ := List.mem_iff_getElem.mp h
  exact ⟨i, hi, by rw [List.getD_eq_getElem?_getD, List.getElem?_eq_getElem hi, e]; rfl⟩
/-- a gasket's least four in any order -/
structure Gask (s : Int) (ns : List Int) (A B C : Int) (n : Nat) : Prop where
  g : GL s ns
  low : lowPl ns = none
  mem : -(n : Int) ∈ ns
  min : ∀ y ∈ ns, -(n : Int) ≤ y
  sum : ns.sum ≤ 2 * (A + C + n)
  val : ∀ ps : List Nat, (∀ p ∈ ps, Pr p) → nprod ps = n → s = alone n * (ps.map fun (p : Nat) => loc A C n p).prod
theorem least_gask {A B C : Int} {n : Nat} (F : LeastF A B C n) (hn : 0 < n) {ns : List Int} (p : ns.Perm (bendsOf A B C n)) : ∃ s, Gask s ns A B C n := by
  obtain ⟨A2, B2, C2, G, e, hA⟩ := least_g0 F
  rw [e] at p
  obtain ⟨s, g⟩ := perm_fr p G.fr
  have hm : ∀ v, v ∈ ns ↔ v ∈ g0L A2 B2 C2 n := fun v => p.mem_iff
  have hsum := perm_sum p
  simp only [List.sum_cons, List.sum_nil] at hsum
  have h1 := G.a0
  have h2 := G.c0
  have h3 := G.b0
  have h4 := G.ba
  have h5 := G.bc
  have mm : -(n : Int) ∈ ns := (hm _).mpr (by simp)
  refine ⟨s, g, lowPl_none fun b hb => ?_, mm, fun y hy => ?_, by omega, fun ps hps hprod => ?_⟩
  · have := (hm b).mp hb
    simp only [List.mem_cons, List.not_mem_nil, or_false] at this
    rcases this with rfl | rfl | rfl | rfl <;> omega
  · have := (hm y).mp hy
    simp only [List.mem_cons, List.not_mem_nil, or_false] at this
    rcases this with rfl | rfl | rfl | rfl <;> omega
  · have q := perm_gq g p
    have dt := F.det
    rcases hA with ⟨rfl, rfl⟩ | ⟨rfl, rfl⟩
    · exact rim_val q (by omega) (by omega) (by omega) (by omega) (prim_pr F.prim) hps (by rw [hprod])
    · exact rim_val q.swap12 (by omega) (by omega) (by omega) (by omega) (prim_pr F.prim) hps (by rw [hprod])
theorem least_cop {A B C : Int} {n : Nat} (F : LeastF A B C n) : ∀ p : Nat, Pr p → p ∣ n → Cop (bes A C p) p := form_cop (by have := F.det; omega) (prim_pr F.prim)
/-! ### the sign of a pair -/
theorem pairSg_sg (a b : Int) : pairSg a b = sg b a := rfl
theorem GL.pair {s : Int} {ns : List Int} (g : GL s ns) {i j lo hi k : Nat} (hi4 : i < 4) (hj4 : j < 4) (hij : i ≠ j) (eo : oth2 i j = [lo, hi]) (h0 : ns.getD i 0 ≠ 0) (hc : Cop (ns.getD i 0) (fq ns i j lo hi k)) : pairSg (ns.getD i 0) (fq ns i j lo hi k) = s := by
  obtain ⟨c4, d4, n1, n2, n3, n4, n5⟩ := oth2_cases hi4 hj4 hij eo
  have q := g.arr hi4 hj4 c4 d4 hij n1 n2 n3 n4 n5
  rw [pairSg_sg]
  unfold fq at hc ⊢
  rw [← sg_symm (fv_tch q.F h0 hc)]
  exact (q.S.p0 h0).fan q.F h0 hc
theorem GL.exd {s : Int} {ns : List Int} (g : GL s ns) {cur : List Int} (h : Exd ns cur) : GL s cur := by
  induction h with
  | nil => exact g
  | step h hi ih => exact ih.ex hi
theorem GL.own {s : Int} {cur : List Int} (g : GL s cur) {i j : Nat} (hi : i < 4) (hj : j < 4) (hij : i ≠ j) (ho : cur.getD j 0 % 2 = 1) (hc : Cop (cur.getD i 0) (cur.getD j 0)) : chi (cur.getD i 0) (cur.getD j 0) = s := by
  obtain ⟨lo, h2, c1, c2, c3, c4, c5, c6, c7⟩ := others hj hi (Ne.symm hij)
  have q := g.arr hj c1 hi c2 (Ne.symm c4) (Ne.symm c7) hij (Ne.symm c5) c6 (Ne.symm c3)
  have h0 : cur.getD j 0 ≠ 0 := fun z => by
    rw [z] at ho
    exact absurd ho (by decide)
  have f0 : fv (cur.getD j 0) (cur.getD lo 0) (cur.getD i 0) (cur.getD h2 0) 0 = cur.getD i 0 := fv_0
  have r := (q.S.p0 h0).fan q.F h0 (k := 0) (by rw [f0]; exact hc.comm)
  rw [f0] at r
  unfold sg at r
  rw [if_pos ho] at r
  exact r
end Bh

/-! XM3 -/
set_option maxHeartbeats 4000000
/-! bounds; the idle form; flat fours; long words -/
namespace Bh
open Bs
theorem big_is : BIG = 3000 := by
  unfold BIG
  rfl
theorem pow_big : (2 : Int) ^ 700 < 2 ^ BIG := by
  rw [big_is]
  decide +kernel
theorem nn_le {n m : Nat} (h : n ≤ m) : (n : Int) * n ≤ (m : Int) * m := Int.mul_le_mul (by omega) (by omega) (by omega) (by omega)
theorem Gask.sum44 {s : Int} {ns : List Int} {A B C : Int} {n : Nat} (G : Gask s ns A B C n) (F : LeastF A B C n) (hn : n ≤ 1000001) : ns.sum < 2 ^ 44 := by
  have h1 := G.sum
  have h2 := F.cle
  have h3 := F.ac
  have h4 := nn_le hn
  have e : ((1000001 : Nat) : Int) * ((1000001 : Nat) : Int) = 1000002000001 := by decide
  have e2 : (2 : Int) ^ 44 = 17592186044416 := by decide
  rw [e] at h4
  omega
theorem seven {k m : Nat} (h : k ≤ m) {S T : Int} (h0 : 0 < S) (h1 : T ≤ 7 ^ k * S) (h2 : S < 2 ^ 44) : T < ((7 ^ m * 2 ^ 44 : Nat) : Int) := by
  have e1 : (7 : Int) ^ k * S ≤ ((7 ^ k * 2 ^ 44 : Nat) : Int) - 1 := by
    have e3 : ((7 ^ k * 2 ^ 44 : Nat) : Int) = (7 : Int) ^ k * 2 ^ 44 := by simp
    have p7 : (0 : Int) < 7 ^ k := Int.pow_pos (by decide)
    have e4 : (7 : Int) ^ k * S ≤ 7 ^ k * (2 ^ 44 - 1) := Int.mul_le_mul_of_nonneg_left (by omega) (by omega)
    rw [e3]
    have e5 : (7 : Int) ^ k * (2 ^ 44 - 1) = 7 ^ k * 2 ^ 44 - 7 ^ k := by rw [Int.mul_sub, Int.mul_one]
    omega
  have e2 : 7 ^ k * 2 ^ 44 ≤ 7 ^ m * 2 ^ 44 := Nat.mul_le_mul_right _ (Nat.pow_le_pow_right (by decide) h)
  omega
/-- a four that was led -/
structure Far (s : Int) (ns ms : List Int) (p : List Nat) : Prop where
  g : GL s ms
  four : Four4 ms
  size : ∀ b ∈ ms, b.natAbs < 2 ^ 256
  down : Down ms p ns
  len : p.length ≤ 200
theorem far_of {s : Int} {ns : List Int} (g : GL s ns) (lo : lowPl ns = none) (h44 : ns.sum < 2 ^ 44) {path : List Nat} {ms : List Int} (h : Led ns path ms) (hl : path.length ≤ 60) : Far s ns ms path.reverse := by
  obtain ⟨g2, hs⟩ := g.led h
  have h2 := seven hl g.sum_pos hs h44
  have e : ((7 ^ 60 * 2 ^ 44 : Nat) : Int) < (2 : Int) ^ 256 := by decide +kernel
  have e3 : (2 : Int) ^ 256 < 2 ^ BIG := Int.lt_trans (by decide +kernel) pow_big
  refine ⟨g2, g2.four (by omega), g2.natAbs (by omega), ?_, by rw [List.length_reverse]; omega⟩
  have := Led.back g h (.done lo)
  rw [List.append_nil] at this
  exact this
theorem far_self {s : Int} {ns : List Int} (g : GL s ns) (lo : lowPl ns = none) (h44 : ns.sum < 2 ^ 44) : Far s ns ns [] := far_of g lo h44 .nil (by simp)
/-- what the sign by the rim asks of the least four -/
def RimOk (s : Int) (ms : List Int) : Prop := (0 ∈ ms ∧ (∀ y ∈ ms, 0 ≤ y) ∧ s = 1) ∨
  ∃ (n : Nat) (A B C : Int), n ≤ 1000000 ∧ -(n : Int) ∈ ms ∧ (∀ y ∈ ms, -(n : Int) ≤ y) ∧ numsAt ms (ms.idxOf (-(n : Int))) = [A, B, C] ∧ Form3 A B C n ∧ (∀ p : Nat, Pr p → p ∣ n → Cop (bes A C p) p) ∧ ∀ fs, PF n fs → s = alone n * rimProd A C n fs
theorem Gask.rim {s : Int} {ns : List Int} {A B C : Int} {n : Nat} (G : Gask s ns A B C n) (h0 : 0 < n) (hn : n ≤ 1000000) (h44 : ns.sum < 2 ^ 44) : RimOk s ns := by
  have hi := List.idxOf_lt_length_of_mem G.mem
  have e : ns.getD (ns.idxOf (-(n : Int))) 0 = -(n : Int) := by
    rw [List.getD_eq_getElem?_getD, List.getElem?_eq_getElem hi, List.getElem_idxOf hi]
    rfl
  rw [G.g.len] at hi
  have e4 : (4 : Int) * 2 ^ 44 < 2 ^ BIG := Int.lt_trans (by decide +kernel) pow_big
  obtain ⟨A2, H2, C2, N⟩ := nums_form G.g h0 (by omega) (by omega) hi e
  exact .inr ⟨n, A2, H2, C2, hn, G.mem, G.min, N.nums, N.form, N.cop, N.val⟩
theorem least_form3 {A B C : Int} {n : Nat} (F : LeastF A B C n) (h0 : 0 < n) (hn : n ≤ 1000000) : Form3 A B C n := by
  have h2 := F.cle
  have h3 := F.ac
  have h4 := nn_le hn
  have a0 := F.a0
  have lo := F.low
  have hi := F.high
  have e : ((1000000 : Nat) : Int) * ((1000000 : Nat) : Int) = 1000000000000 := by decide
  rw [e] at h4
  have b1 : (2 : Nat) ^ 44 ≤ 2 ^ BIG := Nat.pow_le_pow_right (by decide) (by rw [big_is]; decide)
  have b2 : (2 : Nat) ^ 44 = 17592186044416 := by decide
  exact ⟨a0, by omega, F.det, h0, by omega, gcdL3_le (prim_pr F.prim), by omega, by omega, by omega⟩
/-! ### the idle form -/
theorem idle_least {n : Nat} (h : 0 < n) : LeastF 1 0 ((n : Int) * n) n := by
  have h1 : 0 < (n : Int) * n := Int.mul_pos (by omega) (by omega)
  exact ⟨by decide, by omega, by decide, by decide, by omega, fun c h1 _ _ => h1⟩
theorem idle_bends (n : Int) : bendsOf 1 0 (n * n) n = idle n := by
  unfold bendsOf idle
  rw [if_neg (by decide)]
  simp
  omega
theorem idle_gask {n : Nat} (h : 0 < n) : ∃ s, Gask s (idle n) 1 0 ((n : Int) * n) n := by
  have := least_gask (idle_least h) h (ns := idle n) (by rw [idle_bends])
  exact this
theorem idle_loc {n p : Nat} (hp : Pr p) : loc 1 ((n : Int) * n) n p = 1 := by
  have h2 := hp.two
  have e : ∀ q : Int, 2 ≤ q → bes 1 ((n : Int) * n) q = 1 := fun q hq => by
    unfold bes
    rw [if_pos (by rw [Int.emod_eq_of_lt (by decide) (by omega)]; decide)]
  unfold loc
  by_cases h : (p : Int) = 2
  · rw [if_pos h]
    split
    · unfold e8
      rw [e 2 (by decide)]
      rfl
    · rfl
  · rw [if_neg h, e p (by omega)]
    exact J_one _ (hp.od (by omega))
theorem idle_prod {n : Nat} {ps : List Nat} (h : ∀ p ∈ ps, Pr p) : (ps.map fun (p : Nat) => loc 1 ((n : Int) * n) n p).prod = 1 := by
  induction ps with
  | nil => rfl
  | cons p r ih =>
    rw [List.map_cons, List.prod_cons, idle_loc (h p List.mem_cons_self), ih fun q hq => h q (List.mem_cons_of_mem _ hq)]
    rfl
/-! ### flat -/
theorem flat_gl {ns : List Int} (p : ns.Perm [0, 0, 1, 1]) : ∃ s, GL s ns ∧ lowPl ns = none ∧ ns.sum < 2 ^ 44 ∧ RimOk 1 ns := by
  have F : Fr4 0 0 1 1 := ⟨by decide, by decide, fun e _ _ h _ => h⟩
  obtain ⟨s, g⟩ := perm_fr p F
  have hs : ns.sum = 2 := by rw [perm_sum p]; rfl
  refine ⟨s, g, lowPl_none fun b hb => ?_, by rw [hs]; decide, .inl ⟨p.mem_iff.mpr (by simp), fun y hy => ?_, rfl⟩⟩
  · have := p.mem_iff.mp hb
    simp only [List.mem_cons, List.not_mem_nil, or_false] at this
    rw [hs]
    rcases this with rfl | rfl | rfl | rfl <;> decide
  · have := p.mem_iff.mp hy
    simp only [List.mem_cons, List.not_mem_nil, or_false] at this
    rcases this with rfl | rfl | rfl | rfl <;> decide
/-! ### long words -/
def lngI (t : Nat) : Nat := if t % 2 = 0 then 0 else 3
def lng (n : Int) : Nat → List Int
  | 0 => idle n
  | t + 1 => exch (lng n t) (lngI t)
theorem lngI_lt (t : Nat) : lngI t < 4 := by
  unfold lngI
  split <;> decide
theorem lng_len (n : Int) : ∀ t, (lng n t).length = 4
  | 0 => rfl
  | t + 1 => by
    show (exch (lng n t) (lngI t)).length = 4
    rw [exch_len (by rw [lng_len]; exact lngI_lt t)]
    exact lng_len n t
theorem lng_led {n : Nat} (hn : 0 < n) : ∀ t, ∃ path, Led (idle n) path (lng n t) ∧ path.length = t ∧ (lng n t).getD 1 0 = n + 1 ∧ (lng n t).getD 2 0 = (n : Int) * n + n ∧ 2 * (lng n t).getD (lngI t) 0 < (lng n t).sum
  | 0 => by
    refine ⟨[], .nil, rfl, rfl, rfl, ?_⟩
    have h1 : 0 < (n : Int) * n := Int.mul_pos (by omega) (by omega)
    show 2 * (-(n : Int)) < (idle n).sum
    unfold idle
    simp
    omega
  | t + 1 => by
    obtain ⟨path, h, hl, e1, e2, lt⟩ := lng_led hn t
    have h1 : 0 < (n : Int) * n := Int.mul_pos (by omega) (by omega)
    have h4 := lng_len n t
    have hi := lngI_lt t
    have s4 := sum4 h4 (i := 0) (j := 3) (lo := 1) (hi := 2) (by decide) (by decide) (by decide) (by decide) (by decide) (by decide) (by decide) (by decide) (by decide) (by decide)
    have se := exch_sumQ h4 hi
    have hlet : letIn (lng n t) (lngI t) = 2 * (lng n t).sum - 3 * (lng n t).getD (lngI t) 0 := by unfold letIn; omega
    refine ⟨path ++ [lngI t], h.snoc hi lt, by rw [List.length_append, hl]; rfl, ?_, ?_, ?_⟩
    · show (exch (lng n t) (lngI t)).getD 1 0 = _
      rw [exch_getD h4 hi (by decide), if_neg (by unfold lngI; split <;> decide)]
      exact e1
    · show (exch (lng n t) (lngI t)).getD 2 0 = _
      rw [exch_getD h4 hi (by decide), if_neg (by unfold lngI; split <;> decide)]
      exact e2
    · show 2 * (exch (lng n t) (lngI t)).getD (lngI (t + 1)) 0 < (exch (lng n t) (lngI t)).sum
      rw [exch_getD h4 hi (lngI_lt _), se]
      rcases (by omega : t % 2 = 0 ∨ t % 2 = 1) with q | q
      · have i0 : lngI t = 0 := by unfold lngI; rw [if_pos q]
        have i1 : lngI (t + 1) = 3 := by unfold lngI; rw [if_neg (by omega)]
        rw [i0] at lt ⊢
        rw [i1, if_neg (by decide)]
        omega
      · have i0 : lngI t = 3 := by unfold lngI; rw [if_neg (by omega)]
        have i1 : lngI (t + 1) = 0 := by unfold lngI; rw [if_pos (by omega)]
        rw [i0] at lt ⊢
        rw [i1, if_neg (by decide)]
        omega
theorem lng_201 {n : Nat} (h0 : 0 < n) (hn : n ≤ 1000001) : Four4 (lng n 201) ∧ Long 201 (lng n 201) := by
  obtain ⟨s, G⟩ := idle_gask h0
  have h44 := G.sum44 (idle_least h0) hn
  obtain ⟨path, h, hl, _⟩ := lng_led h0 201
  obtain ⟨g2, hs⟩ := G.g.led h
  have h2 := seven (by omega : path.length ≤ 201) G.g.sum_pos hs h44
  have e : ((7 ^ 201 * 2 ^ 44 : Nat) : Int) < (2 : Int) ^ 700 := by decide +kernel
  have e3 := pow_big
  exact ⟨g2.four (by omega), (Led.back G.g h (.done G.low)).long (by simp [hl])⟩
end Bh

/-! XC -/
set_option maxHeartbeats 4000000
/-! dict(a tuple of pairs); a call by a keyword alone -/
namespace Bh
open PySem PySem.Spec PyProof.Rows L2
section
variable {X : Cx}
theorem pairs_tup {pins : List (Addr × Obj)} {σ : L2.St} {H : Hp} {s : Shared} (I : L2.Inv X pins σ H s) : ∀ {ps : List Addr} {kvs : List (Key × V)}, Paired (fun p kv => SqT X.K H p [kV kv.1, kv.2]) ps kvs →
    ∃ (prs : List (Key × Value)) (us : List (Value × Value)), KV kvs prs ∧ prs.length = ps.length ∧ us.length = ps.length ∧
      ∀ (j : Nat) (k v : Value), us[j]? = some (k, v) → PySem.PairAt s.heap (ps.getD j 0) k v ∧ ps[j]? = some (ps.getD j 0) ∧ ∃ key, prs[j]? = some (key, v) ∧ keyIs key k = true
  | _, _, .nil => ⟨[], [], .nil, rfl, rfl, fun j k v e => by simp at e⟩
  | _, _, .cons (a := p) (b := kv) h t => by
    obtain ⟨prs, us, r, l1, l2, hp⟩ := pairs_tup I t
    obtain ⟨its, rv, ht, _⟩ := I.tuple h
    obtain ⟨u, y, ei, ru, ry⟩ := vals2 rv
    subst ei
    refine ⟨(kv.1, y) :: prs, (u, y) :: us, .cons ⟨rfl, ry⟩ r, by rw [List.length_cons, List.length_cons, l1], by rw [List.length_cons, List.length_cons, l2], fun j k v e => ?_⟩
    cases j with
    | zero =>
      have e2 : (u, y) = (k, v) := Option.some.inj e
      cases e2
      exact ⟨.inl ht, rfl, kv.1, rfl, kV_is (P := X.prog) (w := X.w) ru⟩
    | succ j =>
      obtain ⟨a1, a2, key, a3, a4⟩ := hp j k v (by simpa using e)
      refine ⟨?_, ?_, key, by simpa using a3, a4⟩
      · rw [List.getD_cons_succ]
        exact a1
      · rw [List.getD_cons_succ, List.getElem?_cons_succ]
        exact a2
/-- dict(t), t a tuple of pairs -/
def rDictT (K : PySem.W.Frag) : List V → Hp → VK → Prop := fun xs H Q => ∃ (a : Addr) (ps : List Addr) (kvs : List (Key × V)), xs = [.ref a] ∧ Bq H a (ps.map V.ref) ∧ Paired (fun p kv => SqT K H p [kV kv.1, kv.2]) ps kvs ∧
    ∀ p, H p = none → Q (.ref p) (upd H p (.dK (mergeK [] kvs)))
theorem call_dictT (hcalm : X.calm = true) : CallR X (.type "dict") (rDictT X.K) := by
  intro pins s σ H xs us Q I r q
  obtain ⟨a, ps, kvs, ex, hq, hp, q⟩ := q
  subst ex
  obtain ⟨u, eu, rx⟩ := vals1 r
  subst eu
  cases rx
  have hT := hq.sqT (K := X.K)
  obtain ⟨its, rv, ⟨o, ho, hc, n, hd⟩, hz⟩ := I.tuple hT
  obtain ⟨o2, hdn, h2⟩ := hq
  have eo : o2 = o := by
    have z := (I.hok a _ h2).1
    rw [ho] at z
    exact (Option.some.inj z).symm
  subst eo
  have ei := refs_at rv
  subst ei
  rw [List.length_map] at hz
  obtain ⟨prs, us, rel, l1, l2, hpr⟩ := pairs_tup I hp
  have P := PairArg.tuple (prog := X.prog) (w := X.w) a (ps.map Value.ref).toArray (fun j => ps.getD j 0) us
  refine PySem.call_dict_pairs (knd := mixKind X.prog X.w) (kvs := prs) P (I.ok.hd hcalm) ⟨⟨o2, n, ho, hc, hdn, hd⟩, by simp [l2], fun j k v e => ?_⟩ ⟨by rw [l1, l2], fun i key v e => ?_⟩ (by rw [l2]; exact hz) fun h' tk hd' k => ?_
  · obtain ⟨a1, a2, _⟩ := hpr j k v e
    exact ⟨by rw [List.getElem?_toArray, List.getElem?_map, a2] <;> rfl, a1⟩
  · obtain ⟨_, _, k, a3, a4⟩ := hpr i key v e
    exact ⟨k, a3, a4⟩
  · have hm : (s.heap.objs.size == sysModules) = false := beq_eq_false_iff_ne.mpr (Nat.ne_of_gt I.big)
    have hlen : (mergeK [] kvs).length ≤ sizeLine := by
      refine Nat.le_trans (length_mergeK kvs []) ?_
      rw [List.length_nil, Nat.zero_add, rel.length, l1]
      exact hz
    exact ⟨.ref s.heap.objs.size, upd H s.heap.objs.size (.dK (mergeK [] kvs)), I.laid (t' := tk) (fun b o e => k b o (by simp) e) (Nat.le_refl _) (show ObjOk X.prog X.w _ _ _ (.dK (mergeK [] kvs)) from ⟨hlen, hm, merged [] prs, KV.merge rel .nil, hd'⟩), rfl, q _ (I.hok.fresh (Nat.le_refl _))⟩
theorem pe_callK0 {CX : CXT} {k : Nat} {f : Addr} {fd : FuncData} {ps ks : List Str} {sp : Sp} {E : XK} {x : Str} {p pos : Pos} {kws : List Keyword} {tk : TA} {g : List Value → List Value → List Value} {gV : List V → List V → List V}
    (F : FnOk X.prog X.w X.K X.mg X.base CX k f fd ps sp) (hr : Room k X.A) (hg : Gl X x) (hm : X.mg x = some (.ref f)) (hk : PySem.W.keepIn X.K (.ref f) = true) (hb : KBn X.K fd ps 0 ks g gV) (hx : Passes CX X E) (hkw : PK X kws tk)
    (hall : (backToKw pos (keywordEach kws X.env)).all (·.1.isSome) = true := by rfl) (hks : (backToKw pos (keywordEach kws X.env)).filterMap (·.1) = ks := by rfl) (hdb : (x == ("__debug__" : Str)) = false := by decide)
    (hpl : ((backTo pos (starEach [] X.env)).any (·.1) || (backToKw pos (keywordEach kws X.env)).any (·.1.isNone)) = false := by rfl) :
    PE X (.Call (.Name x p) [] kws pos) (tCallN 0 ks.length sp gV E tNil tk) := by
  refine ⟨fun pins s σ H Q I h => ?_⟩
  refine wpAny_Call_Name_kw (ld_glob I hg hm ?_ hdb)
  refine PySem.W.callWith_KW0 (h₀ := X.base) I.ok.mod.kin hk hall ?_ hpl
  refine thn (hkw.run pos pins s σ H _ I h) fun ws s2 ⟨zs, H2, I2, rz, l1, l2, q2⟩ => ⟨I2.kIn, ?_⟩
  rw [hks]
  exact run_fnN F hr hb hx I2 .nil rz rfl l2 q2
end
theorem kb_sign_by_rim {K : PySem.W.Frag} {f : Addr} {fd : FuncData} (F : FunD K "sign_by_rim" "sign_by_rim" (defArgs (top 79)) (defBody (top 79)) (defScope (top 79)) [] [] f fd) : KBn K fd ["four"] 0 ["four"] (fun _ ws => ws) (fun _ zs => zs) := by
  obtain ⟨oc, od, dV, kV, doc, pm, an, cdv, ct, osl, rfl, lk, hcd, hD, hK⟩ := F.ex
  rcases hD with ⟨_, rfl⟩ | ⟨e, _⟩
  · refine ⟨fun s us ws _ h1 h2 => ?_, fun _ r => r⟩
    match us, ws, h1, h2 with
    | [], [w1], _, _ => exact .of_eq rfl
  · exact absurd rfl e
end Bh

/-! XD -/
set_option maxHeartbeats 4000000
namespace Bh
open PySem PySem.Spec PyProof.Rows L2 Bs SkE
section
variable {P : Program} {w : World} {K : PySem.W.Frag} {mg : Str → Option Value} {base : Heap}
/-! ### one gasket -/
theorem SameX.of {b : Addr} {H H' : Hp} (s : Same H H') : SameX b H H' := fun _ _ _ e => s _ _ e
theorem bowl_ne {H : Hp} {b l L : Addr} {k : Nat} (h : Bowl H b l k) (n : H L = none) : L ≠ b := fun z => by
  obtain ⟨_, _, _, _, e, _⟩ := h
  rw [z, e] at n
  cases n
theorem bends_len (A B C n : Int) : (bendsOf A B C n).length = 4 := by
  unfold bendsOf
  split <;> rfl
theorem sc_law_gasket_right : FnScope ["_law_bowl_here", "_law_rim", "_law_form_here", "_law_bends_here", "_law_due", "_law_far", "_law_signs", "_law_again", "_law_prime", "_law_own"] ["_law_bowl_here", "_law_rim", "_law_form_here"] (defScope (top 111)) := ⟨rfl, rfl, rfl, by decide +kernel, rfl, by decide +kernel, by decide +kernel⟩
def spGasket : Sp := fun vs H Q _ => ∃ (b l t : Addr) (A B C : Int) (n k : Nat), vs = [.ref b, .int n, .ref t] ∧ Bowl H b l k ∧ k + 100 < 2 ^ 19 ∧ FormT H t (A, B, C) ∧ LeastF A B C n ∧ 1 ≤ n ∧ n ≤ 5100 ∧
  ∀ H', SameX b H H' → Bowl H' b l (k + 100) → Q (.bl true) H'
theorem ok_law_gasket_right (T : Tx K mg) : Fx R.prog w K mg base CX0 14 "_law_gasket_right" spGasket := by
  refine Fx.of T.g_law_gasket_right T.f_law_gasket_right (fnr0 (N := ["_law_bowl_here", "_law_rim", "_law_form_here", "_law_bends_here", "_law_due", "_law_far", "_law_signs", "_law_again", "_law_prime", "_law_own"]) (ps := ["_law_bowl_here", "_law_rim", "_law_form_here"]) T.f_law_gasket_right sc_law_gasket_right (fun _ _ _ _ _ _ us hl => match us, hl with | [_, _, _], _ => rfl) (by intro vs H Q E h; repeat (first | (obtain ⟨e, _⟩ := h; subst e; rfl) | (obtain ⟨_, h⟩ := h))) fun cdv A outer s H vs Q E hr h => ?_)
  obtain ⟨b, l, t, A, B, C, n, k, rfl, hb, hk, ht, hF, hn1, hn2, q⟩ := h
  obtain ⟨fd, FK⟩ := T.f_sign_by_rim
  have htb : t ≠ b := hb.ne ht (fun _ _ _ z => nomatch z)
  refine ⟨_, (pss_cons (ps_set (i := 3) sc_law_gasket_right.nd rfl (Or.inl rfl) (pc (ok_law_mixed T) (hr.mono (by decide)) (by first | exact pass0 | exact passL) (pa_cons (pv 0) (pa_cons (pc (ok_law_bends T) (hr.mono (by decide)) (by first | exact pass0 | exact passL) (pa_cons (pv 2) (pa_cons (pv 1) pa_nil))) pa_nil))))
      (pss_cons (ps_par (i := 4) (j := 5) (by rfl) sc_law_gasket_right.nd rfl rfl (by decide) rfl rfl (pa_cons (pc (ok_law_by_rim T) (hr.mono (by decide)) (by first | exact pass0 | exact passL) (pa_cons (pv 2) (pa_cons (pv 1) pa_nil))) (pa_cons (StX.pe_makeR T.mkr_Four (ok_Four_init T) (hr.mono (by decide)) rfl T.g_Four (by first | exact pass0 | exact passL) (pa_cons (pc (ok_law_led T) (hr.mono (by decide)) (by first | exact pass0 | exact passL) (pa_cons (pv 0) (pa_cons (pv 3) (pa_cons (pc (ok_law_pick T) (hr.mono (by decide)) (by first | exact pass0 | exact passL) (pa_cons (pv 0) (pa_cons (pe_lst (pa_cons pe_int (pa_cons pe_int (pa_cons pe_int (pa_cons pe_int pa_nil))))) pa_nil))) pa_nil)))) pa_nil)) pa_nil)) (by rfl))
      (pss_cons (ps_if (PW.pt (pw_or (pt_cmpR op_ne (pe_callB call_repr_int (by rfl) T.m_repr (by decide +kernel) (pa_cons (pe_callK0 (okf_sign_by_rim T FK) (hr.mono (by decide)) rfl T.g_sign_by_rim FK.kp (kb_sign_by_rim FK) (by first | exact pass0 | exact passL) (pk_cons (pv 5) pk_nil)) pa_nil)) (pe_callB call_repr_int (by rfl) T.m_repr (by decide +kernel) (pa_cons (pv 4) pa_nil)) (nomark _)) (pw_or1 (pt_cmpR op_ne (pe_callB call_repr_int (by rfl) T.m_repr (by decide +kernel) (pa_cons (pc (ok_sign_by_rim T) (hr.mono (by decide)) (by first | exact pass0 | exact passL) (pa_cons (StX.pe_makeR T.mkr_Four (ok_Four_init T) (hr.mono (by decide)) rfl T.g_Four (by first | exact pass0 | exact passL) (pa_cons (pv 3) pa_nil)) pa_nil)) pa_nil)) (pe_callB call_repr_int (by rfl) T.m_repr (by decide +kernel) (pa_cons (pv 4) pa_nil)) (nomark _))))) (pss_one (ps_ret pe_bl)) pss_nil)
      (pss_cons (ps_if (PW.pt (pw_or (pt_cmpR op_ne (pe_fld (pc (ok_sign T) (hr.mono (by decide)) (by first | exact pass0 | exact passL) (pa_cons (pv 5) pa_nil)) rfl) (pv 4) (nomark _)) (pw_or1 (pt_cmpR op_ne (pe_fld (pc (ok_sign T) (hr.mono (by decide)) (by first | exact pass0 | exact passL) (pa_cons (StX.pe_makeR T.mkr_Four (ok_Four_init T) (hr.mono (by decide)) rfl T.g_Four (by first | exact pass0 | exact passL) (pa_cons (pv 3) pa_nil)) pa_nil)) rfl) (pv 4) (nomark _))))) (pss_one (ps_ret pe_bl)) pss_nil)
      (pss_cons (ps_set (i := 6) sc_law_gasket_right.nd rfl (Or.inl rfl) (pe_callTy (call_dictT rfl) (by rfl) T.m_dict (by decide +kernel) (pa_cons (pc (ok_local_signs T) (hr.mono (by decide)) (by first | exact pass0 | exact passL) (pa_cons (StX.pe_makeR T.mkr_Form (ok_Form_init T) (hr.mono (by decide)) rfl T.g_Form (by first | exact pass0 | exact passL) (pa_cons (pe_ix ix_tup (pv 2) pe_int (fun _ _ => rfl)) (pa_cons (pe_ix ix_tup (pv 2) pe_int (fun _ _ => rfl)) (pa_cons (pe_ix ix_tup (pv 2) pe_int (fun _ _ => rfl)) pa_nil)))) pa_nil)) pa_nil)))
      (pss_cons (ps_set (i := 7) sc_law_gasket_right.nd rfl (Or.inl rfl) (pc (ok_law_by_rim T) (hr.mono (by decide)) (by first | exact pass0 | exact passL) (pa_cons (pe_tup (pa_cons pe_int (pa_cons pe_int (pa_cons (pe_op op_mulW (pv 1) (pv 1)) pa_nil)))) (pa_cons (pv 1) pa_nil))))
      (pss_cons (ps_for PassesOwn.never rfl (pi_list (pc (ok_law_primes T) (hr.mono (by decide)) (by first | exact pass0 | exact passL) (pa_cons (pv 1) pa_nil))) (pg_name (i := 8) sc_law_gasket_right.nd rfl (Or.inl rfl)) (pss_one (ps_set (i := 7) sc_law_gasket_right.nd rfl (Or.inl rfl) (pe_op op_mulW (pv 7) (pe_dget2 (hu_of hr) (pv 6) (pe_ifExp (pt_cmpR op_eq (pv 8) pe_int (nomark _)) pe_int (pv 8)) pe_int ⟨rfl, rfl, rfl, rfl⟩)))))
      (pss_cons (ps_set (i := 9) sc_law_gasket_right.nd rfl (Or.inl rfl) (pc (ok_law_own_sign T) (hr.mono (by decide)) (by first | exact pass0 | exact passL) (pa_cons (pv 3) pa_nil)))
      (pss_one (ps_ret (pe_and (pe_cmpR op_eq (pv 7) (pv 4) (nomark _)) (pe_one (pe_or (pe_cmpR op_isN (pv 9) pe_non (nomark _)) (pe_one (pe_cmpR op_eq (pv 9) (pv 4) (nomark _)))))))))))))))), ?_⟩
  repeat (first | refine ⟨_, rfl, ?_⟩ | refine ⟨_, _, rfl, rfl, ?_⟩ | refine ⟨rfl, ?_⟩ | refine ⟨_, _, rfl, ?_⟩ | refine ⟨_, _, _, rfl, ?_⟩ | refine ⟨small_le (by simp), ?_⟩ | refine ⟨Or.inl ⟨by decide, by decide⟩, ?_⟩ | refine ⟨⟨by decide, by decide⟩, ?_⟩ | refine ⟨by show (0 : Int) < _; decide, ?_⟩)
  refine ⟨t, A, B, C, n, rfl, sqT ht, fun H1 L s1 nL eL => ?_⟩
  have hb1 := hb.same s1
  repeat (first | refine ⟨_, rfl, ?_⟩ | refine ⟨_, _, rfl, rfl, ?_⟩ | refine ⟨rfl, ?_⟩ | refine ⟨_, _, rfl, ?_⟩ | refine ⟨_, _, _, rfl, ?_⟩ | refine ⟨small_le (by simp), ?_⟩ | refine ⟨Or.inl ⟨by decide, by decide⟩, ?_⟩ | refine ⟨⟨by decide, by decide⟩, ?_⟩ | refine ⟨by show (0 : Int) < _; decide, ?_⟩)
  have l4 := bends_len A B C n
  refine ⟨b, l, L, _, k, rfl, hb1, by omega, eL, bowl_ne hb nL, fun H2 F ns x2 hb2 nF eF pm => ?_⟩
  rw [l4] at hb2
  obtain ⟨s0, G⟩ := least_gask hF hn1 pm
  have h44 := G.sum44 hF (by omega)
  have ht1 := s1 _ _ ht
  have ht2 := x2 _ _ htb ht1
  repeat (first | refine ⟨_, rfl, ?_⟩ | refine ⟨_, _, rfl, rfl, ?_⟩ | refine ⟨rfl, ?_⟩ | refine ⟨_, _, rfl, ?_⟩ | refine ⟨_, _, _, rfl, ?_⟩ | refine ⟨small_le (by simp), ?_⟩ | refine ⟨Or.inl ⟨by decide, by decide⟩, ?_⟩ | refine ⟨⟨by decide, by decide⟩, ?_⟩ | refine ⟨by show (0 : Int) < _; decide, ?_⟩)
  refine ⟨t, A, B, C, n, rfl, sqT ht2, fun H' s => sqT (s _ _ ht2), hn1, by omega, least_cop hF, fun H3 ps s3 hps hprod => ?_⟩
  have es := G.val ps hps hprod
  have spm : s0 = 1 ∨ s0 = -1 := by
    rw [es]
    have h1 := alone_pm n
    have h2 : (ps.map fun (p : Nat) => loc A C n p).prod = 1 ∨ (ps.map fun (p : Nat) => loc A C n p).prod = -1 := prod_pm fun y hy => by
      obtain ⟨p, hp, rfl⟩ := List.mem_map.mp hy
      exact loc_pm (hps p hp) (least_cop hF p (hps p hp) (hprod ▸ dvd_nprod hp))
    rcases h1 with e | e <;> rcases h2 with e2 | e2 <;> rw [e, e2] <;> decide
  rw [← es]
  have hb3 := hb2.same s3
  repeat (first | refine ⟨_, rfl, ?_⟩ | refine ⟨_, _, rfl, rfl, ?_⟩ | refine ⟨rfl, ?_⟩ | refine ⟨_, _, rfl, ?_⟩ | refine ⟨_, _, _, rfl, ?_⟩ | refine ⟨small_le (by simp), ?_⟩ | refine ⟨Or.inl ⟨by decide, by decide⟩, ?_⟩ | refine ⟨⟨by decide, by decide⟩, ?_⟩ | refine ⟨by show (0 : Int) < _; decide, ?_⟩)
  (intro LL nLL; generalize hqZ : upd _ LL _ = H4; have s4 := new_same hqZ nLL; have e4 := new_at hqZ; clear hqZ)
  repeat (first | refine ⟨_, rfl, ?_⟩ | refine ⟨_, _, rfl, rfl, ?_⟩ | refine ⟨rfl, ?_⟩ | refine ⟨_, _, rfl, ?_⟩ | refine ⟨_, _, _, rfl, ?_⟩ | refine ⟨small_le (by simp), ?_⟩ | refine ⟨Or.inl ⟨by decide, by decide⟩, ?_⟩ | refine ⟨⟨by decide, by decide⟩, ?_⟩ | refine ⟨by show (0 : Int) < _; decide, ?_⟩)
  have hb4 := hb3.same s4
  refine ⟨b, l, LL, _, k + 4, rfl, hb4, by omega, e4, bowl_ne hb3 nLL, by decide, by decide, fun H5 i v x5 hb5 hv => ?_⟩
  obtain ⟨kk, rfl, hkk⟩ : ∃ kk : Nat, v = .int kk ∧ kk ≤ 60 := by
    match i, hv with
    | 0, hv => exact ⟨3, (Option.some.inj hv).symm, by decide⟩
    | 1, hv => exact ⟨20, (Option.some.inj hv).symm, by decide⟩
    | 2, hv => exact ⟨0, (Option.some.inj hv).symm, by decide⟩
    | 3, hv => exact ⟨60, (Option.some.inj hv).symm, by decide⟩
    | i + 4, hv => simp at hv
  have nFb : F ≠ b := bowl_ne hb1 nF
  have x15 : SameX b H H5 := ((SameX.of (b := b) s1).trans x2).trans ((SameX.of (b := b) (s3.trans s4)).trans x5)
  have eF5 : H5 F = some (.lst (vi ns)) := x5 _ _ nFb (s4 _ _ (s3 _ _ eF))
  repeat (first | refine ⟨_, rfl, ?_⟩ | refine ⟨_, _, rfl, rfl, ?_⟩ | refine ⟨rfl, ?_⟩ | refine ⟨_, _, rfl, ?_⟩ | refine ⟨_, _, _, rfl, ?_⟩ | refine ⟨small_le (by simp), ?_⟩ | refine ⟨Or.inl ⟨by decide, by decide⟩, ?_⟩ | refine ⟨⟨by decide, by decide⟩, ?_⟩ | refine ⟨by show (0 : Int) < _; decide, ?_⟩)
  refine ⟨b, l, F, ns, kk, k + 4 + 1, rfl, hb5, by omega, eF5, G.g.len, G.g.sum_pos, fun H6 F6 path ms x6 hb6 eF6 led hl6 h6 => ?_⟩
  have R := far_of G.g G.low h44 led (by omega)
  have Rs := far_self G.g G.low h44
  have rim := G.rim hn1 (by omega) h44
  have x16 := x15.trans x6
  have eF7 : H6 F = some (.lst (vi ns)) := x6 _ _ nFb eF5
  have ht6 := x16 _ _ htb ht
  repeat (first | refine ⟨_, rfl, ?_⟩ | refine ⟨_, _, rfl, rfl, ?_⟩ | refine ⟨rfl, ?_⟩ | refine ⟨_, _, rfl, ?_⟩ | refine ⟨_, _, _, rfl, ?_⟩ | refine ⟨small_le (by simp), ?_⟩ | refine ⟨Or.inl ⟨by decide, by decide⟩, ?_⟩ | refine ⟨⟨by decide, by decide⟩, ?_⟩ | refine ⟨by show (0 : Int) < _; decide, ?_⟩)
  refine mk_four (.inl eF6) R.four fun H7 y s7 ny ey => ?_
  repeat (first | refine ⟨_, rfl, ?_⟩ | refine ⟨_, _, rfl, rfl, ?_⟩ | refine ⟨rfl, ?_⟩ | refine ⟨_, _, rfl, ?_⟩ | refine ⟨_, _, _, rfl, ?_⟩ | refine ⟨small_le (by simp), ?_⟩ | refine ⟨Or.inl ⟨by decide, by decide⟩, ?_⟩ | refine ⟨⟨by decide, by decide⟩, ?_⟩ | refine ⟨by show (0 : Int) < _; decide, ?_⟩)
  refine ⟨y, ms, ns, _, s0, rfl, ey, h6, R.down, R.len, Rs.four, rim, fun H8 s8 => ?_⟩
  repeat (first | refine ⟨_, rfl, ?_⟩ | refine ⟨_, _, rfl, rfl, ?_⟩ | refine ⟨rfl, ?_⟩ | refine ⟨_, _, rfl, ?_⟩ | refine ⟨_, _, _, rfl, ?_⟩ | refine ⟨small_le (by simp), ?_⟩ | refine ⟨Or.inl ⟨by decide, by decide⟩, ?_⟩ | refine ⟨⟨by decide, by decide⟩, ?_⟩ | refine ⟨by show (0 : Int) < _; decide, ?_⟩)
  have lg : s0.natAbs.log2 < 1920 := by rcases spm with e | e <;> rw [e] <;> decide
  refine ⟨lg, ?_⟩
  repeat (first | refine ⟨_, rfl, ?_⟩ | refine ⟨_, _, rfl, rfl, ?_⟩ | refine ⟨rfl, ?_⟩ | refine ⟨_, _, rfl, ?_⟩ | refine ⟨_, _, _, rfl, ?_⟩ | refine ⟨small_le (by simp), ?_⟩ | refine ⟨Or.inl ⟨by decide, by decide⟩, ?_⟩ | refine ⟨⟨by decide, by decide⟩, ?_⟩ | refine ⟨by show (0 : Int) < _; decide, ?_⟩)
  refine ⟨lg, ?_⟩
  repeat (first | refine ⟨_, rfl, ?_⟩ | refine ⟨_, _, rfl, rfl, ?_⟩ | refine ⟨rfl, ?_⟩ | refine ⟨_, _, rfl, ?_⟩ | refine ⟨_, _, _, rfl, ?_⟩ | refine ⟨small_le (by simp), ?_⟩ | refine ⟨Or.inl ⟨by decide, by decide⟩, ?_⟩ | refine ⟨⟨by decide, by decide⟩, ?_⟩ | refine ⟨by show (0 : Int) < _; decide, ?_⟩)
  refine Bh.nF rfl ?_
  repeat (first | refine ⟨_, rfl, ?_⟩ | refine ⟨_, _, rfl, rfl, ?_⟩ | refine ⟨rfl, ?_⟩ | refine ⟨_, _, rfl, ?_⟩ | refine ⟨_, _, _, rfl, ?_⟩ | refine ⟨small_le (by simp), ?_⟩ | refine ⟨Or.inl ⟨by decide, by decide⟩, ?_⟩ | refine ⟨⟨by decide, by decide⟩, ?_⟩ | refine ⟨by show (0 : Int) < _; decide, ?_⟩)
  have eF9 := s8 _ _ (s7 _ _ eF7)
  refine mk_four (.inl eF9) Rs.four fun H9 z s9 nz ez => ?_
  repeat (first | refine ⟨_, rfl, ?_⟩ | refine ⟨_, _, rfl, rfl, ?_⟩ | refine ⟨rfl, ?_⟩ | refine ⟨_, _, rfl, ?_⟩ | refine ⟨_, _, _, rfl, ?_⟩ | refine ⟨small_le (by simp), ?_⟩ | refine ⟨Or.inl ⟨by decide, by decide⟩, ?_⟩ | refine ⟨⟨by decide, by decide⟩, ?_⟩ | refine ⟨by show (0 : Int) < _; decide, ?_⟩)
  refine ⟨z, ns, ns, [], s0, rfl, ez, Rs.four.len, Rs.down, by simp, Rs.four, rim, fun H10 s10 => ?_⟩
  repeat (first | refine ⟨_, rfl, ?_⟩ | refine ⟨_, _, rfl, rfl, ?_⟩ | refine ⟨rfl, ?_⟩ | refine ⟨_, _, rfl, ?_⟩ | refine ⟨_, _, _, rfl, ?_⟩ | refine ⟨small_le (by simp), ?_⟩ | refine ⟨Or.inl ⟨by decide, by decide⟩, ?_⟩ | refine ⟨⟨by decide, by decide⟩, ?_⟩ | refine ⟨by show (0 : Int) < _; decide, ?_⟩)
  refine ⟨lg, ?_⟩
  repeat (first | refine ⟨_, rfl, ?_⟩ | refine ⟨_, _, rfl, rfl, ?_⟩ | refine ⟨rfl, ?_⟩ | refine ⟨_, _, rfl, ?_⟩ | refine ⟨_, _, _, rfl, ?_⟩ | refine ⟨small_le (by simp), ?_⟩ | refine ⟨Or.inl ⟨by decide, by decide⟩, ?_⟩ | refine ⟨⟨by decide, by decide⟩, ?_⟩ | refine ⟨by show (0 : Int) < _; decide, ?_⟩)
  refine ⟨lg, ?_⟩
  repeat (first | refine ⟨_, rfl, ?_⟩ | refine ⟨_, _, rfl, rfl, ?_⟩ | refine ⟨rfl, ?_⟩ | refine ⟨_, _, rfl, ?_⟩ | refine ⟨_, _, _, rfl, ?_⟩ | refine ⟨small_le (by simp), ?_⟩ | refine ⟨Or.inl ⟨by decide, by decide⟩, ?_⟩ | refine ⟨⟨by decide, by decide⟩, ?_⟩ | refine ⟨by show (0 : Int) < _; decide, ?_⟩)
  refine Bh.nF rfl ?_
  repeat (first | refine ⟨_, rfl, ?_⟩ | refine ⟨_, _, rfl, rfl, ?_⟩ | refine ⟨rfl, ?_⟩ | refine ⟨_, _, rfl, ?_⟩ | refine ⟨_, _, _, rfl, ?_⟩ | refine ⟨small_le (by simp), ?_⟩ | refine ⟨Or.inl ⟨by decide, by decide⟩, ?_⟩ | refine ⟨⟨by decide, by decide⟩, ?_⟩ | refine ⟨by show (0 : Int) < _; decide, ?_⟩)
  refine ⟨y, ms, rfl, ey.same ((s8.trans s9).trans s10), R.four, R.size, fun H11 g i j lo hi kq s11 hi4 hj4 hij eo h0 hc eg => ?_⟩
  rw [R.g.pair hi4 hj4 hij eo h0 hc] at eg
  obtain ⟨dg, wd, pp, gl, gi, gj, eg⟩ := eg
  refine ⟨g, _, dg, _, _, rfl, eg, T.cls_Sign, T.noat_Sign_value, rfl, ?_⟩
  repeat (first | refine ⟨_, rfl, ?_⟩ | refine ⟨_, _, rfl, rfl, ?_⟩ | refine ⟨rfl, ?_⟩ | refine ⟨_, _, rfl, ?_⟩ | refine ⟨_, _, _, rfl, ?_⟩ | refine ⟨small_le (by simp), ?_⟩ | refine ⟨Or.inl ⟨by decide, by decide⟩, ?_⟩ | refine ⟨⟨by decide, by decide⟩, ?_⟩ | refine ⟨by show (0 : Int) < _; decide, ?_⟩)
  refine neF rfl ?_
  repeat (first | refine ⟨_, rfl, ?_⟩ | refine ⟨_, _, rfl, rfl, ?_⟩ | refine ⟨rfl, ?_⟩ | refine ⟨_, _, rfl, ?_⟩ | refine ⟨_, _, _, rfl, ?_⟩ | refine ⟨small_le (by simp), ?_⟩ | refine ⟨Or.inl ⟨by decide, by decide⟩, ?_⟩ | refine ⟨⟨by decide, by decide⟩, ?_⟩ | refine ⟨by show (0 : Int) < _; decide, ?_⟩)
  have eF11 := s11 _ _ (s10 _ _ (s9 _ _ eF9))
  refine mk_four (.inl eF11) Rs.four fun H12 z2 s12 nz2 ez2 => ?_
  repeat (first | refine ⟨_, rfl, ?_⟩ | refine ⟨_, _, rfl, rfl, ?_⟩ | refine ⟨rfl, ?_⟩ | refine ⟨_, _, rfl, ?_⟩ | refine ⟨_, _, _, rfl, ?_⟩ | refine ⟨small_le (by simp), ?_⟩ | refine ⟨Or.inl ⟨by decide, by decide⟩, ?_⟩ | refine ⟨⟨by decide, by decide⟩, ?_⟩ | refine ⟨by show (0 : Int) < _; decide, ?_⟩)
  refine ⟨z2, ns, rfl, ez2, Rs.four, Rs.size, fun H13 g2 i2 j2 lo2 hi2 kq2 s13 hi4b hj4b hijb eob h0b hcb eg2 => ?_⟩
  rw [Rs.g.pair hi4b hj4b hijb eob h0b hcb] at eg2
  obtain ⟨dg2, wd2, pp2, gl2, gi2, gj2, eg2⟩ := eg2
  refine ⟨g2, _, dg2, _, _, rfl, eg2, T.cls_Sign, T.noat_Sign_value, rfl, ?_⟩
  repeat (first | refine ⟨_, rfl, ?_⟩ | refine ⟨_, _, rfl, rfl, ?_⟩ | refine ⟨rfl, ?_⟩ | refine ⟨_, _, rfl, ?_⟩ | refine ⟨_, _, _, rfl, ?_⟩ | refine ⟨small_le (by simp), ?_⟩ | refine ⟨Or.inl ⟨by decide, by decide⟩, ?_⟩ | refine ⟨⟨by decide, by decide⟩, ?_⟩ | refine ⟨by show (0 : Int) < _; decide, ?_⟩)
  refine neF rfl ?_
  repeat (first | refine ⟨_, rfl, ?_⟩ | refine ⟨_, _, rfl, rfl, ?_⟩ | refine ⟨rfl, ?_⟩ | refine ⟨_, _, rfl, ?_⟩ | refine ⟨_, _, _, rfl, ?_⟩ | refine ⟨small_le (by simp), ?_⟩ | refine ⟨Or.inl ⟨by decide, by decide⟩, ?_⟩ | refine ⟨⟨by decide, by decide⟩, ?_⟩ | refine ⟨by show (0 : Int) < _; decide, ?_⟩)
  have s6d : Same H6 H13 := s7.trans (s8.trans (s9.trans (s10.trans (s11.trans (s12.trans s13)))))
  have ht13 := s6d _ _ ht6
  refine ⟨t, _, 0, _, rfl, rfl, sqT ht13, atI_nat (j := 0) rfl, ?_⟩
  repeat (first | refine ⟨_, rfl, ?_⟩ | refine ⟨_, _, rfl, rfl, ?_⟩ | refine ⟨rfl, ?_⟩ | refine ⟨_, _, rfl, ?_⟩ | refine ⟨_, _, _, rfl, ?_⟩ | refine ⟨small_le (by simp), ?_⟩ | refine ⟨Or.inl ⟨by decide, by decide⟩, ?_⟩ | refine ⟨⟨by decide, by decide⟩, ?_⟩ | refine ⟨by show (0 : Int) < _; decide, ?_⟩)
  refine ⟨t, _, 1, _, rfl, rfl, sqT ht13, atI_nat (j := 1) rfl, ?_⟩
  repeat (first | refine ⟨_, rfl, ?_⟩ | refine ⟨_, _, rfl, rfl, ?_⟩ | refine ⟨rfl, ?_⟩ | refine ⟨_, _, rfl, ?_⟩ | refine ⟨_, _, _, rfl, ?_⟩ | refine ⟨small_le (by simp), ?_⟩ | refine ⟨Or.inl ⟨by decide, by decide⟩, ?_⟩ | refine ⟨⟨by decide, by decide⟩, ?_⟩ | refine ⟨by show (0 : Int) < _; decide, ?_⟩)
  refine ⟨t, _, 2, _, rfl, rfl, sqT ht13, atI_nat (j := 2) rfl, ?_⟩
  repeat (first | refine ⟨_, rfl, ?_⟩ | refine ⟨_, _, rfl, rfl, ?_⟩ | refine ⟨rfl, ?_⟩ | refine ⟨_, _, rfl, ?_⟩ | refine ⟨_, _, _, rfl, ?_⟩ | refine ⟨small_le (by simp), ?_⟩ | refine ⟨Or.inl ⟨by decide, by decide⟩, ?_⟩ | refine ⟨⟨by decide, by decide⟩, ?_⟩ | refine ⟨by show (0 : Int) < _; decide, ?_⟩)
  have F3 := least_form3 hF hn1 (by omega)
  refine mk_form F3 fun H14 fx s14 nfx efx => ?_
  repeat (first | refine ⟨_, rfl, ?_⟩ | refine ⟨_, _, rfl, rfl, ?_⟩ | refine ⟨rfl, ?_⟩ | refine ⟨_, _, rfl, ?_⟩ | refine ⟨_, _, _, rfl, ?_⟩ | refine ⟨small_le (by simp), ?_⟩ | refine ⟨Or.inl ⟨by decide, by decide⟩, ?_⟩ | refine ⟨⟨by decide, by decide⟩, ?_⟩ | refine ⟨by show (0 : Int) < _; decide, ?_⟩)
  refine ⟨fx, A, B, C, n, rfl, efx, F3, by omega, least_cop hF, fun H15 bq pq fs s15 ebq sgs pf => ?_⟩
  refine ⟨bq, pq, tabK (sgn0 A C n ++ sgn1 A C fs), rfl, ebq, ?_, fun D nD => ?_⟩
  · have go : ∀ {ps : List Addr} {l : List (Int × Int)}, SgnsAt H15 ps l → Paired (fun p kv => SqT K H15 p [kV kv.1, kv.2]) ps (tabK l) := by
      intro ps l h
      induction h with
      | nil => exact .nil
      | cons a t ih => exact .cons (sqT a) ih
    exact go sgs
  have sD := same_new (o := .dK (mergeK [] (tabK (sgn0 A C n ++ sgn1 A C fs)))) nD
  have eD : (upd H15 D (.dK (mergeK [] (tabK (sgn0 A C n ++ sgn1 A C fs))))) D = _ := upd_same
  generalize upd H15 D (.dK (mergeK [] (tabK (sgn0 A C n ++ sgn1 A C fs)))) = H16 at sD eD ⊢
  repeat (first | refine ⟨_, rfl, ?_⟩ | refine ⟨_, _, rfl, rfl, ?_⟩ | refine ⟨rfl, ?_⟩ | refine ⟨_, _, rfl, ?_⟩ | refine ⟨_, _, _, rfl, ?_⟩ | refine ⟨small_le (by simp), ?_⟩ | refine ⟨Or.inl ⟨by decide, by decide⟩, ?_⟩ | refine ⟨⟨by decide, by decide⟩, ?_⟩ | refine ⟨by show (0 : Int) < _; decide, ?_⟩)
  have nb : (n : Int).natAbs < 2 ^ 13 := by
    have e13 : (2 : Nat) ^ 13 = 8192 := by decide
    omega
  refine ⟨wide_mul nb nb (by decide) (by decide) (by decide), ?_⟩
  repeat (first | refine ⟨_, rfl, ?_⟩ | refine ⟨_, _, rfl, rfl, ?_⟩ | refine ⟨rfl, ?_⟩ | refine ⟨_, _, rfl, ?_⟩ | refine ⟨_, _, _, rfl, ?_⟩ | refine ⟨small_le (by simp), ?_⟩ | refine ⟨Or.inl ⟨by decide, by decide⟩, ?_⟩ | refine ⟨⟨by decide, by decide⟩, ?_⟩ | refine ⟨by show (0 : Int) < _; decide, ?_⟩)
  (intro t2 nt2; generalize hqZ : upd _ t2 _ = H17; have s17 := new_same hqZ nt2; have et2 := new_at hqZ; clear hqZ)
  repeat (first | refine ⟨_, rfl, ?_⟩ | refine ⟨_, _, rfl, rfl, ?_⟩ | refine ⟨rfl, ?_⟩ | refine ⟨_, _, rfl, ?_⟩ | refine ⟨_, _, _, rfl, ?_⟩ | refine ⟨small_le (by simp), ?_⟩ | refine ⟨Or.inl ⟨by decide, by decide⟩, ?_⟩ | refine ⟨⟨by decide, by decide⟩, ?_⟩ | refine ⟨by show (0 : Int) < _; decide, ?_⟩)
  have iF := idle_least hn1
  refine ⟨t2, 1, 0, (n : Int) * n, n, rfl, sqT et2, fun H' s => sqT (s _ _ et2), hn1, by omega, least_cop iF, fun H18 psI s18 hpsI hprodI => ?_⟩
  rw [idle_prod hpsI]
  repeat (first | refine ⟨_, rfl, ?_⟩ | refine ⟨_, _, rfl, rfl, ?_⟩ | refine ⟨rfl, ?_⟩ | refine ⟨_, _, rfl, ?_⟩ | refine ⟨_, _, _, rfl, ?_⟩ | refine ⟨small_le (by simp), ?_⟩ | refine ⟨Or.inl ⟨by decide, by decide⟩, ?_⟩ | refine ⟨⟨by decide, by decide⟩, ?_⟩ | refine ⟨by show (0 : Int) < _; decide, ?_⟩)
  refine ⟨hn1, by omega, fun H19 a2 ps2 s19 na2 ea2 hps2 hprod2 => ⟨a2, rfl, ⟨_, sqL ea2⟩, ?_⟩⟩
  have hpd : ∀ p ∈ ps2, Pr p ∧ p ∣ n := fun p hp => ⟨hps2 p hp, hprod2 ▸ dvd_nprod hp⟩
  have hloc : ∀ p ∈ ps2, loc A C n p = 1 ∨ loc A C n p = -1 := fun p hp => loc_pm (hpd p hp).1 (least_cop hF p (hpd p hp).1 (hpd p hp).2)
  have s16 : Same H16 H19 := s17.trans (s18.trans s19)
  have es2 := G.val ps2 hps2 hprod2
  refine for_list (xs := vn ps2) (fun i σ H' => Same H19 H' ∧ ∃ z : Option V, σ = [some (.ref b), some (.int n), some (.ref t), some (.ref F), some (.int s0), some (.ref y), some (.ref D), some (.int (alone n * ((ps2.take i).map fun (p : Nat) => loc A C n p).prod)), z, none])
    ⟨Same.refl _, none, by rw [List.take_zero]; rfl⟩ (fun i σ H' _ p => sqL (p.1 _ _ ea2)) (fun i v2 σ H' hy hp => ?_) (fun σ H' hp => ?_)
  · obtain ⟨p1, z, rfl⟩ := hp
    rw [List.getElem?_map] at hy
    obtain ⟨p, hpi, rfl⟩ := Option.map_eq_some_iff.mp hy
    have hpp := List.mem_of_getElem? hpi
    obtain ⟨hp, hd⟩ := hpd p hpp
    have m1 : (alone n * ((ps2.take i).map fun (p : Nat) => loc A C n p).prod).natAbs < 2 ^ 1 := by
      have h1 := alone_pm n
      have h2 : ((ps2.take i).map fun (p : Nat) => loc A C n p).prod = 1 ∨ ((ps2.take i).map fun (p : Nat) => loc A C n p).prod = -1 := prod_pm fun y hy => by
        obtain ⟨q, hq, rfl⟩ := List.mem_map.mp hy
        exact hloc q (List.mem_of_mem_take hq)
      rcases h1 with e | e <;> rcases h2 with e2 | e2 <;> rw [e, e2] <;> decide
    have m2 : (loc A C n p).natAbs < 2 ^ 1 := by rcases hloc p hpp with e | e <;> rw [e] <;> decide
    have hst : alone n * ((ps2.take (i + 1)).map fun (p : Nat) => loc A C n p).prod = alone n * ((ps2.take i).map fun (p : Nat) => loc A C n p).prod * loc A C n p := by
      rw [List.take_add_one, hpi, List.map_append, List.prod_append, Int.mul_assoc]
      simp
    have hg := tab_get (A := A) (C := C) pf hp hd
    have eD2 := p1 _ _ (s16 _ _ eD)
    repeat (first | refine ⟨_, rfl, ?_⟩ | refine ⟨_, _, rfl, rfl, ?_⟩ | refine ⟨rfl, ?_⟩ | refine ⟨_, _, rfl, ?_⟩ | refine ⟨_, _, _, rfl, ?_⟩ | refine ⟨small_le (by simp), ?_⟩ | refine ⟨Or.inl ⟨by decide, by decide⟩, ?_⟩ | refine ⟨⟨by decide, by decide⟩, ?_⟩ | refine ⟨by show (0 : Int) < _; decide, ?_⟩)
    refine ⟨.inl ⟨_, .inl eD2⟩, ?_⟩
    repeat (first | refine ⟨_, rfl, ?_⟩ | refine ⟨_, _, rfl, rfl, ?_⟩ | refine ⟨rfl, ?_⟩ | refine ⟨_, _, rfl, ?_⟩ | refine ⟨_, _, _, rfl, ?_⟩ | refine ⟨small_le (by simp), ?_⟩ | refine ⟨Or.inl ⟨by decide, by decide⟩, ?_⟩ | refine ⟨⟨by decide, by decide⟩, ?_⟩ | refine ⟨by show (0 : Int) < _; decide, ?_⟩)
    refine eB (fun e4 => ?_) (fun e4 => ?_)
    · have h2 : p = 2 := by omega
      rw [if_pos h2] at hg
      repeat (first | refine ⟨_, rfl, ?_⟩ | refine ⟨_, _, rfl, rfl, ?_⟩ | refine ⟨rfl, ?_⟩ | refine ⟨_, _, rfl, ?_⟩ | refine ⟨_, _, _, rfl, ?_⟩ | refine ⟨small_le (by simp), ?_⟩ | refine ⟨Or.inl ⟨by decide, by decide⟩, ?_⟩ | refine ⟨⟨by decide, by decide⟩, ?_⟩ | refine ⟨by show (0 : Int) < _; decide, ?_⟩)
      refine ⟨_, DGet.k (k := Sum.inl 8) eD2, ?_⟩
      rw [hg]
      repeat (first | refine ⟨_, rfl, ?_⟩ | refine ⟨_, _, rfl, rfl, ?_⟩ | refine ⟨rfl, ?_⟩ | refine ⟨_, _, rfl, ?_⟩ | refine ⟨_, _, _, rfl, ?_⟩ | refine ⟨small_le (by simp), ?_⟩ | refine ⟨Or.inl ⟨by decide, by decide⟩, ?_⟩ | refine ⟨⟨by decide, by decide⟩, ?_⟩ | refine ⟨by show (0 : Int) < _; decide, ?_⟩)
      refine ⟨wide_mul m1 m2 (by decide) (by decide) (by decide), ?_⟩
      repeat (first | refine ⟨_, rfl, ?_⟩ | refine ⟨_, _, rfl, rfl, ?_⟩ | refine ⟨rfl, ?_⟩ | refine ⟨_, _, rfl, ?_⟩ | refine ⟨_, _, _, rfl, ?_⟩ | refine ⟨small_le (by simp), ?_⟩ | refine ⟨Or.inl ⟨by decide, by decide⟩, ?_⟩ | refine ⟨⟨by decide, by decide⟩, ?_⟩ | refine ⟨by show (0 : Int) < _; decide, ?_⟩)
      exact ⟨p1, _, by rw [hst]; rfl⟩
    · have h2 : p ≠ 2 := fun z => e4 (by rw [z]; rfl)
      rw [if_neg h2] at hg
      repeat (first | refine ⟨_, rfl, ?_⟩ | refine ⟨_, _, rfl, rfl, ?_⟩ | refine ⟨rfl, ?_⟩ | refine ⟨_, _, rfl, ?_⟩ | refine ⟨_, _, _, rfl, ?_⟩ | refine ⟨small_le (by simp), ?_⟩ | refine ⟨Or.inl ⟨by decide, by decide⟩, ?_⟩ | refine ⟨⟨by decide, by decide⟩, ?_⟩ | refine ⟨by show (0 : Int) < _; decide, ?_⟩)
      refine ⟨_, DGet.k (k := Sum.inl (p : Int)) eD2, ?_⟩
      rw [hg]
      repeat (first | refine ⟨_, rfl, ?_⟩ | refine ⟨_, _, rfl, rfl, ?_⟩ | refine ⟨rfl, ?_⟩ | refine ⟨_, _, rfl, ?_⟩ | refine ⟨_, _, _, rfl, ?_⟩ | refine ⟨small_le (by simp), ?_⟩ | refine ⟨Or.inl ⟨by decide, by decide⟩, ?_⟩ | refine ⟨⟨by decide, by decide⟩, ?_⟩ | refine ⟨by show (0 : Int) < _; decide, ?_⟩)
      refine ⟨wide_mul m1 m2 (by decide) (by decide) (by decide), ?_⟩
      repeat (first | refine ⟨_, rfl, ?_⟩ | refine ⟨_, _, rfl, rfl, ?_⟩ | refine ⟨rfl, ?_⟩ | refine ⟨_, _, rfl, ?_⟩ | refine ⟨_, _, _, rfl, ?_⟩ | refine ⟨small_le (by simp), ?_⟩ | refine ⟨Or.inl ⟨by decide, by decide⟩, ?_⟩ | refine ⟨⟨by decide, by decide⟩, ?_⟩ | refine ⟨by show (0 : Int) < _; decide, ?_⟩)
      exact ⟨p1, _, by rw [hst]; rfl⟩
  · obtain ⟨p1, z, rfl⟩ := hp
    rw [List.length_map, List.take_length, ← es2]
    have sL : Same H6 H' := s6d.trans (s14.trans (s15.trans (sD.trans (s16.trans p1))))
    repeat (first | refine ⟨_, rfl, ?_⟩ | refine ⟨_, _, rfl, rfl, ?_⟩ | refine ⟨rfl, ?_⟩ | refine ⟨_, _, rfl, ?_⟩ | refine ⟨_, _, _, rfl, ?_⟩ | refine ⟨small_le (by simp), ?_⟩ | refine ⟨Or.inl ⟨by decide, by decide⟩, ?_⟩ | refine ⟨⟨by decide, by decide⟩, ?_⟩ | refine ⟨by show (0 : Int) < _; decide, ?_⟩)
    refine ⟨F, ns, rfl, sL _ _ eF7, G.g.len, fun H20 s20 => ?_⟩
    have hq := q H20 (x16.trans (SameX.of (b := b) (sL.trans s20))) (((hb6.same (sL.trans s20)).le (by omega)))
    refine ⟨?_, fun cur i j hexd h4 hi hj hij ho hc => ?_⟩
    · repeat (first | refine ⟨_, rfl, ?_⟩ | refine ⟨_, _, rfl, rfl, ?_⟩ | refine ⟨rfl, ?_⟩ | refine ⟨_, _, rfl, ?_⟩ | refine ⟨_, _, _, rfl, ?_⟩ | refine ⟨small_le (by simp), ?_⟩ | refine ⟨Or.inl ⟨by decide, by decide⟩, ?_⟩ | refine ⟨⟨by decide, by decide⟩, ?_⟩ | refine ⟨by show (0 : Int) < _; decide, ?_⟩)
      refine eT rfl ?_
      repeat (first | refine ⟨_, rfl, ?_⟩ | refine ⟨_, _, rfl, rfl, ?_⟩ | refine ⟨rfl, ?_⟩ | refine ⟨_, _, rfl, ?_⟩ | refine ⟨_, _, _, rfl, ?_⟩ | refine ⟨small_le (by simp), ?_⟩ | refine ⟨Or.inl ⟨by decide, by decide⟩, ?_⟩ | refine ⟨⟨by decide, by decide⟩, ?_⟩ | refine ⟨by show (0 : Int) < _; decide, ?_⟩)
      refine dT rfl ?_
      exact hq
    · rw [(G.g.exd hexd).own hi hj hij ho hc]
      repeat (first | refine ⟨_, rfl, ?_⟩ | refine ⟨_, _, rfl, rfl, ?_⟩ | refine ⟨rfl, ?_⟩ | refine ⟨_, _, rfl, ?_⟩ | refine ⟨_, _, _, rfl, ?_⟩ | refine ⟨small_le (by simp), ?_⟩ | refine ⟨Or.inl ⟨by decide, by decide⟩, ?_⟩ | refine ⟨⟨by decide, by decide⟩, ?_⟩ | refine ⟨by show (0 : Int) < _; decide, ?_⟩)
      refine eT rfl ?_
      repeat (first | refine ⟨_, rfl, ?_⟩ | refine ⟨_, _, rfl, rfl, ?_⟩ | refine ⟨rfl, ?_⟩ | refine ⟨_, _, rfl, ?_⟩ | refine ⟨_, _, _, rfl, ?_⟩ | refine ⟨small_le (by simp), ?_⟩ | refine ⟨Or.inl ⟨by decide, by decide⟩, ?_⟩ | refine ⟨⟨by decide, by decide⟩, ?_⟩ | refine ⟨by show (0 : Int) < _; decide, ?_⟩)
      show Q (.bl (decide (V.int s0 = V.int s0))) H20
      rw [decide_eq_true rfl]
      exact hq
end
end Bh

/-! XE -/
set_option maxHeartbeats 4000000
namespace Bh
open PySem PySem.Spec PyProof.Rows L2 Bs SkE LamX
section
variable {P : Program} {w : World} {K : PySem.W.Frag} {mg : Str → Option Value} {base : Heap}
/-! ### the edges -/
theorem sc_law_edges_right : FnScope ["_law_bowl_here", "_law_flat", "_law_rim", "_law_odd", "_law_long", "_law_turn", "_law_heard_here"] ["_law_bowl_here"] (defScope (top 114)) := ⟨rfl, rfl, rfl, by decide +kernel, rfl, by decide +kernel, by decide +kernel⟩
/-- the table of the lambdas' code objects -/
abbrev tabT (K : PySem.W.Frag) : List (Addr × Str) := [((He.cT K ("_law_edges_right", none)).2, (("_law_edges_right" : Str) ++ ".<locals>.") ++ "<lambda>")]
def spEdges (K : PySem.W.Frag) : Sp := fun vs H Q _ => ∃ (b l : Addr) (k : Nat), vs = [.ref b] ∧ Bowl H b l k ∧ k + 100 < 2 ^ 19 ∧ H (He.cT K ("_law_edges_right", none)).2 = some (.tbl #[]) ∧ ∀ H', Q (.bl true) H'
theorem ok_law_edges_right (T : Tx K mg) (TB : TabB base mg (He.cT K ("_law_edges_right", none)).1 (He.cT K ("_law_edges_right", none)).2) : Fx R.prog w K mg base CX0 14 "_law_edges_right" (spEdges K) := by
  refine Fx.of T.g_law_edges_right T.f_law_edges_right ?_
  obtain ⟨fdE, FE⟩ := T.f_law_edges_right
  obtain ⟨fdH, FH⟩ := T.f_law_heard
  have bH := FH.bindsN (ps := ["_law_ask"]) fun _ _ _ _ _ _ us hl => match us, hl with | [_], _ => rfl
  have bE := FE.bindsN (ps := ["_law_bowl_here"]) fun _ _ _ _ _ _ us hl => match us, hl with | [_], _ => rfl
  obtain ⟨ocH, odH, dVH, kVH, docH, pmH, anH, cdvH, ctH, oslH, rfl, lkH, hcH, _, _⟩ := FH.ex
  obtain ⟨oc, od, dV, kV, doc, pm, an, cdv, ct, osl, rfl, lk, hcd, _, _⟩ := FE.ex
  obtain ⟨c, rfl⟩ := He.codeIn_ref hcd
  have ec : (He.cT K ("_law_edges_right", none)).1 = c := He.codeOf_eq lk rfl
  rw [ec] at TB
  refine FnR.imp ((fn_of (k := 13) (N := ["_law_bowl_here", "_law_flat", "_law_rim", "_law_odd", "_law_long", "_law_turn", "_law_heard_here"]) (ps := ["_law_bowl_here"]) (sp := spEdges K) lk hcd sc_law_edges_right (by intro vs H Q E h; repeat (first | (obtain ⟨e, _⟩ := h; subst e; rfl) | (obtain ⟨_, h⟩ := h))) fun A outer s H vs Q E hr h => ?_).raw bE .nil) fun vs H Q E h => (by rw [List.append_nil]; exact h)
  suffices hh : ∃ t, PSs (cxOf CX0 R.prog w K mg base ["_law_bowl_here", "_law_flat", "_law_rim", "_law_odd", "_law_long", "_law_turn", "_law_heard_here"] "_law_edges_right" (defScope (top 114)) (He.ga K "_law_edges_right") (.ref c) A outer s H E).nox (defBody (top 114)) t ∧ t { nx := fun _ H' => Q .non H', rt := Q } (L2.start ["_law_bowl_here", "_law_flat", "_law_rim", "_law_odd", "_law_long", "_law_turn", "_law_heard_here"] vs) H from let ⟨t, h1, h2⟩ := hh; ⟨t, h1.nox, h2⟩
  obtain ⟨b, l, k, rfl, hb, hk, hT, q⟩ := h
  have huT : ∀ p ∈ tabT K, p.1 = (He.cT K ("_law_edges_right", none)).2 → p.2 = (("_law_edges_right" : Str) ++ ".<locals>.") ++ "<lambda>" := fun p hp _ => by rw [List.mem_singleton.mp hp]
  refine ⟨_, (pss_cons (ps_set (i := 1) sc_law_edges_right.nd rfl (Or.inl rfl) (StX.pe_makeR T.mkr_Four (ok_Four_init T) (hr.mono (by decide)) rfl T.g_Four (by first | exact pass0 | exact passL) (pa_cons (pc (ok_law_led T) (hr.mono (by decide)) (by first | exact pass0 | exact passL) (pa_cons (pv 0) (pa_cons (pc (ok_law_mixed T) (hr.mono (by decide)) (by first | exact pass0 | exact passL) (pa_cons (pv 0) (pa_cons (pe_lst (pa_cons pe_int (pa_cons pe_int (pa_cons pe_int (pa_cons pe_int pa_nil))))) pa_nil))) (pa_cons (pc (ok_law_ladle T) (hr.mono (by decide)) (by first | exact pass0 | exact passL) (pa_cons (pv 0) (pa_cons pe_int pa_nil))) pa_nil)))) pa_nil)))
      (pss_cons (ps_set (i := 2) sc_law_edges_right.nd rfl (Or.inl rfl) (pc (ok_law_pick T) (hr.mono (by decide)) (by first | exact pass0 | exact passL) (pa_cons (pv 0) (pa_cons (pe_lst (pa_cons (pe_op op_pow pe_int pe_int) (pa_cons pe_int (pa_cons (pe_op op_mul pe_int pe_int) (pa_cons (pe_op op_pow pe_int pe_int) (pa_cons pe_int (pa_cons (pe_op op_add pe_int (pc (ok_law_ladle T) (hr.mono (by decide)) (by first | exact pass0 | exact passL) (pa_cons (pv 0) (pa_cons (pe_op op_pow pe_int pe_int) pa_nil)))) pa_nil))))))) pa_nil))))
      (pss_cons (ps_if (PW.pt (pw_or (pt_cmpR op_ne (pe_callB call_repr_int (by rfl) T.m_repr (by decide +kernel) (pa_cons (pc (ok_sign_by_rim T) (hr.mono (by decide)) (by first | exact pass0 | exact passL) (pa_cons (pv 1) pa_nil)) pa_nil)) pe_str (nomark _)) (pw_or1 (pt_cmpR op_ne (pc (ok_sign_by_rim T) (hr.mono (by decide)) (by first | exact pass0 | exact passL) (pa_cons (StX.pe_makeR T.mkr_Four (ok_Four_init T) (hr.mono (by decide)) rfl T.g_Four (by first | exact pass0 | exact passL) (pa_cons (pc (ok_law_led T) (hr.mono (by decide)) (by first | exact pass0 | exact passL) (pa_cons (pv 0) (pa_cons (pc (ok_law_idle T) (hr.mono (by decide)) (by first | exact pass0 | exact passL) (pa_cons (pv 2) pa_nil)) (pa_cons pe_int pa_nil)))) pa_nil)) pa_nil)) (pc (ok_law_by_rim T) (hr.mono (by decide)) (by first | exact pass0 | exact passL) (pa_cons (pe_tup (pa_cons pe_int (pa_cons pe_int (pa_cons (pe_op op_mulW (pv 2) (pv 2)) pa_nil)))) (pa_cons (pv 2) pa_nil))) (nomark _))))) (pss_one (ps_ret pe_bl)) pss_nil)
      (pss_cons (ps_asg (pe_tup (pa_cons (pc (ok_law_pick T) (hr.mono (by decide)) (by first | exact pass0 | exact passL) (pa_cons (pv 0) (pa_cons (pe_lst (pa_cons pe_non (pa_cons pe_int (pa_cons pe_str (pa_cons (pe_tup (pa_cons (pe_un un_neg pe_int) (pa_cons pe_int (pa_cons pe_int (pa_cons pe_int pa_nil))))) pa_nil))))) pa_nil))) (pa_cons (pc (ok_law_idle T) (hr.mono (by decide)) (by first | exact pass0 | exact passL) (pa_cons (pc (ok_law_pick T) (hr.mono (by decide)) (by first | exact pass0 | exact passL) (pa_cons (pv 0) (pa_cons (pe_lst (pa_cons pe_int (pa_cons (pe_op op_add (pe_op op_pow pe_int pe_int) pe_int) pa_nil))) pa_nil))) pa_nil)) pa_nil))) (pg_tup rfl (pgs_cons (pg_name (i := 3) sc_law_edges_right.nd rfl (Or.inr rfl)) (pgs_cons (pg_name (i := 4) sc_law_edges_right.nd rfl (Or.inr rfl)) pgs_nil))))
      (pss_cons (ps_for PassesOwn.never rfl (pi_range1 (by rfl) T.m_range (pa_cons pe_int pa_nil)) (pg_name (i := 5) sc_law_edges_right.nd rfl (Or.inl rfl)) (pss_one (ps_set (i := 4) sc_law_edges_right.nd rfl (Or.inr rfl) (pc (ok_law_exchanged T) (hr.mono (by decide)) (by first | exact pass0 | exact passL) (pa_cons (pv 4) (pa_cons (pe_ifExp (pt_cmpR op_eq (pe_op op_modP (pe_callTy call_intI (by rfl) T.m_int (by decide +kernel) (pa_cons (pv 5) pa_nil)) pe_int) pe_int (nomark _)) pe_int pe_int) pa_nil))))))
      (pss_cons (ps_set (i := 6) sc_law_edges_right.nd rfl (Or.inl rfl) (pe_lst (pa_cons (pe_lamcall (k := 8) (TT := TTh K) rfl T.g_law_heard FH.kp lkH hcH bH sc_heard rfl (Or.inl rfl) (heard_gives T) TB rfl List.mem_cons_self huT (hr.mono (by decide)) (lamS_by (sc := defScope (top 114)) (by decide +kernel)) rfl (fun _ _ _ _ _ => rfl) (fun A2 outer2 s2 H2 E2 f2 c2 hr => (pc (ok_sign_by_rim_1 T) (hr.mono (by decide)) (passes_call (takes_of rfl rfl rfl rfl) (fun _ _ _ _ h => h)) (pa_cons (pv 3) pa_nil)))) (pa_cons (pe_lamd (k := 8) (TT := TTh K) (y := "_law_v1") rfl T.g_law_heard FH.kp lkH hcH bH sc_heard rfl (Or.inl rfl) (heard_gives T) TB rfl List.mem_cons_self huT (hr.mono (by decide)) (lamD_by (N := ["_law_bowl_here", "_law_flat", "_law_rim", "_law_odd", "_law_long", "_law_turn", "_law_heard_here"]) (sc := defScope (top 114)) (by decide +kernel)) rfl rfl pe_int (fun _ _ => rfl) (fun _ _ _ _ _ _ _ _ => ⟨_, rfl, rfl⟩) (fun A2 outer2 s2 H2 E2 f2 c2 hr => (pc (ok_sign_by_rim_2 T) (hr.mono (by decide)) (passes_call (takes_of rfl rfl rfl rfl) (fun _ _ _ _ h => h)) (pa_cons (StX.pe_makeR T.mkr_Four (ok_Four_init T) (hr.mono (by decide)) rfl T.g_Four (by first | exact pass0 | exact passL) (pa_cons (pv 4) pa_nil)) pa_nil)))) pa_nil))))
      (pss_cons (ps_expr (pe_bm PySem.F.plainAttrs_list PySem.F.slot_list_append PySem.F.type_list_append mt_append (pv 6) (pa_cons (pe_lamcall (k := 8) (TT := TTh K) rfl T.g_law_heard FH.kp lkH hcH bH sc_heard rfl (Or.inl rfl) (heard_gives T) TB rfl List.mem_cons_self huT (hr.mono (by decide)) (lamS_by (sc := defScope (top 114)) (by decide +kernel)) rfl (fun _ _ _ _ _ => rfl) (fun A2 outer2 s2 H2 E2 f2 c2 hr => (pc (ok_sign_by_rim_3 T) (hr.mono (by decide)) (passes_call (takes_of rfl rfl rfl rfl) (fun _ _ _ _ h => h)) (pa_cons (StX.pe_makeR T.mkr_Four (ok_Four_init T) (hr.mono (by decide)) rfl T.g_Four (by first | exact pass0 | exact passL) (pa_cons (pc (ok_law_idle T) (hr.mono (by decide)) (by first | exact pass0 | exact passL) (pa_cons (pe_op op_add (pe_op op_pow pe_int pe_int) pe_int) pa_nil)) pa_nil)) pa_nil)))) pa_nil)))
      (pss_one (ps_ret (pe_cmpR (op_eqD hr.units) (pv 6) (pe_lst (pa_cons (pe_tup (pa_cons pe_str (pa_cons pe_str pa_nil))) (pa_cons (pe_tup (pa_cons pe_str (pa_cons pe_int pa_nil))) (pa_cons (pe_tup (pa_cons pe_str (pa_cons pe_int pa_nil))) pa_nil)))) (nomark _))))))))))), ?_⟩
  have hbT : ∀ {H2 : Hp} {t : Nat}, Bowl H2 b l t → H2 (He.cT K ("_law_edges_right", none)).2 = some (.tbl #[]) → (He.cT K ("_law_edges_right", none)).2 ≠ b := fun hb hT => hb.ne hT (fun _ _ _ z => nomatch z)
  have hPb := hbT hb hT
  repeat (first | refine ⟨_, rfl, ?_⟩ | refine ⟨_, _, rfl, rfl, ?_⟩ | refine ⟨rfl, ?_⟩ | refine ⟨_, _, rfl, ?_⟩ | refine ⟨_, _, _, rfl, ?_⟩ | refine ⟨small_le (by simp), ?_⟩ | refine ⟨Or.inl ⟨by decide, by decide⟩, ?_⟩ | refine ⟨⟨by decide, by decide⟩, ?_⟩ | refine ⟨by show (0 : Int) < _; decide, ?_⟩)
  (intro LA nLA; generalize hqZ : upd _ LA _ = H1; have s1 := new_same hqZ nLA; have e1 := new_at hqZ; clear hqZ)
  repeat (first | refine ⟨_, rfl, ?_⟩ | refine ⟨_, _, rfl, rfl, ?_⟩ | refine ⟨rfl, ?_⟩ | refine ⟨_, _, rfl, ?_⟩ | refine ⟨_, _, _, rfl, ?_⟩ | refine ⟨small_le (by simp), ?_⟩ | refine ⟨Or.inl ⟨by decide, by decide⟩, ?_⟩ | refine ⟨⟨by decide, by decide⟩, ?_⟩ | refine ⟨by show (0 : Int) < _; decide, ?_⟩)
  have hb1 := hb.same s1
  refine ⟨b, l, LA, [0, 0, 1, 1], k, rfl, hb1, by show k + 4 < 2 ^ 19; omega, e1, bowl_ne hb nLA, fun H2 F ns x2 hb2 nF eF pm => ?_⟩
  obtain ⟨s0, g0, lo0, h44, rim0⟩ := flat_gl pm
  repeat (first | refine ⟨_, rfl, ?_⟩ | refine ⟨_, _, rfl, rfl, ?_⟩ | refine ⟨rfl, ?_⟩ | refine ⟨_, _, rfl, ?_⟩ | refine ⟨_, _, _, rfl, ?_⟩ | refine ⟨small_le (by simp), ?_⟩ | refine ⟨Or.inl ⟨by decide, by decide⟩, ?_⟩ | refine ⟨⟨by decide, by decide⟩, ?_⟩ | refine ⟨by show (0 : Int) < _; decide, ?_⟩)
  refine ⟨b, l, 9, k + 4, rfl, hb2, by omega, by decide, by decide, fun H3 v x3 hb3 hv => ?_⟩
  have nFb : F ≠ b := bowl_ne hb1 nF
  repeat (first | refine ⟨_, rfl, ?_⟩ | refine ⟨_, _, rfl, rfl, ?_⟩ | refine ⟨rfl, ?_⟩ | refine ⟨_, _, rfl, ?_⟩ | refine ⟨_, _, _, rfl, ?_⟩ | refine ⟨small_le (by simp), ?_⟩ | refine ⟨Or.inl ⟨by decide, by decide⟩, ?_⟩ | refine ⟨⟨by decide, by decide⟩, ?_⟩ | refine ⟨by show (0 : Int) < _; decide, ?_⟩)
  refine ⟨b, l, F, ns, v, k + 4 + 1, rfl, hb3, by omega, x3 _ _ nFb eF, g0.len, g0.sum_pos, fun H4 F4 path ms x4 hb4 eF4 led hl4 h4 => ?_⟩
  have R0 := far_of g0 lo0 h44 led (by omega)
  repeat (first | refine ⟨_, rfl, ?_⟩ | refine ⟨_, _, rfl, rfl, ?_⟩ | refine ⟨rfl, ?_⟩ | refine ⟨_, _, rfl, ?_⟩ | refine ⟨_, _, _, rfl, ?_⟩ | refine ⟨small_le (by simp), ?_⟩ | refine ⟨Or.inl ⟨by decide, by decide⟩, ?_⟩ | refine ⟨⟨by decide, by decide⟩, ?_⟩ | refine ⟨by show (0 : Int) < _; decide, ?_⟩)
  refine mk_four (.inl eF4) R0.four fun H5 y s5 ny ey => ?_
  repeat (first | refine ⟨_, rfl, ?_⟩ | refine ⟨_, _, rfl, rfl, ?_⟩ | refine ⟨rfl, ?_⟩ | refine ⟨_, _, rfl, ?_⟩ | refine ⟨_, _, _, rfl, ?_⟩ | refine ⟨small_le (by simp), ?_⟩ | refine ⟨Or.inl ⟨by decide, by decide⟩, ?_⟩ | refine ⟨⟨by decide, by decide⟩, ?_⟩ | refine ⟨by show (0 : Int) < _; decide, ?_⟩)
  have hb5 := hb4.same s5
  refine ⟨b, l, 1000000, _, rfl, hb5, by omega, by decide, by decide, fun H6 v2 x6 hb6 hv2 => ?_⟩
  repeat (first | refine ⟨_, rfl, ?_⟩ | refine ⟨_, _, rfl, rfl, ?_⟩ | refine ⟨rfl, ?_⟩ | refine ⟨_, _, rfl, ?_⟩ | refine ⟨_, _, _, rfl, ?_⟩ | refine ⟨small_le (by simp), ?_⟩ | refine ⟨Or.inl ⟨by decide, by decide⟩, ?_⟩ | refine ⟨⟨by decide, by decide⟩, ?_⟩ | refine ⟨by show (0 : Int) < _; decide, ?_⟩)
  (intro LB nLB; generalize hqZ : upd _ LB _ = H7; have s7 := new_same hqZ nLB; have e7 := new_at hqZ; clear hqZ)
  repeat (first | refine ⟨_, rfl, ?_⟩ | refine ⟨_, _, rfl, rfl, ?_⟩ | refine ⟨rfl, ?_⟩ | refine ⟨_, _, rfl, ?_⟩ | refine ⟨_, _, _, rfl, ?_⟩ | refine ⟨small_le (by simp), ?_⟩ | refine ⟨Or.inl ⟨by decide, by decide⟩, ?_⟩ | refine ⟨⟨by decide, by decide⟩, ?_⟩ | refine ⟨by show (0 : Int) < _; decide, ?_⟩)
  have hb7 := hb6.same s7
  refine ⟨b, l, LB, _, _, rfl, hb7, by omega, e7, bowl_ne hb6 nLB, by show 0 < 6; decide, by show 6 < 2 ^ 30; decide, fun H8 i v3 x8 hb8 hv3 => ?_⟩
  obtain ⟨n, rfl, hn1, hn2⟩ : ∃ n : Nat, v3 = .int n ∧ 1 ≤ n ∧ n ≤ 1000000 := by
    match i, hv3 with
    | 0, hv => exact ⟨1000000, (Option.some.inj hv).symm, by decide, by decide⟩
    | 1, hv => exact ⟨999983, (Option.some.inj hv).symm, by decide, by decide⟩
    | 2, hv => exact ⟨999958, (Option.some.inj hv).symm, by decide, by decide⟩
    | 3, hv => exact ⟨390625, (Option.some.inj hv).symm, by decide, by decide⟩
    | 4, hv => exact ⟨720720, (Option.some.inj hv).symm, by decide, by decide⟩
    | 5, hv => exact ⟨1 + v2, by rw [← Option.some.inj hv]; rfl, by omega, by omega⟩
    | i + 6, hv => simp at hv
  have nyb : y ≠ b := bowl_ne hb4 ny
  have x58 : SameX b H5 H8 := x6.trans ((SameX.of (b := b) s7).trans x8)
  have ey8 : FourAt K H8 y ms := by
    obtain ⟨dy, ty, ey1, ey2⟩ := ey
    exact ⟨dy, ty, x58 _ _ nyb ey1, by
      obtain ⟨o, h1, h2⟩ := ey2
      exact ⟨o, h1, x58 _ _ (hb5.ne h2 (fun _ _ _ z => nomatch z)) h2⟩⟩
  repeat (first | refine ⟨_, rfl, ?_⟩ | refine ⟨_, _, rfl, rfl, ?_⟩ | refine ⟨rfl, ?_⟩ | refine ⟨_, _, rfl, ?_⟩ | refine ⟨_, _, _, rfl, ?_⟩ | refine ⟨small_le (by simp), ?_⟩ | refine ⟨Or.inl ⟨by decide, by decide⟩, ?_⟩ | refine ⟨⟨by decide, by decide⟩, ?_⟩ | refine ⟨by show (0 : Int) < _; decide, ?_⟩)
  refine ⟨y, ms, ns, _, 1, rfl, ey8, h4, R0.down, R0.len, (far_self g0 lo0 h44).four, rim0, fun H9 s9 => ?_⟩
  repeat (first | refine ⟨_, rfl, ?_⟩ | refine ⟨_, _, rfl, rfl, ?_⟩ | refine ⟨rfl, ?_⟩ | refine ⟨_, _, rfl, ?_⟩ | refine ⟨_, _, _, rfl, ?_⟩ | refine ⟨small_le (by simp), ?_⟩ | refine ⟨Or.inl ⟨by decide, by decide⟩, ?_⟩ | refine ⟨⟨by decide, by decide⟩, ?_⟩ | refine ⟨by show (0 : Int) < _; decide, ?_⟩)
  refine ⟨by decide, ?_⟩
  repeat (first | refine ⟨_, rfl, ?_⟩ | refine ⟨_, _, rfl, rfl, ?_⟩ | refine ⟨rfl, ?_⟩ | refine ⟨_, _, rfl, ?_⟩ | refine ⟨_, _, _, rfl, ?_⟩ | refine ⟨small_le (by simp), ?_⟩ | refine ⟨Or.inl ⟨by decide, by decide⟩, ?_⟩ | refine ⟨⟨by decide, by decide⟩, ?_⟩ | refine ⟨by show (0 : Int) < _; decide, ?_⟩)
  have b30 : (2 : Nat) ^ 30 = 1073741824 := by decide
  have hb9 := hb8.same s9
  refine ⟨by omega, fun H10 LI s10 nLI eLI => ?_⟩
  obtain ⟨sI, GI⟩ := idle_gask hn1
  have iF := idle_least hn1
  have i44 := GI.sum44 iF (by omega)
  have hb10 := hb9.same s10
  repeat (first | refine ⟨_, rfl, ?_⟩ | refine ⟨_, _, rfl, rfl, ?_⟩ | refine ⟨rfl, ?_⟩ | refine ⟨_, _, rfl, ?_⟩ | refine ⟨_, _, _, rfl, ?_⟩ | refine ⟨small_le (by simp), ?_⟩ | refine ⟨Or.inl ⟨by decide, by decide⟩, ?_⟩ | refine ⟨⟨by decide, by decide⟩, ?_⟩ | refine ⟨by show (0 : Int) < _; decide, ?_⟩)
  refine ⟨b, l, LI, _, 4, _, rfl, hb10, by omega, eLI, GI.g.len, GI.g.sum_pos, fun H11 F11 path2 ms2 x11 hb11 eF11 led2 hl2 h42 => ?_⟩
  have R1 := far_of GI.g GI.low i44 led2 (by omega)
  repeat (first | refine ⟨_, rfl, ?_⟩ | refine ⟨_, _, rfl, rfl, ?_⟩ | refine ⟨rfl, ?_⟩ | refine ⟨_, _, rfl, ?_⟩ | refine ⟨_, _, _, rfl, ?_⟩ | refine ⟨small_le (by simp), ?_⟩ | refine ⟨Or.inl ⟨by decide, by decide⟩, ?_⟩ | refine ⟨⟨by decide, by decide⟩, ?_⟩ | refine ⟨by show (0 : Int) < _; decide, ?_⟩)
  refine mk_four (.inl eF11) R1.four fun H12 y2 s12 ny2 ey2 => ?_
  repeat (first | refine ⟨_, rfl, ?_⟩ | refine ⟨_, _, rfl, rfl, ?_⟩ | refine ⟨rfl, ?_⟩ | refine ⟨_, _, rfl, ?_⟩ | refine ⟨_, _, _, rfl, ?_⟩ | refine ⟨small_le (by simp), ?_⟩ | refine ⟨Or.inl ⟨by decide, by decide⟩, ?_⟩ | refine ⟨⟨by decide, by decide⟩, ?_⟩ | refine ⟨by show (0 : Int) < _; decide, ?_⟩)
  refine ⟨y2, ms2, _, _, sI, rfl, ey2, h42, R1.down, R1.len, (far_self GI.g GI.low i44).four, GI.rim hn1 hn2 i44, fun H13 s13 => ?_⟩
  repeat (first | refine ⟨_, rfl, ?_⟩ | refine ⟨_, _, rfl, rfl, ?_⟩ | refine ⟨rfl, ?_⟩ | refine ⟨_, _, rfl, ?_⟩ | refine ⟨_, _, _, rfl, ?_⟩ | refine ⟨small_le (by simp), ?_⟩ | refine ⟨Or.inl ⟨by decide, by decide⟩, ?_⟩ | refine ⟨⟨by decide, by decide⟩, ?_⟩ | refine ⟨by show (0 : Int) < _; decide, ?_⟩)
  have nb : (n : Int).natAbs < 2 ^ 20 := by
    have e20 : (2 : Nat) ^ 20 = 1048576 := by decide
    omega
  refine ⟨wide_mul nb nb (by decide) (by decide) (by decide), ?_⟩
  repeat (first | refine ⟨_, rfl, ?_⟩ | refine ⟨_, _, rfl, rfl, ?_⟩ | refine ⟨rfl, ?_⟩ | refine ⟨_, _, rfl, ?_⟩ | refine ⟨_, _, _, rfl, ?_⟩ | refine ⟨small_le (by simp), ?_⟩ | refine ⟨Or.inl ⟨by decide, by decide⟩, ?_⟩ | refine ⟨⟨by decide, by decide⟩, ?_⟩ | refine ⟨by show (0 : Int) < _; decide, ?_⟩)
  (intro t2 nt2; generalize hqZ : upd _ t2 _ = H14; have s14 := new_same hqZ nt2; have et2 := new_at hqZ; clear hqZ)
  repeat (first | refine ⟨_, rfl, ?_⟩ | refine ⟨_, _, rfl, rfl, ?_⟩ | refine ⟨rfl, ?_⟩ | refine ⟨_, _, rfl, ?_⟩ | refine ⟨_, _, _, rfl, ?_⟩ | refine ⟨small_le (by simp), ?_⟩ | refine ⟨Or.inl ⟨by decide, by decide⟩, ?_⟩ | refine ⟨⟨by decide, by decide⟩, ?_⟩ | refine ⟨by show (0 : Int) < _; decide, ?_⟩)
  refine ⟨t2, 1, 0, (n : Int) * n, n, rfl, sqT et2, fun H' s => sqT (s _ _ et2), hn1, hn2, least_cop iF, fun H15 psI s15 hpsI hprodI => ?_⟩
  rw [← GI.val psI hpsI hprodI]
  repeat (first | refine ⟨_, rfl, ?_⟩ | refine ⟨_, _, rfl, rfl, ?_⟩ | refine ⟨rfl, ?_⟩ | refine ⟨_, _, rfl, ?_⟩ | refine ⟨_, _, _, rfl, ?_⟩ | refine ⟨small_le (by simp), ?_⟩ | refine ⟨Or.inl ⟨by decide, by decide⟩, ?_⟩ | refine ⟨⟨by decide, by decide⟩, ?_⟩ | refine ⟨by show (0 : Int) < _; decide, ?_⟩)
  refine neF rfl ?_
  repeat (first | refine ⟨_, rfl, ?_⟩ | refine ⟨_, _, rfl, rfl, ?_⟩ | refine ⟨rfl, ?_⟩ | refine ⟨_, _, rfl, ?_⟩ | refine ⟨_, _, _, rfl, ?_⟩ | refine ⟨small_le (by simp), ?_⟩ | refine ⟨Or.inl ⟨by decide, by decide⟩, ?_⟩ | refine ⟨⟨by decide, by decide⟩, ?_⟩ | refine ⟨by show (0 : Int) < _; decide, ?_⟩)
  (intro t3 nt3; generalize hqZ : upd _ t3 _ = H16; have s16 := new_same hqZ nt3; have e16 := new_at hqZ; clear hqZ)
  repeat (first | refine ⟨_, rfl, ?_⟩ | refine ⟨_, _, rfl, rfl, ?_⟩ | refine ⟨rfl, ?_⟩ | refine ⟨_, _, rfl, ?_⟩ | refine ⟨_, _, _, rfl, ?_⟩ | refine ⟨small_le (by simp), ?_⟩ | refine ⟨Or.inl ⟨by decide, by decide⟩, ?_⟩ | refine ⟨⟨by decide, by decide⟩, ?_⟩ | refine ⟨by show (0 : Int) < _; decide, ?_⟩)
  (intro LC nLC; generalize hqZ : upd _ LC _ = H17; have s17 := new_same hqZ nLC; have e17 := new_at hqZ; clear hqZ)
  repeat (first | refine ⟨_, rfl, ?_⟩ | refine ⟨_, _, rfl, rfl, ?_⟩ | refine ⟨rfl, ?_⟩ | refine ⟨_, _, rfl, ?_⟩ | refine ⟨_, _, _, rfl, ?_⟩ | refine ⟨small_le (by simp), ?_⟩ | refine ⟨Or.inl ⟨by decide, by decide⟩, ?_⟩ | refine ⟨⟨by decide, by decide⟩, ?_⟩ | refine ⟨by show (0 : Int) < _; decide, ?_⟩)
  have hb12 := hb11.same ((((s12.trans s13).trans s14).trans s15).trans s16)
  have hb17 := hb12.same s17
  refine ⟨b, l, LC, _, _, rfl, hb17, by omega, e17, bowl_ne hb12 nLC, by show 0 < 4; decide, by show 4 < 2 ^ 30; decide, fun H18 i2 vo x18 hb18 hvo => ?_⟩
  have t3b : t3 ≠ b := bowl_ne (hb11.same (((s12.trans s13).trans s14).trans s15)) nt3
  have e18 := x18 _ _ t3b (s17 _ _ e16)
  repeat (first | refine ⟨_, rfl, ?_⟩ | refine ⟨_, _, rfl, rfl, ?_⟩ | refine ⟨rfl, ?_⟩ | refine ⟨_, _, rfl, ?_⟩ | refine ⟨_, _, _, rfl, ?_⟩ | refine ⟨small_le (by simp), ?_⟩ | refine ⟨Or.inl ⟨by decide, by decide⟩, ?_⟩ | refine ⟨⟨by decide, by decide⟩, ?_⟩ | refine ⟨by show (0 : Int) < _; decide, ?_⟩)
  (intro LD nLD; generalize hqZ : upd _ LD _ = H19; have s19 := new_same hqZ nLD; have e19 := new_at hqZ; clear hqZ)
  repeat (first | refine ⟨_, rfl, ?_⟩ | refine ⟨_, _, rfl, rfl, ?_⟩ | refine ⟨rfl, ?_⟩ | refine ⟨_, _, rfl, ?_⟩ | refine ⟨_, _, _, rfl, ?_⟩ | refine ⟨small_le (by simp), ?_⟩ | refine ⟨Or.inl ⟨by decide, by decide⟩, ?_⟩ | refine ⟨⟨by decide, by decide⟩, ?_⟩ | refine ⟨by show (0 : Int) < _; decide, ?_⟩)
  have hb19 := hb18.same s19
  refine ⟨b, l, LD, _, _, rfl, hb19, by omega, e19, bowl_ne hb18 nLD, by show 0 < 2; decide, by show 2 < 2 ^ 30; decide, fun H20 i4 v4 x20 hb20 hv4 => ?_⟩
  obtain ⟨m, rfl, hm1, hm2⟩ : ∃ m : Nat, v4 = .int m ∧ 1 ≤ m ∧ m ≤ 1000001 := by
    match i4, hv4 with
    | 0, hv => exact ⟨3, (Option.some.inj hv).symm, by decide, by decide⟩
    | 1, hv => exact ⟨1000001, (Option.some.inj hv).symm, by decide, by decide⟩
    | i + 2, hv => simp at hv
  repeat (first | refine ⟨_, rfl, ?_⟩ | refine ⟨_, _, rfl, rfl, ?_⟩ | refine ⟨rfl, ?_⟩ | refine ⟨_, _, rfl, ?_⟩ | refine ⟨_, _, _, rfl, ?_⟩ | refine ⟨small_le (by simp), ?_⟩ | refine ⟨Or.inl ⟨by decide, by decide⟩, ?_⟩ | refine ⟨⟨by decide, by decide⟩, ?_⟩ | refine ⟨by show (0 : Int) < _; decide, ?_⟩)
  refine ⟨by omega, fun H21 LG s21 nLG eLG => ?_⟩
  repeat (first | refine ⟨_, rfl, ?_⟩ | refine ⟨_, _, rfl, rfl, ?_⟩ | refine ⟨rfl, ?_⟩ | refine ⟨_, _, rfl, ?_⟩ | refine ⟨_, _, _, rfl, ?_⟩ | refine ⟨small_le (by simp), ?_⟩ | refine ⟨Or.inl ⟨by decide, by decide⟩, ?_⟩ | refine ⟨⟨by decide, by decide⟩, ?_⟩ | refine ⟨by show (0 : Int) < _; decide, ?_⟩)
  (intro t4 nt4; generalize hqZ : upd _ t4 _ = H22; have s22 := new_same hqZ nt4; have e22 := new_at hqZ; clear hqZ)
  repeat (first | refine ⟨_, rfl, ?_⟩ | refine ⟨_, _, rfl, rfl, ?_⟩ | refine ⟨rfl, ?_⟩ | refine ⟨_, _, rfl, ?_⟩ | refine ⟨_, _, _, rfl, ?_⟩ | refine ⟨small_le (by simp), ?_⟩ | refine ⟨Or.inl ⟨by decide, by decide⟩, ?_⟩ | refine ⟨⟨by decide, by decide⟩, ?_⟩ | refine ⟨by show (0 : Int) < _; decide, ?_⟩)
  refine ⟨t4, _, rfl, sqT e22, rfl, ?_⟩
  repeat (first | refine ⟨_, rfl, ?_⟩ | refine ⟨_, _, rfl, rfl, ?_⟩ | refine ⟨rfl, ?_⟩ | refine ⟨_, _, rfl, ?_⟩ | refine ⟨_, _, _, rfl, ?_⟩ | refine ⟨small_le (by simp), ?_⟩ | refine ⟨Or.inl ⟨by decide, by decide⟩, ?_⟩ | refine ⟨⟨by decide, by decide⟩, ?_⟩ | refine ⟨by show (0 : Int) < _; decide, ?_⟩)
  refine ⟨by decide, by decide, ?_⟩
  have hT22 : H22 (He.cT K ("_law_edges_right", none)).2 = some (.tbl #[]) :=
    s22 _ _ (s21 _ _ (x20 _ _ hPb (s19 _ _ (x18 _ _ hPb (s17 _ _ (s16 _ _ (s15 _ _ (s14 _ _ (s13 _ _ (s12 _ _ (x11 _ _ hPb (s10 _ _ (s9 _ _ (x8 _ _ hPb (s7 _ _ (x6 _ _ hPb (s5 _ _ (x4 _ _ hPb (x3 _ _ hPb (x2 _ _ hPb (s1 _ _ hT)))))))))))))))))))))
  have e22t := s22 _ _ (s21 _ _ (x20 _ _ t3b (s19 _ _ e18)))
  have vNot : ∀ {Hz : Hp}, Hz t3 = H22 t3 → NotFour K Hz vo := fun {Hz} sz => by
    match i2, hvo with
    | 0, hv =>
      rw [← Option.some.inj hv]
      exact ⟨_, .base .non, T.x_not_NoneType_Four⟩
    | 1, hv =>
      rw [← Option.some.inj hv]
      exact ⟨_, .base (.int _), T.x_not_int_Four⟩
    | 2, hv =>
      rw [← Option.some.inj hv]
      exact ⟨_, .base (.str _), T.x_not_str_Four⟩
    | 3, hv =>
      rw [← Option.some.inj hv]
      exact ⟨_, .base (.tup (sz.trans e22t)), T.x_not_tuple_Four⟩
    | i + 4, hv => simp at hv
  refine for_range (lo := 0) (n := 201) (fun i σ H' => Same H22 H' ∧ ∃ (F : Addr) (z : Option V), H' F = some (.lst (vi (lng m i))) ∧ σ = [some (.ref b), some (.ref y), some (.int n), some vo, some (.ref F), z, none])
    ⟨Same.refl _, LG, none, s22 _ _ eLG, rfl⟩ (fun i σ H' hi hp => ?_) (fun σ H' hp => ?_)
  · obtain ⟨p1, FF, z, eFF, rfl⟩ := hp
    repeat (first | refine ⟨_, rfl, ?_⟩ | refine ⟨_, _, rfl, rfl, ?_⟩ | refine ⟨rfl, ?_⟩ | refine ⟨_, _, rfl, ?_⟩ | refine ⟨_, _, _, rfl, ?_⟩ | refine ⟨small_le (by simp), ?_⟩ | refine ⟨Or.inl ⟨by decide, by decide⟩, ?_⟩ | refine ⟨⟨by decide, by decide⟩, ?_⟩ | refine ⟨by show (0 : Int) < _; decide, ?_⟩)
    refine eB (fun e5 => ?_) (fun e5 => ?_)
    · have ei : lngI i = 0 := by unfold lngI; rw [if_pos (by omega)]
      repeat (first | refine ⟨_, rfl, ?_⟩ | refine ⟨_, _, rfl, rfl, ?_⟩ | refine ⟨rfl, ?_⟩ | refine ⟨_, _, rfl, ?_⟩ | refine ⟨_, _, _, rfl, ?_⟩ | refine ⟨small_le (by simp), ?_⟩ | refine ⟨Or.inl ⟨by decide, by decide⟩, ?_⟩ | refine ⟨⟨by decide, by decide⟩, ?_⟩ | refine ⟨by show (0 : Int) < _; decide, ?_⟩)
      refine ⟨FF, lng m i, 0, rfl, eFF, by rw [lng_len]; decide, lng_len _ _, fun H23 q2 s23 nq eq2 => ?_⟩
      repeat (first | refine ⟨_, rfl, ?_⟩ | refine ⟨_, _, rfl, rfl, ?_⟩ | refine ⟨rfl, ?_⟩ | refine ⟨_, _, rfl, ?_⟩ | refine ⟨_, _, _, rfl, ?_⟩ | refine ⟨small_le (by simp), ?_⟩ | refine ⟨Or.inl ⟨by decide, by decide⟩, ?_⟩ | refine ⟨⟨by decide, by decide⟩, ?_⟩ | refine ⟨by show (0 : Int) < _; decide, ?_⟩)
      exact ⟨p1.trans s23, q2, _, by rw [eq2]; show _ = some (HO.lst (vi (exch (lng m i) (lngI i)))); rw [ei], rfl⟩
    · have ei : lngI i = 3 := by unfold lngI; rw [if_neg (by omega)]
      repeat (first | refine ⟨_, rfl, ?_⟩ | refine ⟨_, _, rfl, rfl, ?_⟩ | refine ⟨rfl, ?_⟩ | refine ⟨_, _, rfl, ?_⟩ | refine ⟨_, _, _, rfl, ?_⟩ | refine ⟨small_le (by simp), ?_⟩ | refine ⟨Or.inl ⟨by decide, by decide⟩, ?_⟩ | refine ⟨⟨by decide, by decide⟩, ?_⟩ | refine ⟨by show (0 : Int) < _; decide, ?_⟩)
      refine ⟨FF, lng m i, 3, rfl, eFF, by rw [lng_len]; decide, lng_len _ _, fun H23 q2 s23 nq eq2 => ?_⟩
      repeat (first | refine ⟨_, rfl, ?_⟩ | refine ⟨_, _, rfl, rfl, ?_⟩ | refine ⟨rfl, ?_⟩ | refine ⟨_, _, rfl, ?_⟩ | refine ⟨_, _, _, rfl, ?_⟩ | refine ⟨small_le (by simp), ?_⟩ | refine ⟨Or.inl ⟨by decide, by decide⟩, ?_⟩ | refine ⟨⟨by decide, by decide⟩, ?_⟩ | refine ⟨by show (0 : Int) < _; decide, ?_⟩)
      exact ⟨p1.trans s23, q2, _, by rw [eq2]; show _ = some (HO.lst (vi (exch (lng m i) (lngI i)))); rw [ei], rfl⟩
  · obtain ⟨p1, FF, z, eFF, rfl⟩ := hp
    repeat (first | refine ⟨_, rfl, ?_⟩ | refine ⟨_, _, rfl, rfl, ?_⟩ | refine ⟨rfl, ?_⟩ | refine ⟨_, _, rfl, ?_⟩ | refine ⟨_, _, _, rfl, ?_⟩ | refine ⟨small_le (by simp), ?_⟩ | refine ⟨Or.inl ⟨by decide, by decide⟩, ?_⟩ | refine ⟨⟨by decide, by decide⟩, ?_⟩ | refine ⟨by show (0 : Int) < _; decide, ?_⟩)
    have TA0 : Tabs (tabT K) H' := fun p hp => by
      rw [List.mem_singleton.mp hp]
      exact TabS.nil (p1 _ _ hT22)
    have nx : ∀ {xs : List V}, ∀ ps, HO.lst xs ≠ .tbl ps := fun ps z => nomatch z
    have nt : ∀ {xs : List V}, ∀ ps, HO.tup xs ≠ .tbl ps := fun ps z => nomatch z
    refine ⟨TA0, fun HA enA tA R1 => ?_⟩
    repeat (first | refine ⟨_, rfl, ?_⟩ | refine ⟨_, _, rfl, rfl, ?_⟩ | refine ⟨rfl, ?_⟩ | refine ⟨_, _, rfl, ?_⟩ | refine ⟨_, _, _, rfl, ?_⟩ | refine ⟨small_le (by simp), ?_⟩ | refine ⟨Or.inl ⟨by decide, by decide⟩, ?_⟩ | refine ⟨⟨by decide, by decide⟩, ?_⟩ | refine ⟨by show (0 : Int) < _; decide, ?_⟩)
    refine ⟨vNot ((enA _ _ (p1 _ _ e22t) nt).trans e22t.symm), fun H23 d s23 nd ed => ?_⟩
    refine ⟨d, _, rfl, ed, .inl ⟨rfl, .str "four", rfl, fun H24 ta s24 nta eta => ?_⟩⟩
    have eF24 := s24 _ _ (s23 _ _ (enA _ _ eFF nx))
    refine ⟨tA.ext (s23.trans s24), fun HB enB tB R2 => ?_⟩
    have eFB := enB _ _ eF24 nx
    have etaB := enB _ _ eta nt
    obtain ⟨four2, long2⟩ := lng_201 hm1 hm2
    repeat (first | refine ⟨_, rfl, ?_⟩ | refine ⟨_, _, rfl, rfl, ?_⟩ | refine ⟨rfl, ?_⟩ | refine ⟨_, _, rfl, ?_⟩ | refine ⟨_, _, _, rfl, ?_⟩ | refine ⟨small_le (by simp), ?_⟩ | refine ⟨Or.inl ⟨by decide, by decide⟩, ?_⟩ | refine ⟨⟨by decide, by decide⟩, ?_⟩ | refine ⟨by show (0 : Int) < _; decide, ?_⟩)
    refine mk_four (.inl eFB) four2 fun H25 y3 s25 ny3 ey3 => ?_
    repeat (first | refine ⟨_, rfl, ?_⟩ | refine ⟨_, _, rfl, rfl, ?_⟩ | refine ⟨rfl, ?_⟩ | refine ⟨_, _, rfl, ?_⟩ | refine ⟨_, _, _, rfl, ?_⟩ | refine ⟨small_le (by simp), ?_⟩ | refine ⟨Or.inl ⟨by decide, by decide⟩, ?_⟩ | refine ⟨⟨by decide, by decide⟩, ?_⟩ | refine ⟨by show (0 : Int) < _; decide, ?_⟩)
    refine ⟨y3, _, rfl, ey3, lng_len _ _, long2, fun H26 d2 s26 nd2 ed2 => ?_⟩
    refine ⟨d2, _, rfl, ed2, .inr ⟨rfl, .str "letters", .int 200, rfl, rfl, fun H27 tb s27 ntb etb => ?_⟩⟩
    have sB7 := (s25.trans s26).trans s27
    have eta27 := sB7 _ _ etaB
    repeat (first | refine ⟨_, rfl, ?_⟩ | refine ⟨_, _, rfl, rfl, ?_⟩ | refine ⟨rfl, ?_⟩ | refine ⟨_, _, rfl, ?_⟩ | refine ⟨_, _, _, rfl, ?_⟩ | refine ⟨small_le (by simp), ?_⟩ | refine ⟨Or.inl ⟨by decide, by decide⟩, ?_⟩ | refine ⟨⟨by decide, by decide⟩, ?_⟩ | refine ⟨by show (0 : Int) < _; decide, ?_⟩)
    (intro LH nLH; generalize hqZ : upd _ LH _ = H28; have s28 := new_same hqZ nLH; have e28 := new_at hqZ; clear hqZ)
    repeat (first | refine ⟨_, rfl, ?_⟩ | refine ⟨_, _, rfl, rfl, ?_⟩ | refine ⟨rfl, ?_⟩ | refine ⟨_, _, rfl, ?_⟩ | refine ⟨_, _, _, rfl, ?_⟩ | refine ⟨small_le (by simp), ?_⟩ | refine ⟨Or.inl ⟨by decide, by decide⟩, ?_⟩ | refine ⟨⟨by decide, by decide⟩, ?_⟩ | refine ⟨by show (0 : Int) < _; decide, ?_⟩)
    refine ⟨Or.inl ⟨rfl, _, sqL e28⟩, ?_⟩
    refine ⟨((tB.ext sB7).ext s28), fun HC enC tC R3 => ?_⟩
    have eLC := enC _ _ e28 nx
    have etaC := enC _ _ (s28 _ _ eta27) nt
    have etbC := enC _ _ (s28 _ _ etb) nt
    repeat (first | refine ⟨_, rfl, ?_⟩ | refine ⟨_, _, rfl, rfl, ?_⟩ | refine ⟨rfl, ?_⟩ | refine ⟨_, _, rfl, ?_⟩ | refine ⟨_, _, _, rfl, ?_⟩ | refine ⟨small_le (by simp), ?_⟩ | refine ⟨Or.inl ⟨by decide, by decide⟩, ?_⟩ | refine ⟨⟨by decide, by decide⟩, ?_⟩ | refine ⟨by show (0 : Int) < _; decide, ?_⟩)
    refine ⟨by decide, fun H29 LJ s29 nLJ eLJ => ?_⟩
    obtain ⟨sJ, GJ⟩ := idle_gask (n := 1000001) (by decide)
    have FJ := far_self GJ.g GJ.low (GJ.sum44 (idle_least (by decide)) (by decide))
    repeat (first | refine ⟨_, rfl, ?_⟩ | refine ⟨_, _, rfl, rfl, ?_⟩ | refine ⟨rfl, ?_⟩ | refine ⟨_, _, rfl, ?_⟩ | refine ⟨_, _, _, rfl, ?_⟩ | refine ⟨small_le (by simp), ?_⟩ | refine ⟨Or.inl ⟨by decide, by decide⟩, ?_⟩ | refine ⟨⟨by decide, by decide⟩, ?_⟩ | refine ⟨by show (0 : Int) < _; decide, ?_⟩)
    refine mk_four (.inl eLJ) FJ.four fun H30 y5 s30 ny5 ey5 => ?_
    repeat (first | refine ⟨_, rfl, ?_⟩ | refine ⟨_, _, rfl, rfl, ?_⟩ | refine ⟨rfl, ?_⟩ | refine ⟨_, _, rfl, ?_⟩ | refine ⟨_, _, _, rfl, ?_⟩ | refine ⟨small_le (by simp), ?_⟩ | refine ⟨Or.inl ⟨by decide, by decide⟩, ?_⟩ | refine ⟨⟨by decide, by decide⟩, ?_⟩ | refine ⟨by show (0 : Int) < _; decide, ?_⟩)
    refine ⟨y5, _, _, [], _, rfl, ey5, FJ.four.len, FJ.down, by simp, FJ.four, GJ.mem, GJ.min, by decide, fun H31 d3 s31 nd3 ed3 => ?_⟩
    refine ⟨d3, _, rfl, ed3, .inr ⟨rfl, .str "side", .int 1000000, rfl, rfl, fun H32 tc s32 ntc etc => ?_⟩⟩
    have sC := ((s29.trans s30).trans s31).trans s32
    repeat (first | refine ⟨_, rfl, ?_⟩ | refine ⟨_, _, rfl, rfl, ?_⟩ | refine ⟨rfl, ?_⟩ | refine ⟨_, _, rfl, ?_⟩ | refine ⟨_, _, _, rfl, ?_⟩ | refine ⟨small_le (by simp), ?_⟩ | refine ⟨Or.inl ⟨by decide, by decide⟩, ?_⟩ | refine ⟨⟨by decide, by decide⟩, ?_⟩ | refine ⟨by show (0 : Int) < _; decide, ?_⟩)
    refine ⟨LH, _, _, rfl, rfl, sC _ _ eLC, small_lt (by simp), ?_⟩
    repeat (first | refine ⟨_, rfl, ?_⟩ | refine ⟨_, _, rfl, rfl, ?_⟩ | refine ⟨rfl, ?_⟩ | refine ⟨_, _, rfl, ?_⟩ | refine ⟨_, _, _, rfl, ?_⟩ | refine ⟨small_le (by simp), ?_⟩ | refine ⟨Or.inl ⟨by decide, by decide⟩, ?_⟩ | refine ⟨⟨by decide, by decide⟩, ?_⟩ | refine ⟨by show (0 : Int) < _; decide, ?_⟩)
    have et32 : ∀ {a : Addr} {xs : List V}, H32 a = some (.tup xs) → (upd H32 LH (.lst ([V.ref ta, V.ref tb] ++ [V.ref tc]))) a = some (.tup xs) := fun {a xs} e => by
      rw [upd_ne (ne_of e (sC _ _ eLC) (by intro z; cases z))]
      exact e
    have ea := et32 (sC _ _ etaC)
    have eb := et32 (sC _ _ etbC)
    have ec2 := et32 etc
    have eh : (upd H32 LH (.lst ([V.ref ta, V.ref tb] ++ [V.ref tc]))) LH = some (.lst ([V.ref ta, V.ref tb] ++ [V.ref tc])) := upd_same
    generalize upd H32 LH (.lst ([V.ref ta, V.ref tb] ++ [V.ref tc])) = H33 at ea eb ec2 eh ⊢
    (intro u1 nu1; generalize hqZ : upd _ u1 _ = H34; have s34 := new_same hqZ nu1; have eu1 := new_at hqZ; clear hqZ)
    repeat (first | refine ⟨_, rfl, ?_⟩ | refine ⟨_, _, rfl, rfl, ?_⟩ | refine ⟨rfl, ?_⟩ | refine ⟨_, _, rfl, ?_⟩ | refine ⟨_, _, _, rfl, ?_⟩ | refine ⟨small_le (by simp), ?_⟩ | refine ⟨Or.inl ⟨by decide, by decide⟩, ?_⟩ | refine ⟨⟨by decide, by decide⟩, ?_⟩ | refine ⟨by show (0 : Int) < _; decide, ?_⟩)
    (intro u2 nu2; generalize hqZ : upd _ u2 _ = H35; have s35 := new_same hqZ nu2; have eu2 := new_at hqZ; clear hqZ)
    repeat (first | refine ⟨_, rfl, ?_⟩ | refine ⟨_, _, rfl, rfl, ?_⟩ | refine ⟨rfl, ?_⟩ | refine ⟨_, _, rfl, ?_⟩ | refine ⟨_, _, _, rfl, ?_⟩ | refine ⟨small_le (by simp), ?_⟩ | refine ⟨Or.inl ⟨by decide, by decide⟩, ?_⟩ | refine ⟨⟨by decide, by decide⟩, ?_⟩ | refine ⟨by show (0 : Int) < _; decide, ?_⟩)
    (intro u3 nu3; generalize hqZ : upd _ u3 _ = H36; have s36 := new_same hqZ nu3; have eu3 := new_at hqZ; clear hqZ)
    repeat (first | refine ⟨_, rfl, ?_⟩ | refine ⟨_, _, rfl, rfl, ?_⟩ | refine ⟨rfl, ?_⟩ | refine ⟨_, _, rfl, ?_⟩ | refine ⟨_, _, _, rfl, ?_⟩ | refine ⟨small_le (by simp), ?_⟩ | refine ⟨Or.inl ⟨by decide, by decide⟩, ?_⟩ | refine ⟨⟨by decide, by decide⟩, ?_⟩ | refine ⟨by show (0 : Int) < _; decide, ?_⟩)
    (intro u4 nu4; generalize hqZ : upd _ u4 _ = H37; have s37 := new_same hqZ nu4; have eu4 := new_at hqZ; clear hqZ)
    have s3 := ((s34.trans s35).trans s36).trans s37
    have dp : ∀ {Hz : Hp} {L a1 a2 a3 : Addr}, Hz L = some (.lst [.ref a1, .ref a2, .ref a3]) → Hz a1 = some (.tup [.str "four", .str "four"]) → Hz a2 = some (.tup [.str "letters", .int 200]) → Hz a3 = some (.tup [.str "side", .int 1000000]) →
        Dp K Hz (.ref L) (.list [.tuple [.str "four", .str "four"], .tuple [.str "letters", .int 200], .tuple [.str "side", .int 1000000]]) := fun {Hz L a1 a2 a3} h0 h1 h2 h3 =>
      .lst (sqL h0) (.cons (.tup (sqT h1) (.cons (.str _) (.cons (.str _) .nil))) (.cons (.tup (sqT h2) (.cons (.str _) (.cons (.int _) .nil))) (.cons (.tup (sqT h3) (.cons (.str _) (.cons (.int _) .nil))) .nil)))
    refine ⟨_, _, dp (s3 _ _ eh) (s3 _ _ ea) (s3 _ _ eb) (s3 _ _ ec2), dp eu4 (s37 _ _ (s36 _ _ (s35 _ _ eu1))) (s37 _ _ (s36 _ _ eu2)) (s37 _ _ eu3), by decide +kernel, by decide +kernel, ?_⟩
    have et : PyData.eqv (.list [.tuple [.str "four", .str "four"], .tuple [.str "letters", .int 200], .tuple [.str "side", .int 1000000]]) (.list [.tuple [.str "four", .str "four"], .tuple [.str "letters", .int 200], .tuple [.str "side", .int 1000000]]) = true := by decide +kernel
    rw [et]
    exact q _
end
end Bh

/-! XF -/
set_option maxHeartbeats 4000000
namespace Bh
open PySem PySem.Spec PyProof.Rows L2 Bs SkE LamX
section
variable {P : Program} {w : World} {K : PySem.W.Frag} {mg : Str → Option Value} {base : Heap}
/-! ### the law -/
theorem abs_mul_lt {x y : Int} {m k : Nat} (hx : x.natAbs ≤ m) (hy : y.natAbs ≤ k) : (x * y).natAbs ≤ m * k := by
  rw [Int.natAbs_mul]
  exact Nat.mul_le_mul hx hy
theorem bowl_neL {H : Hp} {b l L : Addr} {k : Nat} (h : Bowl H b l k) (n : H L = none) : L ≠ l := fun z => by
  obtain ⟨_, _, _, _, _, e, _⟩ := h
  rw [z, e] at n
  cases n
theorem sc_law : FnScope ["_law_script", "_law_bowl_here", "_law_rim", "_law_b", "_law_c", "_law_d", "_law_form_here", "_law_turn"] ["_law_script"] (defScope (top 115)) := ⟨rfl, rfl, rfl, by decide +kernel, rfl, by decide +kernel, by decide +kernel⟩
def spLaw (K : PySem.W.Frag) : Sp := fun vs H Q _ => ∃ (a : Addr) (ns : List Int), vs = [.ref a] ∧ SqL K H a (vi ns) ∧ H (He.cT K ("_law_edges_right", none)).2 = some (.tbl #[]) ∧ ∀ H', Q (.bl true) H'
theorem okf_law (T : Tx K mg) (TB : TabB base mg (He.cT K ("_law_edges_right", none)).1 (He.cT K ("_law_edges_right", none)).2) {fd : FuncData} (F : FunD K "law" "law" (defArgs (top 115)) (defBody (top 115)) (defScope (top 115)) [] [] (He.ga K "law") fd) :
    FnOk R.prog w K mg base CX0 16 (He.ga K "law") fd ["_law_script"] (spLaw K) := by
  have okE := ok_law_edges_right (w := w) T TB
  refine okN (N := ["_law_script", "_law_bowl_here", "_law_rim", "_law_b", "_law_c", "_law_d", "_law_form_here", "_law_turn"]) F sc_law (by intro vs H Q E h; repeat (first | (obtain ⟨e, _⟩ := h; subst e; rfl) | (obtain ⟨_, h⟩ := h))) fun cdv A outer s H vs Q E hr h => ?_
  obtain ⟨a, ns, rfl, ha, hT, q⟩ := h
  refine ⟨_, (pss_cons (ps_set (i := 1) sc_law.nd rfl (Or.inr rfl) (pc (ok_law_bowl T) (hr.mono (by decide)) (by first | exact pass0 | exact passL) (pa_cons (pv 0) pa_nil)))
      (pss_cons (ps_for PassesOwn.never rfl (pi_list (pe_op op_cat (pe_lc (own := [("_law_turn", 7)]) rfl sc_law.nd (pi_range1 (by rfl) T.m_range (pa_cons pe_int pa_nil)) (blkOk_by (own := [("_law_turn", 7)]) (N := ["_law_script", "_law_bowl_here", "_law_rim", "_law_b", "_law_c", "_law_d", "_law_form_here", "_law_turn"]) (sc := defScope (top 115)) (by decide +kernel)) (fun _ _ _ _ _ => (pg_name (i := 7) sc_law.nd rfl (Or.inl rfl))) (fun _ _ _ _ _ => pts_nil) (fun _ _ _ _ _ => (pe_op op_add pe_int (pc (ok_law_ladle T) (hr.mono (by decide)) (by first | exact pass0 | exact passL) (pa_cons (pv 1) (pa_cons pe_int pa_nil)))))) (pe_lst (pa_cons (pc (ok_law_pick T) (hr.mono (by decide)) (by first | exact pass0 | exact passL) (pa_cons (pv 1) (pa_cons (pe_lst (pa_cons pe_int (pa_cons pe_int (pa_cons pe_int (pa_cons pe_int (pa_cons pe_int (pa_cons pe_int (pa_cons pe_int pa_nil)))))))) pa_nil))) (pa_cons (pc (ok_law_pick T) (hr.mono (by decide)) (by first | exact pass0 | exact passL) (pa_cons (pv 1) (pa_cons (pe_lst (pa_cons pe_int (pa_cons pe_int (pa_cons pe_int (pa_cons pe_int (pa_cons pe_int (pa_cons pe_int (pa_cons pe_int (pa_cons pe_int pa_nil))))))))) pa_nil))) pa_nil))))) (pg_name (i := 2) sc_law.nd rfl (Or.inl rfl)) (pss_one (ps_if (pt_not (pt_val (pc (ok_law_gasket_right T) (hr.mono (by decide)) (by first | exact pass0 | exact passL) (pa_cons (pv 1) (pa_cons (pv 2) (pa_cons (pc (ok_law_pick T) (hr.mono (by decide)) (by first | exact pass0 | exact passL) (pa_cons (pv 1) (pa_cons (pc (ok_law_all_least T) (hr.mono (by decide)) (by first | exact pass0 | exact passL) (pa_cons (pv 2) pa_nil)) pa_nil))) pa_nil)))))) (pss_one (ps_ret pe_bl)) pss_nil)))
      (pss_cons (ps_par3 (i := 3) (j := 4) (l := 2) (by rfl) sc_law.nd rfl rfl rfl (by decide) (by decide) (by decide) rfl rfl rfl (pa_cons (pe_op op_sub (pc (ok_law_ladle T) (hr.mono (by decide)) (by first | exact pass0 | exact passL) (pa_cons (pv 1) (pa_cons pe_int pa_nil))) pe_int) (pa_cons (pe_op op_sub (pc (ok_law_ladle T) (hr.mono (by decide)) (by first | exact pass0 | exact passL) (pa_cons (pv 1) (pa_cons pe_int pa_nil))) pe_int) (pa_cons (pe_op op_add pe_int (pc (ok_law_ladle T) (hr.mono (by decide)) (by first | exact pass0 | exact passL) (pa_cons (pv 1) (pa_cons pe_int pa_nil)))) pa_nil))) (by rfl))
      (pss_cons (ps_set (i := 5) sc_law.nd rfl (Or.inl rfl) (pe_op op_add (pv 2) (pe_op op_mulW (pv 3) (pv 4))))
      (pss_cons (ps_set (i := 6) sc_law.nd rfl (Or.inl rfl) (pe_tup (pa_cons (pe_op op_add pe_int (pe_op op_mulW (pv 3) (pv 3))) (pa_cons (pe_op op_add (pv 4) (pe_op op_mulW (pv 3) (pv 5))) (pa_cons (pe_op op_add (pe_op op_mulW (pv 4) (pv 4)) (pe_op op_mulW (pv 5) (pv 5))) pa_nil)))))
      (pss_cons (ps_if (PW.pt (pw_and (pt_cmpR op_eq (pc (ok_law_shared T) (hr.mono (by decide)) (by first | exact pass0 | exact passL) (pa_cons (pc (ok_law_shared T) (hr.mono (by decide)) (by first | exact pass0 | exact passL) (pa_cons (pe_ix ix_tup (pv 6) pe_int (fun _ _ => rfl)) (pa_cons (pe_ix ix_tup (pv 6) pe_int (fun _ _ => rfl)) pa_nil))) (pa_cons (pe_ix ix_tup (pv 6) pe_int (fun _ _ => rfl)) pa_nil))) pe_int (nomark _)) (pw_and1 (pt_not (pt_val (pc (ok_law_gasket_right T) (hr.mono (by decide)) (by first | exact pass0 | exact passL) (pa_cons (pv 1) (pa_cons (pv 2) (pa_cons (pc (ok_law_least T) (hr.mono (by decide)) (by first | exact pass0 | exact passL) (pa_cons (pv 6) pa_nil)) pa_nil))))))))) (pss_one (ps_ret pe_bl)) pss_nil)
      (pss_one (ps_ret (pc okE (hr.mono (by decide)) (by first | exact pass0 | exact passL) (pa_cons (pv 1) pa_nil)))))))))), ?_⟩
  repeat (first | refine ⟨_, rfl, ?_⟩ | refine ⟨_, _, rfl, rfl, ?_⟩ | refine ⟨rfl, ?_⟩ | refine ⟨_, _, rfl, ?_⟩ | refine ⟨_, _, _, rfl, ?_⟩ | refine ⟨small_le (by simp), ?_⟩ | refine ⟨Or.inl ⟨by decide, by decide⟩, ?_⟩ | refine ⟨⟨by decide, by decide⟩, ?_⟩ | refine ⟨by show (0 : Int) < _; decide, ?_⟩)
  refine ⟨a, ns, rfl, ha, fun H1 b l s1 nb nl hb1 => ?_⟩
  have hT1 := s1 _ _ hT
  have hPb : (He.cT K ("_law_edges_right", none)).2 ≠ b := hb1.ne hT1 (fun _ _ _ z => nomatch z)
  repeat (first | refine ⟨_, rfl, ?_⟩ | refine ⟨_, _, rfl, rfl, ?_⟩ | refine ⟨rfl, ?_⟩ | refine ⟨_, _, rfl, ?_⟩ | refine ⟨_, _, _, rfl, ?_⟩ | refine ⟨small_le (by simp), ?_⟩ | refine ⟨Or.inl ⟨by decide, by decide⟩, ?_⟩ | refine ⟨⟨by decide, by decide⟩, ?_⟩ | refine ⟨by show (0 : Int) < _; decide, ?_⟩)
  refine ⟨by decide, by decide, fun D nD => ?_⟩
  have nDb := bowl_ne hb1 nD
  have nDl := bowl_neL hb1 nD
  refine lc_range (lo := 0) (n := 3) (fun j H2 => SameX b H1 H2 ∧ Bowl H2 b l j ∧ ∃ qs : List Int, qs.length = j ∧ (∀ r ∈ qs, 1 ≤ r ∧ r ≤ 60) ∧ H2 D = some (.lst (vi qs)))
    ⟨SameX.of (same_new nD), hb1.set nDb nDl, [], rfl, by simp, upd_same⟩ (fun j H2 hj hp => ?_) (fun H2 hp => ?_)
  · obtain ⟨x2, hb2, qs, hl, hqs, eD⟩ := hp
    refine ⟨rfl, ?_⟩
    repeat (first | refine ⟨_, rfl, ?_⟩ | refine ⟨_, _, rfl, rfl, ?_⟩ | refine ⟨rfl, ?_⟩ | refine ⟨_, _, rfl, ?_⟩ | refine ⟨_, _, _, rfl, ?_⟩ | refine ⟨small_le (by simp), ?_⟩ | refine ⟨Or.inl ⟨by decide, by decide⟩, ?_⟩ | refine ⟨⟨by decide, by decide⟩, ?_⟩ | refine ⟨by show (0 : Int) < _; decide, ?_⟩)
    refine ⟨b, l, 60, j, rfl, hb2, by omega, by decide, by decide, fun H3 v x3 hb3 hv => ?_⟩
    repeat (first | refine ⟨_, rfl, ?_⟩ | refine ⟨_, _, rfl, rfl, ?_⟩ | refine ⟨rfl, ?_⟩ | refine ⟨_, _, rfl, ?_⟩ | refine ⟨_, _, _, rfl, ?_⟩ | refine ⟨small_le (by simp), ?_⟩ | refine ⟨Or.inl ⟨by decide, by decide⟩, ?_⟩ | refine ⟨⟨by decide, by decide⟩, ?_⟩ | refine ⟨by show (0 : Int) < _; decide, ?_⟩)
    have eD3 := x3 _ _ nDb eD
    refine ⟨_, eD3, small_lt (by simp; omega), (x2.trans x3).mut nD, hb3.set nDb nDl, qs ++ [1 + (v : Int)], by simp [hl], fun r hr2 => ?_, ?_⟩
    · rcases List.mem_append.mp hr2 with hm | hm
      · exact hqs r hm
      · have := List.mem_singleton.mp hm
        omega
    · rw [upd_same]
      simp [vi]
  · obtain ⟨x2, hb2, qs, hl, hqs, eD⟩ := hp
    repeat (first | refine ⟨_, rfl, ?_⟩ | refine ⟨_, _, rfl, rfl, ?_⟩ | refine ⟨rfl, ?_⟩ | refine ⟨_, _, rfl, ?_⟩ | refine ⟨_, _, _, rfl, ?_⟩ | refine ⟨small_le (by simp), ?_⟩ | refine ⟨Or.inl ⟨by decide, by decide⟩, ?_⟩ | refine ⟨⟨by decide, by decide⟩, ?_⟩ | refine ⟨by show (0 : Int) < _; decide, ?_⟩)
    (intro L1 nL1; generalize hqZ : upd _ L1 _ = H3; have s3 := new_same hqZ nL1; have e3 := new_at hqZ; clear hqZ)
    repeat (first | refine ⟨_, rfl, ?_⟩ | refine ⟨_, _, rfl, rfl, ?_⟩ | refine ⟨rfl, ?_⟩ | refine ⟨_, _, rfl, ?_⟩ | refine ⟨_, _, _, rfl, ?_⟩ | refine ⟨small_le (by simp), ?_⟩ | refine ⟨Or.inl ⟨by decide, by decide⟩, ?_⟩ | refine ⟨⟨by decide, by decide⟩, ?_⟩ | refine ⟨by show (0 : Int) < _; decide, ?_⟩)
    have hb3 := hb2.same s3
    refine ⟨b, l, L1, _, _, rfl, hb3, by omega, e3, bowl_ne hb2 nL1, by show 0 < 7; decide, by show 7 < 2 ^ 30; decide, fun H4 i1 v1 x4 hb4 hv1 => ?_⟩
    obtain ⟨r1, rfl, hr11, hr12⟩ : ∃ r : Int, v1 = .int r ∧ 1 ≤ r ∧ r ≤ 60 := by
      match i1, hv1 with
      | 0, hv => exact ⟨4, (Option.some.inj hv).symm, by decide, by decide⟩
      | 1, hv => exact ⟨8, (Option.some.inj hv).symm, by decide, by decide⟩
      | 2, hv => exact ⟨12, (Option.some.inj hv).symm, by decide, by decide⟩
      | 3, hv => exact ⟨20, (Option.some.inj hv).symm, by decide, by decide⟩
      | 4, hv => exact ⟨24, (Option.some.inj hv).symm, by decide, by decide⟩
      | 5, hv => exact ⟨40, (Option.some.inj hv).symm, by decide, by decide⟩
      | 6, hv => exact ⟨48, (Option.some.inj hv).symm, by decide, by decide⟩
      | i + 7, hv => simp at hv
    repeat (first | refine ⟨_, rfl, ?_⟩ | refine ⟨_, _, rfl, rfl, ?_⟩ | refine ⟨rfl, ?_⟩ | refine ⟨_, _, rfl, ?_⟩ | refine ⟨_, _, _, rfl, ?_⟩ | refine ⟨small_le (by simp), ?_⟩ | refine ⟨Or.inl ⟨by decide, by decide⟩, ?_⟩ | refine ⟨⟨by decide, by decide⟩, ?_⟩ | refine ⟨by show (0 : Int) < _; decide, ?_⟩)
    (intro L2a nL2; generalize hqZ : upd _ L2a _ = H5; have s5 := new_same hqZ nL2; have e5 := new_at hqZ; clear hqZ)
    repeat (first | refine ⟨_, rfl, ?_⟩ | refine ⟨_, _, rfl, rfl, ?_⟩ | refine ⟨rfl, ?_⟩ | refine ⟨_, _, rfl, ?_⟩ | refine ⟨_, _, _, rfl, ?_⟩ | refine ⟨small_le (by simp), ?_⟩ | refine ⟨Or.inl ⟨by decide, by decide⟩, ?_⟩ | refine ⟨⟨by decide, by decide⟩, ?_⟩ | refine ⟨by show (0 : Int) < _; decide, ?_⟩)
    have hb5 := hb4.same s5
    refine ⟨b, l, L2a, _, _, rfl, hb5, by omega, e5, bowl_ne hb4 nL2, by show 0 < 8; decide, by show 8 < 2 ^ 30; decide, fun H6 i2 v2 x6 hb6 hv2 => ?_⟩
    obtain ⟨r2, rfl, hr21, hr22⟩ : ∃ r : Int, v2 = .int r ∧ 1 ≤ r ∧ r ≤ 60 := by
      match i2, hv2 with
      | 0, hv => exact ⟨2, (Option.some.inj hv).symm, by decide, by decide⟩
      | 1, hv => exact ⟨6, (Option.some.inj hv).symm, by decide, by decide⟩
      | 2, hv => exact ⟨10, (Option.some.inj hv).symm, by decide, by decide⟩
      | 3, hv => exact ⟨14, (Option.some.inj hv).symm, by decide, by decide⟩
      | 4, hv => exact ⟨9, (Option.some.inj hv).symm, by decide, by decide⟩
      | 5, hv => exact ⟨18, (Option.some.inj hv).symm, by decide, by decide⟩
      | 6, hv => exact ⟨45, (Option.some.inj hv).symm, by decide, by decide⟩
      | 7, hv => exact ⟨50, (Option.some.inj hv).symm, by decide, by decide⟩
      | i + 8, hv => simp at hv
    repeat (first | refine ⟨_, rfl, ?_⟩ | refine ⟨_, _, rfl, rfl, ?_⟩ | refine ⟨rfl, ?_⟩ | refine ⟨_, _, rfl, ?_⟩ | refine ⟨_, _, _, rfl, ?_⟩ | refine ⟨small_le (by simp), ?_⟩ | refine ⟨Or.inl ⟨by decide, by decide⟩, ?_⟩ | refine ⟨⟨by decide, by decide⟩, ?_⟩ | refine ⟨by show (0 : Int) < _; decide, ?_⟩)
    (intro L3 nL3; generalize hqZ : upd _ L3 _ = H7; have s7 := new_same hqZ nL3; have e7 := new_at hqZ; clear hqZ)
    repeat (first | refine ⟨_, rfl, ?_⟩ | refine ⟨_, _, rfl, rfl, ?_⟩ | refine ⟨rfl, ?_⟩ | refine ⟨_, _, rfl, ?_⟩ | refine ⟨_, _, _, rfl, ?_⟩ | refine ⟨small_le (by simp), ?_⟩ | refine ⟨Or.inl ⟨by decide, by decide⟩, ?_⟩ | refine ⟨⟨by decide, by decide⟩, ?_⟩ | refine ⟨by show (0 : Int) < _; decide, ?_⟩)
    have hb7 := hb6.same s7
    have eD7 := s7 _ _ (x6 _ _ nDb (s5 _ _ (x4 _ _ nDb (s3 _ _ eD))))
    refine ⟨D, L3, _, _, rfl, rfl, eD7, e7, small_le (by simp; omega), fun L4 nL4 => ?_⟩
    have s8 := same_new (o := .lst (vi qs ++ [.int r1, .int r2])) nL4
    have e8 : (upd H7 L4 (.lst (vi qs ++ [.int r1, .int r2]))) L4 = some (.lst (vi (qs ++ [r1, r2]))) := by
      rw [upd_same]
      simp [vi]
    generalize upd H7 L4 (.lst (vi qs ++ [.int r1, .int r2])) = H8 at s8 e8 ⊢
    have nL4b := bowl_ne hb7 nL4
    have hb8 := hb7.same s8
    have hT8 := s8 _ _ (s7 _ _ (x6 _ _ hPb (s5 _ _ (x4 _ _ hPb (s3 _ _ (x2 _ _ hPb hT1))))))
    have hall : ∀ r ∈ qs ++ [r1, r2], 1 ≤ r ∧ r ≤ 60 := fun r h => by
      rcases List.mem_append.mp h with h | h
      · exact hqs r h
      · simp only [List.mem_cons, List.not_mem_nil, or_false] at h
        rcases h with rfl | rfl
        · exact ⟨hr11, hr12⟩
        · exact ⟨hr21, hr22⟩
    have hlen : (qs ++ [r1, r2]).length = 5 := by simp [hl]
    generalize qs ++ [r1, r2] = ws at e8 hall hlen
    refine ⟨L4, rfl, ⟨_, sqL e8⟩, ?_⟩
    refine for_list (xs := vi ws) (fun i σ H' => SameX b H8 H' ∧ Bowl H' b l (5 + 101 * i) ∧ ∃ z : Option V, σ = [some (.ref a), some (.ref b), z, none, none, none, none, none])
      ⟨SameX.of (Same.refl _), hb8, none, rfl⟩ (fun i σ H' _ p => sqL (p.1 _ _ nL4b e8)) (fun i v σ H' hv hp => ?_) (fun σ H' hp => ?_)
    · obtain ⟨x9, hb9, z, rfl⟩ := hp
      rw [List.getElem?_map] at hv
      obtain ⟨r, hr0, rfl⟩ := Option.map_eq_some_iff.mp hv
      have hi5 := (List.getElem?_eq_some_iff.mp hr0).1
      obtain ⟨hw1, hw2⟩ := hall r (List.mem_of_getElem? hr0)
      obtain ⟨m, rfl⟩ : ∃ m : Nat, r = m := ⟨r.toNat, by omega⟩
      repeat (first | refine ⟨_, rfl, ?_⟩ | refine ⟨_, _, rfl, rfl, ?_⟩ | refine ⟨rfl, ?_⟩ | refine ⟨_, _, rfl, ?_⟩ | refine ⟨_, _, _, rfl, ?_⟩ | refine ⟨small_le (by simp), ?_⟩ | refine ⟨Or.inl ⟨by decide, by decide⟩, ?_⟩ | refine ⟨⟨by decide, by decide⟩, ?_⟩ | refine ⟨by show (0 : Int) < _; decide, ?_⟩)
      refine ⟨by omega, by omega, fun H10 D2 ps fs s10 nD2 eD2 pr hF hp0 hp20 => ?_⟩
      repeat (first | refine ⟨_, rfl, ?_⟩ | refine ⟨_, _, rfl, rfl, ?_⟩ | refine ⟨rfl, ?_⟩ | refine ⟨_, _, rfl, ?_⟩ | refine ⟨_, _, _, rfl, ?_⟩ | refine ⟨small_le (by simp), ?_⟩ | refine ⟨Or.inl ⟨by decide, by decide⟩, ?_⟩ | refine ⟨⟨by decide, by decide⟩, ?_⟩ | refine ⟨by show (0 : Int) < _; decide, ?_⟩)
      have hb10 := hb9.same s10
      refine ⟨b, l, D2, _, _, rfl, hb10, by omega, eD2, bowl_ne hb9 nD2, by simpa using hp0, by simp; omega, fun H11 j v x11 hb11 hv => ?_⟩
      rw [List.getElem?_map] at hv
      obtain ⟨t, ht, rfl⟩ := Option.map_eq_some_iff.mp hv
      obtain ⟨f, hf, hft⟩ := paired_get pr ht
      have htb : t ≠ b := hb10.ne hft (fun _ _ _ z => nomatch z)
      repeat (first | refine ⟨_, rfl, ?_⟩ | refine ⟨_, _, rfl, rfl, ?_⟩ | refine ⟨rfl, ?_⟩ | refine ⟨_, _, rfl, ?_⟩ | refine ⟨_, _, _, rfl, ?_⟩ | refine ⟨small_le (by simp), ?_⟩ | refine ⟨Or.inl ⟨by decide, by decide⟩, ?_⟩ | refine ⟨⟨by decide, by decide⟩, ?_⟩ | refine ⟨by show (0 : Int) < _; decide, ?_⟩)
      refine ⟨b, l, t, f.1, f.2.1, f.2.2, m, _, rfl, hb11, by omega, x11 _ _ htb hft, hF f (List.mem_of_getElem? hf), by omega, by omega, fun H12 x12 hb12 => ?_⟩
      repeat (first | refine ⟨_, rfl, ?_⟩ | refine ⟨_, _, rfl, rfl, ?_⟩ | refine ⟨rfl, ?_⟩ | refine ⟨_, _, rfl, ?_⟩ | refine ⟨_, _, _, rfl, ?_⟩ | refine ⟨small_le (by simp), ?_⟩ | refine ⟨Or.inl ⟨by decide, by decide⟩, ?_⟩ | refine ⟨⟨by decide, by decide⟩, ?_⟩ | refine ⟨by show (0 : Int) < _; decide, ?_⟩)
      exact ⟨((x9.trans (SameX.of (b := b) s10)).trans x11).trans x12, hb12.le (by omega), _, rfl⟩
    · obtain ⟨x9, hb9, z, rfl⟩ := hp
      have hT9 := x9 _ _ hPb hT8
      repeat (first | refine ⟨_, rfl, ?_⟩ | refine ⟨_, _, rfl, rfl, ?_⟩ | refine ⟨rfl, ?_⟩ | refine ⟨_, _, rfl, ?_⟩ | refine ⟨_, _, _, rfl, ?_⟩ | refine ⟨small_le (by simp), ?_⟩ | refine ⟨Or.inl ⟨by decide, by decide⟩, ?_⟩ | refine ⟨⟨by decide, by decide⟩, ?_⟩ | refine ⟨by show (0 : Int) < _; decide, ?_⟩)
      refine ⟨b, l, 21, _, rfl, hb9, by simp [hlen], by decide, by decide, fun H10 v3 x10 hb10 hv3 => ?_⟩
      repeat (first | refine ⟨_, rfl, ?_⟩ | refine ⟨_, _, rfl, rfl, ?_⟩ | refine ⟨rfl, ?_⟩ | refine ⟨_, _, rfl, ?_⟩ | refine ⟨_, _, _, rfl, ?_⟩ | refine ⟨small_le (by simp), ?_⟩ | refine ⟨Or.inl ⟨by decide, by decide⟩, ?_⟩ | refine ⟨⟨by decide, by decide⟩, ?_⟩ | refine ⟨by show (0 : Int) < _; decide, ?_⟩)
      refine ⟨b, l, 2001, _, rfl, hb10, by simp [hlen], by decide, by decide, fun H11 v4 x11 hb11 hv4 => ?_⟩
      repeat (first | refine ⟨_, rfl, ?_⟩ | refine ⟨_, _, rfl, rfl, ?_⟩ | refine ⟨rfl, ?_⟩ | refine ⟨_, _, rfl, ?_⟩ | refine ⟨_, _, _, rfl, ?_⟩ | refine ⟨small_le (by simp), ?_⟩ | refine ⟨Or.inl ⟨by decide, by decide⟩, ?_⟩ | refine ⟨⟨by decide, by decide⟩, ?_⟩ | refine ⟨by show (0 : Int) < _; decide, ?_⟩)
      refine ⟨b, l, 5000, _, rfl, hb11, by simp [hlen], by decide, by decide, fun H12 v5 x12 hb12 hv5 => ?_⟩
      repeat (first | refine ⟨_, rfl, ?_⟩ | refine ⟨_, _, rfl, rfl, ?_⟩ | refine ⟨rfl, ?_⟩ | refine ⟨_, _, rfl, ?_⟩ | refine ⟨_, _, _, rfl, ?_⟩ | refine ⟨small_le (by simp), ?_⟩ | refine ⟨Or.inl ⟨by decide, by decide⟩, ?_⟩ | refine ⟨⟨by decide, by decide⟩, ?_⟩ | refine ⟨by show (0 : Int) < _; decide, ?_⟩)
      have p5 : (2 : Nat) ^ 5 = 32 := by decide
      have p10 : (2 : Nat) ^ 10 = 1024 := by decide
      have p14 : (2 : Nat) ^ 14 = 16384 := by decide
      have k3 : ((v3 : Int) - 10).natAbs ≤ 10 := by omega
      have k4 : ((v4 : Int) - 1000).natAbs ≤ 1000 := by omega
      have k34 := abs_mul_lt k3 k4
      have k33 := abs_mul_lt k3 k3
      have k44 := abs_mul_lt k4 k4
      have kd : (61 + (v5 : Int) + ((v3 : Int) - 10) * ((v4 : Int) - 1000)).natAbs ≤ 16000 := by omega
      have k3d := abs_mul_lt k3 kd
      have kdd := abs_mul_lt kd kd
      refine ⟨wide_mul (a := 5) (b := 10) (by omega) (by omega) (by decide) (by decide) (by decide), ?_⟩
      repeat (first | refine ⟨_, rfl, ?_⟩ | refine ⟨_, _, rfl, rfl, ?_⟩ | refine ⟨rfl, ?_⟩ | refine ⟨_, _, rfl, ?_⟩ | refine ⟨_, _, _, rfl, ?_⟩ | refine ⟨small_le (by simp), ?_⟩ | refine ⟨Or.inl ⟨by decide, by decide⟩, ?_⟩ | refine ⟨⟨by decide, by decide⟩, ?_⟩ | refine ⟨by show (0 : Int) < _; decide, ?_⟩)
      refine ⟨wide_mul (a := 5) (b := 5) (by omega) (by omega) (by decide) (by decide) (by decide), ?_⟩
      repeat (first | refine ⟨_, rfl, ?_⟩ | refine ⟨_, _, rfl, rfl, ?_⟩ | refine ⟨rfl, ?_⟩ | refine ⟨_, _, rfl, ?_⟩ | refine ⟨_, _, _, rfl, ?_⟩ | refine ⟨small_le (by simp), ?_⟩ | refine ⟨Or.inl ⟨by decide, by decide⟩, ?_⟩ | refine ⟨⟨by decide, by decide⟩, ?_⟩ | refine ⟨by show (0 : Int) < _; decide, ?_⟩)
      refine ⟨wide_mul (a := 5) (b := 14) (by omega) (by omega) (by decide) (by decide) (by decide), ?_⟩
      repeat (first | refine ⟨_, rfl, ?_⟩ | refine ⟨_, _, rfl, rfl, ?_⟩ | refine ⟨rfl, ?_⟩ | refine ⟨_, _, rfl, ?_⟩ | refine ⟨_, _, _, rfl, ?_⟩ | refine ⟨small_le (by simp), ?_⟩ | refine ⟨Or.inl ⟨by decide, by decide⟩, ?_⟩ | refine ⟨⟨by decide, by decide⟩, ?_⟩ | refine ⟨by show (0 : Int) < _; decide, ?_⟩)
      refine ⟨wide_mul (a := 10) (b := 10) (by omega) (by omega) (by decide) (by decide) (by decide), ?_⟩
      repeat (first | refine ⟨_, rfl, ?_⟩ | refine ⟨_, _, rfl, rfl, ?_⟩ | refine ⟨rfl, ?_⟩ | refine ⟨_, _, rfl, ?_⟩ | refine ⟨_, _, _, rfl, ?_⟩ | refine ⟨small_le (by simp), ?_⟩ | refine ⟨Or.inl ⟨by decide, by decide⟩, ?_⟩ | refine ⟨⟨by decide, by decide⟩, ?_⟩ | refine ⟨by show (0 : Int) < _; decide, ?_⟩)
      refine ⟨wide_mul (a := 14) (b := 14) (by omega) (by omega) (by decide) (by decide) (by decide), ?_⟩
      repeat (first | refine ⟨_, rfl, ?_⟩ | refine ⟨_, _, rfl, rfl, ?_⟩ | refine ⟨rfl, ?_⟩ | refine ⟨_, _, rfl, ?_⟩ | refine ⟨_, _, _, rfl, ?_⟩ | refine ⟨small_le (by simp), ?_⟩ | refine ⟨Or.inl ⟨by decide, by decide⟩, ?_⟩ | refine ⟨⟨by decide, by decide⟩, ?_⟩ | refine ⟨by show (0 : Int) < _; decide, ?_⟩)
      (intro t5 nt5; generalize hqZ : upd _ t5 _ = H13; have s13 := new_same hqZ nt5; have e13 := new_at hqZ; clear hqZ)
      have hT13 := s13 _ _ (x12 _ _ hPb (x11 _ _ hPb (x10 _ _ hPb hT9)))
      have hb13 := hb12.same s13
      have n5000 : (61 : Int) + (v5 : Int) = ((61 + v5 : Nat) : Int) := by omega
      have edt : (1 + ((v3 : Int) - 10) * ((v3 : Int) - 10)) * (((v4 : Int) - 1000) * ((v4 : Int) - 1000) + (61 + (v5 : Int) + ((v3 : Int) - 10) * ((v4 : Int) - 1000)) * (61 + (v5 : Int) + ((v3 : Int) - 10) * ((v4 : Int) - 1000))) -
          (((v4 : Int) - 1000) + ((v3 : Int) - 10) * (61 + (v5 : Int) + ((v3 : Int) - 10) * ((v4 : Int) - 1000))) * (((v4 : Int) - 1000) + ((v3 : Int) - 10) * (61 + (v5 : Int) + ((v3 : Int) - 10) * ((v4 : Int) - 1000))) = ((61 + v5 : Nat) : Int) * ((61 + v5 : Nat) : Int) := by
        rw [← n5000]
        grind
      have a0 : 0 < 1 + ((v3 : Int) - 10) * ((v3 : Int) - 10) := by
        have := sq_nonneg ((v3 : Int) - 10)
        omega
      have ea : ∀ {Hz : Hp}, Same H13 Hz → SqT K Hz t5 (vi [1 + ((v3 : Int) - 10) * ((v3 : Int) - 10), ((v4 : Int) - 1000) + ((v3 : Int) - 10) * (61 + (v5 : Int) + ((v3 : Int) - 10) * ((v4 : Int) - 1000)), ((v4 : Int) - 1000) * ((v4 : Int) - 1000) + (61 + (v5 : Int) + ((v3 : Int) - 10) * ((v4 : Int) - 1000)) * (61 + (v5 : Int) + ((v3 : Int) - 10) * ((v4 : Int) - 1000))]) := fun s => sqT (s _ _ e13)
      have p40 : (2 : Nat) ^ 40 = 1099511627776 := by decide
      have p60 : (2 : Nat) ^ 60 = 1152921504606846976 := by decide
      have kB : (((v4 : Int) - 1000) + ((v3 : Int) - 10) * (61 + (v5 : Int) + ((v3 : Int) - 10) * ((v4 : Int) - 1000))).natAbs < 2 ^ 40 := by omega
      have kC : (((v4 : Int) - 1000) * ((v4 : Int) - 1000) + (61 + (v5 : Int) + ((v3 : Int) - 10) * ((v4 : Int) - 1000)) * (61 + (v5 : Int) + ((v3 : Int) - 10) * ((v4 : Int) - 1000))).natAbs < 2 ^ 60 := by omega
      have kA : 1 + ((v3 : Int) - 10) * ((v3 : Int) - 10) ≤ 101 := by omega
      have fin : ∀ {Hz : Hp} {kz : Nat}, Bowl Hz b l kz → kz ≤ 1000 → Hz (He.cT K ("_law_edges_right", none)).2 = some (.tbl #[]) → spEdges K [.ref b] Hz Q E0 := fun hb hk hT => ⟨b, l, _, rfl, hb, by omega, hT, q⟩
      repeat (first | refine ⟨_, rfl, ?_⟩ | refine ⟨_, _, rfl, rfl, ?_⟩ | refine ⟨rfl, ?_⟩ | refine ⟨_, _, rfl, ?_⟩ | refine ⟨_, _, _, rfl, ?_⟩ | refine ⟨small_le (by simp), ?_⟩ | refine ⟨Or.inl ⟨by decide, by decide⟩, ?_⟩ | refine ⟨⟨by decide, by decide⟩, ?_⟩ | refine ⟨by show (0 : Int) < _; decide, ?_⟩)
      refine ⟨t5, _, 0, _, rfl, rfl, ea (Same.refl _), atI_nat (j := 0) rfl, ?_⟩
      repeat (first | refine ⟨_, rfl, ?_⟩ | refine ⟨_, _, rfl, rfl, ?_⟩ | refine ⟨rfl, ?_⟩ | refine ⟨_, _, rfl, ?_⟩ | refine ⟨_, _, _, rfl, ?_⟩ | refine ⟨small_le (by simp), ?_⟩ | refine ⟨Or.inl ⟨by decide, by decide⟩, ?_⟩ | refine ⟨⟨by decide, by decide⟩, ?_⟩ | refine ⟨by show (0 : Int) < _; decide, ?_⟩)
      refine ⟨t5, _, 1, _, rfl, rfl, ea (Same.refl _), atI_nat (j := 1) rfl, ?_⟩
      repeat (first | refine ⟨_, rfl, ?_⟩ | refine ⟨_, _, rfl, rfl, ?_⟩ | refine ⟨rfl, ?_⟩ | refine ⟨_, _, rfl, ?_⟩ | refine ⟨_, _, _, rfl, ?_⟩ | refine ⟨small_le (by simp), ?_⟩ | refine ⟨Or.inl ⟨by decide, by decide⟩, ?_⟩ | refine ⟨⟨by decide, by decide⟩, ?_⟩ | refine ⟨by show (0 : Int) < _; decide, ?_⟩)
      refine ⟨t5, _, 2, _, rfl, rfl, ea (Same.refl _), atI_nat (j := 2) rfl, ?_⟩
      repeat (first | refine ⟨_, rfl, ?_⟩ | refine ⟨_, _, rfl, rfl, ?_⟩ | refine ⟨rfl, ?_⟩ | refine ⟨_, _, rfl, ?_⟩ | refine ⟨_, _, _, rfl, ?_⟩ | refine ⟨small_le (by simp), ?_⟩ | refine ⟨Or.inl ⟨by decide, by decide⟩, ?_⟩ | refine ⟨⟨by decide, by decide⟩, ?_⟩ | refine ⟨by show (0 : Int) < _; decide, ?_⟩)
      refine eB (fun e5 => ?_) (fun e5 => ?_)
      · have hp3 := prim3_iff.mpr (Int.natCast_inj.mp (show ((_ : Nat) : Int) = ((1 : Nat) : Int) from e5))
        repeat (first | refine ⟨_, rfl, ?_⟩ | refine ⟨_, _, rfl, rfl, ?_⟩ | refine ⟨rfl, ?_⟩ | refine ⟨_, _, rfl, ?_⟩ | refine ⟨_, _, _, rfl, ?_⟩ | refine ⟨small_le (by simp), ?_⟩ | refine ⟨Or.inl ⟨by decide, by decide⟩, ?_⟩ | refine ⟨⟨by decide, by decide⟩, ?_⟩ | refine ⟨by show (0 : Int) < _; decide, ?_⟩)
        refine ⟨t5, _, _, _, 61 + v5, rfl, ea (Same.refl _), by omega, a0, kA, kB, kC, edt, hp3, fun H14 t6 A2 B2 C2 s14 nt6 et6 hF6 => ?_⟩
        repeat (first | refine ⟨_, rfl, ?_⟩ | refine ⟨_, _, rfl, rfl, ?_⟩ | refine ⟨rfl, ?_⟩ | refine ⟨_, _, rfl, ?_⟩ | refine ⟨_, _, _, rfl, ?_⟩ | refine ⟨small_le (by simp), ?_⟩ | refine ⟨Or.inl ⟨by decide, by decide⟩, ?_⟩ | refine ⟨⟨by decide, by decide⟩, ?_⟩ | refine ⟨by show (0 : Int) < _; decide, ?_⟩)
        have hb14 := hb13.same s14
        refine ⟨b, l, t6, A2, B2, C2, 61 + v5, _, by rw [← n5000], hb14, by simp [hlen], et6, hF6, by omega, by omega, fun H15 x15 hb15 => ?_⟩
        repeat (first | refine ⟨_, rfl, ?_⟩ | refine ⟨_, _, rfl, rfl, ?_⟩ | refine ⟨rfl, ?_⟩ | refine ⟨_, _, rfl, ?_⟩ | refine ⟨_, _, _, rfl, ?_⟩ | refine ⟨small_le (by simp), ?_⟩ | refine ⟨Or.inl ⟨by decide, by decide⟩, ?_⟩ | refine ⟨⟨by decide, by decide⟩, ?_⟩ | refine ⟨by show (0 : Int) < _; decide, ?_⟩)
        refine fin hb15 (by simp [hlen]) (x15 _ _ hPb (s14 _ _ hT13))
      · repeat (first | refine ⟨_, rfl, ?_⟩ | refine ⟨_, _, rfl, rfl, ?_⟩ | refine ⟨rfl, ?_⟩ | refine ⟨_, _, rfl, ?_⟩ | refine ⟨_, _, _, rfl, ?_⟩ | refine ⟨small_le (by simp), ?_⟩ | refine ⟨Or.inl ⟨by decide, by decide⟩, ?_⟩ | refine ⟨⟨by decide, by decide⟩, ?_⟩ | refine ⟨by show (0 : Int) < _; decide, ?_⟩)
        exact fin hb13 (by simp [hlen]) hT13
end
end Bh

/-! XG -/
set_option maxHeartbeats 0
namespace Bh
open PySem PySem.Spec PyProof.Rows L2 LamX
theorem law_at {w : World} {mg : Str → Option Value} {fa : Addr} {h : Heap} {K : PySem.W.Frag} (KX : K.In h) (G : h.Ns mainGlobals mg) (hmg : mg ("law" : Str) = some (.ref fa)) (c : SaysB h K) :
    LawAtS PySem.Challenge.rw_bendsigns_k60_whole_signs_by_the_rim w K CX0 16 63 "_law_script" mg fa h := by
  obtain ⟨c1, c2, c3, c4, c5⟩ := c
  have T : Tx K mg := ⟨c1, ⟨h, KX, G⟩, c2, c3, c4⟩
  obtain ⟨fd, F⟩ := T.f_law
  have e := hmg.symm.trans T.g_law
  cases e
  have b := FunD.bindsA (ps := ["_law_script"]) F fun _ _ _ _ _ _ us hl => match us, hl with | [_], _ => rfl
  have tm : (("_law_edges_right", none) : He.Defn) ∈ tfE := List.mem_cons_self
  refine ⟨fd, [He.cT K ("_law_edges_right", none)], spLaw K, fun p hp => ?_, fun p hp => ?_, fun p hp => ?_, fun s v => b s [v] rfl, fun H a ns _ _ hT hS => ⟨a, ns, rfl, hS, hT _ List.mem_cons_self, fun _ => rfl⟩, fun base _ _ hB => okf_law T (hB _ List.mem_cons_self) F⟩
  · rw [List.mem_singleton.mp hp]
    exact c5 _ tm
  · rw [List.mem_singleton.mp hp]
    exact (c4 _ tm).2
  · rw [List.mem_singleton.mp hp]
    exact PySem.W.codeHd_of_K KX (c4 _ tm).1
end Bh
open PySem PySem.W PySem.Calls PyProof.Rows
theorem PySem.Challenge.cw_bendsigns_k60_whole_signs_by_the_rim_holds : PySem.Challenge.rw_bendsigns_k60_whole_signs_by_the_rim.Holds := by
  w_on; o_law
  refine HandSHeadRun.head_imp (r := Bh.R) (q := PySem.W.view Bh.R.prog [0, 115]) (H := Bh.hk) (ob := Bh.ob) (M := 9000) (loose := Bh.loose.drop 2) (d := HandSHeadRun.topDef Bh.R.prog 115) (kwd := []) Bh.ob_eq Bh.run
    (by kernel_rfl) (by kernel_rfl) (by kernel_rfl) (by rfl) (by first | assumption | decide +kernel) (by decide +kernel) ⟨rfl, rfl, rfl, rfl, rfl, by decide +kernel⟩ ?hw ?hc
  case hw => w_witness2
  case hc =>
    refine LamX.walk_ofTsE (l := PySem.Challenge.rw_bendsigns_k60_whole_signs_by_the_rim) (n := 63) (k := 16) (x := "_law_script") (CX := fun _ => L2.CX0) rfl (by decide) (by kernel_rfl) ⟨rfl, by decide, by decide⟩ ?F (fun _ _ _ _ _ z => z)
    intro w mg fa h Y G hmg0
    obtain ⟨K, KX, c⟩ := Y
    have hmg : mg ("law" : PySem.Str) = some (.ref fa) := by
      have e : (HandSHeadRun.topDef Bh.R.prog 115).name = ("law" : PySem.Str) := by kernel_rfl
      rw [← e]
      exact hmg0
    exact ⟨K, KX, Bh.law_at KX G hmg c⟩
