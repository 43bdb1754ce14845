import PyProof.Rows.All
import Wide.All
import OpenK.AllK
import Wide.FinOn
import KE.KStateDown
import HandS.Base
import HandS.Call
import HandS.List
import HandS.Comp
import HandS.Ends
import HandS.Text
import HandS.More
import HandS.Codes
import HandS.Words
import HandS.WordsList
import HandS.CallLocal
import HandS.IsInst
import HandS.StrMore
import HandS.TupAny
import HandS.Deep
import HandS.FStr
import HandS.Iter
import HandS.Dict
import HandS.Walk
import HandS.Wide
import HandS.Defaults
import HandS.Evl
import KE.LtData
import HandS.Head0
import HandS.Head1
import HandS.Head2
import HandS.HeadEnd
import HandS.HeadHook1
import HandS.HeadHook2
import HandS.HeadHook3
import PySem.Challenge.RW_stylobate_k15_whole_kinds_are_kept
set_option Elab.async false
set_option linter.all false
set_option maxRecDepth 100000
set_option maxHeartbeats 4000000
namespace Y
open PySem PySem.Spec PyProof.Rows L2 Evl

/-! ### the text's facts -/
def top (i : Nat) : Stmt := PySem.Challenge.pw_stylobate_k15_whole_kinds_are_kept.main.body.getD i (.Pass ⟨0, 0, 0, 0⟩)
def dd (x : Str) (i : Nat) : He.DefD := ⟨(x, none), x, x, C8.fnArgs (top i), C8.fnBody (top i), C8.fnScope (top i), [], []⟩
def fnP0 : List He.DefD := [dd "is_integer" 1, dd "kind_rank" 2, dd "rank" 3, dd "same" 4, dd "before" 5, dd "is_day" 10, dd "is_leap" 11, dd "month_length" 12, dd "days_before" 13, dd "day_of" 14, dd "date_of" 15, dd "date_text" 16, dd "read_date" 17, dd "limited" 21, dd "rounded" 22, dd "quotient" 23, dd "decimal_text" 24, dd "digits_value" 25, dd "read_integer" 26, dd "read_decimal" 27, dd "pattern_items" 32, dd "is_like" 33, dd "pieces" 34, dd "exchanged" 35, dd "lowered" 36, dd "raised" 37, dd "constant_kind" 45, dd "unary_kind" 46, dd "binary_kind" 47, dd "choice_kind" 48]
def fnP1 : List He.DefD := [dd "kind_of" 49, dd "fits" 50, dd "as_date" 52, dd "year_of" 53, dd "month_of" 54, dd "day_of_month" 55, dd "weekday" 56, dd "month_start" 57, dd "year_start" 58, dd "week_start" 59, dd "date_to_text" 60, dd "text_to_date" 61, dd "days_added" 62, dd "months_added" 63, dd "negated" 65, dd "both" 66, dd "either" 67, dd "negate" 69, dd "without_sign" 70, dd "sign_of" 71, dd "as_decimal" 72, dd "to_decimal" 73, dd "to_int" 74, dd "int_to_text" 75, dd "decimal_to_text" 76, dd "text_to_int" 77, dd "text_to_decimal" 78, dd "are_integers" 79, dd "added" 80, dd "subtracted" 81]
def fnP2 : List He.DefD := [dd "multiplied" 82, dd "divided" 83, dd "rest" 84, dd "decimals_multiplied" 85, dd "decimals_divided" 86, dd "lower" 88, dd "upper" 89, dd "length" 90, dd "trim" 91, dd "are_texts" 92, dd "joined" 93, dd "like" 94, dd "position" 95, dd "part_of" 96, dd "split" 97, dd "replaced_in" 98, dd "pad" 99, dd "is_null" 101, dd "comparable" 102, dd "equal" 103, dd "less" 104, dd "at_most" 105, dd "least" 106, dd "greatest" 107, dd "coalesce" 108, dd "unary" 112, dd "binary" 113, dd "ternary" 114, dd "parts_of" 116, dd "with_parts" 117]
def fnP3 : List He.DefD := [dd "evaluate" 118, dd "is_constant" 119, dd "folded_operation" 120, dd "folded" 121, dd "_law_numbers" 123, dd "_law_is_integer" 124, dd "_law_rank" 125, dd "_law_text" 126, dd "_law_leaf" 127, dd "_law_kinded" 128, dd "_law_makers" 129, dd "_law_columns_of" 130, dd "_law_cell" 131, dd "_law_fits" 132, dd "_law_sound" 133, dd "law" 134]
def fn : List He.DefD := fnP0 ++ (fnP1 ++ (fnP2 ++ fnP3))
def faP0 : List He.Fa := [.glo "is_integer", .glo "kind_rank", .glo "rank", .glo "same", .glo "before", .glo "is_day", .glo "is_leap", .glo "month_length", .glo "days_before", .glo "day_of", .glo "date_of", .glo "date_text", .glo "read_date", .glo "limited", .glo "rounded", .glo "quotient", .glo "decimal_text", .glo "digits_value", .glo "read_integer", .glo "read_decimal", .glo "pattern_items", .glo "is_like", .glo "pieces", .glo "exchanged", .glo "lowered", .glo "raised", .glo "constant_kind", .glo "unary_kind", .glo "binary_kind", .glo "choice_kind"]
def faP1 : List He.Fa := [.glo "kind_of", .glo "fits", .glo "as_date", .glo "year_of", .glo "month_of", .glo "day_of_month", .glo "weekday", .glo "month_start", .glo "year_start", .glo "week_start", .glo "date_to_text", .glo "text_to_date", .glo "days_added", .glo "months_added", .glo "negated", .glo "both", .glo "either", .glo "negate", .glo "without_sign", .glo "sign_of", .glo "as_decimal", .glo "to_decimal", .glo "to_int", .glo "int_to_text", .glo "decimal_to_text", .glo "text_to_int", .glo "text_to_decimal", .glo "are_integers", .glo "added", .glo "subtracted"]
def faP2 : List He.Fa := [.glo "multiplied", .glo "divided", .glo "rest", .glo "decimals_multiplied", .glo "decimals_divided", .glo "lower", .glo "upper", .glo "length", .glo "trim", .glo "are_texts", .glo "joined", .glo "like", .glo "position", .glo "part_of", .glo "split", .glo "replaced_in", .glo "pad", .glo "is_null", .glo "comparable", .glo "equal", .glo "less", .glo "at_most", .glo "least", .glo "greatest", .glo "coalesce", .glo "unary", .glo "binary", .glo "ternary", .glo "parts_of", .glo "with_parts"]
def faP3 : List He.Fa := [.glo "evaluate", .glo "is_constant", .glo "folded_operation", .glo "folded", .glo "_law_numbers", .glo "_law_is_integer", .glo "_law_rank", .glo "_law_text", .glo "_law_leaf", .glo "_law_kinded", .glo "_law_makers", .glo "_law_columns_of", .glo "_law_cell", .glo "_law_fits", .glo "_law_sound", .glo "law"]
def faP4 : List He.Fa := [.int "FIRST_DAY" (-719162), .int "LAST_DAY" 2932896, .int "GREATEST" 1000000000000000, .int "ONE" 10000, .int "MOST" 10000, .str "SMALL" "abcdefghijklmnopqrstuvwxyz", .str "CAPITAL" "ABCDEFGHIJKLMNOPQRSTUVWXYZ", .glo "LENGTHS", .glo "UNARY_KINDS", .glo "BINARY_KINDS", .glo "TERNARY_KINDS", .glo "OPEN", .glo "UNARY_DEEDS", .glo "BINARY_DEEDS", .glo "TERNARY_DEEDS", .free "isinstance", .free "int", .free "bool", .free "str", .free "tuple", .free "list", .free "range", .free "len", .free "min", .free "max", .free "abs", .free "sum", .free "all"]
def fa : List He.Fa := faP0 ++ (faP1 ++ (faP2 ++ (faP3 ++ faP4)))
abbrev KRows : Type := List (Str × List (List Str))
def unaryRows : KRows := [("not", [["bool", "bool"]]),
  ("negate", [["int", "int"], ["decimal", "decimal"]]),
  ("abs", [["int", "int"], ["decimal", "decimal"]]),
  ("sign", [["int", "int"], ["decimal", "int"]]),
  ("lower", [["text", "text"]]),
  ("upper", [["text", "text"]]),
  ("trim", [["text", "text"]]),
  ("length", [["text", "int"]]),
  ("year", [["date", "int"]]),
  ("month", [["date", "int"]]),
  ("day", [["date", "int"]]),
  ("weekday", [["date", "int"]]),
  ("month start", [["date", "date"]]),
  ("year start", [["date", "date"]]),
  ("week start", [["date", "date"]]),
  ("as date", [["int", "date"]]),
  ("as decimal", [["int", "decimal"]]),
  ("to decimal", [["int", "decimal"]]),
  ("to int", [["decimal", "int"]]),
  ("int to text", [["int", "text"]]),
  ("date to text", [["date", "text"]]),
  ("decimal to text", [["decimal", "text"]]),
  ("text to int", [["text", "int"]]),
  ("text to date", [["text", "date"]]),
  ("text to decimal", [["text", "decimal"]])]
def binaryRows : KRows := [("and", [["bool", "bool", "bool"]]),
  ("or", [["bool", "bool", "bool"]]),
  ("add", [["int", "int", "int"], ["decimal", "decimal", "decimal"]]),
  ("rest", [["int", "int", "int"], ["decimal", "decimal", "decimal"]]),
  ("subtract", [["int", "int", "int"], ["decimal", "decimal", "decimal"], ["date", "date", "int"]]),
  ("multiply", [["int", "int", "int"]]),
  ("divide", [["int", "int", "int"]]),
  ("multiply decimals", [["decimal", "decimal", "decimal"]]),
  ("divide decimals", [["decimal", "decimal", "decimal"]]),
  ("join", [["text", "text", "text"]]),
  ("like", [["text", "text", "bool"]]),
  ("position", [["text", "text", "int"]]),
  ("add days", [["date", "int", "date"]]),
  ("add months", [["date", "int", "date"]])]
def ternaryRows : List (Str × List Str) := [("part", ["text", "int", "int"]), ("split", ["text", "text", "int"]), ("pad", ["text", "text", "int"]), ("replace", ["text", "text", "text"])]
def openNames : List Str := ["as date", "to decimal", "text to int", "text to date", "text to decimal", "add", "subtract", "rest", "multiply", "divide", "multiply decimals", "divide decimals", "join", "add days", "add months"]
def lengthsL : List Int := [31, 28, 31, 30, 31, 30, 31, 31, 30, 31, 30, 31]
def unaryDeeds : List (Str × Str) := [("not", "negated"), ("negate", "negate"), ("abs", "without_sign"), ("sign", "sign_of"), ("is null", "is_null"), ("lower", "lower"), ("upper", "upper"), ("length", "length"), ("trim", "trim"), ("year", "year_of"), ("month", "month_of"), ("day", "day_of_month"), ("weekday", "weekday"), ("month start", "month_start"), ("year start", "year_start"), ("week start", "week_start"), ("as date", "as_date"), ("as decimal", "as_decimal"), ("to decimal", "to_decimal"), ("to int", "to_int"), ("int to text", "int_to_text"), ("decimal to text", "decimal_to_text"), ("date to text", "date_to_text"), ("text to int", "text_to_int"), ("text to decimal", "text_to_decimal"), ("text to date", "text_to_date")]
def binaryDeeds : List (Str × Str) := [("and", "both"), ("or", "either"), ("equal", "equal"), ("less", "less"), ("at most", "at_most"), ("same", "same"), ("least", "least"), ("greatest", "greatest"), ("add", "added"), ("subtract", "subtracted"), ("multiply", "multiplied"), ("divide", "divided"), ("rest", "rest"), ("multiply decimals", "decimals_multiplied"), ("divide decimals", "decimals_divided"), ("join", "joined"), ("like", "like"), ("position", "position"), ("coalesce", "coalesce"), ("add days", "days_added"), ("add months", "months_added")]
def ternaryDeeds : List (Str × Str) := [("part", "part_of"), ("split", "split"), ("replace", "replaced_in"), ("pad", "pad")]

def ts : List He.Tab := [(fun K => He.ga K "UNARY_KINDS", unaryRows.map (·.1)), (fun K => He.ga K "BINARY_KINDS", binaryRows.map (·.1)), (fun K => He.ga K "TERNARY_KINDS", ternaryRows.map (·.1)),
  (fun K => He.ga K "UNARY_DEEDS", unaryDeeds.map (·.1)), (fun K => He.ga K "BINARY_DEEDS", binaryDeeds.map (·.1)), (fun K => He.ga K "TERNARY_DEEDS", ternaryDeeds.map (·.1))]
/-- a written tuple of texts -/
def strsB (K : PySem.W.Frag) (u : Value) (xs : List Str) : Bool := match u with
  | .ref a => (match K.lookup a with
    | some ⟨.type c, _, .seq its _, _⟩ => decide (c = "tuple") && (decide (its.size ≤ sizeLine) && He.relAll (xs.map V.str) its.toList)
    | _ => false)
  | _ => false
theorem strsB_ok {K : PySem.W.Frag} {u : Value} {xs : List Str} (h : strsB K u xs = true) : ∃ a, u = .ref a ∧ ∀ H, SqT K H a (xs.map V.str) := by
  cases u with
  | ref a =>
    have h1 : (match K.lookup a with
      | some ⟨.type c, _, .seq its _, _⟩ => decide (c = "tuple") && (decide (its.size ≤ sizeLine) && He.relAll (xs.map V.str) its.toList)
      | _ => false) = true := h
    cases q : K.lookup a with
    | none =>
      rw [q] at h1
      cases h1
    | some o =>
      obtain ⟨oc, od, dt, osl⟩ := o
      rw [q] at h1
      cases oc with
      | type c =>
        cases dt with
        | seq its n =>
          obtain ⟨h2, h3⟩ := He.ba (show (decide (c = "tuple") && (decide (its.size ≤ sizeLine) && He.relAll (xs.map V.str) its.toList)) = true from h1)
          obtain ⟨h4, h5⟩ := He.ba h3
          exact ⟨a, rfl, fun H => .inr ⟨_, its, n, q, congrArg Value.type (of_decide_eq_true h2), rfl, of_decide_eq_true h4, He.relAll_ok h5⟩⟩
        | _ => cases h1
      | _ => cases dt <;> cases h1
  | _ => cases h
def allB (K : PySem.W.Frag) : List Value → List (List Str) → Bool
  | [], [] => true
  | u :: us, x :: xs => strsB K u x && allB K us xs
  | _, _ => false
theorem allB_ok {K : PySem.W.Frag} : ∀ {us : List Value} {xss : List (List Str)}, allB K us xss = true → ∃ bs : List Addr, Vals (bs.map V.ref) us ∧ Paired (fun b xs => ∀ H, SqT K H b (xs.map V.str)) bs xss
  | [], [], _ => ⟨[], .nil, .nil⟩
  | [], _ :: _, h => by cases h
  | _ :: _, [], h => by cases h
  | u :: us, x :: xs, h => by
    obtain ⟨h1, h2⟩ := He.ba (show (strsB K u x && allB K us xs) = true from h)
    obtain ⟨a, rfl, ha⟩ := strsB_ok h1
    obtain ⟨bs, hb, hp⟩ := allB_ok h2
    exact ⟨a :: bs, .cons rfl hb, .cons ha hp⟩
/-- a written tuple of tuples of texts -/
def rowsB (K : PySem.W.Frag) (u : Value) (xss : List (List Str)) : Bool := match u with
  | .ref a => (match K.lookup a with
    | some ⟨.type c, _, .seq its _, _⟩ => decide (c = "tuple") && (decide (its.size ≤ sizeLine) && allB K its.toList xss)
    | _ => false)
  | _ => false
def RowsAt (K : PySem.W.Frag) (a : Addr) (xss : List (List Str)) : Prop := ∃ bs : List Addr, (∀ H, SqT K H a (bs.map V.ref)) ∧ Paired (fun b xs => ∀ H, SqT K H b (xs.map V.str)) bs xss
theorem rowsB_ok {K : PySem.W.Frag} {u : Value} {xss : List (List Str)} (h : rowsB K u xss = true) : ∃ a, u = .ref a ∧ RowsAt K a xss := by
  cases u with
  | ref a =>
    have h1 : (match K.lookup a with
      | some ⟨.type c, _, .seq its _, _⟩ => decide (c = "tuple") && (decide (its.size ≤ sizeLine) && allB K its.toList xss)
      | _ => false) = true := h
    cases q : K.lookup a with
    | none =>
      rw [q] at h1
      cases h1
    | some o =>
      obtain ⟨oc, od, dt, osl⟩ := o
      rw [q] at h1
      cases oc with
      | type c =>
        cases dt with
        | seq its n =>
          obtain ⟨h2, h3⟩ := He.ba (show (decide (c = "tuple") && (decide (its.size ≤ sizeLine) && allB K its.toList xss)) = true from h1)
          obtain ⟨h4, h5⟩ := He.ba h3
          obtain ⟨bs, hb, hp⟩ := allB_ok h5
          exact ⟨a, rfl, bs, fun H => .inr ⟨_, its, n, q, congrArg Value.type (of_decide_eq_true h2), rfl, of_decide_eq_true h4, hb⟩, hp⟩
        | _ => cases h1
      | _ => cases dt <;> cases h1
  | _ => cases h
def tabB (K : PySem.W.Frag) (x : Str) (rs : KRows) : Bool := rs.all fun q => match PySem.W.nsIn K (He.ga K x) q.1 with
  | some (some u) => rowsB K u q.2
  | _ => false
def terB (K : PySem.W.Frag) (x : Str) (rs : List (Str × List Str)) : Bool := rs.all fun q => match PySem.W.nsIn K (He.ga K x) q.1 with
  | some (some u) => strsB K u q.2
  | _ => false
def exB (K : PySem.W.Frag) : Bool := (PySem.W.nsOkIn K cStatics && decide (PySem.W.nsIn K cStatics "sys.int_max_str_digits" = some none)) && (He.tupB K "LENGTHS" (lengthsL.map He.Dv.int) && (He.tupB K "OPEN" (openNames.map He.Dv.str) && (tabB K "UNARY_KINDS" unaryRows && (tabB K "BINARY_KINDS" binaryRows && (terB K "TERNARY_KINDS" ternaryRows &&
  (He.valsB K (He.ga K "UNARY_DEEDS") (unaryDeeds.map fun q => (q.1, He.Dv.glo q.2)) && (He.valsB K (He.ga K "BINARY_DEEDS") (binaryDeeds.map fun q => (q.1, He.Dv.glo q.2)) && He.valsB K (He.ga K "TERNARY_DEEDS") (ternaryDeeds.map fun q => (q.1, He.Dv.glo q.2)))))))))
/-- what the walk knows of the written part -/
structure Tx (w : World) (K : PySem.W.Frag) (mg : Str → Option Value) : Prop where
  h : ∃ h : Heap, K.In h ∧ h.Ns mainGlobals mg
  says : He.SaysT fa fn ts w K
  more : exB K = true
section
variable {P : Program} {w : World} {K : PySem.W.Frag} {mg : Str → Option Value} {base : Heap}
theorem Tx.int_ (T : Tx w K mg) {j : Nat} {x : Str} {i : Int} (e : fa[j]? = some (.int x i)) : ∃ u, mg x = some u ∧ RelV (.int i) u := by
  obtain ⟨h, X, G⟩ := T.h
  obtain ⟨t, q⟩ := He.int_ok X G (T.says.d.fact j e)
  exact ⟨_, q, t, rfl⟩
theorem Tx.str_ (T : Tx w K mg) {j : Nat} {x z : Str} (e : fa[j]? = some (.str x z)) : ∃ u, mg x = some u ∧ RelV (.str z) u := by
  obtain ⟨h, X, G⟩ := T.h
  obtain ⟨t, q⟩ := He.str_ok X G (T.says.d.fact j e)
  exact ⟨_, q, t, rfl⟩
theorem Tx.glo_ (T : Tx w K mg) {j : Nat} {x : Str} (e : fa[j]? = some (.glo x)) : mg x = some (.ref (He.ga K x)) := by
  obtain ⟨h, X, G⟩ := T.h
  exact He.glo_ok X G (T.says.d.fact j e)
theorem Tx.ref_ (T : Tx w K mg) {j : Nat} {x : Str} (e : fa[j]? = some (.glo x)) : ∃ u, mg x = some u ∧ RelV (.ref (He.ga K x)) u := ⟨_, T.glo_ e, rfl⟩
theorem Tx.free_ (T : Tx w K mg) {j : Nat} {x : Str} (e : fa[j]? = some (.free x)) : mg x = none := by
  obtain ⟨h, X, G⟩ := T.h
  exact He.free_ok X G (T.says.d.fact j e)
theorem boot_isinstance : bootBuiltins "isinstance" = some (.builtin "isinstance") := by decide +kernel
theorem boot_int : bootBuiltins "int" = some (.type "int") := by decide +kernel
theorem boot_bool : bootBuiltins "bool" = some (.type "bool") := by decide +kernel
theorem boot_str : bootBuiltins "str" = some (.type "str") := by decide +kernel
theorem boot_tuple : bootBuiltins "tuple" = some (.type "tuple") := by decide +kernel
theorem boot_list : bootBuiltins "list" = some (.type "list") := by decide +kernel
theorem boot_len : bootBuiltins "len" = some (.builtin "len") := by decide +kernel
theorem boot_min : bootBuiltins "min" = some (.builtin "min") := by decide +kernel
theorem boot_max : bootBuiltins "max" = some (.builtin "max") := by decide +kernel
theorem boot_abs : bootBuiltins "abs" = some (.builtin "abs") := by decide +kernel
theorem boot_sum : bootBuiltins "sum" = some (.builtin "sum") := by decide +kernel
theorem boot_all : bootBuiltins "all" = some (.builtin "all") := by decide +kernel
/-- a def by its body -/
theorem mk_cal (T : Tx w K mg) {x : Str} {i j : Nat} {N ps : List Str} {k : Nat} {sp : Sp} (hd : fn[j]? = some (dd x i)) (hg : fa[j]? = some (.glo x)) (S : C8.scC N ps (C8.fnScope (top i)) = true)
    (hb : ∀ (kV doc pm : Value) (an : Option Addr) (cdv ct : Value) (us : List Value), us.length = ps.length → bindArgs (PySem.W.fnOf x x (C8.fnArgs (top i)) (C8.fnBody (top i)) (C8.fnScope (top i)) .none kV doc pm an cdv ct) ⟨us, []⟩ = pure (ps.zip us))
    (len : ∀ vs H Q E, sp vs H Q E → vs.length = ps.length)
    (hbody : ∀ (cdv : Value) (A : Around) (outer : List Env) (s : Shared) (H : Hp) (vs : List V) (Q : VK) (E : XK), N.Nodup → Room k (A.deeper (envOfC x (C8.fnScope (top i)) s.heap.objs.size (He.ga K x) cdv)) → sp vs H Q E →
      ∃ t, PSs (cxOf C8.CX0 P w K mg base N x (C8.fnScope (top i)) (He.ga K x) cdv A outer s H E).nox (C8.fnBody (top i)) t ∧ t { nx := fun _ H' => Q .non H', rt := Q } (start N vs) H) : C8.Cal P w K mg base (k + 1) x sp [] := by
  obtain ⟨fd, F⟩ := T.says.d.def_ j hd
  have F : FunD K x x (C8.fnArgs (top i)) (C8.fnBody (top i)) (C8.fnScope (top i)) [] [] (He.ga K x) fd := F
  have b : Binds K fd ps [] := F.bindsN hb
  obtain ⟨oc, od, dV, kV, doc, pm, an, cdv, ct, osl, e, lk, hcd, _, _⟩ := F.ex
  have Sc : FnScope N ps (C8.fnScope (top i)) := C8.fnScope_by S
  exact C8.cal0 (st := top i) ⟨⟨oc, od, dV, kV, doc, pm, an, cdv, ct, osl, e, lk, hcd⟩, T.glo_ hg, F.kp⟩ b .nil Sc len fun cdv A outer s H vs Q E hr h => hbody cdv A outer s H vs Q E Sc.nd hr h

theorem Tx.nodigits (T : Tx w K mg) {h : Heap} (X : K.In h) : h.NoDigits := by
  obtain ⟨h1, _⟩ := He.ba T.more
  obtain ⟨h2, h3⟩ := He.ba h1
  exact ⟨_, .of_isNs (PySem.W.isNs_of_in X h2), PySem.W.nsMap_none_of_in X h2 (of_decide_eq_true h3)⟩
theorem Tx.ex2 (T : Tx w K mg) : (He.tupB K "LENGTHS" (lengthsL.map He.Dv.int) && (He.tupB K "OPEN" (openNames.map He.Dv.str) && (tabB K "UNARY_KINDS" unaryRows && (tabB K "BINARY_KINDS" binaryRows && (terB K "TERNARY_KINDS" ternaryRows &&
  (He.valsB K (He.ga K "UNARY_DEEDS") (unaryDeeds.map fun q => (q.1, He.Dv.glo q.2)) && (He.valsB K (He.ga K "BINARY_DEEDS") (binaryDeeds.map fun q => (q.1, He.Dv.glo q.2)) && He.valsB K (He.ga K "TERNARY_DEEDS") (ternaryDeeds.map fun q => (q.1, He.Dv.glo q.2))))))))) = true := (He.ba T.more).2
theorem Tx.lengths (T : Tx w K mg) (H : Hp) : SqT K H (He.ga K "LENGTHS") (lengthsL.map V.int) := He.tupB_ok (He.ba T.ex2).1 H
theorem Tx.open_ (T : Tx w K mg) (H : Hp) : SqT K H (He.ga K "OPEN") (openNames.map V.str) := He.tupB_ok (He.ba (He.ba T.ex2).2).1 H
theorem Tx.unaryK (T : Tx w K mg) : tabB K "UNARY_KINDS" unaryRows = true := (He.ba (He.ba (He.ba T.ex2).2).2).1
theorem Tx.binaryK (T : Tx w K mg) : tabB K "BINARY_KINDS" binaryRows = true := (He.ba (He.ba (He.ba (He.ba T.ex2).2).2).2).1
theorem Tx.ternaryK (T : Tx w K mg) : terB K "TERNARY_KINDS" ternaryRows = true := (He.ba (He.ba (He.ba (He.ba (He.ba T.ex2).2).2).2).2).1
theorem Tx.unaryD (T : Tx w K mg) : He.valsB K (He.ga K "UNARY_DEEDS") (unaryDeeds.map fun q => (q.1, He.Dv.glo q.2)) = true := (He.ba (He.ba (He.ba (He.ba (He.ba (He.ba T.ex2).2).2).2).2).2).1
theorem Tx.binaryD (T : Tx w K mg) : He.valsB K (He.ga K "BINARY_DEEDS") (binaryDeeds.map fun q => (q.1, He.Dv.glo q.2)) = true := (He.ba (He.ba (He.ba (He.ba (He.ba (He.ba (He.ba T.ex2).2).2).2).2).2).2).1
theorem Tx.ternaryD (T : Tx w K mg) : He.valsB K (He.ga K "TERNARY_DEEDS") (ternaryDeeds.map fun q => (q.1, He.Dv.glo q.2)) = true := (He.ba (He.ba (He.ba (He.ba (He.ba (He.ba (He.ba T.ex2).2).2).2).2).2).2).2

theorem Tx.FIRST_DAY (T : Tx w K mg) : ∃ u, mg "FIRST_DAY" = some u ∧ RelV (.int (-719162)) u := T.int_ (j := 106) rfl
theorem Tx.LAST_DAY (T : Tx w K mg) : ∃ u, mg "LAST_DAY" = some u ∧ RelV (.int 2932896) u := T.int_ (j := 107) rfl
theorem Tx.GREATEST (T : Tx w K mg) : ∃ u, mg "GREATEST" = some u ∧ RelV (.int 1000000000000000) u := T.int_ (j := 108) rfl
theorem Tx.ONE (T : Tx w K mg) : ∃ u, mg "ONE" = some u ∧ RelV (.int 10000) u := T.int_ (j := 109) rfl
theorem Tx.MOST (T : Tx w K mg) : ∃ u, mg "MOST" = some u ∧ RelV (.int 10000) u := T.int_ (j := 110) rfl
theorem Tx.SMALL (T : Tx w K mg) : ∃ u, mg "SMALL" = some u ∧ RelV (.str "abcdefghijklmnopqrstuvwxyz") u := T.str_ (j := 111) rfl
theorem Tx.CAPITAL (T : Tx w K mg) : ∃ u, mg "CAPITAL" = some u ∧ RelV (.str "ABCDEFGHIJKLMNOPQRSTUVWXYZ") u := T.str_ (j := 112) rfl
theorem Tx.LENGTHS (T : Tx w K mg) : ∃ u, mg "LENGTHS" = some u ∧ RelV (.ref (He.ga K "LENGTHS")) u := T.ref_ (j := 113) rfl
theorem Tx.UNARY_KINDS (T : Tx w K mg) : ∃ u, mg "UNARY_KINDS" = some u ∧ RelV (.ref (He.ga K "UNARY_KINDS")) u := T.ref_ (j := 114) rfl
theorem Tx.BINARY_KINDS (T : Tx w K mg) : ∃ u, mg "BINARY_KINDS" = some u ∧ RelV (.ref (He.ga K "BINARY_KINDS")) u := T.ref_ (j := 115) rfl
theorem Tx.TERNARY_KINDS (T : Tx w K mg) : ∃ u, mg "TERNARY_KINDS" = some u ∧ RelV (.ref (He.ga K "TERNARY_KINDS")) u := T.ref_ (j := 116) rfl
theorem Tx.OPEN (T : Tx w K mg) : ∃ u, mg "OPEN" = some u ∧ RelV (.ref (He.ga K "OPEN")) u := T.ref_ (j := 117) rfl
theorem Tx.UNARY_DEEDS (T : Tx w K mg) : ∃ u, mg "UNARY_DEEDS" = some u ∧ RelV (.ref (He.ga K "UNARY_DEEDS")) u := T.ref_ (j := 118) rfl
theorem Tx.BINARY_DEEDS (T : Tx w K mg) : ∃ u, mg "BINARY_DEEDS" = some u ∧ RelV (.ref (He.ga K "BINARY_DEEDS")) u := T.ref_ (j := 119) rfl
theorem Tx.TERNARY_DEEDS (T : Tx w K mg) : ∃ u, mg "TERNARY_DEEDS" = some u ∧ RelV (.ref (He.ga K "TERNARY_DEEDS")) u := T.ref_ (j := 120) rfl
theorem Tx.m_isinstance (T : Tx w K mg) : mg "isinstance" = none := T.free_ (j := 121) rfl
theorem Tx.m_int (T : Tx w K mg) : mg "int" = none := T.free_ (j := 122) rfl
theorem Tx.m_bool (T : Tx w K mg) : mg "bool" = none := T.free_ (j := 123) rfl
theorem Tx.m_str (T : Tx w K mg) : mg "str" = none := T.free_ (j := 124) rfl
theorem Tx.m_tuple (T : Tx w K mg) : mg "tuple" = none := T.free_ (j := 125) rfl
theorem Tx.m_list (T : Tx w K mg) : mg "list" = none := T.free_ (j := 126) rfl
theorem Tx.m_range (T : Tx w K mg) : mg "range" = none := T.free_ (j := 127) rfl
theorem Tx.m_len (T : Tx w K mg) : mg "len" = none := T.free_ (j := 128) rfl
theorem Tx.m_min (T : Tx w K mg) : mg "min" = none := T.free_ (j := 129) rfl
theorem Tx.m_max (T : Tx w K mg) : mg "max" = none := T.free_ (j := 130) rfl
theorem Tx.m_abs (T : Tx w K mg) : mg "abs" = none := T.free_ (j := 131) rfl
theorem Tx.m_sum (T : Tx w K mg) : mg "sum" = none := T.free_ (j := 132) rfl
theorem Tx.m_all (T : Tx w K mg) : mg "all" = none := T.free_ (j := 133) rfl

end

section
variable {P : Program} {w : World} {K : PySem.W.Frag} {mg : Str → Option Value} {base : Heap}
/-! ### the head with facts -/
abbrev Rw : PySem.W.OpenRow := PySem.W.OpenLaw.row PySem.Challenge.rw_stylobate_k15_whole_kinds_are_kept
def lvls (g : Addr → Option Obj) : Nat → List Addr → List Addr
  | 0, as => as
  | n + 1, as => as ++ lvls g n (as.flatMap fun a => match g a with
    | some o => He.refsO o
    | none => [])
def obsY (g : Addr → Option Obj) : He.AlT × Bool := (He.obsT fa fn ts (He.frG g (cStatics :: lvls g 3 [mainGlobals])), exB (He.frG g (cStatics :: lvls g 3 [mainGlobals])))
def hkY : PySem.W.Hook where
  α := He.AlT × Bool
  obs := fun s => obsY s.heap.get?
  val := fun w => (He.valT fn ts w, true)
  says := fun w h => ∃ K : PySem.W.Frag, K.In h ∧ He.SaysT fa fn ts w K ∧ exB K = true
  of := fun _ _ e => ⟨_, He.frG_in, congrArg (fun z : He.AlT × Bool => z.1) e, congrArg (fun z : He.AlT × Bool => z.2) e⟩
  keeps := fun _ _ _ ⟨K, hK, c⟩ k => ⟨K, PySem.W.Frag.In.keeps hK k, c⟩
def obY (s : PySem.W.SharedT) : He.AlT × Bool := obsY (HandSHeadRun.getT s)
theorem obY_eq (s : PySem.W.SharedT) : obY s = hkY.obs s.abs := by
  have e : HandSHeadRun.getT s = s.abs.heap.get? := funext (HandSHeadRun.getT_eq s)
  show obsY (HandSHeadRun.getT s) = obsY s.abs.heap.get?
  rw [e]
def looseN0 : List Str := ["is_integer", "kind_rank", "rank", "same", "before", "FIRST_DAY", "LAST_DAY", "LENGTHS", "is_day", "is_leap", "month_length", "days_before", "day_of", "date_of", "date_text", "read_date", "GREATEST", "ONE", "limited", "rounded", "quotient", "decimal_text", "digits_value", "read_integer", "read_decimal", "MOST", "SMALL", "CAPITAL", "pattern_items", "is_like"]
def looseN1 : List Str := ["pieces", "exchanged", "lowered", "raised", "NUMBERS", "UNARY_KINDS", "SUMS", "BINARY_KINDS", "TERNARY_KINDS", "OPEN", "constant_kind", "unary_kind", "binary_kind", "choice_kind", "kind_of", "fits", "as_date", "year_of", "month_of", "day_of_month", "weekday", "month_start", "year_start", "week_start", "date_to_text", "text_to_date", "days_added", "months_added", "negated", "both"]
def looseN2 : List Str := ["either", "negate", "without_sign", "sign_of", "as_decimal", "to_decimal", "to_int", "int_to_text", "decimal_to_text", "text_to_int", "text_to_decimal", "are_integers", "added", "subtracted", "multiplied", "divided", "rest", "decimals_multiplied", "decimals_divided", "lower", "upper", "length", "trim", "are_texts", "joined", "like", "position", "part_of", "split", "replaced_in"]
def looseN3 : List Str := ["pad", "is_null", "comparable", "equal", "less", "at_most", "least", "greatest", "coalesce", "UNARY_DEEDS", "BINARY_DEEDS", "TERNARY_DEEDS", "unary", "binary", "ternary", "parts_of", "with_parts", "evaluate", "is_constant", "folded_operation", "folded", "_law_numbers", "_law_is_integer", "_law_rank", "_law_text", "_law_leaf", "_law_kinded", "_law_makers", "_law_columns_of", "_law_cell"]
def looseN4 : List Str := ["_law_fits", "_law_sound"]
def looseN : List Str := looseN0 ++ (looseN1 ++ (looseN2 ++ (looseN3 ++ (looseN4))))
theorem runF (w : World) : HandSHeadRun.RunEq Rw (PySem.W.view Rw.prog [134]) hkY obY 8000 looseN (w.withFollow "special-get-raises" false) := by
  intro os
  kernel_rfl
theorem runT (w : World) : HandSHeadRun.RunEq Rw (PySem.W.view Rw.prog [134]) hkY obY 8000 looseN (w.withFollow "special-get-raises" true) := by
  intro os
  kernel_rfl
theorem run (w : World) : HandSHeadRun.RunEq Rw (PySem.W.view Rw.prog [134]) hkY obY 8000 looseN w := PySem.W.byRow2 "special-get-raises" runF runT w

end

section
variable {P : Program} {w : World} {K : PySem.W.Frag} {mg : Str → Option Value} {base : Heap}
/-! ### promises by values -/
def spI (C : Int → Prop) (f : Int → V) : Sp := fun vs H Q _ => ∃ i, vs = [.int i] ∧ C i ∧ RetV (f i) H Q
def spII (C : Int → Int → Prop) (f : Int → Int → V) : Sp := fun vs H Q _ => ∃ i j, vs = [.int i, .int j] ∧ C i j ∧ RetV (f i j) H Q
def spIII (C : Int → Int → Int → Prop) (f : Int → Int → Int → V) : Sp := fun vs H Q _ => ∃ i j k, vs = [.int i, .int j, .int k] ∧ C i j k ∧ RetV (f i j k) H Q
def spV (C : V → Prop) (f : V → V) : Sp := fun vs H Q _ => ∃ a, vs = [a] ∧ C a ∧ RetV (f a) H Q
def spVV (C : V → V → Prop) (f : V → V → V) : Sp := fun vs H Q _ => ∃ a b, vs = [a, b] ∧ C a b ∧ RetV (f a b) H Q
def spVVV (C : V → V → V → Prop) (f : V → V → V → V) : Sp := fun vs H Q _ => ∃ a b c, vs = [a, b, c] ∧ C a b c ∧ RetV (f a b c) H Q
def spS (C : Str → Prop) (f : Str → V) : Sp := fun vs H Q _ => ∃ a, vs = [.str a] ∧ C a ∧ RetV (f a) H Q
def spSS (C : Str → Str → Prop) (f : Str → Str → V) : Sp := fun vs H Q _ => ∃ a b, vs = [.str a, .str b] ∧ C a b ∧ RetV (f a b) H Q
def spSSS (C : Str → Str → Str → Prop) (f : Str → Str → Str → V) : Sp := fun vs H Q _ => ∃ a b c, vs = [.str a, .str b, .str c] ∧ C a b c ∧ RetV (f a b c) H Q
section
variable {K : PySem.W.Frag} {σ : L2.St} {H H' : Hp} {ta tb te tx : TE} {t u : TT} {x y z v : V} {r : R2} {tA : TA} {E : XK} {dvs : List V}
theorem ec_I {C : Int → Prop} {f : Int → V} {i : Int} (h : EvA tA σ H [.int i]) (c : C i) : Ev (tCall (spI C f) [] E tA) σ H (f i) := ev_call h fun _ _ _ q _ => ⟨i, rfl, c, q⟩
theorem ec_II {C : Int → Int → Prop} {f : Int → Int → V} {i j : Int} (h : EvA tA σ H [.int i, .int j]) (c : C i j) : Ev (tCall (spII C f) [] E tA) σ H (f i j) := ev_call h fun _ _ _ q _ => ⟨i, j, rfl, c, q⟩
theorem ec_III {C : Int → Int → Int → Prop} {f : Int → Int → Int → V} {i j k : Int} (h : EvA tA σ H [.int i, .int j, .int k]) (c : C i j k) : Ev (tCall (spIII C f) [] E tA) σ H (f i j k) := ev_call h fun _ _ _ q _ => ⟨i, j, k, rfl, c, q⟩
theorem ec_V {C : V → Prop} {f : V → V} {a : V} (h : EvA tA σ H [a]) (c : C a) : Ev (tCall (spV C f) [] E tA) σ H (f a) := ev_call h fun _ _ _ q _ => ⟨a, rfl, c, q⟩
theorem ec_VV {C : V → V → Prop} {f : V → V → V} {a b : V} (h : EvA tA σ H [a, b]) (c : C a b) : Ev (tCall (spVV C f) [] E tA) σ H (f a b) := ev_call h fun _ _ _ q _ => ⟨a, b, rfl, c, q⟩
theorem ec_VVV {C : V → V → V → Prop} {f : V → V → V → V} {a b d : V} (h : EvA tA σ H [a, b, d]) (c : C a b d) : Ev (tCall (spVVV C f) [] E tA) σ H (f a b d) := ev_call h fun _ _ _ q _ => ⟨a, b, d, rfl, c, q⟩
theorem ec_S {C : Str → Prop} {f : Str → V} {a : Str} (h : EvA tA σ H [.str a]) (c : C a) : Ev (tCall (spS C f) [] E tA) σ H (f a) := ev_call h fun _ _ _ q _ => ⟨a, rfl, c, q⟩
theorem ec_SS {C : Str → Str → Prop} {f : Str → Str → V} {a b : Str} (h : EvA tA σ H [.str a, .str b]) (c : C a b) : Ev (tCall (spSS C f) [] E tA) σ H (f a b) := ev_call h fun _ _ _ q _ => ⟨a, b, rfl, c, q⟩
theorem ec_SSS {C : Str → Str → Str → Prop} {f : Str → Str → Str → V} {a b d : Str} (h : EvA tA σ H [.str a, .str b, .str d]) (c : C a b d) : Ev (tCall (spSSS C f) [] E tA) σ H (f a b d) := ev_call h fun _ _ _ q _ => ⟨a, b, d, rfl, c, q⟩
/-- the end of a way -/
theorem fin {Q : VK} {w : V} (k : RetV w H Q) (e : Ex H H') (h : v = w) : Q v H' := by
  rw [h]
  exact k H' e
/-! ### conditional expressions, tests whose answer is known -/
theorem ev_ifT (h : EvT t σ H true) (h1 : Ev ta σ H v) : Ev (tIf t ta tb) σ H v := ev_if h (fun _ => h1) fun z => nomatch z
theorem ev_ifF (h : EvT t σ H false) (h1 : Ev tb σ H v) : Ev (tIf t ta tb) σ H v := ev_if h (fun z => nomatch z) fun _ => h1
theorem ev_ifB {b : Bool} {v1 v2 : V} (h : EvT t σ H b) (h1 : b = true → Ev ta σ H v1) (h2 : b = false → Ev tb σ H v2) : Ev (tIf t ta tb) σ H (if b = true then v1 else v2) := ev_if h
  (fun z => by
    rw [if_pos z]
    exact h1 z)
  fun z => by
    rw [if_neg (by rw [z]; exact Bool.false_ne_true)]
    exact h2 z
theorem et_and1 (h1 : EvT t σ H true) {b : Bool} (h2 : EvT u σ H b) : EvT (tAnd t u) σ H b := et_is (et_and h1 fun _ => h2) (Bool.true_and b)
theorem et_and0 (h1 : EvT t σ H false) : EvT (tAnd t u) σ H false := et_is (et_and (b := false) h1 fun z => nomatch z) rfl
theorem et_or1 (h1 : EvT t σ H true) : EvT (tOr t u) σ H true := et_is (et_or (b := true) h1 fun z => nomatch z) rfl
theorem et_or0 (h1 : EvT t σ H false) {b : Bool} (h2 : EvT u σ H b) : EvT (tOr t u) σ H b := et_is (et_or h1 fun _ => h2) (Bool.false_or b)
theorem ev_and1 (h1 : Ev ta σ H (.bl true)) {b : Bool} (h2 : Ev tb σ H (.bl b)) : Ev (tAndV ta tb) σ H (.bl b) := ev_is (ev_andV h1 fun _ => h2) (congrArg V.bl (Bool.true_and b))
theorem ev_and0 (h1 : Ev ta σ H (.bl false)) : Ev (tAndV ta tb) σ H (.bl false) := ev_is (ev_andV (b := false) h1 fun z => nomatch z) rfl
theorem ev_or1 (h1 : Ev ta σ H (.bl true)) : Ev (tOrV ta tb) σ H (.bl true) := ev_is (ev_orV (b := true) h1 fun z => nomatch z) rfl
theorem ev_or0 (h1 : Ev ta σ H (.bl false)) {b : Bool} (h2 : Ev tb σ H (.bl b)) : Ev (tOrV ta tb) σ H (.bl b) := ev_is (ev_orV h1 fun _ => h2) (congrArg V.bl (Bool.false_or b))
theorem ev_chain {r' : R2} {k b : Bool} (ha : Ev ta σ H x) (hb : Ev tb σ H y) (hr : RV r x y H (.bl k)) (h2 : k = true → ∃ z, Ev tx σ H z ∧ RV r' y z H (.bl b)) : Ev (tChain r r' ta tb tx) σ H (.bl (k && b)) := fun H1 e Q q =>
  ha H1 e _ fun H2 e2 => hb H2 (e.trans e2) _ fun H3 e3 => hr H3 ((e.trans e2).trans e3) _ fun H4 e4 => ⟨k, rfl, by
    cases k with
    | true =>
      obtain ⟨z, hz, hr2⟩ := h2 rfl
      show tx σ H4 _
      exact hz H4 (((e.trans e2).trans e3).trans e4) _ fun H5 e5 => hr2 H5 ((((e.trans e2).trans e3).trans e4).trans e5) Q fun H6 e6 => q H6 ((((e2.trans e3).trans e4).trans e5).trans e6)
    | false =>
      show Q (.bl false) H4
      exact q H4 ((e2.trans e3).trans e4)⟩
theorem ev_chainI {r' : R2} {k b : Bool} (ha : Ev ta σ H x) (hb : Ev tb σ H y) (hc : Ev tx σ H z) (hr : RV r x y H (.bl k)) (h2 : RV r' y z H (.bl b)) : Ev (tChain r r' ta tb tx) σ H (.bl (k && b)) := ev_chain ha hb hr fun _ => ⟨z, hc, h2⟩
/-! ### operators -/
def rAddS0 : R2 := fun x y H Q => ∃ i j, x = .str i ∧ y = .str j ∧ i.length + j.length ≤ sizeLine ∧ Q (.str (i ++ j)) H
def rAddU : R2 := fun x y H Q => (rI0 fun i j => .int (i + j)) x y H Q ∨ rAddS0 x y H Q
def rSubI : R2 := rI0 fun i j => .int (i - j)
def rMulI : R2 := rI CMul fun i j => .int (i * j)
def rDivI : R2 := rI CDivW fun i j => .int (i / j)
def rModI : R2 := rI (fun _ j => 0 < j) fun i j => .int (i % j)
def rLtI : R2 := rI0 fun i j => .bl (decide (i < j))
def rLeI : R2 := rI0 fun i j => .bl (decide (i ≤ j))
def rGtI : R2 := rI0 fun i j => .bl (decide (j < i))
def rGeI : R2 := rI0 fun i j => .bl (decide (j ≤ i))
def rNegI : V → Hp → VK → Prop := rU fun i => .int (-i)
section
variable {X : Cx}
theorem o_add : OpR X (binaryOp .Add) rAddU := OpR.or op_add op_add_str
theorem o_sub : OpR X (binaryOp .Sub) rSubI := op_sub
theorem o_mul : OpR X (binaryOp .Mult) rMulI := op_mul
theorem o_div : OpR X (binaryOp .FloorDiv) rDivI := op_fdivW
theorem o_mod : OpR X (binaryOp .Mod) rModI := op_mod
theorem o_lt : OpR X (compareOp .Lt) rLtI := op_lt
theorem o_le : OpR X (compareOp .LtE) rLeI := op_le
theorem o_gt : OpR X (compareOp .Gt) rGtI := op_gt
theorem o_ge : OpR X (compareOp .GtE) rGeI := op_ge
theorem u_neg : UnR X (unaryOp .USub) rNegI := un_neg
/-- x is True | False, x None, a bool, an int or a text -/
def rIsU (neg : Bool) : R2 := fun x y H Q => ∃ b : Bool, y = .bl b ∧ (x = .non ∨ (∃ c, x = .bl c) ∨ (∃ i, x = .int i) ∨ ∃ s, x = .str s) ∧ Q (.bl (if neg then !decide (x = .bl b) else decide (x = .bl b))) H
theorem o_isU : OpR X (compareOp .Is) (rIsU false) := by
  intro pins s σ H x y v u Q I rx ry h
  obtain ⟨b, rfl, hx, q⟩ := h
  cases (show u = Value.bool b from ry)
  have q : Q (.bl (decide (x = .bl b))) H := q
  rcases hx with rfl | ⟨c, rfl⟩ | ⟨i, rfl⟩ | ⟨z, rfl⟩
  · cases (show v = Value.none from rx)
    exact wpAny_is_other rfl (fun z => nomatch z) ⟨.bl false, H, I, rfl, by simpa using q⟩
  · cases (show v = Value.bool c from rx)
    by_cases e : c = b
    · subst e
      exact wpAny_is_self rfl ⟨.bl true, H, I, rfl, by simpa using q⟩
    · exact wpAny_is_other rfl (fun z => e (Value.bool.inj z)) ⟨.bl false, H, I, rfl, by simpa [e] using q⟩
  · obtain ⟨t, rfl⟩ := rx
    exact wpAny_is_other rfl (fun z => nomatch z) ⟨.bl false, H, I, rfl, by simpa using q⟩
  · obtain ⟨t, rfl⟩ := rx
    exact wpAny_is_other rfl (fun z => nomatch z) ⟨.bl false, H, I, rfl, by simpa using q⟩
theorem o_isnU : OpR X (compareOp .IsNot) (rIsU true) := by
  intro pins s σ H x y v u Q I rx ry h
  obtain ⟨b, rfl, hx, q⟩ := h
  cases (show u = Value.bool b from ry)
  have q : Q (.bl (!decide (x = .bl b))) H := q
  rcases hx with rfl | ⟨c, rfl⟩ | ⟨i, rfl⟩ | ⟨z, rfl⟩
  · cases (show v = Value.none from rx)
    exact wpAny_isNot_other rfl (fun z => nomatch z) ⟨.bl true, H, I, rfl, by simpa using q⟩
  · cases (show v = Value.bool c from rx)
    by_cases e : c = b
    · subst e
      exact wpAny_isNot_self rfl ⟨.bl false, H, I, rfl, by simpa using q⟩
    · exact wpAny_isNot_other rfl (fun z => e (Value.bool.inj z)) ⟨.bl true, H, I, rfl, by simpa [e] using q⟩
  · obtain ⟨t, rfl⟩ := rx
    exact wpAny_isNot_other rfl (fun z => nomatch z) ⟨.bl true, H, I, rfl, by simpa using q⟩
  · obtain ⟨t, rfl⟩ := rx
    exact wpAny_isNot_other rfl (fun z => nomatch z) ⟨.bl true, H, I, rfl, by simpa using q⟩
def rIsN : R2 := fun x y H Q => y = .non ∧ Q (.bl (decide (x = .non))) H
def rNotN : R2 := fun x y H Q => y = .non ∧ Q (.bl (!decide (x = .non))) H
theorem o_isN : OpR X (compareOp .Is) rIsN := op_isN
theorem o_notN : OpR X (compareOp .IsNot) rNotN := op_notN
end
theorem rv_addI {i j : Int} : RV rAddU (.int i) (.int j) H (.int (i + j)) := fun H1 _ _ q => .inl ⟨i, j, rfl, rfl, q H1 (Ex.refl H1)⟩
theorem rv_addS {i j : Str} (h : i.length + j.length ≤ 100000) : RV rAddU (.str i) (.str j) H (.str (i ++ j)) := fun H1 _ _ q => .inr ⟨i, j, rfl, rfl, sz_of h, q H1 (Ex.refl H1)⟩
theorem rv_subI {i j : Int} : RV rSubI (.int i) (.int j) H (.int (i - j)) := fun H1 _ _ q => ⟨i, j, rfl, rfl, q H1 (Ex.refl H1)⟩
theorem rv_mulL {i j : Int} (h1 : -18446744073709551616 < i) (h2 : i < 18446744073709551616) : RV rMulI (.int i) (.int j) H (.int (i * j)) := fun H1 _ _ q => ⟨i, j, rfl, rfl, .inl ⟨h1, h2⟩, q H1 (Ex.refl H1)⟩
theorem rv_mulR {i j : Int} (h1 : -18446744073709551616 < j) (h2 : j < 18446744073709551616) : RV rMulI (.int i) (.int j) H (.int (i * j)) := fun H1 _ _ q => ⟨i, j, rfl, rfl, .inr ⟨h1, h2⟩, q H1 (Ex.refl H1)⟩
theorem rv_divI {i j : Int} (h1 : 0 < j) (h2 : j < 1267650600228229401496703205376) : RV rDivI (.int i) (.int j) H (.int (i / j)) := fun H1 _ _ q => ⟨i, j, rfl, rfl, wide_div (b := 100) h1 (by omega) (by decide) (by decide), q H1 (Ex.refl H1)⟩
theorem rv_modI {i j : Int} (h1 : 0 < j) : RV rModI (.int i) (.int j) H (.int (i % j)) := fun H1 _ _ q => ⟨i, j, rfl, rfl, h1, q H1 (Ex.refl H1)⟩
theorem rv_ltI {i j : Int} : RV rLtI (.int i) (.int j) H (.bl (decide (i < j))) := fun H1 _ _ q => ⟨i, j, rfl, rfl, q H1 (Ex.refl H1)⟩
theorem rv_leI {i j : Int} : RV rLeI (.int i) (.int j) H (.bl (decide (i ≤ j))) := fun H1 _ _ q => ⟨i, j, rfl, rfl, q H1 (Ex.refl H1)⟩
theorem rv_gtI {i j : Int} : RV rGtI (.int i) (.int j) H (.bl (decide (j < i))) := fun H1 _ _ q => ⟨i, j, rfl, rfl, q H1 (Ex.refl H1)⟩
theorem rv_geI {i j : Int} : RV rGeI (.int i) (.int j) H (.bl (decide (j ≤ i))) := fun H1 _ _ q => ⟨i, j, rfl, rfl, q H1 (Ex.refl H1)⟩
theorem ru_negI {i : Int} : RU rNegI (.int i) H (.int (-i)) := fun H1 _ _ q => ⟨i, rfl, q H1 (Ex.refl H1)⟩
theorem rv_isN1 : RV rIsN .non .non H (.bl true) := fun H1 _ _ q => ⟨rfl, q H1 (Ex.refl H1)⟩
theorem rv_isN0 (h : decide (x = .non) = false) : RV rIsN x .non H (.bl false) := fun H1 _ _ q => ⟨rfl, by rw [h]; exact q H1 (Ex.refl H1)⟩
theorem rv_notN1 : RV rNotN .non .non H (.bl false) := fun H1 _ _ q => ⟨rfl, q H1 (Ex.refl H1)⟩
theorem rv_notN0 (h : decide (x = .non) = false) : RV rNotN x .non H (.bl true) := fun H1 _ _ q => ⟨rfl, by rw [h]; exact q H1 (Ex.refl H1)⟩
theorem rv_isBB {a b : Bool} : RV (rIsU false) (.bl a) (.bl b) H (.bl (decide (a = b))) := fun H1 _ Q q => ⟨b, rfl, .inr (.inl ⟨a, rfl⟩), by
  have e : decide (V.bl a = V.bl b) = decide (a = b) := by simp
  show Q (.bl (decide (V.bl a = V.bl b))) H1
  rw [e]
  exact q H1 (Ex.refl H1)⟩
theorem rv_isNB {b : Bool} : RV (rIsU false) .non (.bl b) H (.bl false) := fun H1 _ _ q => ⟨b, rfl, .inl rfl, q H1 (Ex.refl H1)⟩
theorem rv_isIB {i : Int} {b : Bool} : RV (rIsU false) (.int i) (.bl b) H (.bl false) := fun H1 _ _ q => ⟨b, rfl, .inr (.inr (.inl ⟨i, rfl⟩)), q H1 (Ex.refl H1)⟩
theorem rv_isSB {i : Str} {b : Bool} : RV (rIsU false) (.str i) (.bl b) H (.bl false) := fun H1 _ _ q => ⟨b, rfl, .inr (.inr (.inr ⟨i, rfl⟩)), q H1 (Ex.refl H1)⟩
theorem rv_isnBB {a b : Bool} : RV (rIsU true) (.bl a) (.bl b) H (.bl (!decide (a = b))) := fun H1 _ Q q => ⟨b, rfl, .inr (.inl ⟨a, rfl⟩), by
  have e : decide (V.bl a = V.bl b) = decide (a = b) := by simp
  show Q (.bl (!decide (V.bl a = V.bl b))) H1
  rw [e]
  exact q H1 (Ex.refl H1)⟩
theorem rv_eqII {i j : Int} : RV rEq (.int i) (.int j) H (.bl (decide (i = j))) := fun H1 _ _ q => ⟨rfl, by
  have e : decide (V.int i = V.int j) = decide (i = j) := by simp
  rw [e]
  exact q H1 (Ex.refl H1)⟩
theorem rv_eqSS {i j : Str} : RV rEq (.str i) (.str j) H (.bl (decide (i = j))) := fun H1 _ _ q => ⟨rfl, by
  have e : decide (V.str i = V.str j) = decide (i = j) := by simp
  rw [e]
  exact q H1 (Ex.refl H1)⟩
theorem rv_eqBB {i j : Bool} : RV rEq (.bl i) (.bl j) H (.bl (decide (i = j))) := fun H1 _ _ q => ⟨rfl, by
  have e : decide (V.bl i = V.bl j) = decide (i = j) := by simp
  rw [e]
  exact q H1 (Ex.refl H1)⟩
theorem rv_neII {i j : Int} : RV rNe (.int i) (.int j) H (.bl (!decide (i = j))) := fun H1 _ _ q => ⟨rfl, by
  have e : decide (V.int i = V.int j) = decide (i = j) := by simp
  rw [e]
  exact q H1 (Ex.refl H1)⟩
theorem rv_neSS {i j : Str} : RV rNe (.str i) (.str j) H (.bl (!decide (i = j))) := fun H1 _ _ q => ⟨rfl, by
  have e : decide (V.str i = V.str j) = decide (i = j) := by simp
  rw [e]
  exact q H1 (Ex.refl H1)⟩
theorem rv_neBB {i j : Bool} : RV rNe (.bl i) (.bl j) H (.bl (!decide (i = j))) := fun H1 _ _ q => ⟨rfl, by
  have e : decide (V.bl i = V.bl j) = decide (i = j) := by simp
  rw [e]
  exact q H1 (Ex.refl H1)⟩
/-! ### subscripts -/
theorem rv_ixuL {p : Addr} {xs : List V} {i : Int} (h : SqL K H p xs) (ha : atI xs i = some v) : RV (rIx K) (.ref p) (.int i) H v := fun H1 e _ q => .inl ⟨p, xs, i, v, rfl, rfl, ex_l e h, ha, q H1 (Ex.refl H1)⟩
theorem rv_ixuT {p : Addr} {xs : List V} {i : Int} (h : SqT K H p xs) (ha : atI xs i = some v) : RV (rIx K) (.ref p) (.int i) H v := fun H1 e _ q => .inr (.inl ⟨p, xs, i, v, rfl, rfl, ex_t e h, ha, q H1 (Ex.refl H1)⟩)
theorem rv_ixuS {z : Str} {i : Int} {c : Nat} (h : z.length ≤ 100000) (ha : atI z.cps.toList i = some c) : RV (rIx K) (.str z) (.int i) H (.str ⟨#[c]⟩) := fun H1 _ _ q => .inr (.inr ⟨z, i, c, rfl, rfl, sz_of h, ha, q H1 (Ex.refl H1)⟩)
/-! ### built-in calls -/
def rLenU (K : PySem.W.Frag) : List V → Hp → VK → Prop := fun xs H Q => (∃ p ys, xs = [.ref p] ∧ (SqL K H p ys ∨ SqT K H p ys) ∧ Q (.int ys.length) H) ∨ ∃ z, xs = [.str z] ∧ z.length ≤ sizeLine ∧ Q (.int z.length) H
def rAbsI : List V → Hp → VK → Prop := fun xs H Q => ∃ i, xs = [.int i] ∧ Q (.int (if i < 0 then -i else i)) H
def rMaxI : List V → Hp → VK → Prop := fun xs H Q => ∃ i j, xs = [.int i, .int j] ∧ Q (.int (if j > i then j else i)) H
def rMinI : List V → Hp → VK → Prop := fun xs H Q => ∃ i j, xs = [.int i, .int j] ∧ Q (.int (if j < i then j else i)) H
def rInt1 : List V → Hp → VK → Prop := fun xs H Q => (∃ i, xs = [.int i] ∧ Q (.int i) H) ∨ ∃ k, xs = [.bl k] ∧ Q (.int (if k then 1 else 0)) H
def rIntT : List V → Hp → VK → Prop := fun xs H Q => ∃ a n, xs = [.str a] ∧ PySem.intText? a = some n ∧ a.length ≤ 640 ∧ Q (.int n) H
def rIntU : List V → Hp → VK → Prop := fun xs H Q => rInt1 xs H Q ∨ rIntT xs H Q
def rStrI : List V → Hp → VK → Prop := fun xs H Q => ∃ i, xs = [.int i] ∧ i.natAbs.log2 < 1920 ∧ Q (.str (toString i)) H
section
variable {X : Cx}
theorem b_len : CallR X (.builtin "len") (rLenU X.K) := CallR.or call_len_seq call_len_str
theorem b_abs : CallR X (.builtin "abs") rAbsI := call_abs
theorem b_max (hc : X.calm = true) : CallR X (.builtin "max") rMaxI := call_max2 hc
theorem b_min (hc : X.calm = true) : CallR X (.builtin "min") rMinI := call_min2 hc
theorem b_int : CallR X (.type "int") rIntU := CallR.or call_int1 call_int_str
theorem b_str : CallR X (.type "str") rStrI := call_str_int
end
theorem rc_lenL {p : Addr} {xs : List V} (h : SqL K H p xs) : RC (rLenU K) [.ref p] H (.int xs.length) := fun H1 e _ q => .inl ⟨p, xs, rfl, .inl (ex_l e h), q H1 (Ex.refl H1)⟩
theorem rc_lenT {p : Addr} {xs : List V} (h : SqT K H p xs) : RC (rLenU K) [.ref p] H (.int xs.length) := fun H1 e _ q => .inl ⟨p, xs, rfl, .inr (ex_t e h), q H1 (Ex.refl H1)⟩
theorem rc_lenS {z : Str} (h : z.length ≤ 100000) : RC (rLenU K) [.str z] H (.int z.length) := fun H1 _ _ q => .inr ⟨z, rfl, sz_of h, q H1 (Ex.refl H1)⟩
theorem rc_abs {i : Int} : RC rAbsI [.int i] H (.int (if i < 0 then -i else i)) := fun H1 _ _ q => ⟨i, rfl, q H1 (Ex.refl H1)⟩
theorem rc_max {i j : Int} : RC rMaxI [.int i, .int j] H (.int (if j > i then j else i)) := fun H1 _ _ q => ⟨i, j, rfl, q H1 (Ex.refl H1)⟩
theorem rc_min {i j : Int} : RC rMinI [.int i, .int j] H (.int (if j < i then j else i)) := fun H1 _ _ q => ⟨i, j, rfl, q H1 (Ex.refl H1)⟩
theorem rc_intI {i : Int} : RC rIntU [.int i] H (.int i) := fun H1 _ _ q => .inl (.inl ⟨i, rfl, q H1 (Ex.refl H1)⟩)
theorem rc_intB {k : Bool} : RC rIntU [.bl k] H (.int (if k then 1 else 0)) := fun H1 _ _ q => .inl (.inr ⟨k, rfl, q H1 (Ex.refl H1)⟩)
theorem rc_intS {a : Str} {n : Int} (h : PySem.intText? a = some n) (hl : a.length ≤ 640) : RC rIntU [.str a] H (.int n) := fun H1 _ _ q => .inr ⟨a, n, rfl, h, hl, q H1 (Ex.refl H1)⟩
theorem rc_str {i : Int} (h : i.natAbs.log2 < 1920) : RC rStrI [.int i] H (.str (toString i)) := fun H1 _ _ q => ⟨i, rfl, h, q H1 (Ex.refl H1)⟩
/-! ### isinstance -/
theorem kb_nb : kitB "NoneType" "bool" = some false := by decide +kernel
theorem kb_ni : kitB "NoneType" "int" = some false := by decide +kernel
theorem kb_ns : kitB "NoneType" "str" = some false := by decide +kernel
theorem kb_bb : kitB "bool" "bool" = some true := by decide +kernel
theorem kb_bi : kitB "bool" "int" = some true := by decide +kernel
theorem kb_bs : kitB "bool" "str" = some false := by decide +kernel
theorem kb_ib : kitB "int" "bool" = some false := by decide +kernel
theorem kb_ii : kitB "int" "int" = some true := by decide +kernel
theorem kb_is : kitB "int" "str" = some false := by decide +kernel
theorem kb_sb : kitB "str" "bool" = some false := by decide +kernel
theorem kb_si : kitB "str" "int" = some false := by decide +kernel
theorem kb_ss : kitB "str" "str" = some true := by decide +kernel
theorem kb_tt : kitB "tuple" "tuple" = some true := by decide +kernel
theorem rc_isi {a b : String} {k : Bool} (h : kitB a b = some k) (ty : ∀ H, TyX K H x (.type a)) : RC (rIsi K) [x, .ty b] H (.bl k) := fun H1 _ _ q => ⟨x, .ty b, .type a, .type b, k, rfl, .ty b, ty H1, kit_ty h, q H1 (Ex.refl H1)⟩
theorem tx_non (H : Hp) : TyX K H .non (.type "NoneType") := .base .non
theorem tx_bl (b : Bool) (H : Hp) : TyX K H (.bl b) (.type "bool") := .base (.bl b)
theorem tx_int (i : Int) (H : Hp) : TyX K H (.int i) (.type "int") := .base (.int i)
theorem tx_str (z : Str) (H : Hp) : TyX K H (.str z) (.type "str") := .base (.str z)
end

end

section
variable {P : Program} {w : World} {K : PySem.W.Frag} {mg : Str → Option Value} {base : Heap}
/-! ### tuples made, taken apart; format -/
section
variable {K : PySem.W.Frag} {σ : L2.St} {H H' : Hp} {ta tb te tx : TE} {t u : TT} {x y z v : V} {r : R2} {tA : TA} {E : XK} {D : Ends} {tz : TS}
theorem ev_opU1 {xs : List V} (ha : EvU ta σ H xs) (hb : Ev tb σ H y) (hr : ∀ p H1, SqT K H1 p xs → Ex H H1 → RV r (.ref p) y H1 z) : Ev (tOp r ta tb) σ H z := fun H1 e Q q =>
  ha H1 e _ fun p H2 _ e2 hp => hb H2 (e.trans e2) _ fun H3 e3 => hr p H3 (st_of (e3 p _ hp)) ((e.trans e2).trans e3) H3 (Ex.refl H3) Q fun H4 e4 => q H4 ((e2.trans e3).trans e4)
theorem ev_ixU1 {xs : List V} {i : Int} (ha : EvU ta σ H xs) (hb : Ev tb σ H (.int i)) (hi : atI xs i = some v) : Ev (tOp (rIx K) ta tb) σ H v := ev_opU1 ha hb fun _ _ h _ => rv_ixuT h hi
theorem ev_ixL1 {xs : List V} {i : Int} (ha : EvL ta σ H xs) (hb : Ev tb σ H (.int i)) (hi : atI xs i = some v) : Ev (tOp (rIx K) ta tb) σ H v := ev_opL1 ha (fun H1 e => hb.mono e) fun _ _ h _ => rv_ixuL (sq_of h) hi
theorem q_unp3 {i j l : Nat} {a b c : V} (h : EvU te σ H [a, b, c]) (k : ∀ H1, Ex H H1 → tz D (((σ.set i (some a)).set j (some b)).set l (some c)) H1) : tSeq (tAsg te (gTup K 3 (gCons (gName i) (gCons (gName j) (gCons (gName l) gNil))))) tz D σ H :=
  h H (Ex.refl H) _ fun p H1 _ e hp => ⟨p, [a, b, c], rfl, st_of hp, rfl, a, [b, c], rfl, b, [c], rfl, c, [], rfl, rfl, k H1 e⟩
/-- a promise: a new tuple -/
def SpU (sp : Sp) (vs : List V) (H : Hp) (xs : List V) : Prop := ∀ H1, Ex H H1 → ∀ Q : VK, (∀ p H2, H1 p = none → Ex H1 H2 → H2 p = some (.tup xs) → Q (.ref p) H2) → ∀ E : XK, sp vs H1 Q E
theorem eu_call {sp : Sp} {dvs vs xs : List V} (h : EvA tA σ H vs) (hs : SpU sp (vs ++ dvs) H xs) : EvU (tCall sp dvs E tA) σ H xs := fun H1 e Q q =>
  h H1 e _ fun H2 e2 => hs H2 (e.trans e2) Q (fun p H3 hp e3 h3 => q p H3 (fresh_back e2 hp) (e2.trans e3) h3) E
def RetU (xs : List V) (H : Hp) (Q : VK) : Prop := ∀ p H2, H p = none → Ex H H2 → H2 p = some (.tup xs) → Q (.ref p) H2
theorem RetU.go {xs : List V} {Q : VK} (k : RetU xs H Q) (e : Ex H H') {p : Addr} {H2 : Hp} (hp : H' p = none) (e2 : Ex H' H2) (h : H2 p = some (.tup xs)) : Q (.ref p) H2 := k p H2 (fresh_back e hp) (e.trans e2) h
end
/-! ### {i:04d} -/
def zpad (w : Nat) (i : Int) : Str := ⟨(List.replicate (w - (Nat.toDigits 10 i.natAbs).length) 48).toArray⟩ ++ Str.ofString (toString i)
def tFmtZ (w : Nat) (te : TE) : TE := fun σ H Q => te σ H fun x H1 => ∃ i, x = .int i ∧ 0 ≤ i ∧ i < 1000000000000000 ∧ Q (.str (zpad w i)) H1
theorem pe_fmtZ {X : Cx} (T : Tx X.w X.K X.mg) {e : Expr} {te : TE} {pos p1 p2 : Pos} {k : Nat} {sp : Str} {wd : Nat} (hok : intSpecOk sp = true) (hw : intSpecWidthOf sp = wd) (hz : intSpecZeroOf sp = true) (hs : sp.length ≤ 100) (he : PE X e te) :
    PE X (.FormattedValue e (-1) (some (.JoinedStr [.Constant (.str sp) k p1] p2)) pos) (tFmtZ wd te) := by
  refine ⟨fun pins s σ H Q I h => ?_⟩
  refine wpAny_FormattedValue_spec (thn (he.run pins s σ H _ I h) fun v s1 hv => ?_)
  obtain ⟨x, H1, I1, r1, i, rfl, h0, h1, q⟩ := hv
  obtain ⟨t, rfl⟩ := r1
  refine thn ((pe_joined1 (pos := p2) (pe_str (x := sp) (j := k) (pos := p1))).run pins s1 σ H1 (fun y H2 => y = .str sp ∧ Q (.str (zpad wd i)) H2) I1 ⟨rfl, q⟩) fun r s2 hr => ?_
  obtain ⟨y, H2, I2, ry, rfl, q2⟩ := hr
  obtain ⟨t2, rfl⟩ := ry
  refine ⟨sp, t2, rfl, formatField_int_specOf (T.nodigits I2.kIn) (lt_digitLimit_of_lt (by omega)) hok (fun W eW F => ?_) (sz_of (by omega))⟩
  have e := F.zeroG hz h0
  rw [eW, hw] at e
  rw [e]
  exact ⟨.str (zpad wd i), H2, (I2.tok _).tok _, ⟨_, rfl⟩, q2⟩
section
variable {σ : L2.St} {H : Hp} {te : TE}
theorem ev_fmtZ {wd : Nat} {i : Int} (h : Ev te σ H (.int i)) (h0 : 0 ≤ i) (h1 : i < 1000000000000000) : Ev (tFmtZ wd te) σ H (.str (zpad wd i)) := fun H1 e _ q =>
  h H1 e _ fun H2 e2 => ⟨i, rfl, h0, h1, q H2 e2⟩
def tJoin (ts : List TE) : TE := fun σ H Q => tJs ts Str.empty σ H fun out H1 => Q (.str out) H1
/-- the parts of an f-string, one by one -/
theorem js_nil {acc : Str} {Q : Str → Hp → Prop} (q : ∀ H2, Ex H H2 → Q acc H2) : tJs [] acc σ H Q := q H (Ex.refl H)
theorem js_cons {t : TE} {ts : List TE} {acc y : Str} {Q : Str → Hp → Prop} (h : Ev t σ H (.str y)) (hl : (acc ++ y).length ≤ 100000) (k : ∀ H1, Ex H H1 → tJs ts (acc ++ y) σ H1 Q) : tJs (t :: ts) acc σ H Q :=
  h H (Ex.refl H) _ fun H1 e => ⟨y, rfl, sz_of hl, k H1 e⟩
end

end

section
variable {P : Program} {w : World} {K : PySem.W.Frag} {mg : Str → Option Value} {base : Heap}
/-! ### methods of texts, slices, loops over made lists -/
def rStart : V → List V → Hp → VK → Prop := fun x xs H Q => ∃ a b, x = .str a ∧ xs = [.str b] ∧ Q (.bl (Txt.startswith a b)) H
def rFind : V → List V → Hp → VK → Prop := fun x xs H Q => ∃ a b, x = .str a ∧ xs = [.str b] ∧ Q (.int (Txt.find a b)) H
def rDigit : V → List V → Hp → VK → Prop := fun x xs H Q => ∃ a, x = .str a ∧ xs = [] ∧ True ∧ Q (.bl (Txt.isdigit a)) H
def rStrip : V → List V → Hp → VK → Prop := fun x xs H Q => ∃ a b, x = .str a ∧ xs = [.str b] ∧ a.length ≤ sizeLine ∧ Q (.str (Txt.stripChars a b)) H
def rLStrip : V → List V → Hp → VK → Prop := fun x xs H Q => ∃ a b, x = .str a ∧ xs = [.str b] ∧ a.length ≤ sizeLine ∧ Q (.str (Txt.lstripChars a b)) H
def rRStrip : V → List V → Hp → VK → Prop := fun x xs H Q => ∃ a b, x = .str a ∧ xs = [.str b] ∧ a.length ≤ sizeLine ∧ Q (.str (Txt.rstripChars a b)) H
def rZfill : V → List V → Hp → VK → Prop := fun x xs H Q => ∃ (a : Str) (i : Int), x = .str a ∧ xs = [.int i] ∧ PadOk i = true ∧ Q (.str (Txt.zfill a i)) H
def rParts : V → List V → Hp → VK → Prop := fun x xs H Q => ∃ a b, x = .str a ∧ xs = [.str b] ∧ (b.length == 0) = false ∧ a.length ≤ sizeLine ∧ ∀ p, H p = none → Q (.ref p) (upd H p (.tup [.str (Txt.partition a b).1, .str (Txt.partition a b).2.1, .str (Txt.partition a b).2.2]))
def rSplitT : V → List V → Hp → VK → Prop := fun x xs H Q => ∃ a b, x = .str a ∧ xs = [.str b] ∧ (b.length == 0) = false ∧ a.length + 2 ≤ sizeLine ∧ rNewStrs (Txt.split a b) H Q
def rJoinT (K : PySem.W.Frag) : V → List V → Hp → VK → Prop := fun x xs H Q => ∃ a p, ∃ ys : List Str, x = .str a ∧ xs = [.ref p] ∧ (SqL K H p (ys.map V.str) ∨ SqT K H p (ys.map V.str)) ∧ (ys.map (·.length)).sum + ys.length * a.length ≤ 16777216 ∧ Q (.str (Txt.join a ys)) H
section
variable {X : Cx}
theorem sl_strY : SlR X rSlS := sl_str
theorem m_startswith : MtR X "str.startswith" rStart := mt_startswith
theorem m_find : MtR X "str.find" rFind := mt_find
theorem m_isdigit : MtR X "str.isdigit" rDigit := mt_isdigit
theorem m_strip : MtR X "str.strip" rStrip := mt_stripChars
theorem m_lstrip : MtR X "str.lstrip" rLStrip := mt_lstripChars
theorem m_rstrip : MtR X "str.rstrip" rRStrip := mt_rstripChars
theorem m_zfill : MtR X "str.zfill" rZfill := mt_zfill
theorem m_partition : MtR X "str.partition" rParts := mt_partition
theorem m_split : MtR X "str.split" rSplitT := mt_split
theorem m_join : MtR X "str.join" (rJoinT X.K) := mt_join
end
section
variable {K : PySem.W.Frag} {σ : L2.St} {H H' : Hp} {ta tb te tx to : TE} {t u : TT} {x y z v : V} {r : R2} {tA : TA} {E : XK} {D : Ends} {tz : TS}
def RM (r : V → List V → Hp → VK → Prop) (x : V) (xs : List V) (H : Hp) (z : V) : Prop := ∀ H1, Ex H H1 → ∀ Q : VK, (∀ H2, Ex H1 H2 → Q z H2) → r x xs H1 Q
theorem ev_m0 {r : V → List V → Hp → VK → Prop} {a : Str} (ho : Ev to σ H (.str a)) (hr : RM r (.str a) [] H z) : Ev (tM0 r to) σ H z := fun H1 e Q q =>
  ho H1 e _ fun H2 e2 => ⟨⟨a, rfl⟩, hr H2 (e.trans e2) Q fun H3 e3 => q H3 (e2.trans e3)⟩
theorem ev_m1 {r : V → List V → Hp → VK → Prop} {a : Str} (ho : Ev to σ H (.str a)) (he : Ev te σ H y) (hr : RM r (.str a) [y] H z) : Ev (tM1 r to te) σ H z := fun H1 e Q q =>
  ho H1 e _ fun H2 e2 => ⟨⟨a, rfl⟩, he H2 (e.trans e2) _ fun H3 e3 => hr H3 ((e.trans e2).trans e3) Q fun H4 e4 => q H4 ((e2.trans e3).trans e4)⟩
theorem eu_parts {a b : Str} (ho : Ev to σ H (.str a)) (he : Ev te σ H (.str b)) (hb : (b.length == 0) = false) (ha : a.length ≤ 100000) : EvU (tM1 rParts to te) σ H [.str (Txt.partition a b).1, .str (Txt.partition a b).2.1, .str (Txt.partition a b).2.2] := fun H1 e Q q =>
  ho H1 e _ fun H2 e2 => ⟨⟨a, rfl⟩, he H2 (e.trans e2) _ fun H3 e3 => ⟨a, b, rfl, rfl, hb, sz_of ha, fun p hp => q p _ (fresh_back (e2.trans e3) hp) ((e2.trans e3).trans (Ex.new hp)) upd_same⟩⟩
theorem el_split {a b : Str} (ho : Ev to σ H (.str a)) (he : Ev te σ H (.str b)) (hb : (b.length == 0) = false) (ha : a.length ≤ 99998) : EvL (tM1 rSplitT to te) σ H ((Txt.split a b).map V.str) := fun H1 e Q q =>
  ho H1 e _ fun H2 e2 => ⟨⟨a, rfl⟩, he H2 (e.trans e2) _ fun H3 e3 => ⟨a, b, rfl, rfl, hb, sz_of (by omega), fun p hp => q p _ (fresh_back (e2.trans e3) hp) ((e2.trans e3).trans (Ex.new hp)) upd_same⟩⟩
theorem rm_start {a b : Str} : RM rStart (.str a) [.str b] H (.bl (Txt.startswith a b)) := fun H1 _ _ q => ⟨a, b, rfl, rfl, q H1 (Ex.refl H1)⟩
theorem rm_find {a b : Str} : RM rFind (.str a) [.str b] H (.int (Txt.find a b)) := fun H1 _ _ q => ⟨a, b, rfl, rfl, q H1 (Ex.refl H1)⟩
theorem rm_digit {a : Str} : RM rDigit (.str a) [] H (.bl (Txt.isdigit a)) := fun H1 _ _ q => ⟨a, rfl, rfl, trivial, q H1 (Ex.refl H1)⟩
theorem rm_strip {a b : Str} (h : a.length ≤ 100000) : RM rStrip (.str a) [.str b] H (.str (Txt.stripChars a b)) := fun H1 _ _ q => ⟨a, b, rfl, rfl, sz_of h, q H1 (Ex.refl H1)⟩
theorem rm_lstrip {a b : Str} (h : a.length ≤ 100000) : RM rLStrip (.str a) [.str b] H (.str (Txt.lstripChars a b)) := fun H1 _ _ q => ⟨a, b, rfl, rfl, sz_of h, q H1 (Ex.refl H1)⟩
theorem rm_rstrip {a b : Str} (h : a.length ≤ 100000) : RM rRStrip (.str a) [.str b] H (.str (Txt.rstripChars a b)) := fun H1 _ _ q => ⟨a, b, rfl, rfl, sz_of h, q H1 (Ex.refl H1)⟩
theorem rm_zfill {a : Str} {i : Int} (h : PadOk i = true) : RM rZfill (.str a) [.int i] H (.str (Txt.zfill a i)) := fun H1 _ _ q => ⟨a, i, rfl, rfl, h, q H1 (Ex.refl H1)⟩
theorem rm_joinL {a : Str} {p : Addr} {ys : List Str} (h : SqL K H p (ys.map V.str)) (hz : (ys.map (·.length)).sum + ys.length * a.length ≤ 16777216) : RM (rJoinT K) (.str a) [.ref p] H (.str (Txt.join a ys)) := fun H1 e _ q => ⟨a, p, ys, rfl, rfl, .inl (ex_l e h), hz, q H1 (Ex.refl H1)⟩
theorem ev_slS {tl th : TO} {a : Str} {lo hi : Option Int} (h : Ev te σ H (.str a)) (h1 : EvO tl σ H lo) (h2 : EvO th σ H hi) (hz : a.length ≤ 100000) : Ev (tSl rSlS te tl th) σ H (.str (cutS a lo hi)) := fun H1 e _ q =>
  h H1 e _ fun H2 e2 => h1 H2 (e.trans e2) _ fun H3 e3 => h2 H3 ((e.trans e2).trans e3) _ fun H4 e4 => ⟨a, rfl, sz_of hz, q H4 ((e2.trans e3).trans e4)⟩
end
/-- a text of one sign (or none) * n -/
def rMulS : R2 := fun x y H Q => ∃ (a : Str) (i : Int), x = .str a ∧ y = .int i ∧ a.length ≤ 1 ∧ -1000000 ≤ i ∧ i ≤ 1000000 ∧ Q (.str (Txt.mul a i)) H
theorem o_mulS {X : Cx} : OpR X (binaryOp .Mult) rMulS := by
  intro pins s σ H x y v u Q I rx ry h
  obtain ⟨a, i, rfl, rfl, h1, h2, h3, q⟩ := h
  obtain ⟨t, rfl⟩ := rx
  obtain ⟨t', rfl⟩ := ry
  exact SB.mul (PyProof.Rows.mulOk_of 1 1000000 h1 (by omega) (by omega) (by decide) (by decide)) fun t2 k => ⟨.str (Txt.mul a i), H, I.tok k, ⟨t2, rfl⟩, q⟩
section
variable {K : PySem.W.Frag} {σ : L2.St} {H : Hp}
theorem rv_mulS {a : Str} {i : Int} (h1 : a.length ≤ 1) (h2 : -1000000 ≤ i) (h3 : i ≤ 1000000) : RV rMulS (.str a) (.int i) H (.str (Txt.mul a i)) := fun H1 _ _ q => ⟨a, i, rfl, rfl, h1, h2, h3, q H1 (Ex.refl H1)⟩
end
theorem reps_tl : ∀ (n : Nat) (a : Array Nat) (acc : Array Nat), ((List.replicate n a).foldl (· ++ ·) acc).toList = acc.toList ++ (List.replicate n a.toList).flatten
  | 0, a, acc => by simp
  | n + 1, a, acc => by
    rw [List.replicate_succ, List.foldl_cons, reps_tl n a (acc ++ a), List.replicate_succ, List.flatten_cons, Array.toList_append, List.append_assoc]
theorem mul_tl {a : Str} {i : Int} (h0 : 0 ≤ i) : TL.tl (Txt.mul a i) = (List.replicate i.toNat (TL.tl a)).flatten := by
  unfold Txt.mul
  split
  · rename_i h
    have e : i.toNat = 0 := by omega
    rw [e]
    rfl
  · split
    · rename_i h1 h2
      rw [Bool.or_eq_true, beq_iff_eq, beq_iff_eq] at h2
      rcases h2 with h2 | h2
      · rw [h2]
        simp
      · have e : TL.tl a = [] := TL.len0_tl a |>.mp h2
        rw [e]
        simp
    · show ((List.replicate i.toNat a.cps).foldl (· ++ ·) #[]).toList = _
      rw [reps_tl]
      simp
theorem mul_neg {a : Str} {i : Int} (h0 : i < 0) : Txt.mul a i = Str.empty := by
  unfold Txt.mul
  rw [if_pos (by omega)]
theorem flat_len : ∀ (n : Nat) (l : List Nat), (List.replicate n l).flatten.length = n * l.length
  | 0, l => by simp
  | n + 1, l => by rw [List.replicate_succ, List.flatten_cons, List.length_append, flat_len n l, Nat.succ_mul]; omega
theorem mul_len {a : Str} {i : Int} (h0 : 0 ≤ i) : (Txt.mul a i).length = i.toNat * a.length := by rw [TL.len_tl, mul_tl h0, flat_len, ← TL.len_tl]
theorem mul_mem {a : Str} {i : Int} : ∀ c ∈ TL.tl (Txt.mul a i), c ∈ TL.tl a := fun c hc => by
  by_cases h0 : 0 ≤ i
  · rw [mul_tl h0, List.mem_flatten] at hc
    obtain ⟨l, hl, hc⟩ := hc
    rw [List.mem_replicate] at hl
    rw [← hl.2]
    exact hc
  · rw [mul_neg (by omega)] at hc
    cases hc

end

section
variable {P : Program} {w : World} {K : PySem.W.Frag} {mg : Str → Option Value} {base : Heap}
/-! ### data of any depth: what a value stands for -/
section
variable {K : PySem.W.Frag} {H H' : Hp}
mutual
theorem dp_ex (e : Ex H H') : ∀ (d : PyData) (v : V), Dp K H v d → Dp K H' v d
  | .none, _, h => by
    cases h
    exact .non
  | .bool b, _, h => by
    cases h
    exact .bl b
  | .int i, _, h => by
    cases h
    exact .int i
  | .str x, _, h => by
    cases h
    exact .str x
  | .list ds, _, h => by
    cases h with
    | lst hs ha => exact .lst (ex_l e hs) (dpa_ex e ds _ ha)
  | .tuple ds, _, h => by
    cases h with
    | tup hs ha => exact .tup (ex_t e hs) (dpa_ex e ds _ ha)
  | .dict _, _, h => by cases h
theorem dpa_ex (e : Ex H H') : ∀ (ds : List PyData) (vs : List V), DpAll K H vs ds → DpAll K H' vs ds
  | [], _, h => by
    cases h
    exact .nil
  | d :: ds, _, h => by
    cases h with
    | cons h1 h2 => exact .cons (dp_ex e d _ h1) (dpa_ex e ds _ h2)
end
mutual
/-- no list within -/
def lf : PyData → Bool
  | .list _ => false
  | .dict _ => false
  | .tuple ds => lfAll ds
  | _ => true
def lfAll : List PyData → Bool
  | [] => true
  | d :: ds => lf d && lfAll ds
end
theorem sqt_mut {l a : Addr} {xs ys : List V} {o : HO} (hl : H l = some (.lst xs)) (h : SqT K H a ys) : SqT K (upd H l o) a ys := by
  rcases h with h | h
  · rcases h with h | ⟨o2, h⟩
    · have ne : a ≠ l := fun z => by
        subst z
        rw [h] at hl
        cases hl
      exact .inl (.inl (by rw [upd_ne ne]; exact h))
    · have ne : a ≠ l := fun z => by
        subst z
        rw [h] at hl
        cases hl
      exact .inl (.inr ⟨o2, by rw [upd_ne ne]; exact h⟩)
  · exact .inr h
mutual
theorem dp_mut {l : Addr} {xs : List V} {o : HO} (hl : H l = some (.lst xs)) : ∀ (d : PyData) (v : V), lf d = true → Dp K H v d → Dp K (upd H l o) v d
  | .none, _, _, h => by
    cases h
    exact .non
  | .bool b, _, _, h => by
    cases h
    exact .bl b
  | .int i, _, _, h => by
    cases h
    exact .int i
  | .str x, _, _, h => by
    cases h
    exact .str x
  | .list ds, _, f, h => by simp [lf] at f
  | .tuple ds, _, f, h => by
    cases h with
    | tup hs ha => exact .tup (sqt_mut hl hs) (dpa_mut hl ds _ (by simpa [lf] using f) ha)
  | .dict _, _, _, h => by cases h
theorem dpa_mut {l : Addr} {xs : List V} {o : HO} (hl : H l = some (.lst xs)) : ∀ (ds : List PyData) (vs : List V), lfAll ds = true → DpAll K H vs ds → DpAll K (upd H l o) vs ds
  | [], _, _, h => by
    cases h
    exact .nil
  | d :: ds, _, f, h => by
    cases h with
    | cons h1 h2 =>
      simp only [lfAll, Bool.and_eq_true] at f
      exact .cons (dp_mut hl d _ f.1 h1) (dpa_mut hl ds _ f.2 h2)
end
theorem dpa_len : ∀ {ds : List PyData} {vs : List V}, DpAll K H vs ds → vs.length = ds.length
  | [], _, h => by
    cases h
    rfl
  | d :: ds, _, h => by
    cases h with
    | cons h1 h2 => simp [dpa_len h2]
theorem dpa_get : ∀ {ds : List PyData} {vs : List V}, DpAll K H vs ds → ∀ {j : Nat} {d : PyData}, ds[j]? = some d → ∃ v, vs[j]? = some v ∧ Dp K H v d
  | [], _, h, j, d, e => by simp at e
  | d :: ds, _, h, 0, d2, e => by
    cases h with
    | cons h1 h2 =>
      obtain rfl : d = d2 := by simpa using e
      exact ⟨_, rfl, h1⟩
  | d :: ds, _, h, j + 1, d2, e => by
    cases h with
    | cons h1 h2 => exact dpa_get h2 (j := j) (by simpa using e)
theorem dpa_get' : ∀ {ds : List PyData} {vs : List V}, DpAll K H vs ds → ∀ {j : Nat} {v : V}, vs[j]? = some v → ∃ d, ds[j]? = some d ∧ Dp K H v d
  | [], _, h, j, d, e => by
    cases h
    simp at e
  | d :: ds, _, h, 0, d2, e => by
    cases h with
    | cons h1 h2 =>
      obtain rfl := Option.some.inj (show some _ = some d2 from e)
      exact ⟨_, rfl, h1⟩
  | d :: ds, _, h, j + 1, d2, e => by
    cases h with
    | cons h1 h2 => exact dpa_get' h2 (j := j) (by simpa using e)
theorem dpa_atI {ds : List PyData} {vs : List V} (h : DpAll K H vs ds) {i : Int} {d : PyData} (e : atI ds i = some d) : ∃ v, atI vs i = some v ∧ Dp K H v d := by
  unfold atI at e ⊢
  rw [dpa_len h]
  cases hx : ixN ds.length i with
  | none => rw [hx] at e; cases e
  | some j =>
    rw [hx] at e
    exact dpa_get h (show ds[j]? = some d from e)
theorem dpa_app : ∀ {ds es : List PyData} {vs us : List V}, DpAll K H vs ds → DpAll K H us es → DpAll K H (vs ++ us) (ds ++ es)
  | [], _, _, _, h, h2 => by
    cases h
    exact h2
  | d :: ds, _, _, _, h, h2 => by
    cases h with
    | cons h1 h3 => exact .cons h1 (dpa_app h3 h2)
theorem dpa_drop : ∀ (n : Nat) {ds : List PyData} {vs : List V}, DpAll K H vs ds → DpAll K H (vs.drop n) (ds.drop n)
  | 0, _, _, h => h
  | n + 1, [], _, h => by
    cases h
    exact .nil
  | n + 1, d :: ds, _, h => by
    cases h with
    | cons h1 h3 => exact dpa_drop n h3
theorem dpa_take : ∀ (n : Nat) {ds : List PyData} {vs : List V}, DpAll K H vs ds → DpAll K H (vs.take n) (ds.take n)
  | 0, _, _, h => .nil
  | n + 1, [], _, h => by
    cases h
    exact .nil
  | n + 1, d :: ds, _, h => by
    cases h with
    | cons h1 h3 => exact .cons h1 (dpa_take n h3)
def cutD (xs : List PyData) (lo hi : Option Int) : List PyData := (xs.drop (HT.sIx xs.length 0 lo)).take (HT.sIx xs.length xs.length hi - HT.sIx xs.length 0 lo)
theorem dpa_cut {ds : List PyData} {vs : List V} (h : DpAll K H vs ds) (lo hi : Option Int) : DpAll K H (cutV vs lo hi) (cutD ds lo hi) := by
  unfold cutV cutD
  rw [dpa_len h]
  exact dpa_take _ (dpa_drop _ h)
theorem dpa_ints : ∀ {ns : List Int} {vs : List V}, DpAll K H vs (ns.map PyData.int) → vs = ns.map V.int
  | [], _, h => by
    cases h
    rfl
  | n :: ns, _, h => by
    cases h with
    | cons h1 h2 =>
      cases h1
      rw [dpa_ints h2]
      rfl
theorem dpa_bls : ∀ {ns : List Bool} {vs : List V}, DpAll K H vs (ns.map PyData.bool) → vs = ns.map V.bl
  | [], _, h => by
    cases h
    rfl
  | n :: ns, _, h => by
    cases h with
    | cons h1 h2 =>
      cases h1
      rw [dpa_bls h2]
      rfl
theorem dpa_strs : ∀ {ns : List Str} {vs : List V}, DpAll K H vs (ns.map PyData.str) → vs = ns.map V.str
  | [], _, h => by
    cases h
    rfl
  | n :: ns, _, h => by
    cases h with
    | cons h1 h2 =>
      cases h1
      rw [dpa_strs h2]
      rfl
theorem dpa_of_ints : ∀ (ns : List Int), DpAll K H (ns.map V.int) (ns.map PyData.int)
  | [] => .nil
  | _ :: ns => .cons (.int _) (dpa_of_ints ns)
theorem dpa_of_strs : ∀ (ns : List Str), DpAll K H (ns.map V.str) (ns.map PyData.str)
  | [] => .nil
  | _ :: ns => .cons (.str _) (dpa_of_strs ns)
theorem dp_one {ds : List PyData} {v : V} (h : DpAll K H [v] ds) : ∃ d, ds = [d] ∧ Dp K H v d := by
  cases h with
  | cons h1 h2 =>
    cases h2
    exact ⟨_, rfl, h1⟩
/-- none, bools, ints, texts as data -/
def toD : V → PyData
  | .non => .none
  | .bl b => .bool b
  | .int i => .int i
  | .str x => .str x
  | _ => .dict []
theorem dp_toD {v : V} (h : match v with | .non => True | .bl _ => True | .int _ => True | .str _ => True | _ => False) : Dp K H v (toD v) := by
  cases v <;> first | exact False.elim h | constructor
end
theorem sh_none : SeqAt.shaped .none = true := by simp [SeqAt.shaped, PyData.canLay0, PyData.depth]
theorem sh_bool (s : Bool) : SeqAt.shaped (.bool s) = true := by simp [SeqAt.shaped, PyData.canLay0, PyData.depth]
theorem sh_int (s : Int) : SeqAt.shaped (.int s) = true := by simp [SeqAt.shaped, PyData.canLay0, PyData.depth]
theorem sh_str (s : Str) (h : PyData.strOk s = true) : SeqAt.shaped (.str s) = true := by simp [SeqAt.shaped, PyData.canLay0, PyData.depth, h]
theorem sh_tup1 {d : PyData} (h : SeqAt.shaped d = true) (hd : d.depth ≤ 63) : SeqAt.shaped (.tuple [d]) = true := by
  simp only [SeqAt.shaped, Bool.and_eq_true, decide_eq_true_eq] at h
  simp [SeqAt.shaped, PyData.canLay0, PyData.canLayAll0, PyData.depth, PyData.depthAll, h.1]
  omega
theorem sh_tup2 {d e : PyData} (h : SeqAt.shaped d = true) (h2 : SeqAt.shaped e = true) (hd : d.depth ≤ 63) (he : e.depth ≤ 63) : SeqAt.shaped (.tuple [d, e]) = true := by
  simp only [SeqAt.shaped, Bool.and_eq_true, decide_eq_true_eq] at h h2
  simp [SeqAt.shaped, PyData.canLay0, PyData.canLayAll0, PyData.depth, PyData.depthAll, h.1, h2.1]
  omega
/-! ### the reading at data -/
section
variable {K : PySem.W.Frag} {σ : L2.St} {H H' : Hp} {ta tb te tx to : TE} {t u : TT} {x y z v : V} {r : R2} {tA : TA} {E : XK} {D : Ends} {tz tu : TS} {d d1 d2 e1 e2 : PyData} {ds es : List PyData}
def Sc0 : V → Prop
  | .non => True
  | .bl _ => True
  | .int _ => True
  | .str _ => True
  | _ => False
theorem lf_take : ∀ {ds : List PyData}, lfAll ds = true → ∀ n, lfAll (ds.take n) = true
  | [], _, n => by simp [lfAll]
  | d :: ds, h, 0 => by simp [lfAll]
  | d :: ds, h, n + 1 => by
    simp only [lfAll, Bool.and_eq_true] at h
    simp only [List.take_succ_cons, lfAll, Bool.and_eq_true]
    exact ⟨h.1, lf_take h.2 n⟩
theorem lf_app : ∀ {ds : List PyData} {d : PyData}, lfAll ds = true → lf d = true → lfAll (ds ++ [d]) = true
  | [], d, _, h => by simp [lfAll, h]
  | x :: ds, d, h, h2 => by
    simp only [lfAll, Bool.and_eq_true] at h
    simp only [List.cons_append, lfAll, Bool.and_eq_true]
    exact ⟨h.1, lf_app h.2 h2⟩
def EvD (K : PySem.W.Frag) (te : TE) (σ : L2.St) (H : Hp) (d : PyData) : Prop := ∀ H1, Ex H H1 → ∀ Q : VK, (∀ v H2, Ex H1 H2 → Dp K H2 v d → Q v H2) → te σ H1 Q
def EvAD (K : PySem.W.Frag) (ta : TA) (σ : L2.St) (H : Hp) (ds : List PyData) : Prop := ∀ H1, Ex H H1 → ∀ Q : List V → Hp → Prop, (∀ vs H2, Ex H1 H2 → DpAll K H2 vs ds → Q vs H2) → ta σ H1 Q
theorem EvD.mono (e : Ex H H') (h : EvD K te σ H d) : EvD K te σ H' d := fun H1 a Q q => h H1 (e.trans a) Q q
theorem ed_ev (h : Ev te σ H v) (hd : Dp K H v d) : EvD K te σ H d := fun H1 e Q q => h H1 e Q fun H2 e2 => q v H2 e2 (dp_ex (e.trans e2) d v hd)
theorem ed_is (h : EvD K te σ H d) (e : d = d1) : EvD K te σ H d1 := e ▸ h
theorem ed_var {i : Nat} (h : σ[i]? = some (some v)) (hd : Dp K H v d) : EvD K (tVar i) σ H d := ed_ev (ev_var h) hd
theorem ev_dI {i : Int} (h : EvD K te σ H (.int i)) : Ev te σ H (.int i) := fun H1 e Q q => h H1 e Q fun w H2 e2 hd => by
  cases hd
  exact q H2 e2
theorem ev_dB {i : Bool} (h : EvD K te σ H (.bool i)) : Ev te σ H (.bl i) := fun H1 e Q q => h H1 e Q fun w H2 e2 hd => by
  cases hd
  exact q H2 e2
theorem ev_dS {i : Str} (h : EvD K te σ H (.str i)) : Ev te σ H (.str i) := fun H1 e Q q => h H1 e Q fun w H2 e2 hd => by
  cases hd
  exact q H2 e2
theorem ev_dN (h : EvD K te σ H .none) : Ev te σ H .non := fun H1 e Q q => h H1 e Q fun w H2 e2 hd => by
  cases hd
  exact q H2 e2
theorem ev_dV (hv : Sc0 v) (h : EvD K te σ H (toD v)) : Ev te σ H v := by
  cases v <;> first | exact False.elim hv | exact ev_dN h | exact ev_dI h | exact ev_dB h | exact ev_dS h
theorem ead_nil : EvAD K tNil σ H [] := fun H1 _ _ q => q _ H1 (Ex.refl H1) .nil
theorem ead_cons {tr : TA} (h : EvD K ta σ H d) (hr : EvAD K tr σ H ds) : EvAD K (tCons ta tr) σ H (d :: ds) := fun H1 e _ q =>
  h H1 e _ fun v H2 e2 hv => hr H2 (e.trans e2) _ fun vs H3 e3 hs => q _ H3 (e2.trans e3) (.cons (dp_ex e3 d v hv) hs)
theorem ea_d1 (h : Ev ta σ H v) : EvA (tCons ta tNil) σ H [v] := ea_cons h ea_nil
theorem ed_tup (h : EvAD K tA σ H ds) (hl : ds.length ≤ 100000) : EvD K (tTup tA) σ H (.tuple ds) := fun H1 e _ q =>
  h H1 e _ fun vs H2 e2 hs => ⟨sz_of (by rw [dpa_len hs]; exact hl), fun p hp => q (.ref p) _ (e2.trans (Ex.new hp)) (.tup (st_of upd_same) (dpa_ex (Ex.new hp) ds vs hs))⟩
theorem ed_lst (h : EvAD K tA σ H ds) (hl : ds.length ≤ 100000) : EvD K (tLst tA) σ H (.list ds) := fun H1 e _ q =>
  h H1 e _ fun vs H2 e2 hs => ⟨sz_of (by rw [dpa_len hs]; exact hl), fun p hp => q (.ref p) _ (e2.trans (Ex.new hp)) (.lst (sq_of upd_same) (dpa_ex (Ex.new hp) ds vs hs))⟩
theorem ed_ixT {i : Int} (ha : EvD K ta σ H (.tuple ds)) (hb : Ev tb σ H (.int i)) (hi : atI ds i = some d) : EvD K (tOp (rIx K) ta tb) σ H d := fun H1 e Q q =>
  ha H1 e _ fun v H2 e2 hv => hb H2 (e.trans e2) _ fun H3 e3 => by
    cases hv with
    | tup hs hx =>
      rename_i a xs
      obtain ⟨w, hw, hwd⟩ := dpa_atI (dpa_ex e3 ds xs hx) hi
      exact .inr (.inl ⟨a, xs, i, w, rfl, rfl, ex_t e3 hs, hw, q w H3 (e2.trans e3) hwd⟩)
theorem ed_ixL {i : Int} (ha : EvD K ta σ H (.list ds)) (hb : Ev tb σ H (.int i)) (hi : atI ds i = some d) : EvD K (tOp (rIx K) ta tb) σ H d := fun H1 e Q q =>
  ha H1 e _ fun v H2 e2 hv => hb H2 (e.trans e2) _ fun H3 e3 => by
    cases hv with
    | lst hs hx =>
      rename_i a xs
      obtain ⟨w, hw, hwd⟩ := dpa_atI (dpa_ex e3 ds xs hx) hi
      exact .inl ⟨a, xs, i, w, rfl, rfl, ex_l e3 hs, hw, q w H3 (e2.trans e3) hwd⟩
theorem ev_eqD (ha : EvD K ta σ H d1) (hb : EvD K tb σ H d2) (s1 : SeqAt.shaped d1 = true) (s2 : SeqAt.shaped d2 = true) : Ev (tOp (rEqD K) ta tb) σ H (.bl (PyData.eqv d1 d2)) := fun H1 e Q q =>
  ha H1 e _ fun v H2 e2 hv => hb H2 (e.trans e2) _ fun w H3 e3 hw => ⟨d1, d2, dp_ex e3 _ _ hv, hw, s1, s2, q H3 (e2.trans e3)⟩
theorem ev_neD (ha : EvD K ta σ H d1) (hb : EvD K tb σ H d2) (s1 : SeqAt.shaped d1 = true) (s2 : SeqAt.shaped d2 = true) : Ev (tOp (rNeD K) ta tb) σ H (.bl (!PyData.eqv d1 d2)) := fun H1 e Q q =>
  ha H1 e _ fun v H2 e2 hv => hb H2 (e.trans e2) _ fun w H3 e3 hw => ⟨d1, d2, dp_ex e3 _ _ hv, hw, s1, s2, q H3 (e2.trans e3)⟩
theorem ev_inD (ha : EvD K ta σ H d) (hb : EvD K tb σ H (.list ds)) (s1 : SeqAt.shaped d = true) (s2 : SeqAt.shaped (.list ds) = true) : Ev (tOp (rInD K) ta tb) σ H (.bl (ds.any fun z => PyData.eqv z d)) := fun H1 e Q q =>
  ha H1 e _ fun v H2 e2 hv => hb H2 (e.trans e2) _ fun w H3 e3 hw => ⟨d, ds, dp_ex e3 _ _ hv, hw, s1, s2, q H3 (e2.trans e3)⟩
/-- a < b of data that are alike -/
def rLtD (K : PySem.W.Frag) : R2 := fun x y H Q => ∃ d e, Dp K H x d ∧ Dp K H y e ∧ PySem.W.alike d e = true ∧ d ≠ .none ∧ d.depth ≤ 64 ∧ Q (.bl (PySem.W.dataLt d e)) H
theorem op_ltD {X : Cx} (hu : X.A.units + 64 < cLine) : OpR X (compareOp .Lt) (rLtD X.K) := by
  intro pins s σ H x y v u Q I rx ry h
  obtain ⟨d, e, hd, he, al, hn, hz, q⟩ := h
  obtain ⟨as, r1⟩ := Dp.reads I d x v hd rx
  obtain ⟨bs, r2⟩ := Dp.reads I e y u he ry
  exact PySem.W.rcLt_alike d e X.A s v u as bs r1 r2 al hn (by omega) X.prog X.w _ _ ⟨.bl _, H, I, rfl, q⟩
theorem ev_ltD (ha : EvD K ta σ H d1) (hb : EvD K tb σ H d2) (al : PySem.W.alike d1 d2 = true) (hn : d1 ≠ .none) (hz : d1.depth ≤ 64) : Ev (tOp (rLtD K) ta tb) σ H (.bl (PySem.W.dataLt d1 d2)) := fun H1 e Q q =>
  ha H1 e _ fun v H2 e2 hv => hb H2 (e.trans e2) _ fun w H3 e3 hw => ⟨d1, d2, dp_ex e3 _ _ hv, hw, al, hn, hz, q H3 (e2.trans e3)⟩
theorem ed_cat (ha : EvD K ta σ H (.tuple ds)) (hb : EvD K tb σ H (.tuple es)) (hl : ds.length + es.length ≤ 100000) : EvD K (tOp (rCatA K) ta tb) σ H (.tuple (ds ++ es)) := fun H1 e Q q =>
  ha H1 e _ fun v H2 e2 hv => hb H2 (e.trans e2) _ fun w H3 e3 hw => by
    cases hv with
    | tup hs hx =>
      cases hw with
      | tup hs2 hx2 =>
        rename_i a xs b ys
        have hx := dpa_ex e3 ds xs hx
        have hs := ex_t e3 hs
        have l1 := dpa_len hx
        have l2 := dpa_len hx2
        have al := dpa_app hx hx2
        refine ⟨a, b, xs, ys, rfl, rfl, hs, hs2, sz_of (by omega), fun z => ?_, fun _ z => ?_, fun _ _ p hp => q _ _ ((e2.trans e3).trans (Ex.new hp)) (.tup (st_of upd_same) (dpa_ex (Ex.new hp) _ _ al))⟩
        · subst z
          exact q _ _ (e2.trans e3) (.tup hs2 al)
        · subst z
          rw [List.append_nil] at al
          exact q _ _ (e2.trans e3) (.tup hs al)
theorem ed_catL (ha : EvD K ta σ H (.list ds)) (hb : EvD K tb σ H (.list es)) (hl : ds.length + es.length ≤ 100000) (hr : ∀ (a b : Addr) xs ys H1 (Q : VK), SqL K H1 a xs → SqL K H1 b ys → xs.length + ys.length ≤ 100000 → (∀ p, H1 p = none → Q (.ref p) (upd H1 p (.lst (xs ++ ys)))) → r (.ref a) (.ref b) H1 Q) : EvD K (tOp r ta tb) σ H (.list (ds ++ es)) := fun H1 e Q q =>
  ha H1 e _ fun v H2 e2 hv => hb H2 (e.trans e2) _ fun w H3 e3 hw => by
    cases hv with
    | lst hs hx =>
      cases hw with
      | lst hs2 hx2 =>
        rename_i a xs b ys
        have hx := dpa_ex e3 ds xs hx
        have al := dpa_app hx hx2
        have l1 := dpa_len hx
        have l2 := dpa_len hx2
        exact hr a b xs ys H3 Q (ex_l e3 hs) hs2 (by omega) fun p hp => q _ _ ((e2.trans e3).trans (Ex.new hp)) (.lst (sq_of upd_same) (dpa_ex (Ex.new hp) _ _ al))
theorem ed_slA {tl th : TO} {lo hi : Option Int} (h : EvD K te σ H (.tuple ds)) (h1 : EvO tl σ H lo) (h2 : EvO th σ H hi) : EvD K (tSl (rSlA K) te tl th) σ H (.tuple (cutD ds lo hi)) := fun H1 e _ q =>
  h H1 e _ fun v H2 e2 hv => h1 H2 (e.trans e2) _ fun H3 e3 => h2 H3 ((e.trans e2).trans e3) _ fun H4 e4 => by
    cases hv with
    | tup hs hx =>
      rename_i a xs
      have hx := dpa_ex (e3.trans e4) ds xs hx
      have hs := ex_t (e3.trans e4) hs
      have hc := dpa_cut hx lo hi
      refine ⟨a, xs, rfl, hs, fun w => q _ _ ((e2.trans e3).trans e4) (.tup hs ?_), fun _ p hp => q _ _ (((e2.trans e3).trans e4).trans (Ex.new hp)) (.tup (st_of upd_same) (dpa_ex (Ex.new hp) _ _ hc))⟩
      unfold cutV at hc
      rw [w.1, w.2] at hc
      rw [List.drop_zero, Nat.sub_zero, List.take_length] at hc
      exact hc
def rListOf (K : PySem.W.Frag) : List V → Hp → VK → Prop := fun xs H Q => ∃ p ys, xs = [.ref p] ∧ (SqL K H p ys ∨ SqT K H p ys) ∧ ∀ l, H l = none → Q (.ref l) (upd H l (.lst ys))
def rTupOf (K : PySem.W.Frag) : List V → Hp → VK → Prop := fun xs H Q => ∃ p ys, xs = [.ref p] ∧ ((SqL K H p ys ∧ ∀ l, H l = none → Q (.ref l) (upd H l (.tup ys))) ∨ (SqT K H p ys ∧ Q (.ref p) H))
section
variable {X : Cx}
theorem b_lenK {K : PySem.W.Frag} (h : X.K = K) : CallR X (.builtin "len") (rLenU K) := h ▸ b_len
theorem ix_seqK {K : PySem.W.Frag} (h : X.K = K) : IxR X (rIx K) := h ▸ ix_seq
theorem b_list : CallR X (.type "list") (rListOf X.K) := call_list_of
theorem b_tuple : CallR X (.type "tuple") (rTupOf X.K) := call_tuple_of
theorem b_sum (hc : X.calm = true) : CallR X (.builtin "sum") (rSum X.K) := cr_sum hc
theorem b_all (hc : X.calm = true) : CallR X (.builtin "all") (rAll X.K) := cr_all hc
end
theorem ed_listT (h : EvD K te σ H (.tuple ds)) : EvD K (tCB (rListOf K) (tCons te tNil)) σ H (.list ds) := fun H1 e Q q =>
  h H1 e _ fun v H2 e2 hv => by
    cases hv with
    | tup hs hx => exact ⟨_, _, rfl, .inr hs, fun l hl => q _ _ (e2.trans (Ex.new hl)) (.lst (sq_of upd_same) (dpa_ex (Ex.new hl) _ _ hx))⟩
theorem ed_tupL (h : EvD K te σ H (.list ds)) : EvD K (tCB (rTupOf K) (tCons te tNil)) σ H (.tuple ds) := fun H1 e Q q =>
  h H1 e _ fun v H2 e2 hv => by
    cases hv with
    | lst hs hx => exact ⟨_, _, rfl, .inl ⟨hs, fun l hl => q _ _ (e2.trans (Ex.new hl)) (.tup (st_of upd_same) (dpa_ex (Ex.new hl) _ _ hx))⟩⟩
theorem ev_sum {ns : List Int} (h : EvD K te σ H (.list (ns.map PyData.int))) : Ev (tCB (rSum K) (tCons te tNil)) σ H (.int ns.sum) := fun H1 e Q q =>
  h H1 e _ fun v H2 e2 hv => by
    cases hv with
    | lst hs hx =>
      rw [dpa_ints hx] at hs
      exact ⟨_, ns, rfl, hs, q H2 e2⟩
theorem ev_all {ns : List Bool} (h : EvD K te σ H (.list (ns.map PyData.bool))) : Ev (tCB (rAll K) (tCons te tNil)) σ H (.bl (ns.all id)) := fun H1 e Q q =>
  h H1 e _ fun v H2 e2 hv => by
    cases hv with
    | lst hs hx =>
      rw [dpa_bls hx] at hs
      exact ⟨_, ns, rfl, hs, q H2 e2⟩
theorem ev_lenD (h : EvD K te σ H (.list ds)) : Ev (tCB (rLenU K) (tCons te tNil)) σ H (.int ds.length) := fun H1 e Q q =>
  h H1 e _ fun v H2 e2 hv => by
    cases hv with
    | lst hs hx => exact .inl ⟨_, _, rfl, .inl hs, by rw [dpa_len hx]; exact q H2 e2⟩
theorem ev_lenT (h : EvD K te σ H (.tuple ds)) : Ev (tCB (rLenU K) (tCons te tNil)) σ H (.int ds.length) := fun H1 e Q q =>
  h H1 e _ fun v H2 e2 hv => by
    cases hv with
    | tup hs hx => exact .inl ⟨_, _, rfl, .inr hs, by rw [dpa_len hx]; exact q H2 e2⟩
theorem ed_if {b : Bool} (h : EvT t σ H b) (h1 : b = true → EvD K ta σ H d) (h2 : b = false → EvD K tb σ H d) : EvD K (tIf t ta tb) σ H d := fun H1 e Q q => h H1 e _ fun H2 e2 => by
  cases b with
  | true =>
    show ta σ H2 Q
    exact h1 rfl H2 (e.trans e2) Q fun v H3 e3 hv => q v H3 (e2.trans e3) hv
  | false =>
    show tb σ H2 Q
    exact h2 rfl H2 (e.trans e2) Q fun v H3 e3 hv => q v H3 (e2.trans e3) hv
/-! promises at data -/
def RetD (K : PySem.W.Frag) (d : PyData) (H : Hp) (Q : VK) : Prop := ∀ v H2, Ex H H2 → Dp K H2 v d → Q v H2
theorem RetD.go {Q : VK} (k : RetD K d H Q) (e : Ex H H') : RetD K d H' Q := fun v H2 e2 h => k v H2 (e.trans e2) h
theorem finD {Q : VK} {d' : PyData} (k : RetD K d H Q) (e : Ex H H') (h : d' = d) : RetD K d' H' Q := fun v H2 e2 hd => k v H2 (e.trans e2) (h ▸ hd)
def spD (K : PySem.W.Frag) (C : List PyData → Prop) (f : List PyData → PyData) : Sp := fun vs H Q _ => ∃ ds, DpAll K H vs ds ∧ C ds ∧ RetD K (f ds) H Q
theorem ed_cD {C : List PyData → Prop} {f : List PyData → PyData} (h : EvAD K tA σ H ds) (c : C ds) : EvD K (tCall (spD K C f) [] E tA) σ H (f ds) := fun H1 e Q q =>
  h H1 e _ fun vs H2 e2 hs => ⟨ds, by rw [List.append_nil]; exact hs, c, fun v H3 e3 hv => q v H3 (e2.trans e3) hv⟩
theorem q_asgD {i : Nat} (h : EvD K te σ H d) (k : ∀ v H1, Ex H H1 → Dp K H1 v d → tz D (σ.set i (some v)) H1) : tSeq (tAsg te (gName i)) tz D σ H := h H (Ex.refl H) _ fun v H1 e hv => k v H1 e hv
theorem s_asgD {i : Nat} (h : EvD K te σ H d) (k : ∀ v H1, Ex H H1 → Dp K H1 v d → D.nx (σ.set i (some v)) H1) : tAsg te (gName i) D σ H := h H (Ex.refl H) _ fun v H1 e hv => k v H1 e hv
theorem s_retD (h : EvD K te σ H d) (k : RetD K d H D.rt) : tRet te D σ H := h H (Ex.refl H) _ fun v H1 e hv => k v H1 e hv
theorem s_appD {l : Addr} {xs : List V} (hl : H l = some (.lst xs)) (ha : Ev ta σ H (.ref l)) (h : EvD K te σ H d) (hz : xs.length < 100000) (hx : DpAll K H xs ds) (hf : lfAll ds = true) (hd : lf d = true)
    (k : ∀ H1 ys, Ex H H1 → ys.length = xs.length + 1 → DpAll K (upd H1 l (.lst ys)) ys (ds ++ [d]) → D.nx σ (upd H1 l (.lst ys))) : tDrop (tBM K "list" rAppend ta (tCons te tNil)) D σ H := ha H (Ex.refl H) _ fun H1 e1 =>
  ⟨Or.inl ⟨rfl, xs, sq_of (e1 l _ hl)⟩, h H1 e1 _ fun v H2 e2 hv => ⟨l, xs, v, rfl, rfl, e2 l _ (e1 l _ hl), sz_lt hz, k H2 (xs ++ [v]) (e1.trans e2) (by simp) (dpa_mut (e2 l _ (e1 l _ hl)) _ _ (lf_app hf hd) (dpa_app (dpa_ex (e1.trans e2) _ _ hx) (.cons hv .nil)))⟩⟩
theorem q_appD {l : Addr} {xs : List V} (hl : H l = some (.lst xs)) (ha : Ev ta σ H (.ref l)) (h : EvD K te σ H d) (hz : xs.length < 100000) (hx : DpAll K H xs ds) (hf : lfAll ds = true) (hd : lf d = true)
    (k : ∀ H1 ys, Ex H H1 → ys.length = xs.length + 1 → DpAll K (upd H1 l (.lst ys)) ys (ds ++ [d]) → tz D σ (upd H1 l (.lst ys))) : tSeq (tDrop (tBM K "list" rAppend ta (tCons te tNil))) tz D σ H := s_appD (D := { D with nx := tz D }) hl ha h hz hx hf hd k
/-! a for over data, a comprehension over data -/
theorem s_forTD {tl : TE} {g : TG} (h : EvD K tl σ H (.tuple ds)) (Pv : Nat → L2.St → Hp → Prop) (h0 : ∀ H1, Ex H H1 → Pv 0 σ H1)
    (hs : ∀ i x d σ' H' H0, ds[i]? = some d → Ex H H0 → Ex H0 H' → Pv i σ' H' → Dp K H' x d → g x σ' H' fun σ2 H2 => tu { D with nx := fun σ3 H3 => Ex H0 H3 ∧ Pv (i + 1) σ3 H3, ct := fun σ3 H3 => Ex H0 H3 ∧ Pv (i + 1) σ3 H3, bk := D.nx } σ2 H2)
    (hd : ∀ σ' H', Ex H H' → Pv ds.length σ' H' → D.nx σ' H') : tFor (iTup K tl) g tu D σ H :=
  h H (Ex.refl H) _ fun v H1 e hv => by
    cases hv with
    | tup hq hx =>
      rename_i a xs
      have ln := dpa_len hx
      refine ⟨a, rfl, ⟨xs, hq⟩, for_tup (xs := xs) (fun i σ' H' => Ex H1 H' ∧ Pv i σ' H') ⟨Ex.refl H1, h0 H1 e⟩ (fun i σ' H' _ p => ex_t p.1 hq) (fun i x σ' H' hi p => ?_) (fun σ' H' p => hd σ' H' (e.trans p.1) (by rw [← ln]; exact p.2))⟩
      obtain ⟨d, hd1, hd2⟩ := dpa_get' hx hi
      exact hs i x d σ' H' H1 hd1 e p.1 p.2 (dp_ex p.1 _ _ hd2)
theorem q_forTD {tl : TE} {g : TG} (h : EvD K tl σ H (.tuple ds)) (Pv : Nat → L2.St → Hp → Prop) (h0 : ∀ H1, Ex H H1 → Pv 0 σ H1)
    (hs : ∀ i x d σ' H' H0, ds[i]? = some d → Ex H H0 → Ex H0 H' → Pv i σ' H' → Dp K H' x d → g x σ' H' fun σ2 H2 => tu { D with nx := fun σ3 H3 => Ex H0 H3 ∧ Pv (i + 1) σ3 H3, ct := fun σ3 H3 => Ex H0 H3 ∧ Pv (i + 1) σ3 H3, bk := tz D } σ2 H2)
    (hd : ∀ σ' H', Ex H H' → Pv ds.length σ' H' → tz D σ' H') : tSeq (tFor (iTup K tl) g tu) tz D σ H := s_forTD (D := { D with nx := tz D }) h Pv h0 hs hd
theorem s_forLD {tl : TE} {g : TG} (h : EvD K tl σ H (.list ds)) (Pv : Nat → L2.St → Hp → Prop) (h0 : ∀ H1, Ex H H1 → Pv 0 σ H1)
    (hs : ∀ i x d σ' H' H0, ds[i]? = some d → Ex H H0 → Ex H0 H' → Pv i σ' H' → Dp K H' x d → g x σ' H' fun σ2 H2 => tu { D with nx := fun σ3 H3 => Ex H0 H3 ∧ Pv (i + 1) σ3 H3, ct := fun σ3 H3 => Ex H0 H3 ∧ Pv (i + 1) σ3 H3, bk := D.nx } σ2 H2)
    (hd : ∀ σ' H', Ex H H' → Pv ds.length σ' H' → D.nx σ' H') : tFor (iList K tl) g tu D σ H :=
  h H (Ex.refl H) _ fun v H1 e hv => by
    cases hv with
    | lst hq hx =>
      rename_i a xs
      have ln := dpa_len hx
      refine ⟨a, rfl, ⟨xs, hq⟩, for_list (xs := xs) (fun i σ' H' => Ex H1 H' ∧ Pv i σ' H') ⟨Ex.refl H1, h0 H1 e⟩ (fun i σ' H' _ p => ex_l p.1 hq) (fun i x σ' H' hi p => ?_) (fun σ' H' p => hd σ' H' (e.trans p.1) (by rw [← ln]; exact p.2))⟩
      obtain ⟨d, hd1, hd2⟩ := dpa_get' hx hi
      exact hs i x d σ' H' H1 hd1 e p.1 p.2 (dp_ex p.1 _ _ hd2)
theorem q_forLD {tl : TE} {g : TG} (h : EvD K tl σ H (.list ds)) (Pv : Nat → L2.St → Hp → Prop) (h0 : ∀ H1, Ex H H1 → Pv 0 σ H1)
    (hs : ∀ i x d σ' H' H0, ds[i]? = some d → Ex H H0 → Ex H0 H' → Pv i σ' H' → Dp K H' x d → g x σ' H' fun σ2 H2 => tu { D with nx := fun σ3 H3 => Ex H0 H3 ∧ Pv (i + 1) σ3 H3, ct := fun σ3 H3 => Ex H0 H3 ∧ Pv (i + 1) σ3 H3, bk := tz D } σ2 H2)
    (hd : ∀ σ' H', Ex H H' → Pv ds.length σ' H' → tz D σ' H') : tSeq (tFor (iList K tl) g tu) tz D σ H := s_forLD (D := { D with nx := tz D }) h Pv h0 hs hd
/-- [te for x in l], no test -/
theorem ed_lcD {tl : TE} {j : Nat} {vs : List Nat} (h : EvD K tl σ H (.list es)) (hz : es.length ≤ 40000) (hl : ds.length = es.length) (hf : lfAll ds = true) (hw : ∀ x, wipe ((wipe σ vs).set j (some x)) vs = wipe σ vs)
    (he : ∀ (i : Nat) x e d H1, Ex H H1 → Dp K H1 x e → es[i]? = some e → ds[i]? = some d → EvD K te ((wipe σ vs).set j (some x)) H1 d) : EvD K (tLc (iList K tl) (gName j) tYes te vs) σ H (.list ds) := fun H0 e Q q => h H0 e _ fun v H1 e1 hv => by
  cases hv with
  | lst hq hx =>
    rename_i a xs
    have ln := dpa_len hx
    refine ⟨a, rfl, ⟨xs, hq⟩, fun Dl hD => lc_list (xs := xs) (fun i H' => H1 Dl = none ∧ Ex H1 H' ∧ ∃ acc, H' Dl = some (.lst acc) ∧ DpAll K H' acc (ds.take i)) ⟨hD, Ex.new hD, [], upd_same, .nil⟩ (fun i H' _ p => ex_l p.2.1 hq) (fun i x H' hi p => ?_) (fun H' p => ?_)⟩
    · obtain ⟨p1, p2, acc, p3, p4⟩ := p
      obtain ⟨e0, he1, he2⟩ := dpa_get' hx hi
      have hlt : i < es.length := (List.getElem?_eq_some_iff.mp he1).1
      have hd0 : ds[i]? = some ds[i] := List.getElem?_eq_getElem (by omega)
      refine ⟨hw x, ?_⟩
      show te ((wipe σ vs).set j (some x)) H' fun y H4 => ∃ acc, H4 Dl = some (.lst acc) ∧ acc.length < sizeLine ∧ (H1 Dl = none ∧ Ex H1 (upd H4 Dl (.lst (acc ++ [y]))) ∧ ∃ acc2, (upd H4 Dl (.lst (acc ++ [y]))) Dl = some (.lst acc2) ∧ DpAll K (upd H4 Dl (.lst (acc ++ [y]))) acc2 (ds.take (i + 1)))
      refine he i x e0 ds[i] H' ((e.trans e1).trans p2) (dp_ex p2 _ _ he2) he1 hd0 H' (Ex.refl H') _ fun y H4 e4 hy => ⟨acc, e4 Dl _ p3, sz_lt (by have := dpa_len p4; rw [List.length_take] at this; omega), p1, Ex.mut (p2.trans e4) p1, acc ++ [y], upd_same, ?_⟩
      have hacc := dpa_ex e4 _ _ p4
      have hk : DpAll K H4 (acc ++ [y]) (ds.take (i + 1)) := by
        rw [List.take_succ, hd0]
        exact dpa_app hacc (.cons hy .nil)
      exact dpa_mut (e4 Dl _ p3) _ _ (lf_take hf _) hk
    · obtain ⟨p1, p2, acc, p3, p4⟩ := p
      rw [ln, ← hl, List.take_length] at p4
      exact q (.ref Dl) H' (e1.trans p2) (.lst (sq_of p3) p4)
/-- [te for x in t], no test -/
theorem ed_lcTD {tl : TE} {j : Nat} {vs : List Nat} (h : EvD K tl σ H (.tuple es)) (hz : es.length ≤ 40000) (hl : ds.length = es.length) (hf : lfAll ds = true) (hw : ∀ x, wipe ((wipe σ vs).set j (some x)) vs = wipe σ vs)
    (he : ∀ (i : Nat) x e d H1, Ex H H1 → Dp K H1 x e → es[i]? = some e → ds[i]? = some d → EvD K te ((wipe σ vs).set j (some x)) H1 d) : EvD K (tLc (iTup K tl) (gName j) tYes te vs) σ H (.list ds) := fun H0 e Q q => h H0 e _ fun v H1 e1 hv => by
  cases hv with
  | tup hq hx =>
    rename_i a xs
    have ln := dpa_len hx
    refine ⟨a, rfl, ⟨xs, hq⟩, fun Dl hD => lc_tup (xs := xs) (fun i H' => H1 Dl = none ∧ Ex H1 H' ∧ ∃ acc, H' Dl = some (.lst acc) ∧ DpAll K H' acc (ds.take i)) ⟨hD, Ex.new hD, [], upd_same, .nil⟩ (fun i H' _ p => ex_t p.2.1 hq) (fun i x H' hi p => ?_) (fun H' p => ?_)⟩
    · obtain ⟨p1, p2, acc, p3, p4⟩ := p
      obtain ⟨e0, he1, he2⟩ := dpa_get' hx hi
      have hlt : i < es.length := (List.getElem?_eq_some_iff.mp he1).1
      have hd0 : ds[i]? = some ds[i] := List.getElem?_eq_getElem (by omega)
      refine ⟨hw x, ?_⟩
      show te ((wipe σ vs).set j (some x)) H' fun y H4 => ∃ acc, H4 Dl = some (.lst acc) ∧ acc.length < sizeLine ∧ (H1 Dl = none ∧ Ex H1 (upd H4 Dl (.lst (acc ++ [y]))) ∧ ∃ acc2, (upd H4 Dl (.lst (acc ++ [y]))) Dl = some (.lst acc2) ∧ DpAll K (upd H4 Dl (.lst (acc ++ [y]))) acc2 (ds.take (i + 1)))
      refine he i x e0 ds[i] H' ((e.trans e1).trans p2) (dp_ex p2 _ _ he2) he1 hd0 H' (Ex.refl H') _ fun y H4 e4 hy => ⟨acc, e4 Dl _ p3, sz_lt (by have := dpa_len p4; rw [List.length_take] at this; omega), p1, Ex.mut (p2.trans e4) p1, acc ++ [y], upd_same, ?_⟩
      have hacc := dpa_ex e4 _ _ p4
      have hk : DpAll K H4 (acc ++ [y]) (ds.take (i + 1)) := by
        rw [List.take_succ, hd0]
        exact dpa_app hacc (.cons hy .nil)
      exact dpa_mut (e4 Dl _ p3) _ _ (lf_take hf _) hk
    · obtain ⟨p1, p2, acc, p3, p4⟩ := p
      rw [ln, ← hl, List.take_length] at p4
      exact q (.ref Dl) H' (e1.trans p2) (.lst (sq_of p3) p4)
theorem g_two {x : V} {a b : V} {d1 d2 : PyData} {i j : Nat} {R : L2.St → Hp → Prop} (h : Dp K H x (.tuple [d1, d2])) (k : ∀ a b, Dp K H a d1 → Dp K H b d2 → R ((σ.set i (some a)).set j (some b)) H) : gTup K 2 (gCons (gName i) (gCons (gName j) gNil)) x σ H R := by
  cases h with
  | tup hs ha =>
    cases ha with
    | cons h1 h2 =>
      cases h2 with
      | cons h3 h4 =>
        cases h4
        exact ⟨_, _, rfl, hs, rfl, _, _, rfl, _, _, rfl, rfl, k _ _ h1 h3⟩
theorem g_three {x : V} {d1 d2 d3 : PyData} {i j l : Nat} {R : L2.St → Hp → Prop} (h : Dp K H x (.tuple [d1, d2, d3])) (k : ∀ a b c, Dp K H a d1 → Dp K H b d2 → Dp K H c d3 → R (((σ.set i (some a)).set j (some b)).set l (some c)) H) : gTup K 3 (gCons (gName i) (gCons (gName j) (gCons (gName l) gNil))) x σ H R := by
  cases h with
  | tup hs ha =>
    cases ha with
    | cons h1 h2 =>
      cases h2 with
      | cons h3 h4 =>
        cases h4 with
        | cons h5 h6 =>
          cases h6
          exact ⟨_, _, rfl, hs, rfl, _, _, rfl, _, _, rfl, _, _, rfl, rfl, k _ _ _ h1 h3 h5⟩
theorem room65 {k : Nat} {A : Around} (r : Room k A) : A.units + 65 < cLine := by
  have := r.un
  omega
end
/-! a for over a text -/
section
variable {K : PySem.W.Frag} {σ : L2.St} {H H' : Hp} {D : Ends} {tu tz : TS}
theorem s_forS {s : Str} {tl : TE} {j : Nat} (h : Ev tl σ H (.str s)) (Pv : Nat → L2.St → Hp → Prop) (h0 : ∀ H1, Ex H H1 → Pv 0 σ H1)
    (hs : ∀ (i : Nat) (c : Nat) σ' H', s.cps[i]? = some c → Pv i σ' H' → tu { D with nx := Pv (i + 1), ct := Pv (i + 1), bk := D.nx } (σ'.set j (some (.str ⟨#[c]⟩))) H') (hd : ∀ σ' H', Pv s.cps.size σ' H' → D.nx σ' H') : tFor (iStr tl) (gName j) tu D σ H :=
  h H (Ex.refl H) _ fun H1 e => ⟨s, rfl, for_it walk_str Pv (h0 H1 e) (fun _ _ _ _ _ => trivial) (fun i x σ' H' H2 _ p y => by
    obtain ⟨rfl, c, hc, rfl⟩ := y
    exact hs i c σ' H2 hc p) hd⟩
theorem q_forS {s : Str} {tl : TE} {j : Nat} (h : Ev tl σ H (.str s)) (Pv : Nat → L2.St → Hp → Prop) (h0 : ∀ H1, Ex H H1 → Pv 0 σ H1)
    (hs : ∀ (i : Nat) (c : Nat) σ' H', s.cps[i]? = some c → Pv i σ' H' → tu { D with nx := Pv (i + 1), ct := Pv (i + 1), bk := tz D } (σ'.set j (some (.str ⟨#[c]⟩))) H') (hd : ∀ σ' H', Pv s.cps.size σ' H' → tz D σ' H') : tSeq (tFor (iStr tl) (gName j) tu) tz D σ H :=
  s_forS (D := { D with nx := tz D }) h Pv h0 hs hd
end

end

section
/-! ### the reading by itself: a value (ev), a test (et), arguments (ea), an operation on values (rv), a built-in call (rc), side conditions (sd), statements (st) -/
local macro_rules | `(tactic| walk_at "sd") => `(tactic| first | exact True.intro | assumption | omega | decide | exact Or.inl rfl | exact Or.inr ⟨_, rfl⟩ | exact Or.inr ⟨_, rfl, by assumption, by assumption⟩ | exact Or.inr ⟨_, rfl, by omega, by omega⟩ | (refine ⟨?_, ?_⟩ <;> walk_at "sd") | (simp only [*] <;> omega))
local macro_rules | `(tactic| walk_at "ea") => `(tactic| first
  | (with_reducible exact ea_nil)
  | ((with_reducible refine' ea_cons ?ha ?hr); (case ha => walk_at "ev"); (case hr => walk_at "ea")))
local macro_rules | `(tactic| walk_at "rv") => `(tactic| first
  | ((with_reducible show RV rAddU _ _ _ _); first | exact rv_addI | (refine' rv_addS ?h; (case h => walk_at "sd")))
  | ((with_reducible show RV rSubI _ _ _ _); exact rv_subI)
  | ((with_reducible show RV rMulI _ _ _ _); first | exact rv_mulL (by omega) (by omega) | exact rv_mulR (by omega) (by omega))
  | ((with_reducible show RV rMulS _ _ _ _); refine' rv_mulS ?h1 ?h2 ?h3; (case h1 => walk_at "sd"); (case h2 => walk_at "sd"); (case h3 => walk_at "sd"))
  | ((with_reducible show RV rDivI _ _ _ _); exact rv_divI (by omega) (by omega))
  | ((with_reducible show RV rModI _ _ _ _); exact rv_modI (by omega))
  | ((with_reducible show RV rLtI _ _ _ _); exact rv_ltI)
  | ((with_reducible show RV rLeI _ _ _ _); exact rv_leI)
  | ((with_reducible show RV rGtI _ _ _ _); exact rv_gtI)
  | ((with_reducible show RV rGeI _ _ _ _); exact rv_geI)
  | ((with_reducible show RV Y.rIsN _ _ _ _); first | exact rv_isN1 | exact rv_isN0 rfl)
  | ((with_reducible show RV Y.rNotN _ _ _ _); first | exact rv_notN1 | exact rv_notN0 rfl)
  | ((with_reducible show RV (rIsU _) _ _ _ _); first | exact rv_isBB | exact rv_isNB | exact rv_isIB | exact rv_isSB | exact rv_isnBB)
  | ((with_reducible show RV rEq _ _ _ _); first | exact rv_eqII | exact rv_eqSS | exact rv_eqBB | exact rv_eq rfl)
  | ((with_reducible show RV rNe _ _ _ _); first | exact rv_neII | exact rv_neSS | exact rv_neBB | exact rv_ne rfl)
  | ((with_reducible show RV (rIx _) _ _ _ _); first | exact rv_ixuT (by assumption) rfl | exact rv_ixuL (by assumption) rfl | exact rv_ixuT (by assumption) (by assumption) | exact rv_ixuL (by assumption) (by assumption) | exact rv_ixuS (by assumption) (by assumption)))
local macro_rules | `(tactic| walk_at "eo") => `(tactic| first | (with_reducible exact eo_none) | ((with_reducible refine' eo_some ?hx); (case hx => walk_at "ev")))
local macro_rules | `(tactic| walk_at "rm") => `(tactic| first
  | ((with_reducible show RM rStart _ _ _ _); exact rm_start)
  | ((with_reducible show RM rFind _ _ _ _); exact rm_find)
  | ((with_reducible show RM rDigit _ _ _ _); exact rm_digit)
  | ((with_reducible show RM rStrip _ _ _ _); refine' rm_strip ?hz; (case hz => walk_at "sd"))
  | ((with_reducible show RM rLStrip _ _ _ _); refine' rm_lstrip ?hz; (case hz => walk_at "sd"))
  | ((with_reducible show RM rRStrip _ _ _ _); refine' rm_rstrip ?hz; (case hz => walk_at "sd"))
  | ((with_reducible show RM rZfill _ _ _ _); exact rm_zfill rfl))
local macro_rules | `(tactic| walk_at "eu") => `(tactic| first
  | ((with_reducible refine' eu_tup ?ha ?hl); (case ha => walk_at "ea"); (case hl => exact Nat.le_of_ble_eq_true rfl)))
local macro_rules | `(tactic| walk_at "rc") => `(tactic| first
  | ((with_reducible show RC (rLenU _) _ _ _); first | exact rc_lenL (by assumption) | exact rc_lenT (by assumption) | (refine' rc_lenS ?h; (case h => walk_at "sd")))
  | ((with_reducible show RC rAbsI _ _ _); exact rc_abs)
  | ((with_reducible show RC rMaxI _ _ _); exact rc_max)
  | ((with_reducible show RC rMinI _ _ _); exact rc_min)
  | ((with_reducible show RC rIntU _ _ _); first | exact rc_intI | exact rc_intB)
  | ((with_reducible show RC rStrI _ _ _); refine' rc_str ?h; (case h => walk_at "sd"))
  | ((with_reducible show RC (rIsi _) _ _ _); first
      | exact rc_isi kb_nb tx_non | exact rc_isi kb_ni tx_non | exact rc_isi kb_ns tx_non
      | exact rc_isi kb_bb (tx_bl _) | exact rc_isi kb_bi (tx_bl _) | exact rc_isi kb_bs (tx_bl _)
      | exact rc_isi kb_ib (tx_int _) | exact rc_isi kb_ii (tx_int _) | exact rc_isi kb_is (tx_int _)
      | exact rc_isi kb_sb (tx_str _) | exact rc_isi kb_si (tx_str _) | exact rc_isi kb_ss (tx_str _)))
local macro_rules | `(tactic| walk_at "ev") => `(tactic| first
  | (with_reducible exact ev_c)
  | ((with_reducible refine' ev_var ?hv); (case hv => rfl))
  | ((with_reducible refine' ev_op ?ha ?hb ?hr); (case ha => walk_at "ev"); (case hb => walk_at "ev"); (case hr => walk_at "rv"))
  | ((with_reducible refine' ev_ixU1 ?ha ?hb ?hi); (case ha => walk_at "eu"); (case hb => walk_at "ev"); (case hi => rfl))
  | ((with_reducible refine' ev_m0 ?ho ?hr); (case ho => walk_at "ev"); (case hr => walk_at "rm"))
  | ((with_reducible refine' ev_m1 ?ho ?he ?hr); (case ho => walk_at "ev"); (case he => walk_at "ev"); (case hr => walk_at "rm"))
  | ((with_reducible refine' ev_slS ?hx ?h1 ?h2 ?hz); (case hx => walk_at "ev"); (case h1 => walk_at "eo"); (case h2 => walk_at "eo"); (case hz => walk_at "sd"))
  | ((with_reducible refine' ev_un ?ha ?hr); (case ha => walk_at "ev"); (case hr => exact ru_negI))
  | ((with_reducible refine' ev_cb ?ha ?hr); (case ha => walk_at "ea"); (case hr => walk_at "rc"))
  | ((with_reducible show Ev (tIf _ _ _) _ _ _); first
      | (refine' ev_ifT ?ht ?hx; (case ht => walk_at "et"); (case hx => walk_at "ev"))
      | (refine' ev_ifF ?ht ?hx; (case ht => walk_at "et"); (case hx => walk_at "ev"))
      | (refine' ev_ifB ?ht ?hx ?hy; (case ht => walk_at "et"); (case hx => (intro hb; walk_at "ev")); (case hy => (intro hb; walk_at "ev"))))
  | ((with_reducible show Ev (tAndV _ _) _ _ _); first
      | (refine' ev_and0 ?h1; (case h1 => walk_at "ev"))
      | (refine' ev_and1 ?h1 ?h2; (case h1 => walk_at "ev"); (case h2 => walk_at "ev"))
      | (refine' ev_andV ?h1 ?h2; (case h1 => walk_at "ev"); (case h2 => (intro hb; walk_at "ev"))))
  | ((with_reducible show Ev (tOrV _ _) _ _ _); first
      | (refine' ev_or1 ?h1; (case h1 => walk_at "ev"))
      | (refine' ev_or0 ?h1 ?h2; (case h1 => walk_at "ev"); (case h2 => walk_at "ev"))
      | (refine' ev_orV ?h1 ?h2; (case h1 => walk_at "ev"); (case h2 => (intro hb; walk_at "ev"))))
  | ((with_reducible show Ev (tNotV _) _ _ _); refine' ev_notV ?h1; (case h1 => walk_at "ev"))
  | ((with_reducible show Ev (tChain _ _ _ _ _) _ _ _); refine' ev_is (ev_chainI ?ha ?hb ?hc ?hr ?hs) ?he; (case ha => walk_at "ev"); (case hb => walk_at "ev"); (case hc => walk_at "ev"); (case hr => walk_at "rv"); (case hs => walk_at "rv"); (case he => rfl))
  | ((with_reducible show Ev (tCall _ _ _ _) _ _ _); refine' ev_is ?hk ?he; (case hk => first
      | ((with_reducible refine' ec_I ?ha ?hc); (case ha => walk_at "ea"); (case hc => walk_at "sd"))
      | ((with_reducible refine' ec_II ?ha ?hc); (case ha => walk_at "ea"); (case hc => walk_at "sd"))
      | ((with_reducible refine' ec_III ?ha ?hc); (case ha => walk_at "ea"); (case hc => walk_at "sd"))
      | ((with_reducible refine' ec_V ?ha ?hc); (case ha => walk_at "ea"); (case hc => walk_at "sd"))
      | ((with_reducible refine' ec_VV ?ha ?hc); (case ha => walk_at "ea"); (case hc => walk_at "sd"))
      | ((with_reducible refine' ec_VVV ?ha ?hc); (case ha => walk_at "ea"); (case hc => walk_at "sd"))
      | ((with_reducible refine' ec_S ?ha ?hc); (case ha => walk_at "ea"); (case hc => walk_at "sd"))
      | ((with_reducible refine' ec_SS ?ha ?hc); (case ha => walk_at "ea"); (case hc => walk_at "sd"))
      | ((with_reducible refine' ec_SSS ?ha ?hc); (case ha => walk_at "ea"); (case hc => walk_at "sd"))); (case he => rfl)))
local macro_rules | `(tactic| walk_at "et") => `(tactic| first
  | ((with_reducible show EvT (tTest _) _ _ _); refine' et_is (et_test ?h) ?he; (case h => walk_at "ev"); (case he => rfl))
  | ((with_reducible show EvT (tB _) _ _ _); refine' et_is (et_B ?h) ?he; (case h => walk_at "ev"); (case he => rfl))
  | ((with_reducible show EvT (tNot _) _ _ _); refine' et_is (et_not ?h) ?he; (case h => walk_at "et"); (case he => rfl))
  | ((with_reducible show EvT (tAnd _ _) _ _ _); first
      | (refine' et_is (et_and0 ?h1) ?he; (case h1 => walk_at "et"); (case he => rfl))
      | (refine' et_and1 ?h1 ?h2; (case h1 => walk_at "et"); (case h2 => walk_at "et"))
      | (refine' et_and ?h1 ?h2; (case h1 => walk_at "et"); (case h2 => (intro hb; walk_at "et"))))
  | ((with_reducible show EvT (tOr _ _) _ _ _); first
      | (refine' et_is (et_or1 ?h1) ?he; (case h1 => walk_at "et"); (case he => rfl))
      | (refine' et_or0 ?h1 ?h2; (case h1 => walk_at "et"); (case h2 => walk_at "et"))
      | (refine' et_or ?h1 ?h2; (case h1 => walk_at "et"); (case h2 => (intro hb; walk_at "et")))))
local macro_rules | `(tactic| walk_at "ex") => `(tactic| first | exact Ex.refl _ | assumption | (refine Ex.trans ?hx (by assumption); (case hx => walk_at "ex")))
local macro_rules | `(tactic| walk_at "st") => `(tactic| first
  | ((with_reducible show tSeq (tIfS _ _ tNext) _ _ _ _); refine' q_when ?ht ?h1 ?h2; (case ht => walk_at "et"); all_goals ((intro hb H1 e1); first | (exfalso; cases hb; done) | walk_at "st" | (exfalso; simp_all; done)))
  | ((with_reducible show tSeq (tIfS _ _ _) _ _ _ _); refine' q_if ?ht ?h1 ?h2; (case ht => walk_at "et"); all_goals ((intro hb H1 e1); first | (exfalso; cases hb; done) | walk_at "st" | (exfalso; simp_all; done)))
  | ((with_reducible show tIfS _ _ _ _ _ _); refine' s_if ?ht ?h1 ?h2; (case ht => walk_at "et"); all_goals ((intro hb H1 e1); first | (exfalso; cases hb; done) | walk_at "st" | (exfalso; simp_all; done)))
  | ((with_reducible show tSeq (tAsg _ (gName _)) _ _ _ _); refine' q_asg ?ht ?h1; (case ht => walk_at "ev"); (intro H1 e1; walk_at "st"))
  | ((with_reducible show tRet _ _ _ _); refine' s_ret ?ht ?h1; (case ht => walk_at "ev"); (intro H1 e1; refine fin (by assumption) (by walk_at "ex") ?he)))
local macro_rules | `(tactic| walk_at "as") => `(tactic| ((with_reducible show tSeq (tAsg _ (gName _)) _ _ _ _); refine' q_asg ?ht ?h1; (case ht => walk_at "ev"); intro H1 e1))
local macro_rules | `(tactic| walk_at "as1") => `(tactic| ((with_reducible show tAsg _ (gName _) _ _ _); refine' s_asg ?ht ?h1; (case ht => walk_at "ev"); intro H1 e1))
local macro_rules | `(tactic| walk_at "ru") => `(tactic| ((with_reducible show tRet (tTup _) _ _ _); refine' s_retU (eu_tup ?ha ?hl) ?hk; (case ha => walk_at "ea"); (case hl => exact Nat.le_of_ble_eq_true rfl); intro p H1 np e1 hp))


section
variable {P : Program} {w : World} {K : PySem.W.Frag} {mg : Str → Option Value} {base : Heap}
/-! ### values -/
def Sc : V → Prop
  | .non => True
  | .bl _ => True
  | .int _ => True
  | .str _ => True
  | _ => False
def isIntV : V → V
  | .int _ => .bl true
  | _ => .bl false
def OptI (v : V) : Prop := v = .non ∨ ∃ i, v = .int i ∧ -1000000000000000 ≤ i ∧ i ≤ 1000000000000000
def OptB (v : V) : Prop := v = .non ∨ ∃ b, v = .bl b
def krV : V → V
  | .non => .int 0
  | .bl _ => .int 1
  | .int _ => .int 2
  | _ => .int 3
def isDayV : V → V
  | .int i => .bl (decide (-719162 ≤ i) && decide (i ≤ 2932896))
  | _ => .bl false
def leapB (y : Int) : Bool := decide (y % 4 = 0) && (!decide (y % 100 = 0) || decide (y % 400 = 0))
def daysBefore (y : Int) : Int := 365 * (y - 1) + (y - 1) / 4 - (y - 1) / 100 + (y - 1) / 400
def limF (i : Int) : V := if -1000000000000000 ≤ i ∧ i ≤ 1000000000000000 then .int i else .non
def absI (i : Int) : Int := if i < 0 then -i else i
def rndI (n d : Int) : Int := if decide (n < 0) = decide (d < 0) then (2 * absI n + absI d) / (2 * absI d) else -((2 * absI n + absI d) / (2 * absI d))
def quoI (n d : Int) : Int := if decide (n < 0) = decide (d < 0) then absI n / absI d else -(absI n / absI d)
def Dv (d : Int) : Prop := d ≠ 0 ∧ -100000000000000000000 < d ∧ d < 100000000000000000000
theorem absI_bd {d : Int} (h : Dv d) : 0 < absI d ∧ absI d < 100000000000000000000 := by
  unfold absI Dv at *
  split <;> omega

theorem c_is_integer (T : Tx w K mg) : C8.Cal P w K mg base 1 "is_integer" (spV Sc isIntV) [] := by
  refine mk_cal T (x := "is_integer") (i := 1) (j := 0) (N := ["value"]) (ps := ["value"]) rfl rfl (by decide +kernel) (fun _ _ _ _ _ _ us hl => match us, hl with | [_], _ => rfl) (fun vs H Q E h => by obtain ⟨_, rfl, _⟩ := h; rfl) (fun cdv A outer s H vs Q E nd hr h => ⟨_, (pss_one (ps_ret (pe_and (pe_callB call_isi (by rfl) T.m_isinstance boot_isinstance (pa_cons (pv 0) (pa_cons (pe_bltn (v := .ty "int") (by rfl) T.m_int boot_int rfl) pa_nil))) (pe_one (pe_not (pe_callB call_isi (by rfl) T.m_isinstance boot_isinstance (pa_cons (pv 0) (pa_cons (pe_bltn (v := .ty "bool") (by rfl) T.m_bool boot_bool rfl) pa_nil)))))))), ?hb⟩)
  case hb =>
    obtain ⟨a, rfl, c, hQ⟩ := h
    cases a <;> first | exact False.elim c | (walk_at "st"; rfl)

theorem c__law_is_integer (T : Tx w K mg) : C8.Cal P w K mg base 1 "_law_is_integer" (spV Sc isIntV) [] := by
  refine mk_cal T (x := "_law_is_integer") (i := 124) (j := 95) (N := ["_law_value"]) (ps := ["_law_value"]) rfl rfl (by decide +kernel) (fun _ _ _ _ _ _ us hl => match us, hl with | [_], _ => rfl) (fun vs H Q E h => by obtain ⟨_, rfl, _⟩ := h; rfl) (fun cdv A outer s H vs Q E nd hr h => ⟨_, (pss_one (ps_ret (pe_and (pe_callB call_isi (by rfl) T.m_isinstance boot_isinstance (pa_cons (pv 0) (pa_cons (pe_bltn (v := .ty "int") (by rfl) T.m_int boot_int rfl) pa_nil))) (pe_one (pe_not (pe_callB call_isi (by rfl) T.m_isinstance boot_isinstance (pa_cons (pv 0) (pa_cons (pe_bltn (v := .ty "bool") (by rfl) T.m_bool boot_bool rfl) pa_nil)))))))), ?hb⟩)
  case hb =>
    obtain ⟨a, rfl, c, hQ⟩ := h
    cases a <;> first | exact False.elim c | (walk_at "st"; rfl)

theorem c_kind_rank (T : Tx w K mg) : C8.Cal P w K mg base 1 "kind_rank" (spV Sc krV) [] := by
  refine mk_cal T (x := "kind_rank") (i := 2) (j := 1) (N := ["value"]) (ps := ["value"]) rfl rfl (by decide +kernel) (fun _ _ _ _ _ _ us hl => match us, hl with | [_], _ => rfl) (fun vs H Q E h => by obtain ⟨_, rfl, _⟩ := h; rfl) (fun cdv A outer s H vs Q E nd hr h => ⟨_, (pss_cons (ps_if (pt_cmpR o_isN (pv 0) pe_non (nomark _)) (pss_one (ps_ret pe_int)) pss_nil)
      (pss_cons (ps_if (pt_val (pe_callB call_isi (by rfl) T.m_isinstance boot_isinstance (pa_cons (pv 0) (pa_cons (pe_bltn (v := .ty "bool") (by rfl) T.m_bool boot_bool rfl) pa_nil)))) (pss_one (ps_ret pe_int)) pss_nil)
      (pss_cons (ps_if (pt_val (pe_callB call_isi (by rfl) T.m_isinstance boot_isinstance (pa_cons (pv 0) (pa_cons (pe_bltn (v := .ty "int") (by rfl) T.m_int boot_int rfl) pa_nil)))) (pss_one (ps_ret pe_int)) pss_nil)
      (pss_one (ps_ret pe_int))))), ?hb⟩)
  case hb =>
    obtain ⟨a, rfl, c, hQ⟩ := h
    cases a <;> first | exact False.elim c | (walk_at "st"; rfl)

theorem c_is_day (T : Tx w K mg) : C8.Cal P w K mg base 2 "is_day" (spV Sc isDayV) [] := by
  refine mk_cal T (x := "is_day") (i := 10) (j := 5) (N := ["value"]) (ps := ["value"]) rfl rfl (by decide +kernel) (fun _ _ _ _ _ _ us hl => match us, hl with | [_], _ => rfl) (fun vs H Q E h => by obtain ⟨_, rfl, _⟩ := h; rfl) (fun cdv A outer s H vs Q E nd hr h => ⟨_, (pss_one (ps_ret (pe_and (C8.pe_c (c_is_integer T) hr (by decide) (by rfl) (pa_cons (pv 0) pa_nil)) (pe_one (pe_chain o_le o_le (C8.pe_gc (by rfl) T.FIRST_DAY) (pv 0) (C8.pe_gc (by rfl) T.LAST_DAY)))))), ?hb⟩)
  case hb =>
    obtain ⟨a, rfl, c, hQ⟩ := h
    cases a <;> first | exact False.elim c | (walk_at "st"; rfl)

theorem c_is_leap (T : Tx w K mg) : C8.Cal P w K mg base 1 "is_leap" (spI (fun _ => True) (fun y => .bl (leapB y))) [] := by
  refine mk_cal T (x := "is_leap") (i := 11) (j := 6) (N := ["year"]) (ps := ["year"]) rfl rfl (by decide +kernel) (fun _ _ _ _ _ _ us hl => match us, hl with | [_], _ => rfl) (fun vs H Q E h => by obtain ⟨_, rfl, _⟩ := h; rfl) (fun cdv A outer s H vs Q E nd hr h => ⟨_, (pss_one (ps_ret (pe_and (pe_cmpR op_eq (pe_op o_mod (pv 0) pe_int) pe_int (nomark _)) (pe_one (pe_or (pe_cmpR op_ne (pe_op o_mod (pv 0) pe_int) pe_int (nomark _)) (pe_one (pe_cmpR op_eq (pe_op o_mod (pv 0) pe_int) pe_int (nomark _)))))))), ?hb⟩)
  case hb =>
    obtain ⟨i, rfl, c, hQ⟩ := h
    walk_at "st"
    rfl

theorem c_days_before (T : Tx w K mg) : C8.Cal P w K mg base 1 "days_before" (spI (fun _ => True) (fun y => .int (daysBefore y))) [] := by
  refine mk_cal T (x := "days_before") (i := 13) (j := 8) (N := ["year", "past"]) (ps := ["year"]) rfl rfl (by decide +kernel) (fun _ _ _ _ _ _ us hl => match us, hl with | [_], _ => rfl) (fun vs H Q E h => by obtain ⟨_, rfl, _⟩ := h; rfl) (fun cdv A outer s H vs Q E nd hr h => ⟨_, (pss_cons (ps_set (i := 1) nd rfl (.inl rfl) (pe_op o_sub (pv 0) pe_int))
      (pss_one (ps_ret (pe_op o_add (pe_op o_sub (pe_op o_add (pe_op o_mul pe_int (pv 1)) (pe_op o_div (pv 1) pe_int)) (pe_op o_div (pv 1) pe_int)) (pe_op o_div (pv 1) pe_int))))), ?hb⟩)
  case hb =>
    obtain ⟨i, rfl, c, hQ⟩ := h
    walk_at "st"
    rfl

theorem c_limited (T : Tx w K mg) : C8.Cal P w K mg base 1 "limited" (spI (fun _ => True) limF) [] := by
  refine mk_cal T (x := "limited") (i := 21) (j := 13) (N := ["number"]) (ps := ["number"]) rfl rfl (by decide +kernel) (fun _ _ _ _ _ _ us hl => match us, hl with | [_], _ => rfl) (fun vs H Q E h => by obtain ⟨_, rfl, _⟩ := h; rfl) (fun cdv A outer s H vs Q E nd hr h => ⟨_, (pss_cons (ps_if (pt_chain o_le o_le (pe_un u_neg (C8.pe_gc (by rfl) T.GREATEST)) (pv 0) (C8.pe_gc (by rfl) T.GREATEST)) (pss_one (ps_ret (pv 0))) pss_nil)
      (pss_one (ps_ret pe_non))), ?hb⟩)
  case hb =>
    obtain ⟨i, rfl, c, hQ⟩ := h
    walk_at "st" <;> simp_all [limF]

theorem c_rounded (T : Tx w K mg) : C8.Cal P w K mg base 1 "rounded" (spII (fun _ d => Dv d) (fun n d => .int (rndI n d))) [] := by
  refine mk_cal T (x := "rounded") (i := 22) (j := 14) (N := ["number", "divisor", "size"]) (ps := ["number", "divisor"]) rfl rfl (by decide +kernel) (fun _ _ _ _ _ _ us hl => match us, hl with | [_, _], _ => rfl) (fun vs H Q E h => by obtain ⟨_, _, rfl, _⟩ := h; rfl) (fun cdv A outer s H vs Q E nd hr h => ⟨_, (pss_cons (ps_set (i := 2) nd rfl (.inl rfl) (pe_op o_div (pe_op o_add (pe_op o_mul pe_int (pe_callB b_abs (by rfl) T.m_abs boot_abs (pa_cons (pv 0) pa_nil))) (pe_callB b_abs (by rfl) T.m_abs boot_abs (pa_cons (pv 1) pa_nil))) (pe_op o_mul pe_int (pe_callB b_abs (by rfl) T.m_abs boot_abs (pa_cons (pv 1) pa_nil)))))
      (pss_cons (ps_if (pt_cmpR op_ne (pe_cmpR o_lt (pv 0) pe_int (nomark _)) (pe_cmpR o_lt (pv 1) pe_int (nomark _)) (nomark _)) (pss_one (ps_ret (pe_un u_neg (pv 2)))) pss_nil)
      (pss_one (ps_ret (pv 2))))), ?hb⟩)
  case hb =>
    obtain ⟨i, j, rfl, c, hQ⟩ := h
    obtain ⟨c1, c2⟩ := absI_bd c
    unfold absI at c1 c2
    walk_at "st" <;> simp_all [rndI, absI]

theorem c_quotient (T : Tx w K mg) : C8.Cal P w K mg base 1 "quotient" (spII (fun _ d => Dv d) (fun n d => .int (quoI n d))) [] := by
  refine mk_cal T (x := "quotient") (i := 23) (j := 15) (N := ["number", "divisor", "size"]) (ps := ["number", "divisor"]) rfl rfl (by decide +kernel) (fun _ _ _ _ _ _ us hl => match us, hl with | [_, _], _ => rfl) (fun vs H Q E h => by obtain ⟨_, _, rfl, _⟩ := h; rfl) (fun cdv A outer s H vs Q E nd hr h => ⟨_, (pss_cons (ps_set (i := 2) nd rfl (.inl rfl) (pe_op o_div (pe_callB b_abs (by rfl) T.m_abs boot_abs (pa_cons (pv 0) pa_nil)) (pe_callB b_abs (by rfl) T.m_abs boot_abs (pa_cons (pv 1) pa_nil))))
      (pss_cons (ps_if (pt_cmpR op_ne (pe_cmpR o_lt (pv 0) pe_int (nomark _)) (pe_cmpR o_lt (pv 1) pe_int (nomark _)) (nomark _)) (pss_one (ps_ret (pe_un u_neg (pv 2)))) pss_nil)
      (pss_one (ps_ret (pv 2))))), ?hb⟩)
  case hb =>
    obtain ⟨i, j, rfl, c, hQ⟩ := h
    obtain ⟨c1, c2⟩ := absI_bd c
    unfold absI at c1 c2
    walk_at "st" <;> simp_all [quoI, absI]


def negV : V → V
  | .bl b => .bl (!b)
  | _ => .non
def andV (a b : V) : V := if a = .bl false ∨ b = .bl false then .bl false else if a = .bl true ∧ b = .bl true then .bl true else .non
def orV (a b : V) : V := if a = .bl true ∨ b = .bl true then .bl true else if a = .bl false ∧ b = .bl false then .bl false else .non

theorem c_negated (T : Tx w K mg) : C8.Cal P w K mg base 1 "negated" (spV OptB negV) [] := by
  refine mk_cal T (x := "negated") (i := 65) (j := 44) (N := ["value"]) (ps := ["value"]) rfl rfl (by decide +kernel) (fun _ _ _ _ _ _ us hl => match us, hl with | [_], _ => rfl) (fun vs H Q E h => by obtain ⟨_, rfl, _⟩ := h; rfl) (fun cdv A outer s H vs Q E nd hr h => ⟨_, (pss_cons (ps_if (pt_cmpR o_isU (pv 0) pe_bl (nomark _)) (pss_one (ps_ret pe_bl)) pss_nil)
      (pss_cons (ps_if (pt_cmpR o_isU (pv 0) pe_bl (nomark _)) (pss_one (ps_ret pe_bl)) pss_nil)
      (pss_one (ps_ret pe_non)))), ?hb⟩)
  case hb =>
    obtain ⟨a, rfl, c, hQ⟩ := h
    rcases c with rfl | ⟨b, rfl⟩
    · walk_at "st"; rfl
    · cases b <;> (walk_at "st"; rfl)

theorem c_both (T : Tx w K mg) : C8.Cal P w K mg base 1 "both" (spVV (fun a b => OptB a ∧ OptB b) andV) [] := by
  refine mk_cal T (x := "both") (i := 66) (j := 45) (N := ["first", "second"]) (ps := ["first", "second"]) rfl rfl (by decide +kernel) (fun _ _ _ _ _ _ us hl => match us, hl with | [_, _], _ => rfl) (fun vs H Q E h => by obtain ⟨_, _, rfl, _⟩ := h; rfl) (fun cdv A outer s H vs Q E nd hr h => ⟨_, (pss_cons (ps_if (PW.pt (pw_or (pt_cmpR o_isU (pv 0) pe_bl (nomark _)) (pw_or1 (pt_cmpR o_isU (pv 1) pe_bl (nomark _))))) (pss_one (ps_ret pe_bl)) pss_nil)
      (pss_cons (ps_if (PW.pt (pw_and (pt_cmpR o_isU (pv 0) pe_bl (nomark _)) (pw_and1 (pt_cmpR o_isU (pv 1) pe_bl (nomark _))))) (pss_one (ps_ret pe_bl)) pss_nil)
      (pss_one (ps_ret pe_non)))), ?hb⟩)
  case hb =>
    obtain ⟨a, b, rfl, c, hQ⟩ := h
    obtain ⟨c1, c2⟩ := c
    rcases c1 with rfl | ⟨p, rfl⟩ <;> rcases c2 with rfl | ⟨q, rfl⟩ <;> (try cases p) <;> (try cases q) <;> (walk_at "st"; rfl)

theorem c_either (T : Tx w K mg) : C8.Cal P w K mg base 1 "either" (spVV (fun a b => OptB a ∧ OptB b) orV) [] := by
  refine mk_cal T (x := "either") (i := 67) (j := 46) (N := ["first", "second"]) (ps := ["first", "second"]) rfl rfl (by decide +kernel) (fun _ _ _ _ _ _ us hl => match us, hl with | [_, _], _ => rfl) (fun vs H Q E h => by obtain ⟨_, _, rfl, _⟩ := h; rfl) (fun cdv A outer s H vs Q E nd hr h => ⟨_, (pss_cons (ps_if (PW.pt (pw_or (pt_cmpR o_isU (pv 0) pe_bl (nomark _)) (pw_or1 (pt_cmpR o_isU (pv 1) pe_bl (nomark _))))) (pss_one (ps_ret pe_bl)) pss_nil)
      (pss_cons (ps_if (PW.pt (pw_and (pt_cmpR o_isU (pv 0) pe_bl (nomark _)) (pw_and1 (pt_cmpR o_isU (pv 1) pe_bl (nomark _))))) (pss_one (ps_ret pe_bl)) pss_nil)
      (pss_one (ps_ret pe_non)))), ?hb⟩)
  case hb =>
    obtain ⟨a, b, rfl, c, hQ⟩ := h
    obtain ⟨c1, c2⟩ := c
    rcases c1 with rfl | ⟨p, rfl⟩ <;> rcases c2 with rfl | ⟨q, rfl⟩ <;> (try cases p) <;> (try cases q) <;> (walk_at "st"; rfl)

end

section
variable {P : Program} {w : World} {K : PySem.W.Frag} {mg : Str → Option Value} {base : Heap}

def negF : V → V
  | .int i => .int (-i)
  | _ => .non
def absF : V → V
  | .int i => .int (absI i)
  | _ => .non
def signF : V → V
  | .int i => .int ((if decide (0 < i) = true then 1 else 0) - (if decide (i < 0) = true then 1 else 0))
  | _ => .non
def asDecF : V → V
  | .int i => .int i
  | _ => .non
def toDecF : V → V
  | .int i => limF (10000 * i)
  | _ => .non
def toIntF : V → V
  | .int i => .int (rndI i 10000)
  | _ => .non
def areIV (a b : V) : V := match a, b with
  | .int _, .int _ => .bl true
  | _, _ => .bl false
def addF (a b : V) : V := match a, b with
  | .int i, .int j => limF (i + j)
  | _, _ => .non
def subF (a b : V) : V := match a, b with
  | .int i, .int j => limF (i - j)
  | _, _ => .non
def mulF (a b : V) : V := match a, b with
  | .int i, .int j => limF (i * j)
  | _, _ => .non
def divF (a b : V) : V := match a, b with
  | .int i, .int j => if j = 0 then .non else limF (quoI i j)
  | _, _ => .non
def restF (a b : V) : V := match a, b with
  | .int i, .int j => if j = 0 then .non else limF (i - j * quoI i j)
  | _, _ => .non
def mulDF (a b : V) : V := match a, b with
  | .int i, .int j => limF (rndI (i * j) 10000)
  | _, _ => .non
def divDF (a b : V) : V := match a, b with
  | .int i, .int j => if j = 0 then .non else limF (rndI (10000 * i) j)
  | _, _ => .non
theorem dv_of {j : Int} (h : ¬ j = 0) (h1 : -1000000000000000 ≤ j) (h2 : j ≤ 1000000000000000) : Dv j := ⟨h, by omega, by omega⟩
theorem dv_10 : Dv 10000 := ⟨by decide, by decide, by decide⟩

theorem c_negate (T : Tx w K mg) : C8.Cal P w K mg base 2 "negate" (spV OptI negF) [] := by
  refine mk_cal T (x := "negate") (i := 69) (j := 47) (N := ["value"]) (ps := ["value"]) rfl rfl (by decide +kernel) (fun _ _ _ _ _ _ us hl => match us, hl with | [_], _ => rfl) (fun vs H Q E h => by obtain ⟨_, rfl, _⟩ := h; rfl) (fun cdv A outer s H vs Q E nd hr h => ⟨_, (pss_one (ps_ret (pe_ifExp (pt_val (C8.pe_c (c_is_integer T) hr (by decide) (by rfl) (pa_cons (pv 0) pa_nil))) (pe_un u_neg (pv 0)) pe_non))), ?hb⟩)
  case hb =>
    obtain ⟨a, rfl, c, hQ⟩ := h
    rcases c with rfl | ⟨i, rfl, c1, c2⟩ <;> (walk_at "st"; rfl)

theorem c_without_sign (T : Tx w K mg) : C8.Cal P w K mg base 2 "without_sign" (spV OptI absF) [] := by
  refine mk_cal T (x := "without_sign") (i := 70) (j := 48) (N := ["value"]) (ps := ["value"]) rfl rfl (by decide +kernel) (fun _ _ _ _ _ _ us hl => match us, hl with | [_], _ => rfl) (fun vs H Q E h => by obtain ⟨_, rfl, _⟩ := h; rfl) (fun cdv A outer s H vs Q E nd hr h => ⟨_, (pss_one (ps_ret (pe_ifExp (pt_val (C8.pe_c (c_is_integer T) hr (by decide) (by rfl) (pa_cons (pv 0) pa_nil))) (pe_callB b_abs (by rfl) T.m_abs boot_abs (pa_cons (pv 0) pa_nil)) pe_non))), ?hb⟩)
  case hb =>
    obtain ⟨a, rfl, c, hQ⟩ := h
    rcases c with rfl | ⟨i, rfl, c1, c2⟩ <;> (walk_at "st"; rfl)

theorem c_sign_of (T : Tx w K mg) : C8.Cal P w K mg base 2 "sign_of" (spV OptI signF) [] := by
  refine mk_cal T (x := "sign_of") (i := 71) (j := 49) (N := ["value"]) (ps := ["value"]) rfl rfl (by decide +kernel) (fun _ _ _ _ _ _ us hl => match us, hl with | [_], _ => rfl) (fun vs H Q E h => by obtain ⟨_, rfl, _⟩ := h; rfl) (fun cdv A outer s H vs Q E nd hr h => ⟨_, (pss_cons (ps_if (pt_not (pt_val (C8.pe_c (c_is_integer T) hr (by decide) (by rfl) (pa_cons (pv 0) pa_nil)))) (pss_one (ps_ret pe_non)) pss_nil)
      (pss_one (ps_ret (pe_op o_sub (pe_callTy b_int (by rfl) T.m_int boot_int (pa_cons (pe_cmpR o_gt (pv 0) pe_int (nomark _)) pa_nil)) (pe_callTy b_int (by rfl) T.m_int boot_int (pa_cons (pe_cmpR o_lt (pv 0) pe_int (nomark _)) pa_nil)))))), ?hb⟩)
  case hb =>
    obtain ⟨a, rfl, c, hQ⟩ := h
    rcases c with rfl | ⟨i, rfl, c1, c2⟩ <;> (walk_at "st"; rfl)

theorem c_as_decimal (T : Tx w K mg) : C8.Cal P w K mg base 2 "as_decimal" (spV OptI asDecF) [] := by
  refine mk_cal T (x := "as_decimal") (i := 72) (j := 50) (N := ["value"]) (ps := ["value"]) rfl rfl (by decide +kernel) (fun _ _ _ _ _ _ us hl => match us, hl with | [_], _ => rfl) (fun vs H Q E h => by obtain ⟨_, rfl, _⟩ := h; rfl) (fun cdv A outer s H vs Q E nd hr h => ⟨_, (pss_one (ps_ret (pe_ifExp (pt_val (C8.pe_c (c_is_integer T) hr (by decide) (by rfl) (pa_cons (pv 0) pa_nil))) (pv 0) pe_non))), ?hb⟩)
  case hb =>
    obtain ⟨a, rfl, c, hQ⟩ := h
    rcases c with rfl | ⟨i, rfl, c1, c2⟩ <;> (walk_at "st"; rfl)

theorem c_to_decimal (T : Tx w K mg) : C8.Cal P w K mg base 2 "to_decimal" (spV OptI toDecF) [] := by
  refine mk_cal T (x := "to_decimal") (i := 73) (j := 51) (N := ["value"]) (ps := ["value"]) rfl rfl (by decide +kernel) (fun _ _ _ _ _ _ us hl => match us, hl with | [_], _ => rfl) (fun vs H Q E h => by obtain ⟨_, rfl, _⟩ := h; rfl) (fun cdv A outer s H vs Q E nd hr h => ⟨_, (pss_one (ps_ret (pe_ifExp (pt_val (C8.pe_c (c_is_integer T) hr (by decide) (by rfl) (pa_cons (pv 0) pa_nil))) (C8.pe_c (c_limited T) hr (by decide) (by rfl) (pa_cons (pe_op o_mul (C8.pe_gc (by rfl) T.ONE) (pv 0)) pa_nil)) pe_non))), ?hb⟩)
  case hb =>
    obtain ⟨a, rfl, c, hQ⟩ := h
    rcases c with rfl | ⟨i, rfl, c1, c2⟩ <;> (walk_at "st"; rfl)

theorem c_to_int (T : Tx w K mg) : C8.Cal P w K mg base 2 "to_int" (spV OptI toIntF) [] := by
  refine mk_cal T (x := "to_int") (i := 74) (j := 52) (N := ["value"]) (ps := ["value"]) rfl rfl (by decide +kernel) (fun _ _ _ _ _ _ us hl => match us, hl with | [_], _ => rfl) (fun vs H Q E h => by obtain ⟨_, rfl, _⟩ := h; rfl) (fun cdv A outer s H vs Q E nd hr h => ⟨_, (pss_one (ps_ret (pe_ifExp (pt_val (C8.pe_c (c_is_integer T) hr (by decide) (by rfl) (pa_cons (pv 0) pa_nil))) (C8.pe_c (c_rounded T) hr (by decide) (by rfl) (pa_cons (pv 0) (pa_cons (C8.pe_gc (by rfl) T.ONE) pa_nil))) pe_non))), ?hb⟩)
  case hb =>
    obtain ⟨a, rfl, c, hQ⟩ := h
    have z := dv_10
    rcases c with rfl | ⟨i, rfl, c1, c2⟩ <;> (walk_at "st"; rfl)

theorem c_are_integers (T : Tx w K mg) : C8.Cal P w K mg base 2 "are_integers" (spVV (fun a b => Sc a ∧ Sc b) areIV) [] := by
  refine mk_cal T (x := "are_integers") (i := 79) (j := 57) (N := ["first", "second"]) (ps := ["first", "second"]) rfl rfl (by decide +kernel) (fun _ _ _ _ _ _ us hl => match us, hl with | [_, _], _ => rfl) (fun vs H Q E h => by obtain ⟨_, _, rfl, _⟩ := h; rfl) (fun cdv A outer s H vs Q E nd hr h => ⟨_, (pss_one (ps_ret (pe_and (C8.pe_c (c_is_integer T) hr (by decide) (by rfl) (pa_cons (pv 0) pa_nil)) (pe_one (C8.pe_c (c_is_integer T) hr (by decide) (by rfl) (pa_cons (pv 1) pa_nil)))))), ?hb⟩)
  case hb =>
    obtain ⟨a, b, rfl, c, hQ⟩ := h
    obtain ⟨c1, c2⟩ := c
    cases a <;> first | exact False.elim c1 | (cases b <;> first | exact False.elim c2 | (walk_at "st"; rfl))

theorem c_added (T : Tx w K mg) : C8.Cal P w K mg base 3 "added" (spVV (fun a b => OptI a ∧ OptI b) addF) [] := by
  refine mk_cal T (x := "added") (i := 80) (j := 58) (N := ["first", "second"]) (ps := ["first", "second"]) rfl rfl (by decide +kernel) (fun _ _ _ _ _ _ us hl => match us, hl with | [_, _], _ => rfl) (fun vs H Q E h => by obtain ⟨_, _, rfl, _⟩ := h; rfl) (fun cdv A outer s H vs Q E nd hr h => ⟨_, (pss_one (ps_ret (pe_ifExp (pt_val (C8.pe_c (c_are_integers T) hr (by decide) (by rfl) (pa_cons (pv 0) (pa_cons (pv 1) pa_nil)))) (C8.pe_c (c_limited T) hr (by decide) (by rfl) (pa_cons (pe_op o_add (pv 0) (pv 1)) pa_nil)) pe_non))), ?hb⟩)
  case hb =>
    obtain ⟨a, b, rfl, c, hQ⟩ := h
    rcases c with ⟨c1, c2⟩
    rcases c1 with rfl | ⟨i, rfl, c1, c3⟩ <;> rcases c2 with rfl | ⟨j, rfl, c2, c4⟩ <;> (walk_at "st"; rfl)

theorem c_subtracted (T : Tx w K mg) : C8.Cal P w K mg base 3 "subtracted" (spVV (fun a b => OptI a ∧ OptI b) subF) [] := by
  refine mk_cal T (x := "subtracted") (i := 81) (j := 59) (N := ["first", "second"]) (ps := ["first", "second"]) rfl rfl (by decide +kernel) (fun _ _ _ _ _ _ us hl => match us, hl with | [_, _], _ => rfl) (fun vs H Q E h => by obtain ⟨_, _, rfl, _⟩ := h; rfl) (fun cdv A outer s H vs Q E nd hr h => ⟨_, (pss_one (ps_ret (pe_ifExp (pt_val (C8.pe_c (c_are_integers T) hr (by decide) (by rfl) (pa_cons (pv 0) (pa_cons (pv 1) pa_nil)))) (C8.pe_c (c_limited T) hr (by decide) (by rfl) (pa_cons (pe_op o_sub (pv 0) (pv 1)) pa_nil)) pe_non))), ?hb⟩)
  case hb =>
    obtain ⟨a, b, rfl, c, hQ⟩ := h
    rcases c with ⟨c1, c2⟩
    rcases c1 with rfl | ⟨i, rfl, c1, c3⟩ <;> rcases c2 with rfl | ⟨j, rfl, c2, c4⟩ <;> (walk_at "st"; rfl)

theorem c_multiplied (T : Tx w K mg) : C8.Cal P w K mg base 3 "multiplied" (spVV (fun a b => OptI a ∧ OptI b) mulF) [] := by
  refine mk_cal T (x := "multiplied") (i := 82) (j := 60) (N := ["first", "second"]) (ps := ["first", "second"]) rfl rfl (by decide +kernel) (fun _ _ _ _ _ _ us hl => match us, hl with | [_, _], _ => rfl) (fun vs H Q E h => by obtain ⟨_, _, rfl, _⟩ := h; rfl) (fun cdv A outer s H vs Q E nd hr h => ⟨_, (pss_one (ps_ret (pe_ifExp (pt_val (C8.pe_c (c_are_integers T) hr (by decide) (by rfl) (pa_cons (pv 0) (pa_cons (pv 1) pa_nil)))) (C8.pe_c (c_limited T) hr (by decide) (by rfl) (pa_cons (pe_op o_mul (pv 0) (pv 1)) pa_nil)) pe_non))), ?hb⟩)
  case hb =>
    obtain ⟨a, b, rfl, c, hQ⟩ := h
    rcases c with ⟨c1, c2⟩
    rcases c1 with rfl | ⟨i, rfl, c1, c3⟩ <;> rcases c2 with rfl | ⟨j, rfl, c2, c4⟩ <;> (walk_at "st"; rfl)

theorem c_decimals_multiplied (T : Tx w K mg) : C8.Cal P w K mg base 3 "decimals_multiplied" (spVV (fun a b => OptI a ∧ OptI b) mulDF) [] := by
  refine mk_cal T (x := "decimals_multiplied") (i := 85) (j := 63) (N := ["first", "second"]) (ps := ["first", "second"]) rfl rfl (by decide +kernel) (fun _ _ _ _ _ _ us hl => match us, hl with | [_, _], _ => rfl) (fun vs H Q E h => by obtain ⟨_, _, rfl, _⟩ := h; rfl) (fun cdv A outer s H vs Q E nd hr h => ⟨_, (pss_one (ps_ret (pe_ifExp (pt_val (C8.pe_c (c_are_integers T) hr (by decide) (by rfl) (pa_cons (pv 0) (pa_cons (pv 1) pa_nil)))) (C8.pe_c (c_limited T) hr (by decide) (by rfl) (pa_cons (C8.pe_c (c_rounded T) hr (by decide) (by rfl) (pa_cons (pe_op o_mul (pv 0) (pv 1)) (pa_cons (C8.pe_gc (by rfl) T.ONE) pa_nil))) pa_nil)) pe_non))), ?hb⟩)
  case hb =>
    obtain ⟨a, b, rfl, c, hQ⟩ := h
    have z := dv_10
    rcases c with ⟨c1, c2⟩
    rcases c1 with rfl | ⟨i, rfl, c1, c3⟩ <;> rcases c2 with rfl | ⟨j, rfl, c2, c4⟩ <;> (walk_at "st"; rfl)

theorem c_divided (T : Tx w K mg) : C8.Cal P w K mg base 3 "divided" (spVV (fun a b => OptI a ∧ OptI b) divF) [] := by
  refine mk_cal T (x := "divided") (i := 83) (j := 61) (N := ["first", "second"]) (ps := ["first", "second"]) rfl rfl (by decide +kernel) (fun _ _ _ _ _ _ us hl => match us, hl with | [_, _], _ => rfl) (fun vs H Q E h => by obtain ⟨_, _, rfl, _⟩ := h; rfl) (fun cdv A outer s H vs Q E nd hr h => ⟨_, (pss_cons (ps_if (PW.pt (pw_or (pt_not (pt_val (C8.pe_c (c_are_integers T) hr (by decide) (by rfl) (pa_cons (pv 0) (pa_cons (pv 1) pa_nil))))) (pw_or1 (pt_cmpR op_eq (pv 1) pe_int (nomark _))))) (pss_one (ps_ret pe_non)) pss_nil)
      (pss_one (ps_ret (C8.pe_c (c_limited T) hr (by decide) (by rfl) (pa_cons (C8.pe_c (c_quotient T) hr (by decide) (by rfl) (pa_cons (pv 0) (pa_cons (pv 1) pa_nil))) pa_nil))))), ?hb⟩)
  case hb =>
    obtain ⟨a, b, rfl, c, hQ⟩ := h
    rcases c with ⟨c1, c2⟩
    rcases c1 with rfl | ⟨i, rfl, c1, c3⟩ <;> rcases c2 with rfl | ⟨j, rfl, c2, c4⟩
    · walk_at "st"; rfl
    · walk_at "st"; rfl
    · walk_at "st"; rfl
    · by_cases z : j = 0
      · subst z
        walk_at "st"
        rfl
      · have z2 := dv_of z c2 c4
        have z3 : decide (j = 0) = false := decide_eq_false z
        walk_at "st" <;> simp_all [divF]

theorem c_rest (T : Tx w K mg) : C8.Cal P w K mg base 3 "rest" (spVV (fun a b => OptI a ∧ OptI b) restF) [] := by
  refine mk_cal T (x := "rest") (i := 84) (j := 62) (N := ["first", "second"]) (ps := ["first", "second"]) rfl rfl (by decide +kernel) (fun _ _ _ _ _ _ us hl => match us, hl with | [_, _], _ => rfl) (fun vs H Q E h => by obtain ⟨_, _, rfl, _⟩ := h; rfl) (fun cdv A outer s H vs Q E nd hr h => ⟨_, (pss_cons (ps_if (PW.pt (pw_or (pt_not (pt_val (C8.pe_c (c_are_integers T) hr (by decide) (by rfl) (pa_cons (pv 0) (pa_cons (pv 1) pa_nil))))) (pw_or1 (pt_cmpR op_eq (pv 1) pe_int (nomark _))))) (pss_one (ps_ret pe_non)) pss_nil)
      (pss_one (ps_ret (C8.pe_c (c_limited T) hr (by decide) (by rfl) (pa_cons (pe_op o_sub (pv 0) (pe_op o_mul (pv 1) (C8.pe_c (c_quotient T) hr (by decide) (by rfl) (pa_cons (pv 0) (pa_cons (pv 1) pa_nil))))) pa_nil))))), ?hb⟩)
  case hb =>
    obtain ⟨a, b, rfl, c, hQ⟩ := h
    rcases c with ⟨c1, c2⟩
    rcases c1 with rfl | ⟨i, rfl, c1, c3⟩ <;> rcases c2 with rfl | ⟨j, rfl, c2, c4⟩
    · walk_at "st"; rfl
    · walk_at "st"; rfl
    · walk_at "st"; rfl
    · by_cases z : j = 0
      · subst z
        walk_at "st"
        rfl
      · have z2 := dv_of z c2 c4
        have z3 : decide (j = 0) = false := decide_eq_false z
        walk_at "st" <;> simp_all [restF]

theorem c_decimals_divided (T : Tx w K mg) : C8.Cal P w K mg base 3 "decimals_divided" (spVV (fun a b => OptI a ∧ OptI b) divDF) [] := by
  refine mk_cal T (x := "decimals_divided") (i := 86) (j := 64) (N := ["first", "second"]) (ps := ["first", "second"]) rfl rfl (by decide +kernel) (fun _ _ _ _ _ _ us hl => match us, hl with | [_, _], _ => rfl) (fun vs H Q E h => by obtain ⟨_, _, rfl, _⟩ := h; rfl) (fun cdv A outer s H vs Q E nd hr h => ⟨_, (pss_cons (ps_if (PW.pt (pw_or (pt_not (pt_val (C8.pe_c (c_are_integers T) hr (by decide) (by rfl) (pa_cons (pv 0) (pa_cons (pv 1) pa_nil))))) (pw_or1 (pt_cmpR op_eq (pv 1) pe_int (nomark _))))) (pss_one (ps_ret pe_non)) pss_nil)
      (pss_one (ps_ret (C8.pe_c (c_limited T) hr (by decide) (by rfl) (pa_cons (C8.pe_c (c_rounded T) hr (by decide) (by rfl) (pa_cons (pe_op o_mul (C8.pe_gc (by rfl) T.ONE) (pv 0)) (pa_cons (pv 1) pa_nil))) pa_nil))))), ?hb⟩)
  case hb =>
    obtain ⟨a, b, rfl, c, hQ⟩ := h
    rcases c with ⟨c1, c2⟩
    rcases c1 with rfl | ⟨i, rfl, c1, c3⟩ <;> rcases c2 with rfl | ⟨j, rfl, c2, c4⟩
    · walk_at "st"; rfl
    · walk_at "st"; rfl
    · walk_at "st"; rfl
    · by_cases z : j = 0
      · subst z
        walk_at "st"
        rfl
      · have z2 := dv_of z c2 c4
        have z3 : decide (j = 0) = false := decide_eq_false z
        walk_at "st" <;> simp_all [divDF]


def OptD (v : V) : Prop := v = .non ∨ ∃ i, v = .int i ∧ -719162 ≤ i ∧ i ≤ 2932896
def asDateF : V → V
  | .int i => if -719162 ≤ i ∧ i ≤ 2932896 then .int i else .non
  | _ => .non
def wdayF : V → V
  | .int i => .int ((i + 3) % 7 + 1)
  | _ => .non
def wstartF : V → V
  | .int i => .int (i - (i + 3) % 7)
  | _ => .non
def daysAddF (a b : V) : V := match a, b with
  | .int i, .int j => if -719162 ≤ i + j ∧ i + j ≤ 2932896 then .int (i + j) else .non
  | _, _ => .non
theorem isDayV_yes {i : Int} (h1 : -719162 ≤ i) (h2 : i ≤ 2932896) : isDayV (.int i) = .bl true := by
  simp [isDayV, h1, h2]

theorem c_as_date (T : Tx w K mg) : C8.Cal P w K mg base 3 "as_date" (spV OptI asDateF) [] := by
  refine mk_cal T (x := "as_date") (i := 52) (j := 32) (N := ["value"]) (ps := ["value"]) rfl rfl (by decide +kernel) (fun _ _ _ _ _ _ us hl => match us, hl with | [_], _ => rfl) (fun vs H Q E h => by obtain ⟨_, rfl, _⟩ := h; rfl) (fun cdv A outer s H vs Q E nd hr h => ⟨_, (pss_one (ps_ret (pe_ifExp (pt_val (C8.pe_c (c_is_day T) hr (by decide) (by rfl) (pa_cons (pv 0) pa_nil))) (pv 0) pe_non))), ?hb⟩)
  case hb =>
    obtain ⟨a, rfl, c, hQ⟩ := h
    rcases c with rfl | ⟨i, rfl, c1, c2⟩
    · walk_at "st"; rfl
    · walk_at "st"
      simp [asDateF]

theorem c_weekday (T : Tx w K mg) : C8.Cal P w K mg base 3 "weekday" (spV OptD wdayF) [] := by
  refine mk_cal T (x := "weekday") (i := 56) (j := 36) (N := ["value"]) (ps := ["value"]) rfl rfl (by decide +kernel) (fun _ _ _ _ _ _ us hl => match us, hl with | [_], _ => rfl) (fun vs H Q E h => by obtain ⟨_, rfl, _⟩ := h; rfl) (fun cdv A outer s H vs Q E nd hr h => ⟨_, (pss_one (ps_ret (pe_ifExp (pt_val (C8.pe_c (c_is_day T) hr (by decide) (by rfl) (pa_cons (pv 0) pa_nil))) (pe_op o_add (pe_op o_mod (pe_op o_add (pv 0) pe_int) pe_int) pe_int) pe_non))), ?hb⟩)
  case hb =>
    obtain ⟨a, rfl, c, hQ⟩ := h
    rcases c with rfl | ⟨i, rfl, c1, c2⟩
    · walk_at "st"; rfl
    · have z := isDayV_yes c1 c2
      walk_at "st"; simp_all [wdayF, isDayV]

theorem c_week_start (T : Tx w K mg) : C8.Cal P w K mg base 3 "week_start" (spV OptD wstartF) [] := by
  refine mk_cal T (x := "week_start") (i := 59) (j := 39) (N := ["value"]) (ps := ["value"]) rfl rfl (by decide +kernel) (fun _ _ _ _ _ _ us hl => match us, hl with | [_], _ => rfl) (fun vs H Q E h => by obtain ⟨_, rfl, _⟩ := h; rfl) (fun cdv A outer s H vs Q E nd hr h => ⟨_, (pss_one (ps_ret (pe_ifExp (pt_val (C8.pe_c (c_is_day T) hr (by decide) (by rfl) (pa_cons (pv 0) pa_nil))) (pe_op o_sub (pv 0) (pe_op o_mod (pe_op o_add (pv 0) pe_int) pe_int)) pe_non))), ?hb⟩)
  case hb =>
    obtain ⟨a, rfl, c, hQ⟩ := h
    rcases c with rfl | ⟨i, rfl, c1, c2⟩
    · walk_at "st"; rfl
    · have z := isDayV_yes c1 c2
      walk_at "st"; simp_all [wstartF, isDayV]

theorem c_days_added (T : Tx w K mg) : C8.Cal P w K mg base 3 "days_added" (spVV (fun a b => OptD a ∧ OptI b) daysAddF) [] := by
  refine mk_cal T (x := "days_added") (i := 62) (j := 42) (N := ["value", "count"]) (ps := ["value", "count"]) rfl rfl (by decide +kernel) (fun _ _ _ _ _ _ us hl => match us, hl with | [_, _], _ => rfl) (fun vs H Q E h => by obtain ⟨_, _, rfl, _⟩ := h; rfl) (fun cdv A outer s H vs Q E nd hr h => ⟨_, (pss_cons (ps_if (PW.pt (pw_or (pt_not (pt_val (C8.pe_c (c_is_day T) hr (by decide) (by rfl) (pa_cons (pv 0) pa_nil)))) (pw_or1 (pt_not (pt_val (C8.pe_c (c_is_integer T) hr (by decide) (by rfl) (pa_cons (pv 1) pa_nil))))))) (pss_one (ps_ret pe_non)) pss_nil)
      (pss_cons (ps_if (pt_not (pt_chain o_le o_le (C8.pe_gc (by rfl) T.FIRST_DAY) (pe_op o_add (pv 0) (pv 1)) (C8.pe_gc (by rfl) T.LAST_DAY))) (pss_one (ps_ret pe_non)) pss_nil)
      (pss_one (ps_ret (pe_op o_add (pv 0) (pv 1)))))), ?hb⟩)
  case hb =>
    obtain ⟨a, b, rfl, c, hQ⟩ := h
    rcases c with ⟨c1, c2⟩
    rcases c1 with rfl | ⟨i, rfl, c1, c3⟩ <;> rcases c2 with rfl | ⟨j, rfl, c2, c4⟩
    · walk_at "st"; rfl
    · walk_at "st"; rfl
    · have z := isDayV_yes c1 c3
      walk_at "st" <;> (simp_all [daysAddF] <;> omega)
    · have z := isDayV_yes c1 c3
      walk_at "st" <;> (simp_all [daysAddF] <;> omega)

end

section
variable {P : Program} {w : World} {K : PySem.W.Frag} {mg : Str → Option Value} {base : Heap}
/-! ### dates: the numbers -/
def lenM (m : Int) : Int := lengthsL.getD (m - 1).toNat 0
def mlen (y m : Int) : Int := if m = 2 ∧ leapB y = true then 29 else lenM m
def sumM (y : Int) : Nat → Int
  | 0 => 0
  | n + 1 => sumM y n + mlen y ((n : Int) + 1)
theorem at_months {m : Int} (h1 : 1 ≤ m) (h2 : m ≤ 12) : atI (lengthsL.map V.int) (m - 1) = some (.int (lenM m)) := by
  have c : m = 1 ∨ m = 2 ∨ m = 3 ∨ m = 4 ∨ m = 5 ∨ m = 6 ∨ m = 7 ∨ m = 8 ∨ m = 9 ∨ m = 10 ∨ m = 11 ∨ m = 12 := by omega
  rcases c with rfl | rfl | rfl | rfl | rfl | rfl | rfl | rfl | rfl | rfl | rfl | rfl <;> rfl
theorem lenM_bd {m : Int} (h1 : 1 ≤ m) (h2 : m ≤ 12) : 28 ≤ lenM m ∧ lenM m ≤ 31 := by
  have c : m = 1 ∨ m = 2 ∨ m = 3 ∨ m = 4 ∨ m = 5 ∨ m = 6 ∨ m = 7 ∨ m = 8 ∨ m = 9 ∨ m = 10 ∨ m = 11 ∨ m = 12 := by omega
  rcases c with rfl | rfl | rfl | rfl | rfl | rfl | rfl | rfl | rfl | rfl | rfl | rfl <;> decide
theorem mlen_bd {y m : Int} (h1 : 1 ≤ m) (h2 : m ≤ 12) : 28 ≤ mlen y m ∧ mlen y m ≤ 31 := by
  unfold mlen
  split
  · omega
  · exact lenM_bd h1 h2
theorem sumM_12 (y : Int) : sumM y 12 = if leapB y = true then 366 else 365 := by
  cases h : leapB y with
  | true => simp [sumM, mlen, h, lenM, lengthsL]
  | false => simp [sumM, mlen, h, lenM, lengthsL]
theorem sumM_nn (y : Int) : ∀ n : Nat, n ≤ 12 → 0 ≤ sumM y n
  | 0, _ => Int.le_refl 0
  | n + 1, h => by
    have h1 := sumM_nn y n (by omega)
    have h2 := mlen_bd (y := y) (m := (n : Int) + 1) (by omega) (by omega)
    show 0 ≤ sumM y n + mlen y ((n : Int) + 1)
    omega
theorem sumM_le (y : Int) : ∀ n : Nat, n ≤ 11 → sumM y n + mlen y ((n : Int) + 1) ≤ 366 := fun n hn => by
  have mono : ∀ k : Nat, n + 1 + k ≤ 12 → sumM y (n + 1) ≤ sumM y (n + 1 + k) := by
    intro k
    induction k with
    | zero => intro _; exact Int.le_refl _
    | succ k ih =>
      intro hk
      have h2 := mlen_bd (y := y) (m := ((n + 1 + k : Nat) : Int) + 1) (by omega) (by omega)
      have h3 := ih (by omega)
      show sumM y (n + 1) ≤ sumM y (n + 1 + k) + mlen y (((n + 1 + k : Nat) : Int) + 1)
      omega
  have h := mono (12 - (n + 1)) (by omega)
  rw [show n + 1 + (12 - (n + 1)) = 12 by omega, sumM_12] at h
  have e : sumM y (n + 1) = sumM y n + mlen y ((n : Int) + 1) := rfl
  rw [← e]
  split at h <;> omega
def min3 (a : Int) : Int := if 3 < a then 3 else a
/-- of the number of days from 0001-01-01 -/
def cenOf (n : Int) : Int := min3 (n % 146097 / 36524)
def r2Of (n : Int) : Int := n % 146097 - 36524 * cenOf n
def sglOf (n : Int) : Int := min3 (r2Of n % 1461 / 365)
def yearOf (n : Int) : Int := 400 * (n / 146097) + 1 + 100 * cenOf n + 4 * (r2Of n / 1461) + sglOf n
def restOf (n : Int) : Int := r2Of n % 1461 - 365 * sglOf n
theorem year_bd {n : Int} (h0 : 0 ≤ n) (h1 : n ≤ 3652058) : 1 ≤ yearOf n ∧ yearOf n ≤ 9999 := by
  unfold yearOf sglOf r2Of cenOf min3
  split <;> split <;> omega
theorem rest_bd {n : Int} (h0 : 0 ≤ n) : 0 ≤ restOf n ∧ restOf n ≤ 365 ∧ restOf n ≤ n := by
  unfold restOf sglOf r2Of cenOf min3
  split <;> split <;> omega
theorem leap_of {y : Int} (h1 : y % 4 = 0) (h2 : y % 100 ≠ 0 ∨ y % 400 = 0) : leapB y = true := by
  unfold leapB
  rw [decide_eq_true h1]
  rcases h2 with h | h
  · simp [h]
  · simp [h]
theorem rest_leap {n : Int} (h0 : 0 ≤ n) (h : restOf n = 365) : leapB (yearOf n) = true := by
  have key : ∃ q s c : Int, yearOf n = 400 * q + 100 * c + 4 * s + 4 ∧ 0 ≤ s ∧ (s ≤ 23 ∨ (s = 24 ∧ c = 3)) := by
    refine ⟨n / 146097, r2Of n / 1461, cenOf n, ?_⟩
    revert h
    unfold yearOf restOf sglOf
    have hr : 0 ≤ r2Of n ∧ (r2Of n < 36524 ∨ (cenOf n = 3 ∧ r2Of n < 36525)) := by
      unfold r2Of cenOf min3
      split <;> omega
    generalize r2Of n = r at hr
    generalize cenOf n = c at hr
    unfold min3
    split <;> intro h <;> omega
  obtain ⟨q, s, c, e, h1, h2⟩ := key
  rw [e]
  exact leap_of (by omega) (by omega)
theorem rest_lt {n : Int} (h0 : 0 ≤ n) : restOf n < sumM (yearOf n) 12 := by
  rw [sumM_12]
  have h1 := rest_bd h0
  split
  · omega
  · rename_i h2
    have h3 : restOf n ≠ 365 := fun e => h2 (rest_leap h0 e)
    omega
/-- month by month -/
def monF : Nat → Int → Int → Int → Int × Int
  | 0, _, m, r => (m, r)
  | k + 1, y, m, r => if mlen y m ≤ r then monF k y (m + 1) (r - mlen y m) else (m, r)
theorem monF_bd (y : Int) : ∀ (k : Nat) (m r : Int), m = 13 - (k : Int) → 1 ≤ m → m ≤ 12 → 0 ≤ r → r + sumM y (m - 1).toNat < sumM y 12 → 1 ≤ (monF k y m r).1 ∧ (monF k y m r).1 ≤ 12 ∧ 0 ≤ (monF k y m r).2 ∧ (monF k y m r).2 < mlen y (monF k y m r).1 ∧ (monF k y m r).2 ≤ r
  | 0, m, r, e, h1, h2, _, _ => by omega
  | k + 1, m, r, e, h1, h2, h3, h4 => by
    unfold monF
    by_cases c : mlen y m ≤ r
    · rw [if_pos c]
      have e2 : sumM y m.toNat = sumM y (m - 1).toNat + mlen y m := by
        obtain ⟨j, hj⟩ : ∃ j : Nat, m = (j : Int) + 1 := ⟨(m - 1).toNat, by omega⟩
        subst hj
        rw [show ((j : Int) + 1).toNat = j + 1 by omega, show ((j : Int) + 1 - 1).toNat = j by omega]
        rfl
      have l := mlen_bd (y := y) h1 h2
      have hm : m ≠ 12 := fun z => by
        subst z
        have q : sumM y (12 : Int).toNat = sumM y 12 := rfl
        omega
      have h := monF_bd y k (m + 1) (r - mlen y m) (by omega) (by omega) (by omega) (by omega) (by rw [show (m + 1 - 1).toNat = m.toNat by omega, e2]; omega)
      omega
    · rw [if_neg c]
      show 1 ≤ m ∧ m ≤ 12 ∧ 0 ≤ r ∧ r < mlen y m ∧ r ≤ r
      omega
def monOf (n : Int) : Int := (monF 12 (yearOf n) 1 (restOf n)).1
def domOf (n : Int) : Int := (monF 12 (yearOf n) 1 (restOf n)).2 + 1
theorem mon_bd {n : Int} (h0 : 0 ≤ n) : 1 ≤ monOf n ∧ monOf n ≤ 12 ∧ 1 ≤ domOf n ∧ domOf n ≤ mlen (yearOf n) (monOf n) ∧ domOf n ≤ n + 1 := by
  have h1 := rest_bd h0
  have h := monF_bd (yearOf n) 12 1 (restOf n) rfl (by omega) (by omega) h1.1 (by have := rest_lt h0; show restOf n + 0 < _; omega)
  unfold monOf domOf
  omega
theorem daysBefore_bd {y : Int} (h1 : 1 ≤ y) (h2 : y ≤ 9999) : 0 ≤ daysBefore y ∧ daysBefore y + (if leapB y = true then 366 else 365) ≤ 3652059 := by
  unfold daysBefore
  refine ⟨by omega, ?_⟩
  by_cases c : y = 9999
  · subst c
    decide
  · split <;> omega
def dayOf (y m d : Int) : Int := daysBefore y + d - 1 + -719162 + sumM y (m - 1).toNat
def dayOfF (y m d : Int) : V := if (1 ≤ y ∧ y ≤ 9999) ∧ (1 ≤ m ∧ m ≤ 12) ∧ 1 ≤ d ∧ d ≤ mlen y m then .int (dayOf y m d) else .non
theorem dayOf_bd {y m d : Int} (h1 : 1 ≤ y) (h2 : y ≤ 9999) (h3 : 1 ≤ m) (h4 : m ≤ 12) (h5 : 1 ≤ d) (h6 : d ≤ mlen y m) : -719162 ≤ dayOf y m d ∧ dayOf y m d ≤ 2932896 := by
  have a := daysBefore_bd h1 h2
  have b := sumM_nn y (m - 1).toNat (by omega)
  have c := sumM_le y (m - 1).toNat (by omega)
  rw [show (((m - 1).toNat : Nat) : Int) + 1 = m by omega] at c
  have e : sumM y (m - 1).toNat + mlen y m ≤ (if leapB y = true then 366 else 365) := by
    have mono : ∀ k : Nat, (m - 1).toNat + 1 + k ≤ 12 → sumM y ((m - 1).toNat + 1) ≤ sumM y ((m - 1).toNat + 1 + k) := by
      intro k
      induction k with
      | zero => intro _; exact Int.le_refl _
      | succ k ih =>
        intro hk
        have q2 := mlen_bd (y := y) (m := (((m - 1).toNat + 1 + k : Nat) : Int) + 1) (by omega) (by omega)
        have q3 := ih (by omega)
        show sumM y ((m - 1).toNat + 1) ≤ sumM y ((m - 1).toNat + 1 + k) + mlen y ((((m - 1).toNat + 1 + k : Nat) : Int) + 1)
        omega
    have q := mono (12 - ((m - 1).toNat + 1)) (by omega)
    rw [show (m - 1).toNat + 1 + (12 - ((m - 1).toNat + 1)) = 12 by omega, sumM_12] at q
    have r : sumM y ((m - 1).toNat + 1) = sumM y (m - 1).toNat + mlen y (((m - 1).toNat : Int) + 1) := rfl
    rw [show (((m - 1).toNat : Nat) : Int) + 1 = m by omega] at r
    omega
  unfold dayOf
  omega

end

section
variable {P : Program} {w : World} {K : PySem.W.Frag} {mg : Str → Option Value} {base : Heap}
/-! ### texts -/
def Asc (s : Str) : Prop := ∀ c ∈ TL.tl s, 32 ≤ c ∧ c ≤ 126
def OkS (s : Str) : Prop := s.length ≤ 10000 ∧ Asc s
theorem asc_app {x y : Str} (h1 : Asc x) (h2 : Asc y) : Asc (x ++ y) := fun c hc => by
  rw [TL.tl_append, List.mem_append] at hc
  exact hc.elim (h1 c) (h2 c)
theorem len_app (x y : Str) : (x ++ y).length = x.length + y.length := Str.length_append ..
/-- y's signs are among x's, y is no longer -/
def Part (y x : Str) : Prop := (∀ c ∈ TL.tl y, c ∈ TL.tl x) ∧ y.length ≤ x.length
theorem Part.asc {x y : Str} (p : Part y x) (h : Asc x) : Asc y := fun c hc => h c (p.1 c hc)
theorem Part.ok {x y : Str} (p : Part y x) (h : OkS x) : OkS y := ⟨Nat.le_trans p.2 h.1, p.asc h.2⟩
theorem Part.refl (x : Str) : Part x x := ⟨fun _ h => h, Nat.le_refl _⟩
theorem part_cut {x y : Str} {a b : Nat} (h : TL.tl y = ((TL.tl x).drop a).take b) : Part y x := by
  refine ⟨fun c hc => ?_, ?_⟩
  · rw [h] at hc
    exact List.mem_of_mem_drop (List.mem_of_mem_take hc)
  · rw [TL.len_tl, TL.len_tl, h, List.length_take, List.length_drop]
    omega
theorem part_sub (x : Str) (i j : Nat) : Part (Builtin.Str.strSub x i j) x := part_cut (TL.tl_strSub x i j)
theorem part_cutS (x : Str) (lo hi : Option Int) : Part (cutS x lo hi) x := part_cut rfl
theorem part_strip (g : Nat → Bool) (l r : Bool) (x : Str) : Part (Txt.stripBy g l r x) x := by
  unfold Txt.stripBy
  split
  · exact Part.refl x
  · exact part_sub x _ _
theorem empty_tl : TL.tl Str.empty = [] := rfl
theorem part_empty (x : Str) : Part Str.empty x := ⟨fun c hc => absurd hc (by rw [empty_tl]; exact List.not_mem_nil), Nat.zero_le _⟩
theorem part_partition (x y : Str) : Part (Txt.partition x y).1 x ∧ Part (Txt.partition x y).2.2 x ∧ ((Txt.partition x y).2.1 = y ∨ (Txt.partition x y).2.1 = Str.empty) := by
  unfold Txt.partition
  split
  · exact ⟨part_sub x _ _, part_sub x _ _, .inl rfl⟩
  · exact ⟨Part.refl x, part_empty x, .inr rfl⟩
/-! the pieces of a text -/
theorem spl_mem {S : List Nat} : ∀ (l : List Nat) (k : Nat) (acc : List Nat), ∀ p ∈ TL.spl S k acc l, (∀ c ∈ p, c ∈ acc ∨ c ∈ l) ∧ p.length ≤ acc.length + l.length
  | [], k, acc, p, hp => by
    rw [TL.spl_nil, List.mem_singleton] at hp
    subst hp
    exact ⟨fun c h => .inl h, Nat.le_add_right ..⟩
  | c :: r, 0, acc, p, hp => by
    cases e : TL.pre S (c :: r) with
    | true =>
      rw [TL.spl_hit e] at hp
      rcases List.mem_cons.mp hp with rfl | hp
      · exact ⟨fun _ h => .inl h, Nat.le_add_right ..⟩
      · obtain ⟨h1, h2⟩ := spl_mem r _ [] p hp
        refine ⟨fun d hd => .inr (List.mem_cons_of_mem _ ((h1 d hd).resolve_left (by simp))), ?_⟩
        simp only [List.length_nil, List.length_cons] at h2 ⊢
        omega
    | false =>
      rw [TL.spl_miss e] at hp
      obtain ⟨h1, h2⟩ := spl_mem r _ _ p hp
      refine ⟨fun d hd => ?_, ?_⟩
      · rcases h1 d hd with h | h
        · rcases List.mem_append.mp h with h | h
          · exact .inl h
          · rw [List.mem_singleton] at h
            subst h
            exact .inr (List.mem_cons_self ..)
        · exact .inr (List.mem_cons_of_mem _ h)
      · simp only [List.length_append, List.length_cons, List.length_nil] at h2 ⊢
        omega
  | c :: r, k + 1, acc, p, hp => by
    have hp2 : p ∈ TL.spl S k acc r := hp
    obtain ⟨h1, h2⟩ := spl_mem r k acc p hp2
    refine ⟨fun d hd => (h1 d hd).imp id (List.mem_cons_of_mem _), ?_⟩
    simp only [List.length_cons]
    omega
theorem spl_len {S : List Nat} : ∀ (l : List Nat) (k : Nat) (acc : List Nat), (TL.spl S k acc l).length ≤ l.length + 1
  | [], k, acc => by rw [TL.spl_nil]; exact Nat.le_refl _
  | c :: r, 0, acc => by
    cases e : TL.pre S (c :: r) with
    | true =>
      rw [TL.spl_hit e]
      have := spl_len (S := S) r (S.length - 1) []
      simp only [List.length_cons]
      omega
    | false =>
      rw [TL.spl_miss e]
      have := spl_len (S := S) r 0 (acc ++ [c])
      simp only [List.length_cons]
      omega
  | c :: r, k + 1, acc => by
    have := spl_len (S := S) r k acc
    show (TL.spl S k acc r).length ≤ _
    simp only [List.length_cons]
    omega
theorem spl_ne {S : List Nat} : ∀ (l : List Nat) (k : Nat) (acc : List Nat), TL.spl S k acc l ≠ []
  | [], k, acc => by rw [TL.spl_nil]; simp
  | c :: r, 0, acc => by
    cases e : TL.pre S (c :: r) with
    | true => rw [TL.spl_hit e]; simp
    | false => rw [TL.spl_miss e]; exact spl_ne r 0 _
  | c :: r, k + 1, acc => spl_ne r k acc
theorem asc256 {y : Str} (h : Asc y) : y.cps.all (· < 256) = true := by
  rw [← Array.all_toList, List.all_eq_true]
  intro c hc
  have := h c hc
  exact decide_eq_true (by omega)
theorem split_spl {x y : Str} (hy : TL.tl y ≠ []) (h : Asc y) : (Txt.split x y).map TL.tl = TL.spl (TL.tl y) 0 [] (TL.tl x) := TL.split_spl x y hy (TL.kind_ok (asc256 h))
theorem split_part {x y : Str} (hy : TL.tl y ≠ []) (h : Asc y) : ∀ p ∈ Txt.split x y, Part p x := fun p hp => by
  have hm : TL.tl p ∈ TL.spl (TL.tl y) 0 [] (TL.tl x) := by
    rw [← split_spl hy h]
    exact List.mem_map_of_mem hp
  obtain ⟨h1, h2⟩ := spl_mem _ _ _ _ hm
  exact ⟨fun c hc => (h1 c hc).resolve_left (by simp), by rw [TL.len_tl, TL.len_tl]; simpa using h2⟩
theorem split_len {x y : Str} (hy : TL.tl y ≠ []) (h : Asc y) : (Txt.split x y).length ≤ x.length + 1 ∧ 0 < (Txt.split x y).length := by
  have e : (Txt.split x y).length = (TL.spl (TL.tl y) 0 [] (TL.tl x)).length := by rw [← split_spl hy h, List.length_map]
  rw [e]
  refine ⟨?_, List.length_pos_iff.mpr (spl_ne _ _ _)⟩
  rw [TL.len_tl]
  exact spl_len _ _ _
/-! joined texts -/
theorem joinL_len (S : List Nat) : ∀ ps : List (List Nat), (TL.joinL S ps).length = (ps.map (·.length)).sum + S.length * (ps.length - 1)
  | [] => by simp [TL.joinL]
  | [p] => by simp [TL.joinL]
  | p :: q :: r => by
    have h := joinL_len S (q :: r)
    show (p ++ (S ++ TL.joinL S (q :: r))).length = _
    rw [List.length_append, List.length_append, h]
    simp only [List.map_cons, List.sum_cons, List.length_cons, Nat.add_sub_cancel]
    rw [Nat.mul_add]
    omega
theorem joinL_mem (S : List Nat) : ∀ ps : List (List Nat), ∀ c ∈ TL.joinL S ps, c ∈ S ∨ ∃ p ∈ ps, c ∈ p
  | [], c, h => by cases h
  | [p], c, h => .inr ⟨p, List.mem_cons_self .., h⟩
  | p :: q :: r, c, h => by
    have h2 : c ∈ p ++ (S ++ TL.joinL S (q :: r)) := h
    rw [List.mem_append, List.mem_append] at h2
    rcases h2 with h2 | h2 | h2
    · exact .inr ⟨p, List.mem_cons_self .., h2⟩
    · exact .inl h2
    · rcases joinL_mem S (q :: r) c h2 with h3 | ⟨p2, h3, h4⟩
      · exact .inl h3
      · exact .inr ⟨p2, List.mem_cons_of_mem _ h3, h4⟩
theorem tl_joinT (y : Str) (ps : List Str) : TL.tl (Txt.join y ps) = TL.joinL (TL.tl y) (ps.map TL.tl) := by rw [TL.join_eq, TL.tl_join]
theorem join_len (y : Str) (ps : List Str) : (Txt.join y ps).length = (ps.map (·.length)).sum + y.length * (ps.length - 1) := by
  rw [TL.len_tl, tl_joinT, joinL_len, List.length_map, ← TL.len_tl, List.map_map]
  congr 2
theorem join_asc {y : Str} {ps : List Str} (h1 : Asc y) (h2 : ∀ p ∈ ps, Asc p) : Asc (Txt.join y ps) := fun c hc => by
  rw [tl_joinT] at hc
  rcases joinL_mem _ _ c hc with h | ⟨p, h, h3⟩
  · exact h1 c h
  · obtain ⟨q, hq, rfl⟩ := List.mem_map.mp h
    exact h2 q hq c h3
/-! numbers as texts -/
theorem digit_ascii : ∀ c, c < 127 → Unicode.isDigit c = true → 48 ≤ c ∧ c ≤ 57 := by decide +kernel
def Digs (s : Str) : Prop := ∀ c ∈ TL.tl s, 48 ≤ c ∧ c ≤ 57
theorem digs_of {s : Str} (h : Asc s) (hd : Txt.isdigit s = true) : Digs s ∧ TL.tl s ≠ [] := by
  unfold Txt.isdigit at hd
  rw [Bool.and_eq_true] at hd
  obtain ⟨h1, h2⟩ := hd
  rw [← Array.all_toList, List.all_eq_true] at h2
  refine ⟨fun c hc => digit_ascii c (by have := h c hc; omega) (h2 c hc), fun e => ?_⟩
  have h1 := of_decide_eq_true h1
  rw [TL.len_tl, e] at h1
  exact absurd h1 (by decide)
theorem Digs.app {x y : Str} (h1 : Digs x) (h2 : Digs y) : Digs (x ++ y) := fun c hc => by
  rw [TL.tl_append, List.mem_append] at hc
  exact hc.elim (h1 c) (h2 c)
theorem Digs.part {x y : Str} (p : Part y x) (h : Digs x) : Digs y := fun c hc => h c (p.1 c hc)
theorem Digs.asc {x : Str} (h : Digs x) : Asc x := fun c hc => by have := h c hc; omega
def numOf (s : Str) : Int := ((NumText.digitsVal (TL.tl s) : Nat) : Int)
theorem int_digs {s : Str} (h : Digs s) (hn : TL.tl s ≠ []) (hl : s.length ≤ 4300) : PySem.intText? s = some (numOf s) := PySem.intText_digits h hn hl
theorem numOf_nn (s : Str) : 0 ≤ numOf s := Int.natCast_nonneg _
/-- str(i) -/
theorem tl_int (i : Int) : TL.tl (toString i : String) = if i < 0 then 45 :: TL.numL i.natAbs else TL.numL i.natAbs := by
  cases i with
  | ofNat n =>
    rw [if_neg (by simp)]
    exact TL.tl_num n
  | negSucc n =>
    rw [if_pos (Int.negSucc_lt_zero n)]
    have e : (toString (Int.negSucc n) : String) = "-" ++ Nat.repr (n + 1) := rfl
    rw [e, TL.tl_ofString, String.toList_append, List.map_append]
    have h2 : TL.tl (Str.ofString (toString (((n + 1 : Nat) : Int)))) = TL.numL (n + 1) := TL.tl_num (n + 1)
    rw [TL.tl_ofString] at h2
    show 45 :: (Nat.repr (n + 1)).toList.map Char.toNat = _
    exact congrArg (fun z => 45 :: z) h2
theorem int_txt {i : Int} (h1 : -1000000000000000 ≤ i) (h2 : i ≤ 1000000000000000) : Asc (toString i : String) ∧ (Str.ofString (toString i)).length ≤ 17 := by
  have l : (TL.numL i.natAbs).length ≤ 16 := TL.numL_len (by decide) (by omega)
  have d := TL.numL_digits i.natAbs
  have dd : ∀ c ∈ TL.numL i.natAbs, 32 ≤ c ∧ c ≤ 126 := fun c hc => by
    have := d c hc
    omega
  have e := tl_int i
  refine ⟨fun c hc => ?_, ?_⟩
  · rw [e] at hc
    split at hc
    · rcases List.mem_cons.mp hc with rfl | hc
      · decide
      · exact dd c hc
    · exact dd c hc
  · rw [TL.len_tl, e]
    split
    · rw [List.length_cons]
      omega
    · omega
theorem num_digs {i : Int} (h1 : 0 ≤ i) : Digs (toString i : String) := fun c hc => by
  rw [tl_int i, if_neg (by omega)] at hc
  have := TL.numL_digits i.natAbs c hc
  omega
theorem log_small {i : Int} (h1 : -1000000000000000 ≤ i) (h2 : i ≤ 1000000000000000) : i.natAbs.log2 < 1920 := by
  have h : i.natAbs < 2 ^ 60 := by omega
  have := PySem.Flt.log2_lt_of (by decide : 0 < 60) h
  omega
theorem zpad_ok {w : Nat} {i : Int} (hw : w ≤ 10) (h1 : 0 ≤ i) (h2 : i ≤ 1000000000000000) : Asc (zpad w i) ∧ (zpad w i).length ≤ 27 := by
  obtain ⟨a, b⟩ := int_txt (i := i) (by omega) h2
  unfold zpad
  refine ⟨asc_app (fun c hc => ?_) a, ?_⟩
  · have hc2 : c ∈ List.replicate (w - (Nat.toDigits 10 i.natAbs).length) 48 := hc
    rw [List.mem_replicate] at hc2
    omega
  · rw [len_app]
    have e : (⟨(List.replicate (w - (Nat.toDigits 10 i.natAbs).length) 48).toArray⟩ : Str).length = w - (Nat.toDigits 10 i.natAbs).length := by rw [TL.len_tl, TL.tl_mk, List.length_replicate]
    omega

end

section
variable {P : Program} {w : World} {K : PySem.W.Frag} {mg : Str → Option Value} {base : Heap}
theorem c_month_length (T : Tx w K mg) : C8.Cal P w K mg base 2 "month_length" (spII (fun _ m => 1 ≤ m ∧ m ≤ 12) (fun y m => .int (mlen y m))) [] := by
  refine mk_cal T (x := "month_length") (i := 12) (j := 7) (N := ["year", "month"]) (ps := ["year", "month"]) rfl rfl (by decide +kernel) (fun _ _ _ _ _ _ us hl => match us, hl with | [_, _], _ => rfl) (fun vs H Q E h => by obtain ⟨_, _, rfl, _⟩ := h; rfl) (fun cdv A outer s H vs Q E nd hr h => ⟨_, (pss_cons (ps_if (PW.pt (pw_and (pt_cmpR op_eq (pv 1) pe_int (nomark _)) (pw_and1 (pt_val (C8.pe_c (c_is_leap T) hr (by decide) (by rfl) (pa_cons (pv 0) pa_nil)))))) (pss_one (ps_ret pe_int)) pss_nil)
      (pss_one (ps_ret (pe_ix ix_seq (C8.pe_gc (by rfl) T.LENGTHS) (pe_op o_sub (pv 1) pe_int) (fun _ _ => rfl))))), ?hb⟩)
  case hb =>
    obtain ⟨i, j, rfl, c, hQ⟩ := h
    obtain ⟨c1, c2⟩ := c
    have hL : SqT K H (He.ga K "LENGTHS") (lengthsL.map V.int) := T.lengths H
    have hat := at_months c1 c2
    refine q_when (b := decide (j = 2) && leapB i) ?ht (fun hb H1 e1 => ?h1) (fun hb H1 e1 => ?h2)
    case ht => walk_at "et"
    case h1 =>
      walk_at "st"
      have e := (Bool.and_eq_true_iff.mp hb)
      show V.int 29 = V.int (mlen i j)
      unfold mlen
      rw [if_pos ⟨of_decide_eq_true e.1, e.2⟩]
    case h2 =>
      have hL1 : SqT K H1 (He.ga K "LENGTHS") (lengthsL.map V.int) := T.lengths H1
      walk_at "st"
      show V.int (lenM j) = V.int (mlen i j)
      unfold mlen
      rw [if_neg]
      intro ⟨h1, h2⟩
      rw [decide_eq_true h1, h2] at hb
      cases hb

theorem c_day_of (T : Tx w K mg) : C8.Cal P w K mg base 3 "day_of" (spIII (fun _ _ _ => True) dayOfF) [] := by
  refine mk_cal T (x := "day_of") (i := 14) (j := 9) (N := ["year", "month", "date", "day", "past"]) (ps := ["year", "month", "date"]) rfl rfl (by decide +kernel) (fun _ _ _ _ _ _ us hl => match us, hl with | [_, _, _], _ => rfl) (fun vs H Q E h => by obtain ⟨_, _, _, rfl, _⟩ := h; rfl) (fun cdv A outer s H vs Q E nd hr h => ⟨_, (pss_cons (ps_if (PW.pt (pw_or (pt_not (pt_chain o_le o_le pe_int (pv 0) pe_int)) (pw_or1 (pt_not (pt_chain o_le o_le pe_int (pv 1) pe_int))))) (pss_one (ps_ret pe_non)) pss_nil)
      (pss_cons (ps_if (pt_not (pt_chain o_le o_le pe_int (pv 2) (C8.pe_c (c_month_length T) hr (by decide) (by rfl) (pa_cons (pv 0) (pa_cons (pv 1) pa_nil))))) (pss_one (ps_ret pe_non)) pss_nil)
      (pss_cons (ps_set (i := 3) nd rfl (.inl rfl) (pe_op o_add (pe_op o_sub (pe_op o_add (C8.pe_c (c_days_before T) hr (by decide) (by rfl) (pa_cons (pv 0) pa_nil)) (pv 2)) pe_int) (C8.pe_gc (by rfl) T.FIRST_DAY)))
      (pss_cons (ps_for PassesOwn.never rfl (pi_range2 (by rfl) T.m_range (pa_cons pe_int (pa_cons (pv 1) pa_nil))) (pg_name (i := 4) nd rfl (.inl rfl)) (pss_one (ps_set (i := 3) nd rfl (.inl rfl) (pe_op o_add (pv 3) (C8.pe_c (c_month_length T) hr (by decide) (by rfl) (pa_cons (pv 0) (pa_cons (pv 4) pa_nil)))))))
      (pss_one (ps_ret (pv 3))))))), ?hb⟩)
  case hb =>
    obtain ⟨y, m, d, rfl, c, hQ⟩ := h
    refine q_when (b := (!(decide (1 ≤ y) && decide (y ≤ 9999))) || (!(decide (1 ≤ m) && decide (m ≤ 12)))) ?ht (fun hb H1 e1 => ?h1) (fun hb H1 e1 => ?h2)
    case ht => walk_at "et"
    case h1 =>
      walk_at "st"
      show V.non = dayOfF y m d
      unfold dayOfF
      rw [if_neg]
      intro ⟨z1, z2, z3⟩
      simp [z1, z2] at hb
    case h2 =>
      have hy : 1 ≤ y ∧ y ≤ 9999 ∧ 1 ≤ m ∧ m ≤ 12 := by
        simp only [Bool.or_eq_false_iff, Bool.not_eq_false', Bool.and_eq_true, decide_eq_true_eq] at hb
        omega
      obtain ⟨y1, y2, m1, m2⟩ := hy
      refine q_when (b := !(decide (1 ≤ d) && decide (d ≤ mlen y m))) ?ht (fun hb2 H2 e2 => ?h1) (fun hb2 H2 e2 => ?h2)
      case ht => walk_at "et"
      case h1 =>
        walk_at "st"
        show V.non = dayOfF y m d
        unfold dayOfF
        rw [if_neg]
        intro ⟨z1, z2, z3⟩
        simp [z3] at hb2
      case h2 =>
        have hd : 1 ≤ d ∧ d ≤ mlen y m := by
          simp only [Bool.not_eq_false', Bool.and_eq_true, decide_eq_true_eq] at hb2
          omega
        walk_at "as"
        rename_i H3 e3
        have e03 : Ex H H3 := (e1.trans e2).trans e3
        refine q_forR2 (lo := 1) (n := m) (ea_cons ev_c (ea_cons (ev_var rfl) ea_nil)) (by omega) (fun i σ' H' => ∃ pv, σ' = [some (.int y), some (.int m), some (.int d), some (.int (daysBefore y + d - 1 + -719162 + sumM y i)), pv] ∧ Ex H H') ?i0 ?is ?id
        case i0 =>
          intro H4 e4
          exact ⟨none, by rw [show sumM y 0 = 0 from rfl, Int.add_zero]; rfl, e03.trans e4⟩
        case is =>
          rintro i σ' H' hi ⟨pv, rfl, hE⟩
          have p1 : 1 ≤ 1 + (i : Int) ∧ 1 + (i : Int) ≤ 12 := by omega
          walk_at "as1"
          rename_i H5 e5
          refine ⟨some (.int (1 + (i : Int))), ?_, hE.trans e5⟩
          have q : sumM y (i + 1) = sumM y i + mlen y (1 + (i : Int)) := by
            rw [Int.add_comm 1 (i : Int)]
            rfl
          rw [q, ← Int.add_assoc]
          rfl
        case id =>
          rintro σ' H' ⟨pv, rfl, hE⟩
          walk_at "st"
          show V.int (daysBefore y + d - 1 + -719162 + sumM y (m - 1).toNat) = dayOfF y m d
          unfold dayOfF
          rw [if_pos ⟨⟨y1, y2⟩, ⟨m1, m2⟩, hd⟩] <;> rfl


/-- its promise: year, month, day of the month
-/
def spDate : Sp := fun vs H Q _ => ∃ i, vs = [.int i] ∧ -719162 ≤ i ∧ i ≤ 2932896 ∧ RetU [.int (yearOf (i - -719162)), .int (monOf (i - -719162)), .int (domOf (i - -719162))] H Q

theorem eu_date {σ : L2.St} {H : Hp} {tA : TA} {E : XK} {i : Int} (h : EvA tA σ H [.int i]) (h1 : -719162 ≤ i) (h2 : i ≤ 2932896) : EvU (tCall spDate [] E tA) σ H [.int (yearOf (i - -719162)), .int (monOf (i - -719162)), .int (domOf (i - -719162))] :=
  eu_call h fun _ _ _ q _ => ⟨i, rfl, h1, h2, q⟩

theorem c_date_of (T : Tx w K mg) : C8.Cal P w K mg base 3 "date_of" (spDate) [] := by
  refine mk_cal T (x := "date_of") (i := 15) (j := 10) (N := ["day", "number", "year", "rest", "centuries", "single", "month"]) (ps := ["day"]) rfl rfl (by decide +kernel) (fun _ _ _ _ _ _ us hl => match us, hl with | [_], _ => rfl) (fun vs H Q E h => by obtain ⟨_, rfl, _⟩ := h; rfl) (fun cdv A outer s H vs Q E nd hr h => ⟨_, (pss_cons (ps_set (i := 1) nd rfl (.inl rfl) (pe_op o_sub (pv 0) (C8.pe_gc (by rfl) T.FIRST_DAY)))
      (pss_cons (ps_set (i := 2) nd rfl (.inl rfl) (pe_op o_add (pe_op o_mul pe_int (pe_op o_div (pv 1) pe_int)) pe_int))
      (pss_cons (ps_set (i := 3) nd rfl (.inl rfl) (pe_op o_mod (pv 1) pe_int))
      (pss_cons (ps_set (i := 4) nd rfl (.inl rfl) (pe_callB (b_min rfl) (by rfl) T.m_min boot_min (pa_cons (pe_op o_div (pv 3) pe_int) (pa_cons pe_int pa_nil))))
      (pss_cons (ps_set (i := 3) nd rfl (.inl rfl) (pe_op o_sub (pv 3) (pe_op o_mul pe_int (pv 4))))
      (pss_cons (ps_set (i := 2) nd rfl (.inl rfl) (pe_op o_add (pe_op o_add (pv 2) (pe_op o_mul pe_int (pv 4))) (pe_op o_mul pe_int (pe_op o_div (pv 3) pe_int))))
      (pss_cons (ps_set (i := 3) nd rfl (.inl rfl) (pe_op o_mod (pv 3) pe_int))
      (pss_cons (ps_set (i := 5) nd rfl (.inl rfl) (pe_callB (b_min rfl) (by rfl) T.m_min boot_min (pa_cons (pe_op o_div (pv 3) pe_int) (pa_cons pe_int pa_nil))))
      (pss_cons (ps_set (i := 3) nd rfl (.inl rfl) (pe_op o_sub (pv 3) (pe_op o_mul pe_int (pv 5))))
      (pss_cons (ps_set (i := 2) nd rfl (.inl rfl) (pe_op o_add (pv 2) (pv 5)))
      (pss_cons (ps_set (i := 6) nd rfl (.inl rfl) pe_int)
      (pss_cons (ps_while PassesOwn.never (pt_cmpR o_ge (pv 3) (C8.pe_c (c_month_length T) hr (by decide) (by rfl) (pa_cons (pv 2) (pa_cons (pv 6) pa_nil))) (nomark _)) (pss_cons (ps_set (i := 3) nd rfl (.inl rfl) (pe_op o_sub (pv 3) (C8.pe_c (c_month_length T) hr (by decide) (by rfl) (pa_cons (pv 2) (pa_cons (pv 6) pa_nil)))))
      (pss_one (ps_set (i := 6) nd rfl (.inl rfl) (pe_op o_add (pv 6) pe_int)))))
      (pss_one (ps_ret (pe_tup (pa_cons (pv 2) (pa_cons (pv 6) (pa_cons (pe_op o_add (pv 3) pe_int) pa_nil)))))))))))))))))), ?hb⟩)
  case hb =>
    obtain ⟨i, rfl, c1, c2, hQ⟩ := h
    repeat walk_at "as"
    rename_i H9 e9
    have hE : Ex H H9 := by walk_at "ex"
    have n0 : 0 ≤ i - -719162 := by omega
    refine q_while (fun k σ' H' => ∃ (m r : Int) (v1 v3 v4 v5 : Option V), σ' = [some (.int i), v1, some (.int (yearOf (i - -719162))), some (.int r), v4, v5, some (.int m)] ∧ Ex H H' ∧ k = (13 - m).toNat ∧ 1 ≤ m ∧ m ≤ 12 ∧ 0 ≤ r ∧
      r + sumM (yearOf (i - -719162)) (m - 1).toNat < sumM (yearOf (i - -719162)) 12 ∧ monF (13 - m).toNat (yearOf (i - -719162)) m r = monF 12 (yearOf (i - -719162)) 1 (restOf (i - -719162))) 12 ?i0 ?is
    case i0 =>
      refine ⟨1, restOf (i - -719162), _, none, _, _, rfl, hE, rfl, by omega, by omega, (rest_bd n0).1, ?_, rfl⟩
      have := rest_lt n0
      show restOf (i - -719162) + 0 < _
      omega
    case is =>
      rintro k σ' H' ⟨m, r, v1, v3, v4, v5, rfl, hE2, rfl, m1, m2, r0, hlt, hm⟩
      have l := mlen_bd (y := yearOf (i - -719162)) m1 m2
      have em : sumM (yearOf (i - -719162)) m.toNat = sumM (yearOf (i - -719162)) (m - 1).toNat + mlen (yearOf (i - -719162)) m := by
        obtain ⟨j, hj⟩ : ∃ j : Nat, m = (j : Int) + 1 := ⟨(m - 1).toNat, by omega⟩
        subst hj
        rw [show ((j : Int) + 1).toNat = j + 1 by omega, show ((j : Int) + 1 - 1).toNat = j by omega]
        rfl
      have ek : (13 - m).toNat = (12 - m).toNat + 1 := by omega
      generalize hZ : monF 12 (yearOf (i - -719162)) 1 (restOf (i - -719162)) = Z at hm
      rw [ek] at hm
      unfold monF at hm
      refine ⟨decide (mlen (yearOf (i - -719162)) m ≤ r), ?ht, fun hb H1 e1 => ?h1, fun hb H1 e1 => ?h2⟩
      case ht => walk_at "et"
      case h1 =>
        have hb := of_decide_eq_true hb
        have m12 : m ≠ 12 := fun z => by
          subst z
          have q : sumM (yearOf (i - -719162)) (12 : Int).toNat = sumM (yearOf (i - -719162)) 12 := rfl
          omega
        rw [if_pos hb] at hm
        refine ⟨fun σ2 H2 => ∃ v1 v4 v5, σ2 = [some (.int i), v1, some (.int (yearOf (i - -719162))), some (.int (r - mlen (yearOf (i - -719162)) m)), v4, v5, some (.int (m + 1))] ∧ Ex H H2, ?_, ?_⟩
        · rintro σ2 H2 ⟨w1, w4, w5, rfl, hE3⟩
          refine ⟨(12 - m).toNat, by omega, m + 1, r - mlen (yearOf (i - -719162)) m, w1, none, w4, w5, rfl, hE3, by omega, by omega, by omega, by omega, ?_, ?_⟩
          · rw [show (m + 1 - 1).toNat = m.toNat by omega, em]
            omega
          · rw [show (13 - (m + 1)).toNat = (12 - m).toNat by omega]
            first | exact hm | exact hm.trans hZ.symm
        · have hm1 : 1 ≤ m ∧ m ≤ 12 := ⟨m1, m2⟩
          walk_at "as"
          walk_at "as1"
          exact ⟨_, _, _, rfl, by walk_at "ex"⟩
      case h2 =>
        rw [if_neg (fun z => by rw [decide_eq_true z] at hb; cases hb)] at hm
        walk_at "ru"
        rename_i p H2 np e2 hp
        refine hQ p H2 (fresh_back (hE2.trans e1) np) ((hE2.trans e1).trans e2) ?_
        rw [hp]
        unfold monOf domOf
        rw [hZ, ← hm]

end

end

section
/-! ### the reading by itself: a value (ev), a test (et), arguments (ea), an operation on values (rv), a built-in call (rc), side conditions (sd), statements (st) -/
local macro_rules | `(tactic| walk_at "sd") => `(tactic| first | exact True.intro | assumption | omega | decide | exact Or.inl rfl | exact Or.inr ⟨_, rfl⟩ | exact Or.inr ⟨_, rfl, by assumption, by assumption⟩ | exact Or.inr ⟨_, rfl, by omega, by omega⟩ | (refine ⟨?_, ?_⟩ <;> walk_at "sd") | (simp only [*] <;> omega))
local macro_rules | `(tactic| walk_at "ea") => `(tactic| first
  | (with_reducible exact ea_nil)
  | ((with_reducible refine' ea_cons ?ha ?hr); (case ha => walk_at "ev"); (case hr => walk_at "ea")))
local macro_rules | `(tactic| walk_at "rv") => `(tactic| first
  | ((with_reducible show RV rAddU _ _ _ _); first | exact rv_addI | (refine' rv_addS ?h; (case h => walk_at "sd")))
  | ((with_reducible show RV rSubI _ _ _ _); exact rv_subI)
  | ((with_reducible show RV rMulI _ _ _ _); first | exact rv_mulL (by omega) (by omega) | exact rv_mulR (by omega) (by omega))
  | ((with_reducible show RV rMulS _ _ _ _); refine' rv_mulS ?h1 ?h2 ?h3; (case h1 => walk_at "sd"); (case h2 => walk_at "sd"); (case h3 => walk_at "sd"))
  | ((with_reducible show RV rDivI _ _ _ _); exact rv_divI (by omega) (by omega))
  | ((with_reducible show RV rModI _ _ _ _); exact rv_modI (by omega))
  | ((with_reducible show RV rLtI _ _ _ _); exact rv_ltI)
  | ((with_reducible show RV rLeI _ _ _ _); exact rv_leI)
  | ((with_reducible show RV rGtI _ _ _ _); exact rv_gtI)
  | ((with_reducible show RV rGeI _ _ _ _); exact rv_geI)
  | ((with_reducible show RV Y.rIsN _ _ _ _); first | exact rv_isN1 | exact rv_isN0 rfl)
  | ((with_reducible show RV Y.rNotN _ _ _ _); first | exact rv_notN1 | exact rv_notN0 rfl)
  | ((with_reducible show RV (rIsU _) _ _ _ _); first | exact rv_isBB | exact rv_isNB | exact rv_isIB | exact rv_isSB | exact rv_isnBB)
  | ((with_reducible show RV rEq _ _ _ _); first | exact rv_eqII | exact rv_eqSS | exact rv_eqBB | exact rv_eq rfl)
  | ((with_reducible show RV rNe _ _ _ _); first | exact rv_neII | exact rv_neSS | exact rv_neBB | exact rv_ne rfl)
  | ((with_reducible show RV (rIx _) _ _ _ _); first | exact rv_ixuT (by assumption) rfl | exact rv_ixuL (by assumption) rfl | exact rv_ixuT (by assumption) (by assumption) | exact rv_ixuL (by assumption) (by assumption) | exact rv_ixuS (by assumption) (by assumption)))
local macro_rules | `(tactic| walk_at "eo") => `(tactic| first | (with_reducible exact eo_none) | ((with_reducible refine' eo_some ?hx); (case hx => walk_at "ev")))
local macro_rules | `(tactic| walk_at "rm") => `(tactic| first
  | ((with_reducible show RM rStart _ _ _ _); exact rm_start)
  | ((with_reducible show RM rFind _ _ _ _); exact rm_find)
  | ((with_reducible show RM rDigit _ _ _ _); exact rm_digit)
  | ((with_reducible show RM rStrip _ _ _ _); refine' rm_strip ?hz; (case hz => walk_at "sd"))
  | ((with_reducible show RM rLStrip _ _ _ _); refine' rm_lstrip ?hz; (case hz => walk_at "sd"))
  | ((with_reducible show RM rRStrip _ _ _ _); refine' rm_rstrip ?hz; (case hz => walk_at "sd"))
  | ((with_reducible show RM rZfill _ _ _ _); exact rm_zfill rfl))
local macro_rules | `(tactic| walk_at "eu") => `(tactic| first
  | ((with_reducible refine' eu_date ?ha ?h1 ?h2); (case ha => walk_at "ea"); (case h1 => walk_at "sd"); (case h2 => walk_at "sd"))
  | ((with_reducible refine' eu_tup ?ha ?hl); (case ha => walk_at "ea"); (case hl => exact Nat.le_of_ble_eq_true rfl)))
local macro_rules | `(tactic| walk_at "rc") => `(tactic| first
  | ((with_reducible show RC (rLenU _) _ _ _); first | exact rc_lenL (by assumption) | exact rc_lenT (by assumption) | (refine' rc_lenS ?h; (case h => walk_at "sd")))
  | ((with_reducible show RC rAbsI _ _ _); exact rc_abs)
  | ((with_reducible show RC rMaxI _ _ _); exact rc_max)
  | ((with_reducible show RC rMinI _ _ _); exact rc_min)
  | ((with_reducible show RC rIntU _ _ _); first | exact rc_intI | exact rc_intB)
  | ((with_reducible show RC rStrI _ _ _); refine' rc_str ?h; (case h => walk_at "sd"))
  | ((with_reducible show RC (rIsi _) _ _ _); first
      | exact rc_isi kb_nb tx_non | exact rc_isi kb_ni tx_non | exact rc_isi kb_ns tx_non
      | exact rc_isi kb_bb (tx_bl _) | exact rc_isi kb_bi (tx_bl _) | exact rc_isi kb_bs (tx_bl _)
      | exact rc_isi kb_ib (tx_int _) | exact rc_isi kb_ii (tx_int _) | exact rc_isi kb_is (tx_int _)
      | exact rc_isi kb_sb (tx_str _) | exact rc_isi kb_si (tx_str _) | exact rc_isi kb_ss (tx_str _)))
local macro_rules | `(tactic| walk_at "ev") => `(tactic| first
  | (with_reducible exact ev_c)
  | ((with_reducible refine' ev_var ?hv); (case hv => rfl))
  | ((with_reducible refine' ev_op ?ha ?hb ?hr); (case ha => walk_at "ev"); (case hb => walk_at "ev"); (case hr => walk_at "rv"))
  | ((with_reducible refine' ev_ixU1 ?ha ?hb ?hi); (case ha => walk_at "eu"); (case hb => walk_at "ev"); (case hi => rfl))
  | ((with_reducible refine' ev_m0 ?ho ?hr); (case ho => walk_at "ev"); (case hr => walk_at "rm"))
  | ((with_reducible refine' ev_m1 ?ho ?he ?hr); (case ho => walk_at "ev"); (case he => walk_at "ev"); (case hr => walk_at "rm"))
  | ((with_reducible refine' ev_slS ?hx ?h1 ?h2 ?hz); (case hx => walk_at "ev"); (case h1 => walk_at "eo"); (case h2 => walk_at "eo"); (case hz => walk_at "sd"))
  | ((with_reducible refine' ev_un ?ha ?hr); (case ha => walk_at "ev"); (case hr => exact ru_negI))
  | ((with_reducible refine' ev_cb ?ha ?hr); (case ha => walk_at "ea"); (case hr => walk_at "rc"))
  | ((with_reducible show Ev (tIf _ _ _) _ _ _); first
      | (refine' ev_ifT ?ht ?hx; (case ht => walk_at "et"); (case hx => walk_at "ev"))
      | (refine' ev_ifF ?ht ?hx; (case ht => walk_at "et"); (case hx => walk_at "ev"))
      | (refine' ev_ifB ?ht ?hx ?hy; (case ht => walk_at "et"); (case hx => (intro hb; walk_at "ev")); (case hy => (intro hb; walk_at "ev"))))
  | ((with_reducible show Ev (tAndV _ _) _ _ _); first
      | (refine' ev_and0 ?h1; (case h1 => walk_at "ev"))
      | (refine' ev_and1 ?h1 ?h2; (case h1 => walk_at "ev"); (case h2 => walk_at "ev"))
      | (refine' ev_andV ?h1 ?h2; (case h1 => walk_at "ev"); (case h2 => (intro hb; walk_at "ev"))))
  | ((with_reducible show Ev (tOrV _ _) _ _ _); first
      | (refine' ev_or1 ?h1; (case h1 => walk_at "ev"))
      | (refine' ev_or0 ?h1 ?h2; (case h1 => walk_at "ev"); (case h2 => walk_at "ev"))
      | (refine' ev_orV ?h1 ?h2; (case h1 => walk_at "ev"); (case h2 => (intro hb; walk_at "ev"))))
  | ((with_reducible show Ev (tNotV _) _ _ _); refine' ev_notV ?h1; (case h1 => walk_at "ev"))
  | ((with_reducible show Ev (tChain _ _ _ _ _) _ _ _); refine' ev_is (ev_chainI ?ha ?hb ?hc ?hr ?hs) ?he; (case ha => walk_at "ev"); (case hb => walk_at "ev"); (case hc => walk_at "ev"); (case hr => walk_at "rv"); (case hs => walk_at "rv"); (case he => rfl))
  | ((with_reducible show Ev (tCall _ _ _ _) _ _ _); refine' ev_is ?hk ?he; (case hk => first
      | ((with_reducible refine' ec_I ?ha ?hc); (case ha => walk_at "ea"); (case hc => walk_at "sd"))
      | ((with_reducible refine' ec_II ?ha ?hc); (case ha => walk_at "ea"); (case hc => walk_at "sd"))
      | ((with_reducible refine' ec_III ?ha ?hc); (case ha => walk_at "ea"); (case hc => walk_at "sd"))
      | ((with_reducible refine' ec_V ?ha ?hc); (case ha => walk_at "ea"); (case hc => walk_at "sd"))
      | ((with_reducible refine' ec_VV ?ha ?hc); (case ha => walk_at "ea"); (case hc => walk_at "sd"))
      | ((with_reducible refine' ec_VVV ?ha ?hc); (case ha => walk_at "ea"); (case hc => walk_at "sd"))
      | ((with_reducible refine' ec_S ?ha ?hc); (case ha => walk_at "ea"); (case hc => walk_at "sd"))
      | ((with_reducible refine' ec_SS ?ha ?hc); (case ha => walk_at "ea"); (case hc => walk_at "sd"))
      | ((with_reducible refine' ec_SSS ?ha ?hc); (case ha => walk_at "ea"); (case hc => walk_at "sd"))); (case he => rfl)))
local macro_rules | `(tactic| walk_at "et") => `(tactic| first
  | ((with_reducible show EvT (tTest _) _ _ _); refine' et_is (et_test ?h) ?he; (case h => walk_at "ev"); (case he => rfl))
  | ((with_reducible show EvT (tB _) _ _ _); refine' et_is (et_B ?h) ?he; (case h => walk_at "ev"); (case he => rfl))
  | ((with_reducible show EvT (tNot _) _ _ _); refine' et_is (et_not ?h) ?he; (case h => walk_at "et"); (case he => rfl))
  | ((with_reducible show EvT (tAnd _ _) _ _ _); first
      | (refine' et_is (et_and0 ?h1) ?he; (case h1 => walk_at "et"); (case he => rfl))
      | (refine' et_and1 ?h1 ?h2; (case h1 => walk_at "et"); (case h2 => walk_at "et"))
      | (refine' et_and ?h1 ?h2; (case h1 => walk_at "et"); (case h2 => (intro hb; walk_at "et"))))
  | ((with_reducible show EvT (tOr _ _) _ _ _); first
      | (refine' et_is (et_or1 ?h1) ?he; (case h1 => walk_at "et"); (case he => rfl))
      | (refine' et_or0 ?h1 ?h2; (case h1 => walk_at "et"); (case h2 => walk_at "et"))
      | (refine' et_or ?h1 ?h2; (case h1 => walk_at "et"); (case h2 => (intro hb; walk_at "et")))))
local macro_rules | `(tactic| walk_at "ex") => `(tactic| first | exact Ex.refl _ | assumption | (refine Ex.trans ?hx (by assumption); (case hx => walk_at "ex")))
local macro_rules | `(tactic| walk_at "st") => `(tactic| first
  | ((with_reducible show tSeq (tIfS _ _ tNext) _ _ _ _); refine' q_when ?ht ?h1 ?h2; (case ht => walk_at "et"); all_goals ((intro hb H1 e1); first | (exfalso; cases hb; done) | walk_at "st" | (exfalso; simp_all; done)))
  | ((with_reducible show tSeq (tIfS _ _ _) _ _ _ _); refine' q_if ?ht ?h1 ?h2; (case ht => walk_at "et"); all_goals ((intro hb H1 e1); first | (exfalso; cases hb; done) | walk_at "st" | (exfalso; simp_all; done)))
  | ((with_reducible show tIfS _ _ _ _ _ _); refine' s_if ?ht ?h1 ?h2; (case ht => walk_at "et"); all_goals ((intro hb H1 e1); first | (exfalso; cases hb; done) | walk_at "st" | (exfalso; simp_all; done)))
  | ((with_reducible show tSeq (tAsg _ (gName _)) _ _ _ _); refine' q_asg ?ht ?h1; (case ht => walk_at "ev"); (intro H1 e1; walk_at "st"))
  | ((with_reducible show tRet _ _ _ _); refine' s_ret ?ht ?h1; (case ht => walk_at "ev"); (intro H1 e1; refine fin (by assumption) (by walk_at "ex") ?he)))
local macro_rules | `(tactic| walk_at "as") => `(tactic| ((with_reducible show tSeq (tAsg _ (gName _)) _ _ _ _); refine' q_asg ?ht ?h1; (case ht => walk_at "ev"); intro H1 e1))
local macro_rules | `(tactic| walk_at "as1") => `(tactic| ((with_reducible show tAsg _ (gName _) _ _ _); refine' s_asg ?ht ?h1; (case ht => walk_at "ev"); intro H1 e1))
local macro_rules | `(tactic| walk_at "ru") => `(tactic| ((with_reducible show tRet (tTup _) _ _ _); refine' s_retU (eu_tup ?ha ?hl) ?hk; (case ha => walk_at "ea"); (case hl => exact Nat.le_of_ble_eq_true rfl); intro p H1 np e1 hp))

section
variable {P : Program} {w : World} {K : PySem.W.Frag} {mg : Str → Option Value} {base : Heap}

def nOf (i : Int) : Int := i - -719162
def yearF : V → V
  | .int i => .int (yearOf (i - -719162))
  | _ => .non
def monthF : V → V
  | .int i => .int (monOf (i - -719162))
  | _ => .non
def domF : V → V
  | .int i => .int (domOf (i - -719162))
  | _ => .non
def mstartF : V → V
  | .int i => .int (i - domOf (i - -719162) + 1)
  | _ => .non
def ystartF : V → V
  | .int i => dayOfF (yearOf (i - -719162)) 1 1
  | _ => .non
def mAdd (i j : Int) : Int := 12 * yearOf (i - -719162) + monOf (i - -719162) - 1 + j
def monthsAddF (a b : V) : V := match a, b with
  | .int i, .int j => if 12 ≤ mAdd i j ∧ mAdd i j < 120000 then dayOfF (mAdd i j / 12) (mAdd i j % 12 + 1) (if mlen (mAdd i j / 12) (mAdd i j % 12 + 1) < domOf (i - -719162) then mlen (mAdd i j / 12) (mAdd i j % 12 + 1) else domOf (i - -719162)) else .non
  | _, _ => .non
def dateStr (i : Int) : Str := Str.empty ++ zpad 4 (yearOf (i - -719162)) ++ "-" ++ zpad 2 (monOf (i - -719162)) ++ "-" ++ zpad 2 (domOf (i - -719162))
def dateTxtF : V → V
  | .int i => .str (dateStr i)
  | _ => .non

theorem c_year_of (T : Tx w K mg) : C8.Cal P w K mg base 4 "year_of" (spV OptD yearF) [] := by
  refine mk_cal T (x := "year_of") (i := 53) (j := 33) (N := ["value"]) (ps := ["value"]) rfl rfl (by decide +kernel) (fun _ _ _ _ _ _ us hl => match us, hl with | [_], _ => rfl) (fun vs H Q E h => by obtain ⟨_, rfl, _⟩ := h; rfl) (fun cdv A outer s H vs Q E nd hr h => ⟨_, (pss_one (ps_ret (pe_ifExp (pt_val (C8.pe_c (c_is_day T) hr (by decide) (by rfl) (pa_cons (pv 0) pa_nil))) (pe_ix ix_seq (C8.pe_c (c_date_of T) hr (by decide) (by rfl) (pa_cons (pv 0) pa_nil)) pe_int (fun _ _ => rfl)) pe_non))), ?hb⟩)
  case hb =>
    obtain ⟨a, rfl, c, hQ⟩ := h
    rcases c with rfl | ⟨i, rfl, c1, c2⟩
    · walk_at "st"; rfl
    · have z := isDayV_yes c1 c2
      walk_at "st"
      simp_all [yearF, isDayV]

theorem c_month_of (T : Tx w K mg) : C8.Cal P w K mg base 4 "month_of" (spV OptD monthF) [] := by
  refine mk_cal T (x := "month_of") (i := 54) (j := 34) (N := ["value"]) (ps := ["value"]) rfl rfl (by decide +kernel) (fun _ _ _ _ _ _ us hl => match us, hl with | [_], _ => rfl) (fun vs H Q E h => by obtain ⟨_, rfl, _⟩ := h; rfl) (fun cdv A outer s H vs Q E nd hr h => ⟨_, (pss_one (ps_ret (pe_ifExp (pt_val (C8.pe_c (c_is_day T) hr (by decide) (by rfl) (pa_cons (pv 0) pa_nil))) (pe_ix ix_seq (C8.pe_c (c_date_of T) hr (by decide) (by rfl) (pa_cons (pv 0) pa_nil)) pe_int (fun _ _ => rfl)) pe_non))), ?hb⟩)
  case hb =>
    obtain ⟨a, rfl, c, hQ⟩ := h
    rcases c with rfl | ⟨i, rfl, c1, c2⟩
    · walk_at "st"; rfl
    · have z := isDayV_yes c1 c2
      walk_at "st"
      simp_all [monthF, isDayV]

theorem c_day_of_month (T : Tx w K mg) : C8.Cal P w K mg base 4 "day_of_month" (spV OptD domF) [] := by
  refine mk_cal T (x := "day_of_month") (i := 55) (j := 35) (N := ["value"]) (ps := ["value"]) rfl rfl (by decide +kernel) (fun _ _ _ _ _ _ us hl => match us, hl with | [_], _ => rfl) (fun vs H Q E h => by obtain ⟨_, rfl, _⟩ := h; rfl) (fun cdv A outer s H vs Q E nd hr h => ⟨_, (pss_one (ps_ret (pe_ifExp (pt_val (C8.pe_c (c_is_day T) hr (by decide) (by rfl) (pa_cons (pv 0) pa_nil))) (pe_ix ix_seq (C8.pe_c (c_date_of T) hr (by decide) (by rfl) (pa_cons (pv 0) pa_nil)) pe_int (fun _ _ => rfl)) pe_non))), ?hb⟩)
  case hb =>
    obtain ⟨a, rfl, c, hQ⟩ := h
    rcases c with rfl | ⟨i, rfl, c1, c2⟩
    · walk_at "st"; rfl
    · have z := isDayV_yes c1 c2
      walk_at "st"
      simp_all [domF, isDayV]

theorem c_month_start (T : Tx w K mg) : C8.Cal P w K mg base 4 "month_start" (spV OptD mstartF) [] := by
  refine mk_cal T (x := "month_start") (i := 57) (j := 37) (N := ["value"]) (ps := ["value"]) rfl rfl (by decide +kernel) (fun _ _ _ _ _ _ us hl => match us, hl with | [_], _ => rfl) (fun vs H Q E h => by obtain ⟨_, rfl, _⟩ := h; rfl) (fun cdv A outer s H vs Q E nd hr h => ⟨_, (pss_one (ps_ret (pe_ifExp (pt_val (C8.pe_c (c_is_day T) hr (by decide) (by rfl) (pa_cons (pv 0) pa_nil))) (pe_op o_add (pe_op o_sub (pv 0) (pe_ix ix_seq (C8.pe_c (c_date_of T) hr (by decide) (by rfl) (pa_cons (pv 0) pa_nil)) pe_int (fun _ _ => rfl))) pe_int) pe_non))), ?hb⟩)
  case hb =>
    obtain ⟨a, rfl, c, hQ⟩ := h
    rcases c with rfl | ⟨i, rfl, c1, c2⟩
    · walk_at "st"; rfl
    · have z := isDayV_yes c1 c2
      walk_at "st"
      simp_all [mstartF, isDayV]

theorem c_year_start (T : Tx w K mg) : C8.Cal P w K mg base 4 "year_start" (spV OptD ystartF) [] := by
  refine mk_cal T (x := "year_start") (i := 58) (j := 38) (N := ["value"]) (ps := ["value"]) rfl rfl (by decide +kernel) (fun _ _ _ _ _ _ us hl => match us, hl with | [_], _ => rfl) (fun vs H Q E h => by obtain ⟨_, rfl, _⟩ := h; rfl) (fun cdv A outer s H vs Q E nd hr h => ⟨_, (pss_one (ps_ret (pe_ifExp (pt_val (C8.pe_c (c_is_day T) hr (by decide) (by rfl) (pa_cons (pv 0) pa_nil))) (C8.pe_c (c_day_of T) hr (by decide) (by rfl) (pa_cons (pe_ix ix_seq (C8.pe_c (c_date_of T) hr (by decide) (by rfl) (pa_cons (pv 0) pa_nil)) pe_int (fun _ _ => rfl)) (pa_cons pe_int (pa_cons pe_int pa_nil)))) pe_non))), ?hb⟩)
  case hb =>
    obtain ⟨a, rfl, c, hQ⟩ := h
    rcases c with rfl | ⟨i, rfl, c1, c2⟩
    · walk_at "st"; rfl
    · have z := isDayV_yes c1 c2
      walk_at "st"
      simp_all [ystartF, isDayV]

theorem c_months_added (T : Tx w K mg) : C8.Cal P w K mg base 4 "months_added" (spVV (fun a b => OptD a ∧ OptI b) monthsAddF) [] := by
  refine mk_cal T (x := "months_added") (i := 63) (j := 43) (N := ["value", "count", "number", "later", "year", "month", "date"]) (ps := ["value", "count"]) rfl rfl (by decide +kernel) (fun _ _ _ _ _ _ us hl => match us, hl with | [_, _], _ => rfl) (fun vs H Q E h => by obtain ⟨_, _, rfl, _⟩ := h; rfl) (fun cdv A outer s H vs Q E nd hr h => ⟨_, (pss_cons (ps_if (PW.pt (pw_or (pt_not (pt_val (C8.pe_c (c_is_day T) hr (by decide) (by rfl) (pa_cons (pv 0) pa_nil)))) (pw_or1 (pt_not (pt_val (C8.pe_c (c_is_integer T) hr (by decide) (by rfl) (pa_cons (pv 1) pa_nil))))))) (pss_one (ps_ret pe_non)) pss_nil)
      (pss_cons (ps_asg (C8.pe_c (c_date_of T) hr (by decide) (by rfl) (pa_cons (pv 0) pa_nil)) (pg_tup rfl (pgs_cons (pg_name (i := 4) nd rfl (.inl rfl)) (pgs_cons (pg_name (i := 5) nd rfl (.inl rfl)) (pgs_cons (pg_name (i := 6) nd rfl (.inl rfl)) pgs_nil)))))
      (pss_cons (ps_set (i := 2) nd rfl (.inl rfl) (pe_op o_add (pe_op o_sub (pe_op o_add (pe_op o_mul pe_int (pv 4)) (pv 5)) pe_int) (pv 1)))
      (pss_cons (ps_if (pt_not (pt_chain o_le o_lt pe_int (pv 2) pe_int)) (pss_one (ps_ret pe_non)) pss_nil)
      (pss_cons (ps_set (i := 3) nd rfl (.inl rfl) (pe_op o_add (pe_op o_mod (pv 2) pe_int) pe_int))
      (pss_one (ps_ret (C8.pe_c (c_day_of T) hr (by decide) (by rfl) (pa_cons (pe_op o_div (pv 2) pe_int) (pa_cons (pv 3) (pa_cons (pe_callB (b_min rfl) (by rfl) T.m_min boot_min (pa_cons (pv 6) (pa_cons (C8.pe_c (c_month_length T) hr (by decide) (by rfl) (pa_cons (pe_op o_div (pv 2) pe_int) (pa_cons (pv 3) pa_nil))) pa_nil))) pa_nil))))))))))), ?hb⟩)
  case hb =>
    obtain ⟨a, b, rfl, c, hQ⟩ := h
    rcases c with ⟨c1, c2⟩
    rcases c1 with rfl | ⟨i, rfl, c1, c3⟩ <;> rcases c2 with rfl | ⟨j, rfl, c2, c4⟩
    · walk_at "st"; rfl
    · walk_at "st"; rfl
    · have z := isDayV_yes c1 c3
      refine q_when (b := true) ?ht (fun hb H1 e1 => ?h1) (fun hb => nomatch hb)
      case ht =>
        refine et_or0 ?_ ?_
        · refine et_is (et_not (a := true) ?_) rfl
          refine et_B (ev_is (ec_V (a := .int i) (by walk_at "ea") True.intro) z)
        · walk_at "et"
      case h1 =>
        walk_at "st"
        rfl
    · have z := isDayV_yes c1 c3
      refine q_when (b := false) ?ht (fun hb => nomatch hb) (fun hb H1 e1 => ?h2)
      case ht =>
        refine et_or0 ?_ ?_
        · refine et_is (et_not (a := true) ?_) rfl
          refine et_B (ev_is (ec_V (a := .int i) (by walk_at "ea") True.intro) z)
        · walk_at "et"
      case h2 =>
        refine q_unp3 (eu_date (by walk_at "ea") (by omega) (by omega)) (fun H2 e2 => ?_)
        walk_at "as"
        rename_i H3 e3
        refine q_when (b := !(decide (12 ≤ mAdd i j) && decide (mAdd i j < 120000))) ?ht2 (fun hb2 H4 e4 => ?h3) (fun hb2 H4 e4 => ?h4)
        case ht2 => walk_at "et"
        case h3 =>
          walk_at "st"
          show V.non = (if 12 ≤ mAdd i j ∧ mAdd i j < 120000 then _ else V.non)
          rw [if_neg]
          intro ⟨z1, z2⟩
          simp [z1, z2] at hb2
        case h4 =>
          have hm : 12 ≤ mAdd i j ∧ mAdd i j < 120000 := by
            simp only [Bool.not_eq_false', Bool.and_eq_true, decide_eq_true_eq] at hb2
            omega
          have hm2 : 1 ≤ mAdd i j % 12 + 1 ∧ mAdd i j % 12 + 1 ≤ 12 := by omega
          walk_at "as"
          walk_at "st"
          show dayOfF (mAdd i j / 12) (mAdd i j % 12 + 1) (if mlen (mAdd i j / 12) (mAdd i j % 12 + 1) < domOf (i - -719162) then mlen (mAdd i j / 12) (mAdd i j % 12 + 1) else domOf (i - -719162)) = (if 12 ≤ mAdd i j ∧ mAdd i j < 120000 then _ else V.non)
          rw [if_pos hm]

theorem c_date_text (T : Tx w K mg) : C8.Cal P w K mg base 4 "date_text" (spI (fun i => -719162 ≤ i ∧ i ≤ 2932896) (fun i => .str (dateStr i))) [] := by
  refine mk_cal T (x := "date_text") (i := 16) (j := 11) (N := ["day", "year", "month", "date"]) (ps := ["day"]) rfl rfl (by decide +kernel) (fun _ _ _ _ _ _ us hl => match us, hl with | [_], _ => rfl) (fun vs H Q E h => by obtain ⟨_, rfl, _⟩ := h; rfl) (fun cdv A outer s H vs Q E nd hr h => ⟨_, (pss_cons (ps_asg (C8.pe_c (c_date_of T) hr (by decide) (by rfl) (pa_cons (pv 0) pa_nil)) (pg_tup rfl (pgs_cons (pg_name (i := 1) nd rfl (.inl rfl)) (pgs_cons (pg_name (i := 2) nd rfl (.inl rfl)) (pgs_cons (pg_name (i := 3) nd rfl (.inl rfl)) pgs_nil)))))
      (pss_one (ps_ret (pe_joined (.cons (pe_fmtZ T (wd := 4) (by decide +kernel) (by decide +kernel) (by decide +kernel) (by decide) (pv 1)) (.cons pe_str (.cons (pe_fmtZ T (wd := 2) (by decide +kernel) (by decide +kernel) (by decide +kernel) (by decide) (pv 2)) (.cons pe_str (.cons (pe_fmtZ T (wd := 2) (by decide +kernel) (by decide +kernel) (by decide +kernel) (by decide) (pv 3)) .nil))))))))), ?hb⟩)
  case hb =>
    obtain ⟨i, rfl, c, hQ⟩ := h
    obtain ⟨c1, c2⟩ := c
    have n0 : 0 ≤ i - -719162 := by omega
    have n1 : i - -719162 ≤ 3652058 := by omega
    obtain ⟨y1, y2⟩ := year_bd n0 n1
    obtain ⟨m1, m2, d1, d2, _⟩ := mon_bd n0
    have d3 := (mlen_bd (y := yearOf (i - -719162)) m1 m2).2
    have ly := (zpad_ok (w := 4) (i := yearOf (i - -719162)) (by decide) (by omega) (by omega)).2
    have lm := (zpad_ok (w := 2) (i := monOf (i - -719162)) (by decide) (by omega) (by omega)).2
    have ld := (zpad_ok (w := 2) (i := domOf (i - -719162)) (by decide) (by omega) (by omega)).2
    have ls : (("-" : Str)).length = 1 := rfl
    have le : Str.empty.length = 0 := rfl
    refine q_unp3 (eu_date (by walk_at "ea") (by omega) (by omega)) (fun H2 e2 => ?_)
    refine s_ret (v := .str (dateStr i)) (fun H3 e3 Q3 q3 => ?_) (fun H3 e3 => fin hQ (e2.trans e3) rfl)
    refine js_cons (y := zpad 4 (yearOf (i - -719162))) (ev_fmtZ (ev_var rfl) (by omega) (by omega)) (by simp only [len_app]; omega) fun H4 e4 => ?_
    refine js_cons (y := "-") ev_c (by simp only [len_app]; omega) fun H5 e5 => ?_
    refine js_cons (y := zpad 2 (monOf (i - -719162))) (ev_fmtZ (ev_var rfl) (by omega) (by omega)) (by simp only [len_app]; omega) fun H6 e6 => ?_
    refine js_cons (y := "-") ev_c (by simp only [len_app]; omega) fun H7 e7 => ?_
    refine js_cons (y := zpad 2 (domOf (i - -719162))) (ev_fmtZ (ev_var rfl) (by omega) (by omega)) (by simp only [len_app]; omega) fun H8 e8 => ?_
    exact js_nil fun H9 e9 => q3 H9 (((((e4.trans e5).trans e6).trans e7).trans e8).trans e9)

theorem c_date_to_text (T : Tx w K mg) : C8.Cal P w K mg base 5 "date_to_text" (spV OptD dateTxtF) [] := by
  refine mk_cal T (x := "date_to_text") (i := 60) (j := 40) (N := ["value"]) (ps := ["value"]) rfl rfl (by decide +kernel) (fun _ _ _ _ _ _ us hl => match us, hl with | [_], _ => rfl) (fun vs H Q E h => by obtain ⟨_, rfl, _⟩ := h; rfl) (fun cdv A outer s H vs Q E nd hr h => ⟨_, (pss_one (ps_ret (pe_ifExp (pt_val (C8.pe_c (c_is_day T) hr (by decide) (by rfl) (pa_cons (pv 0) pa_nil))) (C8.pe_c (c_date_text T) hr (by decide) (by rfl) (pa_cons (pv 0) pa_nil)) pe_non))), ?hb⟩)
  case hb =>
    obtain ⟨a, rfl, c, hQ⟩ := h
    rcases c with rfl | ⟨i, rfl, c1, c2⟩
    · walk_at "st"; rfl
    · have z := isDayV_yes c1 c2
      walk_at "st"
      simp_all [dateTxtF, isDayV]


def sgn (s : Str) (k : Nat) : Str := ⟨#[(TL.tl s).getD k 0]⟩
theorem at_sgn {s : Str} {k : Nat} (h : k < s.length) : atI s.cps.toList (k : Int) = some ((TL.tl s).getD k 0) := by
  rw [TL.len_tl] at h
  refine atI_nat ?_
  show (TL.tl s)[k]? = _
  rw [List.getElem?_eq_getElem h, List.getD_eq_getElem?_getD, List.getElem?_eq_getElem h]
  rfl
def digD (s : Str) : Str := cutS s none (some 4) ++ cutS s (some 5) (some 7) ++ cutS s (some 8) none
def readDateS (s : Str) : V := if s.length = 10 ∧ sgn s 4 = "-" ∧ sgn s 7 = "-" ∧ Txt.isdigit (digD s) = true then dayOfF (numOf (cutS s none (some 4))) (numOf (cutS s (some 5) (some 7))) (numOf (cutS s (some 8) none)) else .non
theorem cut_tl (s : Str) (lo hi : Option Int) : TL.tl (cutS s lo hi) = ((TL.tl s).drop (HT.sIx s.length 0 lo)).take (HT.sIx s.length s.length hi - HT.sIx s.length 0 lo) := rfl

theorem c_read_date (T : Tx w K mg) : C8.Cal P w K mg base 4 "read_date" (spS OkS readDateS) [] := by
  refine mk_cal T (x := "read_date") (i := 17) (j := 12) (N := ["text", "digits"]) (ps := ["text"]) rfl rfl (by decide +kernel) (fun _ _ _ _ _ _ us hl => match us, hl with | [_], _ => rfl) (fun vs H Q E h => by obtain ⟨_, rfl, _⟩ := h; rfl) (fun cdv A outer s H vs Q E nd hr h => ⟨_, (pss_cons (ps_if (PW.pt (pw_or (pt_cmpR op_ne (pe_callB b_len (by rfl) T.m_len boot_len (pa_cons (pv 0) pa_nil)) pe_int (nomark _)) (pw_or (pt_cmpR op_ne (pe_ix ix_seq (pv 0) pe_int (fun _ _ => rfl)) pe_str (nomark _)) (pw_or1 (pt_cmpR op_ne (pe_ix ix_seq (pv 0) pe_int (fun _ _ => rfl)) pe_str (nomark _)))))) (pss_one (ps_ret pe_non)) pss_nil)
      (pss_cons (ps_set (i := 1) nd rfl (.inl rfl) (pe_op o_add (pe_op o_add (pe_slice sl_strY (pv 0) po_none (po_some pe_int)) (pe_slice sl_strY (pv 0) (po_some pe_int) (po_some pe_int))) (pe_slice sl_strY (pv 0) (po_some pe_int) po_none)))
      (pss_cons (ps_if (pt_not (pt_val (pe_m0 PySem.F.slot_str_isdigit PySem.F.type_str_isdigit m_isdigit (pv 1)))) (pss_one (ps_ret pe_non)) pss_nil)
      (pss_one (ps_ret (C8.pe_c (c_day_of T) hr (by decide) (by rfl) (pa_cons (pe_callTy b_int (by rfl) T.m_int boot_int (pa_cons (pe_slice sl_strY (pv 0) po_none (po_some pe_int)) pa_nil)) (pa_cons (pe_callTy b_int (by rfl) T.m_int boot_int (pa_cons (pe_slice sl_strY (pv 0) (po_some pe_int) (po_some pe_int)) pa_nil)) (pa_cons (pe_callTy b_int (by rfl) T.m_int boot_int (pa_cons (pe_slice sl_strY (pv 0) (po_some pe_int) po_none) pa_nil)) pa_nil))))))))), ?hb⟩)
  case hb =>
    obtain ⟨s, rfl, ⟨c1, c2⟩, hQ⟩ := h
    have l5 : s.length ≤ 100000 := by omega
    by_cases h10 : s.length = 10
    · have a4 := at_sgn (s := s) (k := 4) (by omega)
      have a7 := at_sgn (s := s) (k := 7) (by omega)
      refine q_when (b := (!decide ((s.length : Int) = 10)) || ((!decide (sgn s 4 = "-")) || (!decide (sgn s 7 = "-")))) ?ht (fun hb H1 e1 => ?h1) (fun hb H1 e1 => ?h2)
      case ht => walk_at "et"
      case h1 =>
        walk_at "st"
        show V.non = readDateS s
        unfold readDateS
        rw [if_neg]
        intro ⟨z1, z2, z3, z4⟩
        simp [z1, z2, z3] at hb
      case h2 =>
        have q := hb
        simp only [Bool.or_eq_false_iff, Bool.not_eq_false', decide_eq_true_eq] at q
        obtain ⟨q1, q2, q3⟩ := q
        have p1 := part_cutS s none (some 4)
        have p2 := part_cutS s (some 5) (some 7)
        have p3 := part_cutS s (some 8) none
        have ln1 := p1.2
        have ln2 := p2.2
        have ln3 := p3.2
        have ln4 := len_app (cutS s none (some 4)) (cutS s (some 5) (some 7))
        walk_at "as"
        rename_i H2 e2
        refine q_when (b := !Txt.isdigit (digD s)) ?ht2 (fun hb2 H3 e3 => ?h3) (fun hb2 H3 e3 => ?h4)
        case ht2 => walk_at "et"
        case h3 =>
          walk_at "st"
          show V.non = readDateS s
          unfold readDateS
          rw [if_neg]
          intro ⟨z1, z2, z3, z4⟩
          simp [z4] at hb2
        case h4 =>
          have hd : Txt.isdigit (digD s) = true := by simpa using hb2
          have dg := (digs_of (asc_app (asc_app (p1.asc c2) (p2.asc c2)) (p3.asc c2)) hd).1
          have g1 : Digs (cutS s none (some 4)) := fun c hc => dg c (by rw [TL.tl_append, TL.tl_append]; simp [hc])
          have g2 : Digs (cutS s (some 5) (some 7)) := fun c hc => dg c (by rw [TL.tl_append, TL.tl_append]; simp [hc])
          have g3 : Digs (cutS s (some 8) none) := fun c hc => dg c (by rw [TL.tl_append, TL.tl_append]; simp [hc])
          have lt : (TL.tl s).length = 10 := by rw [← TL.len_tl]; exact h10
          have ne : ∀ (lo hi : Option Int), 0 < min (HT.sIx 10 10 hi - HT.sIx 10 0 lo) (10 - HT.sIx 10 0 lo) → TL.tl (cutS s lo hi) ≠ [] := fun lo hi hp e => by
            have z := congrArg List.length e
            rw [cut_tl, List.length_take, List.length_drop, lt, h10] at z
            simp only [List.length_nil] at z
            omega
          have i1 := int_digs g1 (ne none (some 4) (by decide)) (by omega)
          have i2 := int_digs g2 (ne (some 5) (some 7) (by decide)) (by omega)
          have i3 := int_digs g3 (ne (some 8) none (by decide)) (by omega)
          refine s_ret (ec_III (f := dayOfF) (ea_cons (ev_cb (ea_cons (by walk_at "ev") ea_nil) (rc_intS i1 (by omega))) (ea_cons (ev_cb (ea_cons (by walk_at "ev") ea_nil) (rc_intS i2 (by omega))) (ea_cons (ev_cb (ea_cons (by walk_at "ev") ea_nil) (rc_intS i3 (by omega))) ea_nil))) True.intro) (fun H4 e4 => fin hQ (by walk_at "ex") ?_)
          unfold readDateS
          rw [if_pos ⟨h10, q2, q3, hd⟩]
    · refine q_when (b := true) ?ht (fun hb H1 e1 => ?h1) (fun hb => nomatch hb)
      case ht =>
        refine et_or1 (et_is (et_test (b := !decide ((s.length : Int) = 10)) ?_) ?_)
        · walk_at "ev"
        · rw [decide_eq_false (by omega)] <;> rfl
      case h1 =>
        walk_at "st"
        show V.non = readDateS s
        unfold readDateS
        rw [if_neg fun z => h10 z.1]


def OptS (v : V) : Prop := v = .non ∨ ∃ s, v = .str s ∧ OkS s
def txtDateF : V → V
  | .str s => readDateS s
  | _ => .non

theorem c_text_to_date (T : Tx w K mg) : C8.Cal P w K mg base 5 "text_to_date" (spV OptS txtDateF) [] := by
  refine mk_cal T (x := "text_to_date") (i := 61) (j := 41) (N := ["value"]) (ps := ["value"]) rfl rfl (by decide +kernel) (fun _ _ _ _ _ _ us hl => match us, hl with | [_], _ => rfl) (fun vs H Q E h => by obtain ⟨_, rfl, _⟩ := h; rfl) (fun cdv A outer s H vs Q E nd hr h => ⟨_, (pss_one (ps_ret (pe_ifExp (pt_val (pe_callB call_isi (by rfl) T.m_isinstance boot_isinstance (pa_cons (pv 0) (pa_cons (pe_bltn (v := .ty "str") (by rfl) T.m_str boot_str rfl) pa_nil)))) (C8.pe_c (c_read_date T) hr (by decide) (by rfl) (pa_cons (pv 0) pa_nil)) pe_non))), ?hb⟩)
  case hb =>
    obtain ⟨a, rfl, c, hQ⟩ := h
    rcases c with rfl | ⟨s, rfl, c1⟩ <;> (walk_at "st"; rfl)

end

section
variable {P : Program} {w : World} {K : PySem.W.Frag} {mg : Str → Option Value} {base : Heap}

theorem zfill_mem {x : Str} {i : Int} : ∀ c ∈ TL.tl (Txt.zfill x i), c ∈ TL.tl x ∨ c = 48 := fun c hc => by
  have pad : ∀ (z : Str) (l : Nat), ∀ d ∈ TL.tl (Builtin.Str.padded z l 0 48), d ∈ TL.tl z ∨ d = 48 := fun z l d hd => by
    have e : TL.tl (Builtin.Str.padded z l 0 48) = List.replicate l 48 ++ TL.tl z ++ List.replicate 0 48 := PyProof.Rows.padded_list z l 0 48
    rw [e, List.mem_append, List.mem_append, List.mem_replicate, List.mem_replicate] at hd
    rcases hd with (hd | hd) | hd
    · exact .inr hd.2
    · exact .inl hd
    · exact .inr hd.2
  unfold Txt.zfill at hc
  split at hc
  · exact .inl hc
  · unfold PySem.zfilled at hc
    split at hc
    · rw [TL.tl_append, List.mem_append] at hc
      rcases hc with hc | hc
      · exact .inl ((part_sub x _ _).1 c hc)
      · exact (pad _ _ c hc).imp ((part_sub x _ _).1 c) id
    · rw [TL.tl_append, List.mem_append] at hc
      rcases hc with hc | hc
      · exact .inl ((part_sub x _ _).1 c hc)
      · exact (pad _ _ c hc).imp ((part_sub x _ _).1 c) id
    · exact pad _ _ c hc
theorem zfill_len (x : Str) (h : x.length ≤ 1000) : (Txt.zfill x 4).length ≤ 1004 := by
  have e := PyProof.Rows.len_zfill x 4
  split at e <;> omega
def intS (i : Int) : Str := Str.ofString (toString i)
def fracS (r : Int) : Str := Txt.rstripChars (Txt.zfill (intS r) 4) "0"
def decBody (s : Int) : Str := if s % 10000 = 0 then intS (s / 10000) else intS (s / 10000) ++ "." ++ fracS (s % 10000)
def decS (n : Int) : Str := if n < 0 then "-" ++ decBody (absI n) else decBody (absI n)
def Lim (n : Int) : Prop := -1000000000000000 ≤ n ∧ n ≤ 1000000000000000
theorem absI_lim {n : Int} (h : Lim n) : 0 ≤ absI n ∧ absI n ≤ 1000000000000000 := by
  unfold Lim absI at *
  split <;> omega
theorem one_len {c : Nat} : (⟨#[c]⟩ : Str).length = 1 := rfl
theorem body_ok {s : Int} (h0 : 0 ≤ s) (h1 : s ≤ 1000000000000000) : Asc (decBody s) ∧ (decBody s).length ≤ 1100 := by
  have a := int_txt (i := s / 10000) (by omega) (by omega)
  have b := int_txt (i := s % 10000) (by omega) (by omega)
  unfold decBody
  split
  · exact ⟨a.1, by have := a.2; unfold intS; omega⟩
  · have p : Part (fracS (s % 10000)) (Txt.zfill (intS (s % 10000)) 4) := part_strip _ _ _ _
    have l := zfill_len (intS (s % 10000)) (by have := b.2; unfold intS; omega)
    refine ⟨asc_app (asc_app a.1 (fun c hc => ?_)) (p.asc fun c hc => ?_), ?_⟩
    · have hc2 : c ∈ [46] := hc
      rw [List.mem_singleton] at hc2
      omega
    · rcases zfill_mem c hc with h | h
      · exact b.1 c h
      · omega
    · rw [len_app, len_app]
      have e1 : ("." : Str).length = 1 := rfl
      have e2 := a.2
      have e3 := p.2
      unfold intS at *
      omega
theorem dec_ok {n : Int} (h : Lim n) : Asc (decS n) ∧ (decS n).length ≤ 1200 := by
  have a := absI_lim h
  have b := body_ok a.1 a.2
  unfold decS
  split
  · refine ⟨asc_app (fun c hc => ?_) b.1, ?_⟩
    · have hc2 : c ∈ [45] := hc
      rw [List.mem_singleton] at hc2
      omega
    · rw [len_app]
      have e1 : ("-" : Str).length = 1 := rfl
      have e2 := b.2
      omega
  · exact ⟨b.1, by have := b.2; omega⟩

theorem c_decimal_text (T : Tx w K mg) : C8.Cal P w K mg base 1 "decimal_text" (spI Lim (fun n => .str (decS n))) [] := by
  refine mk_cal T (x := "decimal_text") (i := 24) (j := 16) (N := ["number", "size", "text"]) (ps := ["number"]) rfl rfl (by decide +kernel) (fun _ _ _ _ _ _ us hl => match us, hl with | [_], _ => rfl) (fun vs H Q E h => by obtain ⟨_, rfl, _⟩ := h; rfl) (fun cdv A outer s H vs Q E nd hr h => ⟨_, (pss_cons (ps_set (i := 1) nd rfl (.inl rfl) (pe_callB b_abs (by rfl) T.m_abs boot_abs (pa_cons (pv 0) pa_nil)))
      (pss_cons (ps_set (i := 2) nd rfl (.inl rfl) (pe_callTy b_str (by rfl) T.m_str boot_str (pa_cons (pe_op o_div (pv 1) (C8.pe_gc (by rfl) T.ONE)) pa_nil)))
      (pss_cons (ps_if (pt_cmpR op_ne (pe_op o_mod (pv 1) (C8.pe_gc (by rfl) T.ONE)) pe_int (nomark _)) (pss_one (ps_set (i := 2) nd rfl (.inl rfl) (pe_op o_add (pe_op o_add (pv 2) pe_str) (pe_m1 PySem.F.slot_str_rstrip PySem.F.type_str_rstrip m_rstrip (pe_m1 PySem.F.slot_str_zfill PySem.F.type_str_zfill m_zfill (pe_callTy b_str (by rfl) T.m_str boot_str (pa_cons (pe_op o_mod (pv 1) (C8.pe_gc (by rfl) T.ONE)) pa_nil)) pe_int) pe_str)))) pss_nil)
      (pss_cons (ps_if (pt_cmpR o_lt (pv 0) pe_int (nomark _)) (pss_one (ps_ret (pe_op o_add pe_str (pv 2)))) pss_nil)
      (pss_one (ps_ret (pv 2))))))), ?hb⟩)
  case hb =>
    obtain ⟨i, rfl, c, hQ⟩ := h
    have a := absI_lim c
    have b := body_ok a.1 a.2
    have g1 := int_txt (i := absI i / 10000) (by omega) (by omega)
    have g2 := int_txt (i := absI i % 10000) (by omega) (by omega)
    have g3 := log_small (i := absI i / 10000) (by omega) (by omega)
    have g4 := log_small (i := absI i % 10000) (by omega) (by omega)
    have zl := zfill_len (intS (absI i % 10000)) (by have := g2.2; unfold intS; omega)
    have pl := (part_strip (("0" : Str).cps.contains) false true (Txt.zfill (intS (absI i % 10000)) 4)).2
    have e1 : ("." : Str).length = 1 := rfl
    have e2 : ("-" : Str).length = 1 := rfl
    have e3 := len_app (intS (absI i / 10000)) "."
    refine q_asg (v := .int (absI i)) (ev_is (by walk_at "ev") rfl) (fun H1 f1 => ?_)
    refine q_asg (v := .str (intS (absI i / 10000))) (ev_cb (ea_cons (by walk_at "ev") ea_nil) (rc_str g3)) (fun H2 f2 => ?_)
    have fin1 : ∀ (H3 : Hp) (w : Option V), Ex H H3 → decBody (absI i) = decBody (absI i) → tSeq (tIfS (tTest (tOp rLtI (tVar 0) (tC (.int 0)))) (tRet (tOp rAddU (tC (.str "-")) (tVar 2))) tNext) (tRet (tVar 2)) { nx := fun _ H' => Q .non H', rt := Q } [some (.int i), w, some (.str (decBody (absI i)))] H3 := by
      intro H3 w hE _
      have lb := b.2
      walk_at "st"
      · show V.str ("-" ++ decBody (absI i)) = V.str (decS i)
        rename_i hb _ _ _ _
        unfold decS
        rw [if_pos (of_decide_eq_true hb)]
      · show V.str (decBody (absI i)) = V.str (decS i)
        rename_i hb _ _ _ _
        unfold decS
        rw [if_neg (of_decide_eq_false hb)]
    refine q_when (b := !decide (absI i % 10000 = 0)) ?ht (fun hb H3 f3 => ?h1) (fun hb H3 f3 => ?h2)
    case ht => walk_at "et"
    case h1 =>
      have hb : ¬ absI i % 10000 = 0 := by simpa using hb
      have eb : decBody (absI i) = intS (absI i / 10000) ++ "." ++ fracS (absI i % 10000) := by
        unfold decBody
        rw [if_neg hb]
      refine s_asg (v := .str (decBody (absI i))) ?_ (fun H4 f4 => fin1 H4 _ (((f1.trans f2).trans f3).trans f4) rfl)
      rw [eb]
      refine ev_op (ev_op (ev_var rfl) ev_c (rv_addS ?_)) (ev_m1 (ev_m1 (ev_cb (ea_cons (by walk_at "ev") ea_nil) (rc_str g4)) ev_c (rm_zfill rfl)) ev_c (rm_rstrip ?_)) (rv_addS ?_)
      · have := g1.2
        unfold intS
        omega
      · exact Nat.le_trans zl (by decide)
      · rw [e3]
        have h1 := g1.2
        unfold intS at *
        exact Nat.le_trans (Nat.add_le_add (Nat.add_le_add h1 (Nat.le_refl _)) (Nat.le_trans pl zl)) (by omega)
    case h2 =>
      have hb : absI i % 10000 = 0 := by simpa using hb
      have eb : decBody (absI i) = intS (absI i / 10000) := by
        unfold decBody
        rw [if_pos hb]
      have q := fin1 H3 (some (.int (absI i))) ((f1.trans f2).trans f3) rfl
      rw [eb] at q
      exact q


theorem dig0 : Digs "0" := fun c hc => by
  have hc2 : c ∈ [48] := hc
  rw [List.mem_singleton] at hc2
  omega
def shortS (s : Str) : Str := Txt.lstripChars s "0"
theorem short_part (s : Str) : Part (shortS s) s := part_strip _ _ _ _
def digValF (s : Str) : V := if 20 < (shortS s).length then .non else .int (numOf ("0" ++ shortS s))

theorem c_digits_value (T : Tx w K mg) : C8.Cal P w K mg base 1 "digits_value" (spS (fun s => Digs s ∧ s.length ≤ 30000) digValF) [] := by
  refine mk_cal T (x := "digits_value") (i := 25) (j := 17) (N := ["digits", "short"]) (ps := ["digits"]) rfl rfl (by decide +kernel) (fun _ _ _ _ _ _ us hl => match us, hl with | [_], _ => rfl) (fun vs H Q E h => by obtain ⟨_, rfl, _⟩ := h; rfl) (fun cdv A outer s H vs Q E nd hr h => ⟨_, (pss_cons (ps_set (i := 1) nd rfl (.inl rfl) (pe_m1 PySem.F.slot_str_lstrip PySem.F.type_str_lstrip m_lstrip (pv 0) pe_str))
      (pss_cons (ps_if (pt_cmpR o_gt (pe_callB b_len (by rfl) T.m_len boot_len (pa_cons (pv 1) pa_nil)) pe_int (nomark _)) (pss_one (ps_ret pe_non)) pss_nil)
      (pss_one (ps_ret (pe_callTy b_int (by rfl) T.m_int boot_int (pa_cons (pe_op o_add pe_str (pv 1)) pa_nil)))))), ?hb⟩)
  case hb =>
    obtain ⟨s, rfl, ⟨c1, c2⟩, hQ⟩ := h
    have p := short_part s
    have p2 := p.2
    have e0 : ("0" : Str).length = 1 := rfl
    have el := len_app "0" (shortS s)
    refine q_asg (v := .str (shortS s)) (ev_m1 (ev_var rfl) ev_c (rm_lstrip (by omega))) (fun H1 e1 => ?_)
    refine q_when (b := decide (20 < ((shortS s).length : Int))) ?ht (fun hb H2 e2 => ?h1) (fun hb H2 e2 => ?h2)
    case ht => walk_at "et"
    case h1 =>
      have hb := of_decide_eq_true hb
      walk_at "st"
      show V.non = digValF s
      unfold digValF
      rw [if_pos (by omega)]
    case h2 =>
      have hb := of_decide_eq_false hb
      have iv := int_digs (s := "0" ++ shortS s) (dig0.app (c1.part p)) (by rw [TL.tl_append]; exact List.cons_ne_nil 48 _) (by omega)
      refine s_ret (v := .int (numOf ("0" ++ shortS s))) (ev_cb (ea_cons (by walk_at "ev") ea_nil) (rc_intS iv (by omega))) (fun H3 e3 => fin hQ (by walk_at "ex") ?_)
      unfold digValF
      rw [if_neg (by omega)]


def unsignS (s : Str) : Str := if Txt.startswith s "-" = true then cutS s (some 1) none else s
theorem unsign_part (s : Str) : Part (unsignS s) s := by
  unfold unsignS
  split
  · exact part_cutS s _ _
  · exact Part.refl s
def finNum (neg : Bool) (v : V) : V := match v with
  | .int n => if 1000000000000000 < n then .non else if neg = true then .int (-n) else .int n
  | _ => .non
def readIntF (s : Str) : V := if Txt.isdigit (unsignS s) = true then finNum (Txt.startswith s "-") (digValF (unsignS s)) else .non
theorem ev_unsign {σ : L2.St} {H : Hp} {i : Nat} {s : Str} (h : σ[i]? = some (some (.str s))) (hl : s.length ≤ 100000) : Ev (tIf (tB (tM1 rStart (tVar i) (tC (.str "-")))) (tSl rSlS (tVar i) (tPart (tC (.int 1))) tNoPart) (tVar i)) σ H (.str (unsignS s)) := by
  refine ev_is (ev_ifB (et_B (ev_m1 (ev_var h) ev_c rm_start)) (fun _ => ev_slS (ev_var h) (eo_some ev_c) eo_none hl) fun _ => ev_var h) ?_
  unfold unsignS
  split <;> rfl

theorem c_read_integer (T : Tx w K mg) : C8.Cal P w K mg base 2 "read_integer" (spS OkS readIntF) [] := by
  refine mk_cal T (x := "read_integer") (i := 26) (j := 18) (N := ["text", "digits", "number"]) (ps := ["text"]) rfl rfl (by decide +kernel) (fun _ _ _ _ _ _ us hl => match us, hl with | [_], _ => rfl) (fun vs H Q E h => by obtain ⟨_, rfl, _⟩ := h; rfl) (fun cdv A outer s H vs Q E nd hr h => ⟨_, (pss_cons (ps_set (i := 1) nd rfl (.inl rfl) (pe_ifExp (pt_val (pe_m1 PySem.F.slot_str_startswith PySem.F.type_str_startswith m_startswith (pv 0) pe_str)) (pe_slice sl_strY (pv 0) (po_some pe_int) po_none) (pv 0)))
      (pss_cons (ps_if (pt_not (pt_val (pe_m0 PySem.F.slot_str_isdigit PySem.F.type_str_isdigit m_isdigit (pv 1)))) (pss_one (ps_ret pe_non)) pss_nil)
      (pss_cons (ps_set (i := 2) nd rfl (.inl rfl) (C8.pe_c (c_digits_value T) hr (by decide) (by rfl) (pa_cons (pv 1) pa_nil)))
      (pss_cons (ps_if (PW.pt (pw_or (pt_cmpR o_isN (pv 2) pe_non (nomark _)) (pw_or1 (pt_cmpR o_gt (pv 2) (C8.pe_gc (by rfl) T.GREATEST) (nomark _))))) (pss_one (ps_ret pe_non)) pss_nil)
      (pss_cons (ps_if (pt_val (pe_m1 PySem.F.slot_str_startswith PySem.F.type_str_startswith m_startswith (pv 0) pe_str)) (pss_one (ps_ret (pe_un u_neg (pv 2)))) pss_nil)
      (pss_one (ps_ret (pv 2)))))))), ?hb⟩)
  case hb =>
    obtain ⟨s, rfl, ⟨c1, c2⟩, hQ⟩ := h
    have p := unsign_part s
    have p2 := p.2
    refine q_asg (v := .str (unsignS s)) (ev_unsign rfl (by omega)) (fun H1 e1 => ?_)
    refine q_when (b := !Txt.isdigit (unsignS s)) ?ht (fun hb H2 e2 => ?h1) (fun hb H2 e2 => ?h2)
    case ht => walk_at "et"
    case h1 =>
      walk_at "st"
      show V.non = readIntF s
      unfold readIntF
      rw [if_neg (by simpa using hb)]
    case h2 =>
      have hd : Txt.isdigit (unsignS s) = true := by simpa using hb
      have dg := (digs_of (p.asc c2) hd).1
      have er : readIntF s = finNum (Txt.startswith s "-") (digValF (unsignS s)) := by
        unfold readIntF
        rw [if_pos hd]
      refine q_asg (v := digValF (unsignS s)) (ec_S (ea_cons (ev_var rfl) ea_nil) ⟨dg, by omega⟩) (fun H3 e3 => ?_)
      by_cases hl : 20 < (shortS (unsignS s)).length
      · have ev : digValF (unsignS s) = .non := by
          unfold digValF
          rw [if_pos hl]
        rw [ev]
        rw [ev] at er
        walk_at "st"
        rw [er] <;> rfl
      · have ev : digValF (unsignS s) = .int (numOf ("0" ++ shortS (unsignS s))) := by
          unfold digValF
          rw [if_neg hl]
        rw [ev]
        rw [ev] at er
        generalize numOf ("0" ++ shortS (unsignS s)) = n at *
        walk_at "st" <;> (rw [er] <;> simp_all [finNum])


theorem partition_dot (x : Str) : (Txt.partition x ".").2.1 = "." ∨ (Txt.partition x ".").2.2 = Str.empty := by
  unfold Txt.partition
  split
  · exact .inl rfl
  · exact .inr rfl
def wholeS (s : Str) : Str := (Txt.partition (unsignS s) ".").1
def dotS (s : Str) : Str := (Txt.partition (unsignS s) ".").2.1
def fracT (s : Str) : Str := (Txt.partition (unsignS s) ".").2.2
def zerosS (s : Str) : Str := Txt.mul "0" (4 - ((fracT s).length : Int))
def readDecF (s : Str) : V := if Txt.isdigit (wholeS s) = true then (if dotS s = "." ∧ (Txt.isdigit (fracT s) = false ∨ 4 < (fracT s).length) then .non else finNum (Txt.startswith s "-") (digValF (wholeS s ++ fracT s ++ zerosS s))) else .non
theorem zeros_ok (s : Str) : Digs (zerosS s) ∧ (zerosS s).length ≤ 4 := by
  refine ⟨fun c hc => dig0 c (mul_mem c hc), ?_⟩
  unfold zerosS
  by_cases h : 0 ≤ 4 - ((fracT s).length : Int)
  · rw [mul_len h]
    have e : ("0" : Str).length = 1 := rfl
    rw [e]
    omega
  · rw [mul_neg (by omega)]
    decide

theorem c_read_decimal (T : Tx w K mg) : C8.Cal P w K mg base 2 "read_decimal" (spS OkS readDecF) [] := by
  refine mk_cal T (x := "read_decimal") (i := 27) (j := 19) (N := ["text", "digits", "number", "whole", "dot", "fraction"]) (ps := ["text"]) rfl rfl (by decide +kernel) (fun _ _ _ _ _ _ us hl => match us, hl with | [_], _ => rfl) (fun vs H Q E h => by obtain ⟨_, rfl, _⟩ := h; rfl) (fun cdv A outer s H vs Q E nd hr h => ⟨_, (pss_cons (ps_set (i := 1) nd rfl (.inl rfl) (pe_ifExp (pt_val (pe_m1 PySem.F.slot_str_startswith PySem.F.type_str_startswith m_startswith (pv 0) pe_str)) (pe_slice sl_strY (pv 0) (po_some pe_int) po_none) (pv 0)))
      (pss_cons (ps_asg (pe_m1 PySem.F.slot_str_partition PySem.F.type_str_partition m_partition (pv 1) pe_str) (pg_tup rfl (pgs_cons (pg_name (i := 3) nd rfl (.inl rfl)) (pgs_cons (pg_name (i := 4) nd rfl (.inl rfl)) (pgs_cons (pg_name (i := 5) nd rfl (.inl rfl)) pgs_nil)))))
      (pss_cons (ps_if (pt_not (pt_val (pe_m0 PySem.F.slot_str_isdigit PySem.F.type_str_isdigit m_isdigit (pv 3)))) (pss_one (ps_ret pe_non)) pss_nil)
      (pss_cons (ps_if (PW.pt (pw_and (pt_cmpR op_eq (pv 4) pe_str (nomark _)) (pw_and1 (PW.pt (pw_or (pt_not (pt_val (pe_m0 PySem.F.slot_str_isdigit PySem.F.type_str_isdigit m_isdigit (pv 5)))) (pw_or1 (pt_cmpR o_gt (pe_callB b_len (by rfl) T.m_len boot_len (pa_cons (pv 5) pa_nil)) pe_int (nomark _)))))))) (pss_one (ps_ret pe_non)) pss_nil)
      (pss_cons (ps_set (i := 2) nd rfl (.inl rfl) (C8.pe_c (c_digits_value T) hr (by decide) (by rfl) (pa_cons (pe_op o_add (pe_op o_add (pv 3) (pv 5)) (pe_op o_mulS pe_str (pe_op o_sub pe_int (pe_callB b_len (by rfl) T.m_len boot_len (pa_cons (pv 5) pa_nil))))) pa_nil)))
      (pss_cons (ps_if (PW.pt (pw_or (pt_cmpR o_isN (pv 2) pe_non (nomark _)) (pw_or1 (pt_cmpR o_gt (pv 2) (C8.pe_gc (by rfl) T.GREATEST) (nomark _))))) (pss_one (ps_ret pe_non)) pss_nil)
      (pss_cons (ps_if (pt_val (pe_m1 PySem.F.slot_str_startswith PySem.F.type_str_startswith m_startswith (pv 0) pe_str)) (pss_one (ps_ret (pe_un u_neg (pv 2)))) pss_nil)
      (pss_one (ps_ret (pv 2)))))))))), ?hb⟩)
  case hb =>
    obtain ⟨s, rfl, ⟨c1, c2⟩, hQ⟩ := h
    have p := unsign_part s
    have p2 := p.2
    have pp := part_partition (unsignS s) "."
    have pw : Part (wholeS s) (unsignS s) := pp.1
    have pf : Part (fracT s) (unsignS s) := pp.2.1
    have pw2 := pw.2
    have pf2 := pf.2
    have z := zeros_ok s
    have z2 := z.2
    have el := len_app (wholeS s) (fracT s)
    have el2 := len_app (wholeS s ++ fracT s) (zerosS s)
    have e0 : ("0" : Str).length ≤ 1 := Nat.le_refl 1
    have m1 : -1000000 ≤ 4 - ((fracT s).length : Int) := by omega
    have m2 : 4 - ((fracT s).length : Int) ≤ 1000000 := by omega
    refine q_asg (v := .str (unsignS s)) (ev_unsign rfl (by omega)) (fun H1 e1 => ?_)
    refine q_unp3 (a := .str (wholeS s)) (b := .str (dotS s)) (c := .str (fracT s)) (eu_parts (ev_var rfl) ev_c (by decide) (by omega)) (fun H2 e2 => ?_)
    refine q_when (b := !Txt.isdigit (wholeS s)) ?ht (fun hb H3 e3 => ?h1) (fun hb H3 e3 => ?h2)
    case ht => walk_at "et"
    case h1 =>
      walk_at "st"
      show V.non = readDecF s
      unfold readDecF
      rw [if_neg (by simpa using hb)]
    case h2 =>
      have hd : Txt.isdigit (wholeS s) = true := by simpa using hb
      have dw := (digs_of (pw.asc (p.asc c2)) hd).1
      refine q_when (b := decide (dotS s = ".") && ((!Txt.isdigit (fracT s)) || decide (4 < ((fracT s).length : Int)))) ?ht2 (fun hb2 H4 e4 => ?h3) (fun hb2 H4 e4 => ?h4)
      case ht2 => walk_at "et"
      case h3 =>
        walk_at "st"
        show V.non = readDecF s
        unfold readDecF
        rw [if_pos hd, if_pos]
        simp only [Bool.and_eq_true, Bool.or_eq_true, Bool.not_eq_true', decide_eq_true_eq] at hb2
        exact ⟨hb2.1, hb2.2.imp id (fun q => by omega)⟩
      case h4 =>
        have hn : ¬ (dotS s = "." ∧ (Txt.isdigit (fracT s) = false ∨ 4 < (fracT s).length)) := fun ⟨z1, z2⟩ => by
          rcases z2 with z2 | z2
          · simp [z1, z2] at hb2
          · have z3 : decide (4 < ((fracT s).length : Int)) = true := decide_eq_true (by omega)
            simp [z1, z3] at hb2
        have df : Digs (fracT s) := by
          rcases partition_dot (unsignS s) with h | h
          · have h : dotS s = "." := h
            cases hf : Txt.isdigit (fracT s) with
            | true => exact (digs_of (pf.asc (p.asc c2)) hf).1
            | false => exact absurd ⟨h, .inl hf⟩ hn
          · have h : fracT s = Str.empty := h
            rw [h]
            intro c hc
            rw [empty_tl] at hc
            cases hc
        have er : readDecF s = finNum (Txt.startswith s "-") (digValF (wholeS s ++ fracT s ++ zerosS s)) := by
          unfold readDecF
          rw [if_pos hd, if_neg hn]
        refine q_asg (v := digValF (wholeS s ++ fracT s ++ zerosS s)) (ec_S (ea_cons (ev_op (ev_op (ev_var rfl) (ev_var rfl) (rv_addS (by omega))) (ev_op ev_c (by walk_at "ev") (rv_mulS e0 m1 m2)) (rv_addS (by have : (zerosS s).length ≤ 4 := z2; show (wholeS s ++ fracT s).length + (zerosS s).length ≤ 100000; omega))) ea_nil) ⟨(dw.app df).app z.1, by omega⟩) (fun H5 e5 => ?_)
        generalize wholeS s ++ fracT s ++ zerosS s = D at *
        by_cases hl : 20 < (shortS D).length
        · have ev : digValF D = .non := by
            unfold digValF
            rw [if_pos hl]
          rw [ev]
          rw [ev] at er
          walk_at "st"
          rw [er] <;> rfl
        · have ev : digValF D = .int (numOf ("0" ++ shortS D)) := by
            unfold digValF
            rw [if_neg hl]
          rw [ev]
          rw [ev] at er
          generalize numOf ("0" ++ shortS D) = n at *
          walk_at "st" <;> (rw [er] <;> simp_all [finNum])


def intTxtF : V → V
  | .int i => .str (intS i)
  | _ => .non
def decTxtF : V → V
  | .int i => .str (decS i)
  | _ => .non
def txtIntF : V → V
  | .str s => readIntF s
  | _ => .non
def txtDecF : V → V
  | .str s => readDecF s
  | _ => .non

theorem c_int_to_text (T : Tx w K mg) : C8.Cal P w K mg base 2 "int_to_text" (spV OptI intTxtF) [] := by
  refine mk_cal T (x := "int_to_text") (i := 75) (j := 53) (N := ["value"]) (ps := ["value"]) rfl rfl (by decide +kernel) (fun _ _ _ _ _ _ us hl => match us, hl with | [_], _ => rfl) (fun vs H Q E h => by obtain ⟨_, rfl, _⟩ := h; rfl) (fun cdv A outer s H vs Q E nd hr h => ⟨_, (pss_one (ps_ret (pe_ifExp (pt_val (C8.pe_c (c_is_integer T) hr (by decide) (by rfl) (pa_cons (pv 0) pa_nil))) (pe_callTy b_str (by rfl) T.m_str boot_str (pa_cons (pv 0) pa_nil)) pe_non))), ?hb⟩)
  case hb =>
    obtain ⟨a, rfl, c, hQ⟩ := h
    rcases c with rfl | ⟨i, rfl, c1, c2⟩
    · walk_at "st"; rfl
    · have hl := log_small c1 c2
      walk_at "st"; rfl

theorem c_decimal_to_text (T : Tx w K mg) : C8.Cal P w K mg base 2 "decimal_to_text" (spV OptI decTxtF) [] := by
  refine mk_cal T (x := "decimal_to_text") (i := 76) (j := 54) (N := ["value"]) (ps := ["value"]) rfl rfl (by decide +kernel) (fun _ _ _ _ _ _ us hl => match us, hl with | [_], _ => rfl) (fun vs H Q E h => by obtain ⟨_, rfl, _⟩ := h; rfl) (fun cdv A outer s H vs Q E nd hr h => ⟨_, (pss_one (ps_ret (pe_ifExp (pt_val (C8.pe_c (c_is_integer T) hr (by decide) (by rfl) (pa_cons (pv 0) pa_nil))) (C8.pe_c (c_decimal_text T) hr (by decide) (by rfl) (pa_cons (pv 0) pa_nil)) pe_non))), ?hb⟩)
  case hb =>
    obtain ⟨a, rfl, c, hQ⟩ := h
    rcases c with rfl | ⟨i, rfl, c1, c2⟩
    · walk_at "st"; rfl
    · have hl : Lim i := ⟨c1, c2⟩
      walk_at "st"; rfl

theorem c_text_to_int (T : Tx w K mg) : C8.Cal P w K mg base 3 "text_to_int" (spV OptS txtIntF) [] := by
  refine mk_cal T (x := "text_to_int") (i := 77) (j := 55) (N := ["value"]) (ps := ["value"]) rfl rfl (by decide +kernel) (fun _ _ _ _ _ _ us hl => match us, hl with | [_], _ => rfl) (fun vs H Q E h => by obtain ⟨_, rfl, _⟩ := h; rfl) (fun cdv A outer s H vs Q E nd hr h => ⟨_, (pss_one (ps_ret (pe_ifExp (pt_val (pe_callB call_isi (by rfl) T.m_isinstance boot_isinstance (pa_cons (pv 0) (pa_cons (pe_bltn (v := .ty "str") (by rfl) T.m_str boot_str rfl) pa_nil)))) (C8.pe_c (c_read_integer T) hr (by decide) (by rfl) (pa_cons (pv 0) pa_nil)) pe_non))), ?hb⟩)
  case hb =>
    obtain ⟨a, rfl, c, hQ⟩ := h
    rcases c with rfl | ⟨s, rfl, c1⟩ <;> (walk_at "st"; rfl)

theorem c_text_to_decimal (T : Tx w K mg) : C8.Cal P w K mg base 3 "text_to_decimal" (spV OptS txtDecF) [] := by
  refine mk_cal T (x := "text_to_decimal") (i := 78) (j := 56) (N := ["value"]) (ps := ["value"]) rfl rfl (by decide +kernel) (fun _ _ _ _ _ _ us hl => match us, hl with | [_], _ => rfl) (fun vs H Q E h => by obtain ⟨_, rfl, _⟩ := h; rfl) (fun cdv A outer s H vs Q E nd hr h => ⟨_, (pss_one (ps_ret (pe_ifExp (pt_val (pe_callB call_isi (by rfl) T.m_isinstance boot_isinstance (pa_cons (pv 0) (pa_cons (pe_bltn (v := .ty "str") (by rfl) T.m_str boot_str rfl) pa_nil)))) (C8.pe_c (c_read_decimal T) hr (by decide) (by rfl) (pa_cons (pv 0) pa_nil)) pe_non))), ?hb⟩)
  case hb =>
    obtain ⟨a, rfl, c, hQ⟩ := h
    rcases c with rfl | ⟨s, rfl, c1⟩ <;> (walk_at "st"; rfl)

end

section
variable {P : Program} {w : World} {K : PySem.W.Frag} {mg : Str → Option Value} {base : Heap}

/-! ### wording -/
theorem atI_get {α : Type} {xs : List α} {n : Int} (h1 : 0 ≤ n) (h2 : n < xs.length) (d : α) : atI xs n = some (xs.getD n.toNat d) := by
  have h : n.toNat < xs.length := by omega
  have e : xs[n.toNat]? = some (xs.getD n.toNat d) := by
    rw [List.getD_eq_getElem?_getD, List.getElem?_eq_getElem h]
    rfl
  have r := L2.atI_nat e
  rw [Int.toNat_of_nonneg h1] at r
  exact r
def exT (L o : Str) (c : Nat) : Str := if 0 ≤ Txt.find L ⟨#[c]⟩ then ⟨#[(TL.tl o).getD (Txt.find L ⟨#[c]⟩).toNat 0]⟩ else ⟨#[c]⟩
def exS (s L o : Str) : Str := Txt.join "" ((TL.tl s).map (exT L o))
theorem exT_len (L o : Str) (c : Nat) : (exT L o c).length = 1 := by
  unfold exT
  split <;> rfl
theorem ones_sum : ∀ (l : List Nat) (L o : Str), (((l.map (exT L o)).map (·.length)).sum) = l.length
  | [], _, _ => rfl
  | c :: l, L, o => by
    have := ones_sum l L o
    simp only [List.map_cons, List.sum_cons, List.length_cons, exT_len] at this ⊢
    omega
theorem ex_len (s L o : Str) : (exS s L o).length = s.length := by
  unfold exS
  rw [join_len, ones_sum]
  have e : ("" : Str).length = 0 := rfl
  rw [e, TL.len_tl]
  omega
theorem find_lt {L o : Str} {c : Nat} (hl : o.length = L.length) (h : 0 ≤ Txt.find L ⟨#[c]⟩) : (Txt.find L ⟨#[c]⟩).toNat < (TL.tl o).length := by
  have := fact_find L ⟨#[c]⟩
  have e : (⟨#[c]⟩ : Str).length = 1 := rfl
  rw [← TL.len_tl]
  omega
theorem ex_asc {s L o : Str} (h : Asc s) (ho : Asc o) (hl : o.length = L.length) : Asc (exS s L o) := by
  refine join_asc (fun c hc => ?_) (fun p hp => ?_)
  · have hc2 : c ∈ ([] : List Nat) := hc
    cases hc2
  · obtain ⟨c, hc, rfl⟩ := List.mem_map.mp hp
    intro d hd
    unfold exT at hd
    split at hd
    · rename_i h0
      have hd2 : d ∈ [(TL.tl o).getD (Txt.find L ⟨#[c]⟩).toNat 0] := hd
      rw [List.mem_singleton] at hd2
      subst hd2
      refine ho _ ?_
      rw [List.getD_eq_getElem?_getD, List.getElem?_eq_getElem (find_lt hl h0)]
      exact List.getElem_mem _
    · have hd2 : d ∈ [c] := hd
      rw [List.mem_singleton] at hd2
      subst hd2
      exact h _ hc

theorem c_exchanged (T : Tx w K mg) : C8.Cal P w K mg base 1 "exchanged" (spSSS (fun s L o => s.length ≤ 10000 ∧ L.length = 26 ∧ o.length = 26) (fun s L o => .str (exS s L o))) [] := by
  refine mk_cal T (x := "exchanged") (i := 35) (j := 23) (N := ["text", "letters", "others", "result", "sign", "at"]) (ps := ["text", "letters", "others"]) rfl rfl (by decide +kernel) (fun _ _ _ _ _ _ us hl => match us, hl with | [_, _, _], _ => rfl) (fun vs H Q E h => by obtain ⟨_, _, _, rfl, _⟩ := h; rfl) (fun cdv A outer s H vs Q E nd hr h => ⟨_, (pss_cons (ps_set (i := 3) nd rfl (.inl rfl) (pe_lst pa_nil))
      (pss_cons (ps_for PassesOwn.never rfl (pi_str (pv 0)) (pg_name (i := 4) nd rfl (.inl rfl)) (pss_cons (ps_set (i := 5) nd rfl (.inl rfl) (pe_m1 PySem.F.slot_str_find PySem.F.type_str_find m_find (pv 1) (pv 4)))
      (pss_one (ps_if (pt_cmpR o_ge (pv 5) pe_int (nomark _)) (pss_one (ps_expr (pe_bm PySem.F.plainAttrs_list PySem.F.slot_list_append PySem.F.type_list_append mt_append (pv 3) (pa_cons (pe_ix ix_seq (pv 2) (pv 5) (fun _ _ => rfl)) pa_nil)))) (pss_one (ps_expr (pe_bm PySem.F.plainAttrs_list PySem.F.slot_list_append PySem.F.type_list_append mt_append (pv 3) (pa_cons (pv 4) pa_nil))))))))
      (pss_one (ps_ret (pe_m1 PySem.F.slot_str_join PySem.F.type_str_join m_join pe_str (pv 3)))))), ?hb⟩)
  case hb =>
    obtain ⟨s, L, o, rfl, ⟨c1, c2, c3⟩, hQ⟩ := h
    refine q_asgL (xs := []) (el_lst ea_nil (Nat.zero_le _)) (fun l H1 hl e1 h1 => ?_)
    refine q_forS (s := s) (ev_var rfl) (fun i σ' H' => ∃ a b, σ' = [some (.str s), some (.str L), some (.str o), some (.ref l), a, b] ∧ Ex H H' ∧ H' l = some (.lst (((TL.tl s).take i).map fun c => V.str (exT L o c)))) (fun H2 e2 => ⟨none, none, rfl, e1.trans e2, e2 l _ h1⟩) (fun i c σ' H' hc p => ?_) (fun σ' H' p => ?_)
    · obtain ⟨a, b, rfl, pe, pl⟩ := p
      have hc2 : (TL.tl s)[i]? = some c := by rw [← hc]; exact Array.getElem?_toList
      have hi : i < (TL.tl s).length := (List.getElem?_eq_some_iff.mp hc2).1
      have hs : ((TL.tl s).take i).length ≤ 10000 := by rw [List.length_take, ← TL.len_tl]; omega
      have step : (((TL.tl s).take (i + 1)).map fun c => V.str (exT L o c)) = (((TL.tl s).take i).map fun c => V.str (exT L o c)) ++ [V.str (exT L o c)] := by
        rw [List.take_succ, hc2, List.map_append]
        rfl
      refine q_asg (v := .int (Txt.find L ⟨#[c]⟩)) (by walk_at "ev") (fun H2 e2 => ?_)
      refine s_if (b := decide (0 ≤ Txt.find L ⟨#[c]⟩)) (by walk_at "et") (fun hb H3 e3 => ?_) (fun hb H3 e3 => ?_)
      · have hb := of_decide_eq_true hb
        have hlt := find_lt (o := o) (by omega) hb
        have hat : atI o.cps.toList (Txt.find L ⟨#[c]⟩) = some ((TL.tl o).getD (Txt.find L ⟨#[c]⟩).toNat 0) := atI_get (xs := TL.tl o) hb (by omega) 0
        refine s_app (e3 l _ (e2 l _ pl)) (ev_var rfl) (ev_op (ev_var rfl) (ev_var rfl) (rv_ixuS (by omega) hat)) (by rw [List.length_map]; omega) (fun H4 e4 => ?_)
        refine ⟨_, _, rfl, Ex.mut (((pe.trans e2).trans e3).trans e4) hl, ?_⟩
        rw [step, upd_same]
        unfold exT
        rw [if_pos hb]
      · have hb := of_decide_eq_false hb
        refine s_app (e3 l _ (e2 l _ pl)) (ev_var rfl) (ev_var rfl) (by rw [List.length_map]; omega) (fun H4 e4 => ?_)
        refine ⟨_, _, rfl, Ex.mut (((pe.trans e2).trans e3).trans e4) hl, ?_⟩
        rw [step, upd_same]
        unfold exT
        rw [if_neg hb]
    · obtain ⟨a, b, rfl, pe, pl⟩ := p
      have e0 : (TL.tl s).take s.cps.size = TL.tl s := List.take_of_length_le (Nat.le_of_eq (by rw [← TL.len_tl]; rfl))
      rw [e0] at pl
      have pl2 : SqL K H' l (((TL.tl s).map (exT L o)).map V.str) := by
        rw [List.map_map]
        exact sq_of pl
      refine s_ret (ev_m1 ev_c (ev_var rfl) (rm_joinL pl2 ?_)) (fun H2 e2 => fin hQ (pe.trans e2) rfl)
      rw [ones_sum, List.length_map, ← TL.len_tl]
      have e : ("" : Str).length = 0 := rfl
      rw [e]
      omega


def lowS (s : Str) : Str := exS s "ABCDEFGHIJKLMNOPQRSTUVWXYZ" "abcdefghijklmnopqrstuvwxyz"
def upS (s : Str) : Str := exS s "abcdefghijklmnopqrstuvwxyz" "ABCDEFGHIJKLMNOPQRSTUVWXYZ"
def lowF : V → V
  | .str s => .str (lowS s)
  | _ => .non
def upF : V → V
  | .str s => .str (upS s)
  | _ => .non
def lenF : V → V
  | .str s => .int s.length
  | _ => .non
def trimF : V → V
  | .str s => .str (Txt.stripChars s " ")
  | _ => .non
def areTV (a b : V) : V := match a, b with
  | .str _, .str _ => .bl true
  | _, _ => .bl false
def joinF (a b : V) : V := match a, b with
  | .str s, .str t => if s.length + t.length ≤ 10000 then .str (s ++ t) else .non
  | _, _ => .non
def posF (a b : V) : V := match a, b with
  | .str s, .str t => .int (Txt.find s t + 1)
  | _, _ => .non
def mxI (i : Int) : Int := if i > 0 then i else 0
def partF (a b c : V) : V := match a, b, c with
  | .str s, .int f, .int n => if n < 0 then .non else .str (cutS s (some (mxI (f - 1))) (some (mxI (f + n - 1))))
  | _, _, _ => .non

theorem c_lowered (T : Tx w K mg) : C8.Cal P w K mg base 2 "lowered" (spS (fun s => s.length ≤ 10000) (fun s => .str (lowS s))) [] := by
  refine mk_cal T (x := "lowered") (i := 36) (j := 24) (N := ["text"]) (ps := ["text"]) rfl rfl (by decide +kernel) (fun _ _ _ _ _ _ us hl => match us, hl with | [_], _ => rfl) (fun vs H Q E h => by obtain ⟨_, rfl, _⟩ := h; rfl) (fun cdv A outer s H vs Q E nd hr h => ⟨_, (pss_one (ps_ret (C8.pe_c (c_exchanged T) hr (by decide) (by rfl) (pa_cons (pv 0) (pa_cons (C8.pe_gc (by rfl) T.CAPITAL) (pa_cons (C8.pe_gc (by rfl) T.SMALL) pa_nil)))))), ?hb⟩)
  case hb =>
    obtain ⟨s, rfl, c, hQ⟩ := h
    walk_at "st"
    rfl

theorem c_raised (T : Tx w K mg) : C8.Cal P w K mg base 2 "raised" (spS (fun s => s.length ≤ 10000) (fun s => .str (upS s))) [] := by
  refine mk_cal T (x := "raised") (i := 37) (j := 25) (N := ["text"]) (ps := ["text"]) rfl rfl (by decide +kernel) (fun _ _ _ _ _ _ us hl => match us, hl with | [_], _ => rfl) (fun vs H Q E h => by obtain ⟨_, rfl, _⟩ := h; rfl) (fun cdv A outer s H vs Q E nd hr h => ⟨_, (pss_one (ps_ret (C8.pe_c (c_exchanged T) hr (by decide) (by rfl) (pa_cons (pv 0) (pa_cons (C8.pe_gc (by rfl) T.SMALL) (pa_cons (C8.pe_gc (by rfl) T.CAPITAL) pa_nil)))))), ?hb⟩)
  case hb =>
    obtain ⟨s, rfl, c, hQ⟩ := h
    walk_at "st"
    rfl

theorem c_lower (T : Tx w K mg) : C8.Cal P w K mg base 3 "lower" (spV OptS lowF) [] := by
  refine mk_cal T (x := "lower") (i := 88) (j := 65) (N := ["value"]) (ps := ["value"]) rfl rfl (by decide +kernel) (fun _ _ _ _ _ _ us hl => match us, hl with | [_], _ => rfl) (fun vs H Q E h => by obtain ⟨_, rfl, _⟩ := h; rfl) (fun cdv A outer s H vs Q E nd hr h => ⟨_, (pss_one (ps_ret (pe_ifExp (pt_val (pe_callB call_isi (by rfl) T.m_isinstance boot_isinstance (pa_cons (pv 0) (pa_cons (pe_bltn (v := .ty "str") (by rfl) T.m_str boot_str rfl) pa_nil)))) (C8.pe_c (c_lowered T) hr (by decide) (by rfl) (pa_cons (pv 0) pa_nil)) pe_non))), ?hb⟩)
  case hb =>
    obtain ⟨a, rfl, c, hQ⟩ := h
    rcases c with rfl | ⟨s, rfl, c1, c2⟩ <;> (walk_at "st"; rfl)

theorem c_upper (T : Tx w K mg) : C8.Cal P w K mg base 3 "upper" (spV OptS upF) [] := by
  refine mk_cal T (x := "upper") (i := 89) (j := 66) (N := ["value"]) (ps := ["value"]) rfl rfl (by decide +kernel) (fun _ _ _ _ _ _ us hl => match us, hl with | [_], _ => rfl) (fun vs H Q E h => by obtain ⟨_, rfl, _⟩ := h; rfl) (fun cdv A outer s H vs Q E nd hr h => ⟨_, (pss_one (ps_ret (pe_ifExp (pt_val (pe_callB call_isi (by rfl) T.m_isinstance boot_isinstance (pa_cons (pv 0) (pa_cons (pe_bltn (v := .ty "str") (by rfl) T.m_str boot_str rfl) pa_nil)))) (C8.pe_c (c_raised T) hr (by decide) (by rfl) (pa_cons (pv 0) pa_nil)) pe_non))), ?hb⟩)
  case hb =>
    obtain ⟨a, rfl, c, hQ⟩ := h
    rcases c with rfl | ⟨s, rfl, c1, c2⟩ <;> (walk_at "st"; rfl)

theorem c_length (T : Tx w K mg) : C8.Cal P w K mg base 1 "length" (spV OptS lenF) [] := by
  refine mk_cal T (x := "length") (i := 90) (j := 67) (N := ["value"]) (ps := ["value"]) rfl rfl (by decide +kernel) (fun _ _ _ _ _ _ us hl => match us, hl with | [_], _ => rfl) (fun vs H Q E h => by obtain ⟨_, rfl, _⟩ := h; rfl) (fun cdv A outer s H vs Q E nd hr h => ⟨_, (pss_one (ps_ret (pe_ifExp (pt_val (pe_callB call_isi (by rfl) T.m_isinstance boot_isinstance (pa_cons (pv 0) (pa_cons (pe_bltn (v := .ty "str") (by rfl) T.m_str boot_str rfl) pa_nil)))) (pe_callB b_len (by rfl) T.m_len boot_len (pa_cons (pv 0) pa_nil)) pe_non))), ?hb⟩)
  case hb =>
    obtain ⟨a, rfl, c, hQ⟩ := h
    rcases c with rfl | ⟨s, rfl, c1, c2⟩ <;> (walk_at "st"; rfl)

theorem c_trim (T : Tx w K mg) : C8.Cal P w K mg base 1 "trim" (spV OptS trimF) [] := by
  refine mk_cal T (x := "trim") (i := 91) (j := 68) (N := ["value"]) (ps := ["value"]) rfl rfl (by decide +kernel) (fun _ _ _ _ _ _ us hl => match us, hl with | [_], _ => rfl) (fun vs H Q E h => by obtain ⟨_, rfl, _⟩ := h; rfl) (fun cdv A outer s H vs Q E nd hr h => ⟨_, (pss_one (ps_ret (pe_ifExp (pt_val (pe_callB call_isi (by rfl) T.m_isinstance boot_isinstance (pa_cons (pv 0) (pa_cons (pe_bltn (v := .ty "str") (by rfl) T.m_str boot_str rfl) pa_nil)))) (pe_m1 PySem.F.slot_str_strip PySem.F.type_str_strip m_strip (pv 0) pe_str) pe_non))), ?hb⟩)
  case hb =>
    obtain ⟨a, rfl, c, hQ⟩ := h
    rcases c with rfl | ⟨s, rfl, c1, c2⟩ <;> (walk_at "st"; rfl)

theorem c_are_texts (T : Tx w K mg) : C8.Cal P w K mg base 1 "are_texts" (spVV (fun a b => Sc a ∧ Sc b) areTV) [] := by
  refine mk_cal T (x := "are_texts") (i := 92) (j := 69) (N := ["first", "second"]) (ps := ["first", "second"]) rfl rfl (by decide +kernel) (fun _ _ _ _ _ _ us hl => match us, hl with | [_, _], _ => rfl) (fun vs H Q E h => by obtain ⟨_, _, rfl, _⟩ := h; rfl) (fun cdv A outer s H vs Q E nd hr h => ⟨_, (pss_one (ps_ret (pe_and (pe_callB call_isi (by rfl) T.m_isinstance boot_isinstance (pa_cons (pv 0) (pa_cons (pe_bltn (v := .ty "str") (by rfl) T.m_str boot_str rfl) pa_nil))) (pe_one (pe_callB call_isi (by rfl) T.m_isinstance boot_isinstance (pa_cons (pv 1) (pa_cons (pe_bltn (v := .ty "str") (by rfl) T.m_str boot_str rfl) pa_nil))))))), ?hb⟩)
  case hb =>
    obtain ⟨a, b, rfl, c, hQ⟩ := h
    cases a <;> first | exact False.elim c.1 | (cases b <;> first | exact False.elim c.2 | (walk_at "st" <;> rfl))


theorem sc_non : Sc .non := trivial
theorem sc_str (s : Str) : Sc (.str s) := trivial
theorem sc_int (s : Int) : Sc (.int s) := trivial
theorem sc_bl (s : Bool) : Sc (.bl s) := trivial

theorem c_joined (T : Tx w K mg) : C8.Cal P w K mg base 2 "joined" (spVV (fun a b => OptS a ∧ OptS b) joinF) [] := by
  refine mk_cal T (x := "joined") (i := 93) (j := 70) (N := ["first", "second"]) (ps := ["first", "second"]) rfl rfl (by decide +kernel) (fun _ _ _ _ _ _ us hl => match us, hl with | [_, _], _ => rfl) (fun vs H Q E h => by obtain ⟨_, _, rfl, _⟩ := h; rfl) (fun cdv A outer s H vs Q E nd hr h => ⟨_, (pss_cons (ps_if (PW.pt (pw_or (pt_not (pt_val (C8.pe_c (c_are_texts T) hr (by decide) (by rfl) (pa_cons (pv 0) (pa_cons (pv 1) pa_nil))))) (pw_or1 (pt_cmpR o_gt (pe_op o_add (pe_callB b_len (by rfl) T.m_len boot_len (pa_cons (pv 0) pa_nil)) (pe_callB b_len (by rfl) T.m_len boot_len (pa_cons (pv 1) pa_nil))) (C8.pe_gc (by rfl) T.MOST) (nomark _))))) (pss_one (ps_ret pe_non)) pss_nil)
      (pss_one (ps_ret (pe_op o_add (pv 0) (pv 1))))), ?hb⟩)
  case hb =>
    obtain ⟨a, b, rfl, c, hQ⟩ := h
    rcases c with ⟨c1, c2⟩
    rcases c1 with rfl | ⟨s, rfl, c1, c3⟩ <;> rcases c2 with rfl | ⟨t, rfl, c2, c4⟩
    · have := sc_non
      walk_at "st"; rfl
    · have := sc_non
      have := sc_str t
      walk_at "st"; rfl
    · have := sc_non
      have := sc_str s
      walk_at "st"; rfl
    · have := sc_str s
      have := sc_str t
      walk_at "st"
      · rename_i hb _ _ _ _
        have hb := of_decide_eq_true hb
        show V.non = joinF (.str s) (.str t)
        unfold joinF
        show _ = (if s.length + t.length ≤ 10000 then V.str (s ++ t) else .non)
        rw [if_neg (by omega)]
      · rename_i hb _ _ _ _
        have hb := of_decide_eq_false hb
        show V.str (s ++ t) = (if s.length + t.length ≤ 10000 then V.str (s ++ t) else .non)
        rw [if_pos (by omega)]

theorem c_position (T : Tx w K mg) : C8.Cal P w K mg base 2 "position" (spVV (fun a b => OptS a ∧ OptS b) posF) [] := by
  refine mk_cal T (x := "position") (i := 95) (j := 72) (N := ["value", "part"]) (ps := ["value", "part"]) rfl rfl (by decide +kernel) (fun _ _ _ _ _ _ us hl => match us, hl with | [_, _], _ => rfl) (fun vs H Q E h => by obtain ⟨_, _, rfl, _⟩ := h; rfl) (fun cdv A outer s H vs Q E nd hr h => ⟨_, (pss_one (ps_ret (pe_ifExp (pt_val (C8.pe_c (c_are_texts T) hr (by decide) (by rfl) (pa_cons (pv 0) (pa_cons (pv 1) pa_nil)))) (pe_op o_add (pe_m1 PySem.F.slot_str_find PySem.F.type_str_find m_find (pv 0) (pv 1)) pe_int) pe_non))), ?hb⟩)
  case hb =>
    obtain ⟨a, b, rfl, c, hQ⟩ := h
    rcases c with ⟨c1, c2⟩
    rcases c1 with rfl | ⟨s, rfl, c1, c3⟩ <;> rcases c2 with rfl | ⟨t, rfl, c2, c4⟩
    · have := sc_non
      walk_at "st"; rfl
    · have := sc_non
      have := sc_str t
      walk_at "st"; rfl
    · have := sc_non
      have := sc_str s
      walk_at "st"; rfl
    · have := sc_str s
      have := sc_str t
      walk_at "st"; rfl

theorem c_part_of (T : Tx w K mg) : C8.Cal P w K mg base 2 "part_of" (spVVV (fun a b c => OptS a ∧ OptI b ∧ OptI c) partF) [] := by
  refine mk_cal T (x := "part_of") (i := 96) (j := 73) (N := ["value", "first", "count"]) (ps := ["value", "first", "count"]) rfl rfl (by decide +kernel) (fun _ _ _ _ _ _ us hl => match us, hl with | [_, _, _], _ => rfl) (fun vs H Q E h => by obtain ⟨_, _, _, rfl, _⟩ := h; rfl) (fun cdv A outer s H vs Q E nd hr h => ⟨_, (pss_cons (ps_if (PW.pt (pw_or (pt_not (pt_val (pe_callB call_isi (by rfl) T.m_isinstance boot_isinstance (pa_cons (pv 0) (pa_cons (pe_bltn (v := .ty "str") (by rfl) T.m_str boot_str rfl) pa_nil))))) (pw_or (pt_not (pt_val (C8.pe_c (c_is_integer T) hr (by decide) (by rfl) (pa_cons (pv 1) pa_nil)))) (pw_or1 (pt_not (pt_val (C8.pe_c (c_is_integer T) hr (by decide) (by rfl) (pa_cons (pv 2) pa_nil)))))))) (pss_one (ps_ret pe_non)) pss_nil)
      (pss_cons (ps_if (pt_cmpR o_lt (pv 2) pe_int (nomark _)) (pss_one (ps_ret pe_non)) pss_nil)
      (pss_one (ps_ret (pe_slice sl_strY (pv 0) (po_some (pe_callB (b_max rfl) (by rfl) T.m_max boot_max (pa_cons pe_int (pa_cons (pe_op o_sub (pv 1) pe_int) pa_nil)))) (po_some (pe_callB (b_max rfl) (by rfl) T.m_max boot_max (pa_cons pe_int (pa_cons (pe_op o_sub (pe_op o_add (pv 1) (pv 2)) pe_int) pa_nil))))))))), ?hb⟩)
  case hb =>
    obtain ⟨a, b, c, rfl, ⟨c1, c2, c3⟩, hQ⟩ := h
    rcases c1 with rfl | ⟨s, rfl, d1, d2⟩ <;> rcases c2 with rfl | ⟨i, rfl, d3, d4⟩ <;> rcases c3 with rfl | ⟨j, rfl, d5, d6⟩
    case inr.inr.inr =>
      have := sc_int i
      have := sc_int j
      have hc : Sc (.int i) := trivial
      refine q_when (b := false) (by walk_at "et") (fun hb => nomatch hb) (fun _ H1 e1 => ?_)
      refine q_when (b := decide (j < 0)) (by walk_at "et") (fun hb H2 e2 => ?_) (fun hb H2 e2 => ?_)
      · have hb := of_decide_eq_true hb
        walk_at "st"
        show V.non = (if j < 0 then V.non else .str (cutS s (some (mxI (i - 1))) (some (mxI (i + j - 1)))))
        rw [if_pos hb]
      · have hb := of_decide_eq_false hb
        walk_at "st"
        show _ = (if j < 0 then V.non else .str (cutS s (some (mxI (i - 1))) (some (mxI (i + j - 1)))))
        rw [if_neg hb]
        rfl
    all_goals (have := sc_non; first | (have := sc_int i; have := sc_int j; walk_at "st"; rfl) | (have := sc_int i; walk_at "st"; rfl) | (have := sc_int j; walk_at "st"; rfl) | (walk_at "st"; rfl))


def spR (K : PySem.W.Frag) (C : List V → Prop) (f : List V → PyData) : Sp := fun vs H Q _ => C vs ∧ RetD K (f vs) H Q
theorem ed_cR {σ : L2.St} {H : Hp} {tA : TA} {E : XK} {vs : List V} {C : List V → Prop} {f : List V → PyData} (h : EvA tA σ H vs) (c : C vs) : EvD K (tCall (spR K C f) [] E tA) σ H (f vs) := fun H1 e Q q =>
  h H1 e _ fun H2 e2 => by
    show C (vs ++ []) ∧ RetD K (f (vs ++ [])) H2 Q
    rw [List.append_nil]
    exact ⟨c, fun v H3 e3 hv => q v H3 (e2.trans e3) hv⟩
def piecesS (s p : Str) : List Str := if p = "" then [s] else Txt.split s p
def piecesD : List V → PyData
  | [.str s, .str p] => .list ((piecesS s p).map .str)
  | _ => .none
theorem ne_tl {p : Str} (h : ¬ p = "") : TL.tl p ≠ [] := fun e => h (by
  cases p with
  | mk a =>
    have e2 : a.toList = [] := e
    have e3 : a = #[] := by simpa using e2
    subst e3
    rfl)
theorem pieces_part {s p : Str} (hp : Asc p) : ∀ q ∈ piecesS s p, Part q s := fun q hq => by
  unfold piecesS at hq
  split at hq
  · rw [List.mem_singleton] at hq
    subst hq
    exact Part.refl _
  · rename_i h
    exact split_part (ne_tl h) hp q hq
theorem pieces_len {s p : Str} (hp : Asc p) : (piecesS s p).length ≤ s.length + 1 ∧ 0 < (piecesS s p).length := by
  unfold piecesS
  split
  · simp
  · rename_i h
    exact split_len (ne_tl h) hp
theorem dpa_map_str {H : Hp} (ns : List Str) : DpAll K H (ns.map V.str) (ns.map PyData.str) := dpa_of_strs ns

theorem c_pieces (T : Tx w K mg) : C8.Cal P w K mg base 1 "pieces" (spR K (fun vs => ∃ s p, vs = [.str s, .str p] ∧ s.length ≤ 10000 ∧ p.length ≤ 10000) piecesD) [] := by
  refine mk_cal T (x := "pieces") (i := 34) (j := 22) (N := ["text", "separator"]) (ps := ["text", "separator"]) rfl rfl (by decide +kernel) (fun _ _ _ _ _ _ us hl => match us, hl with | [_, _], _ => rfl) (fun vs H Q E h => by obtain ⟨⟨_, _, rfl, _⟩, _⟩ := h; rfl) (fun cdv A outer s H vs Q E nd hr h => ⟨_, (pss_cons (ps_if (pt_cmpR op_eq (pv 1) pe_str (nomark _)) (pss_one (ps_ret (pe_lst (pa_cons (pv 0) pa_nil)))) pss_nil)
      (pss_one (ps_ret (pe_m1 PySem.F.slot_str_split PySem.F.type_str_split m_split (pv 0) (pv 1))))), ?hb⟩)
  case hb =>
    obtain ⟨⟨s, p, rfl, c1, c2⟩, hQ⟩ := h
    refine q_when (b := decide (p = "")) (by walk_at "et") (fun hb H1 e1 => ?_) (fun hb H1 e1 => ?_)
    · have hb := of_decide_eq_true hb
      refine s_retD (K := K) (d := .list [.str s]) (ed_lst (ead_cons (ed_var rfl (.str s)) ead_nil) (by simp)) ?_
      have e : piecesD [.str s, .str p] = .list [.str s] := by
        show PyData.list ((piecesS s p).map .str) = _
        unfold piecesS
        rw [if_pos hb]
        rfl
      rw [← e]
      exact hQ.go e1
    · have hb := of_decide_eq_false hb
      refine s_retL (xs := (Txt.split s p).map V.str) (el_split (ev_var rfl) (ev_var rfl) ?_ (by omega)) (fun l H2 _ e2 hl => hQ (.ref l) H2 (e1.trans e2) ?_)
      · have n := ne_tl hb
        rw [beq_eq_false_iff_ne]
        exact fun z => n ((TL.len0_tl p).mp z)
      · show Dp K H2 (.ref l) (.list ((piecesS s p).map .str))
        unfold piecesS
        rw [if_neg hb]
        exact .lst (sq_of hl) (dpa_map_str _)


def splitF (a b c : V) : V := match a, b, c with
  | .str s, .str p, .int n => if 1 ≤ n ∧ n ≤ (piecesS s p).length then .str ((piecesS s p).getD (n - 1).toNat "") else .non
  | _, _, _ => .non
def sumLen (l : List Str) : Nat := (l.map (·.length)).sum
def repF (a b c : V) : V := match a, b, c with
  | .str s, .str p, .str n => if 10000 < (sumLen (piecesS s p) : Int) + n.length * ((piecesS s p).length - 1 : Int) then .non else .str (Txt.join n (piecesS s p))
  | _, _, _ => .non
def padF (a b c : V) : V := match a, b, c with
  | .str s, .str p, .int n => if n ≤ s.length ∨ p = "" then .str s else if 10000 < n then .non else .str (Txt.mul ⟨#[(TL.tl p).headD 0]⟩ (n - s.length) ++ s)
  | _, _, _ => .non
theorem sum_ints (l : List Str) : ((l.map fun x => ((x.length : Nat) : Int)).sum) = (sumLen l : Int) := by
  unfold sumLen
  induction l with
  | nil => rfl
  | cons x l ih =>
    simp only [List.map_cons, List.sum_cons, ih]
    omega
theorem sumLen_le {s : Str} : ∀ {l : List Str}, (∀ q ∈ l, Part q s) → sumLen l ≤ l.length * s.length
  | [], _ => Nat.zero_le _
  | x :: l, h => by
    have h1 := sumLen_le fun q hq => h q (List.mem_cons_of_mem x hq)
    have h2 := (h x (List.mem_cons_self ..)).2
    unfold sumLen at h1 ⊢
    simp only [List.map_cons, List.sum_cons, List.length_cons, Nat.succ_mul]
    omega
theorem lf_ints : ∀ (l : List Int), lfAll (l.map .int) = true
  | [] => rfl
  | x :: l => by simp [lfAll, lf, lf_ints l]

theorem c_split (T : Tx w K mg) : C8.Cal P w K mg base 2 "split" (spVVV (fun a b c => OptS a ∧ OptS b ∧ OptI c) splitF) [] := by
  refine mk_cal T (x := "split") (i := 97) (j := 74) (N := ["value", "separator", "number", "found"]) (ps := ["value", "separator", "number"]) rfl rfl (by decide +kernel) (fun _ _ _ _ _ _ us hl => match us, hl with | [_, _, _], _ => rfl) (fun vs H Q E h => by obtain ⟨_, _, _, rfl, _⟩ := h; rfl) (fun cdv A outer s H vs Q E nd hr h => ⟨_, (pss_cons (ps_if (PW.pt (pw_or (pt_not (pt_val (C8.pe_c (c_are_texts T) hr (by decide) (by rfl) (pa_cons (pv 0) (pa_cons (pv 1) pa_nil))))) (pw_or1 (pt_not (pt_val (C8.pe_c (c_is_integer T) hr (by decide) (by rfl) (pa_cons (pv 2) pa_nil))))))) (pss_one (ps_ret pe_non)) pss_nil)
      (pss_cons (ps_set (i := 3) nd rfl (.inl rfl) (C8.pe_c (c_pieces T) hr (by decide) (by rfl) (pa_cons (pv 0) (pa_cons (pv 1) pa_nil))))
      (pss_cons (ps_if (pt_not (pt_chain o_le o_le pe_int (pv 2) (pe_callB b_len (by rfl) T.m_len boot_len (pa_cons (pv 3) pa_nil)))) (pss_one (ps_ret pe_non)) pss_nil)
      (pss_one (ps_ret (pe_ix ix_seq (pv 3) (pe_op o_sub (pv 2) pe_int) (fun _ _ => rfl))))))), ?hb⟩)
  case hb =>
    obtain ⟨a, b, c, rfl, ⟨c1, c2, c3⟩, hQ⟩ := h
    rcases c1 with rfl | ⟨s, rfl, d1, d2⟩ <;> rcases c2 with rfl | ⟨p, rfl, d3, d4⟩ <;> rcases c3 with rfl | ⟨n, rfl, d5, d6⟩
    case inr.inr.inr =>
      have := sc_int n
      have := sc_str s
      have := sc_str p
      have pl := pieces_len (s := s) d4
      refine q_when (b := false) (by walk_at "et") (fun hb => nomatch hb) (fun hb H1 e1 => ?_)
      refine q_asgD (d := .list ((piecesS s p).map .str)) (ed_cR (vs := [.str s, .str p]) (by walk_at "ea") ⟨s, p, rfl, d1, d3⟩) (fun v H2 e2 hv => ?_)
      have ev : EvD K (tVar 3) [some (.str s), some (.str p), some (.int n), some v] H2 (.list ((piecesS s p).map .str)) := ed_var rfl hv
      have lv : Ev (tCB (rLenU K) (tCons (tVar 3) tNil)) [some (.str s), some (.str p), some (.int n), some v] H2 (.int (piecesS s p).length) := ev_is (ev_lenD ev) (by rw [List.length_map])
      refine q_when (b := !(decide (1 ≤ n) && decide (n ≤ ((piecesS s p).length : Int)))) (et_is (et_not (et_B (ev_chainI ev_c (ev_var rfl) lv rv_leI rv_leI))) rfl) (fun hb H3 e3 => ?_) (fun hb H3 e3 => ?_)
      · walk_at "st"
        show V.non = (if 1 ≤ n ∧ n ≤ (piecesS s p).length then V.str ((piecesS s p).getD (n - 1).toNat "") else .non)
        rw [if_neg]
        rintro ⟨z1, z2⟩
        simp [z1, z2] at hb
      · have hb : 1 ≤ n ∧ n ≤ (piecesS s p).length := by simpa using hb
        have hlt : (n - 1).toNat < (piecesS s p).length := by omega
        have hat : atI ((piecesS s p).map PyData.str) (n - 1) = some (.str ((piecesS s p).getD (n - 1).toNat "")) := by
          rw [atI_get (by omega) (by rw [List.length_map]; omega) PyData.none, List.getD_eq_getElem?_getD, List.getElem?_map, List.getD_eq_getElem?_getD, List.getElem?_eq_getElem hlt]
          rfl
        refine s_ret (ev_dS (ed_ixL (EvD.mono e3 ev) (by walk_at "ev") hat)) (fun H4 e4 => fin hQ (by walk_at "ex") ?_)
        show _ = (if 1 ≤ n ∧ n ≤ (piecesS s p).length then V.str ((piecesS s p).getD (n - 1).toNat "") else .non)
        rw [if_pos hb]
    all_goals (have := sc_non; first | (have := sc_str s; have := sc_str p; walk_at "st"; rfl) | (have := sc_str s; have := sc_int n; walk_at "st"; rfl) | (have := sc_str p; have := sc_int n; walk_at "st"; rfl) | (have := sc_str s; walk_at "st"; rfl) | (have := sc_str p; walk_at "st"; rfl) | (have := sc_int n; walk_at "st"; rfl) | (walk_at "st"; rfl))

theorem c_replaced_in (T : Tx w K mg) : C8.Cal P w K mg base 2 "replaced_in" (spVVV (fun a b c => OptS a ∧ OptS b ∧ OptS c) repF) [] := by
  refine mk_cal T (x := "replaced_in") (i := 98) (j := 75) (N := ["value", "old", "new", "found", "piece"]) (ps := ["value", "old", "new"]) rfl rfl (by decide +kernel) (fun _ _ _ _ _ _ us hl => match us, hl with | [_, _, _], _ => rfl) (fun vs H Q E h => by obtain ⟨_, _, _, rfl, _⟩ := h; rfl) (fun cdv A outer s H vs Q E nd hr h => ⟨_, (pss_cons (ps_if (PW.pt (pw_or (pt_not (pt_val (C8.pe_c (c_are_texts T) hr (by decide) (by rfl) (pa_cons (pv 0) (pa_cons (pv 1) pa_nil))))) (pw_or1 (pt_not (pt_val (pe_callB call_isi (by rfl) T.m_isinstance boot_isinstance (pa_cons (pv 2) (pa_cons (pe_bltn (v := .ty "str") (by rfl) T.m_str boot_str rfl) pa_nil)))))))) (pss_one (ps_ret pe_non)) pss_nil)
      (pss_cons (ps_set (i := 3) nd rfl (.inl rfl) (C8.pe_c (c_pieces T) hr (by decide) (by rfl) (pa_cons (pv 0) (pa_cons (pv 1) pa_nil))))
      (pss_cons (ps_if (pt_cmpR o_gt (pe_op o_add (pe_callB (b_sum rfl) (by rfl) T.m_sum boot_sum (pa_cons (pe_lc (own := [("piece", 4)]) (g := gName 4) (by rfl) nd (pi_list (pv 3)) (blkOk_by (own := [("piece", 4)]) (N := ["value", "old", "new", "found", "piece"]) (sc := C8.fnScope (top 98)) (by decide +kernel)) (fun _ _ _ _ _ => pg_name (i := 4) nd rfl (.inl rfl)) (fun _ _ _ _ _ => pts_nil) (fun _ _ _ _ _ => (pe_callB (b_lenK (K := K) rfl) (by rfl) T.m_len boot_len (pa_cons (pv 4) pa_nil)))) pa_nil)) (pe_op o_mul (pe_callB b_len (by rfl) T.m_len boot_len (pa_cons (pv 2) pa_nil)) (pe_op o_sub (pe_callB b_len (by rfl) T.m_len boot_len (pa_cons (pv 3) pa_nil)) pe_int))) (C8.pe_gc (by rfl) T.MOST) (nomark _)) (pss_one (ps_ret pe_non)) pss_nil)
      (pss_one (ps_ret (pe_m1 PySem.F.slot_str_join PySem.F.type_str_join m_join (pv 2) (pv 3))))))), ?hb⟩)
  case hb =>
    obtain ⟨a, b, c, rfl, ⟨c1, c2, c3⟩, hQ⟩ := h
    rcases c1 with rfl | ⟨s, rfl, d1, d2⟩ <;> rcases c2 with rfl | ⟨p, rfl, d3, d4⟩ <;> rcases c3 with rfl | ⟨n, rfl, d5, d6⟩
    case inr.inr.inr =>
      have := sc_str n
      have := sc_str s
      have := sc_str p
      have pl := pieces_len (s := s) d4
      have pp := pieces_part (s := s) d4
      refine q_when (b := false) (by walk_at "et") (fun hb => nomatch hb) (fun hb H1 e1 => ?_)
      refine q_asgD (d := .list ((piecesS s p).map .str)) (ed_cR (vs := [.str s, .str p]) (by walk_at "ea") ⟨s, p, rfl, d1, d3⟩) (fun v H2 e2 hv => ?_)
      have ev : EvD K (tVar 3) [some (.str s), some (.str p), some (.str n), some v, none] H2 (.list ((piecesS s p).map .str)) := ed_var rfl hv
      have lv : Ev (tCB (rLenU K) (tCons (tVar 3) tNil)) [some (.str s), some (.str p), some (.str n), some v, none] H2 (.int (piecesS s p).length) := ev_is (ev_lenD ev) (by rw [List.length_map])
      refine q_when (b := decide (10000 < (sumLen (piecesS s p) : Int) + n.length * ((piecesS s p).length - 1 : Int))) (et_is (et_test (ev_op (ev_op (ev_sum (ns := (piecesS s p).map fun x => ((x.length : Nat) : Int)) (ed_lcD (es := (piecesS s p).map .str) ev (by rw [List.length_map]; omega) (by simp) (lf_ints _) (fun _ => rfl) (fun i x e d H3 e3 hx he hd => ?_))) (ev_op (by walk_at "ev") (ev_op lv ev_c rv_subI) (rv_mulL (by omega) (by omega))) rv_addI) ev_c rv_gtI)) (by rw [sum_ints])) (fun hb H3 e3 => ?_) (fun hb H3 e3 => ?_)
      · rw [List.getElem?_map] at he
        rw [List.getElem?_map, List.getElem?_map] at hd
        cases hq : (piecesS s p)[i]? with
        | none => rw [hq] at he; cases he
        | some q =>
          rw [hq] at he hd
          cases he
          cases hd
          cases hx
          have := (pp q (List.mem_of_getElem? hq)).2
          exact ed_ev (ev_cb (ea_cons (ev_var rfl) ea_nil) (rc_lenS (by omega))) (.int _)
      · have hb := of_decide_eq_true hb
        walk_at "st"
        show V.non = (if 10000 < (sumLen (piecesS s p) : Int) + n.length * ((piecesS s p).length - 1 : Int) then V.non else .str (Txt.join n (piecesS s p)))
        rw [if_pos hb]
      · have hb := of_decide_eq_false hb
        obtain ⟨l, xs, rfl, hl, hx⟩ : ∃ l xs, v = .ref l ∧ SqL K H2 l xs ∧ DpAll K H2 xs ((piecesS s p).map .str) := by
          cases hv with
          | lst h1 h2 => exact ⟨_, _, rfl, h1, h2⟩
        rw [dpa_strs hx] at hl
        refine s_ret (ev_m1 (ev_var rfl) (ev_var rfl) (rm_joinL (ex_l e3 hl) ?_)) (fun H4 e4 => fin hQ (by walk_at "ex") ?_)
        · have h1 : (piecesS s p).length * n.length ≤ 10001 * n.length := Nat.mul_le_mul_right _ (by omega)
          have h2 : n.length * ((piecesS s p).length - 1) = (piecesS s p).length * n.length - n.length := by rw [Nat.mul_sub_one, Nat.mul_comm]
          have h3 : (n.length : Int) * ((piecesS s p).length - 1 : Int) = ((n.length * ((piecesS s p).length - 1) : Nat) : Int) := by
            rw [Int.natCast_mul]
            congr 1
            omega
          rw [h3] at hb
          show sumLen (piecesS s p) + (piecesS s p).length * n.length ≤ 16777216
          omega
        · show _ = (if 10000 < (sumLen (piecesS s p) : Int) + n.length * ((piecesS s p).length - 1 : Int) then V.non else .str (Txt.join n (piecesS s p)))
          rw [if_neg hb]
    all_goals (have := sc_non; first | (have := sc_str s; have := sc_str p; walk_at "st"; rfl) | (have := sc_str s; have := sc_str n; walk_at "st"; rfl) | (have := sc_str p; have := sc_str n; walk_at "st"; rfl) | (have := sc_str s; walk_at "st"; rfl) | (have := sc_str p; walk_at "st"; rfl) | (have := sc_str n; walk_at "st"; rfl) | (walk_at "st"; rfl))

theorem c_pad (T : Tx w K mg) : C8.Cal P w K mg base 2 "pad" (spVVV (fun a b c => OptS a ∧ OptS b ∧ OptI c) padF) [] := by
  refine mk_cal T (x := "pad") (i := 99) (j := 76) (N := ["value", "filling", "size"]) (ps := ["value", "filling", "size"]) rfl rfl (by decide +kernel) (fun _ _ _ _ _ _ us hl => match us, hl with | [_, _, _], _ => rfl) (fun vs H Q E h => by obtain ⟨_, _, _, rfl, _⟩ := h; rfl) (fun cdv A outer s H vs Q E nd hr h => ⟨_, (pss_cons (ps_if (PW.pt (pw_or (pt_not (pt_val (C8.pe_c (c_are_texts T) hr (by decide) (by rfl) (pa_cons (pv 0) (pa_cons (pv 1) pa_nil))))) (pw_or1 (pt_not (pt_val (C8.pe_c (c_is_integer T) hr (by decide) (by rfl) (pa_cons (pv 2) pa_nil))))))) (pss_one (ps_ret pe_non)) pss_nil)
      (pss_cons (ps_if (PW.pt (pw_or (pt_cmpR o_ge (pe_callB b_len (by rfl) T.m_len boot_len (pa_cons (pv 0) pa_nil)) (pv 2) (nomark _)) (pw_or1 (pt_cmpR op_eq (pv 1) pe_str (nomark _))))) (pss_one (ps_ret (pv 0))) pss_nil)
      (pss_cons (ps_if (pt_cmpR o_gt (pv 2) (C8.pe_gc (by rfl) T.MOST) (nomark _)) (pss_one (ps_ret pe_non)) pss_nil)
      (pss_one (ps_ret (pe_op o_add (pe_op o_mulS (pe_ix ix_seq (pv 1) pe_int (fun _ _ => rfl)) (pe_op o_sub (pv 2) (pe_callB b_len (by rfl) T.m_len boot_len (pa_cons (pv 0) pa_nil)))) (pv 0))))))), ?hb⟩)
  case hb =>
    obtain ⟨a, b, c, rfl, ⟨c1, c2, c3⟩, hQ⟩ := h
    rcases c1 with rfl | ⟨s, rfl, d1, d2⟩ <;> rcases c2 with rfl | ⟨p, rfl, d3, d4⟩ <;> rcases c3 with rfl | ⟨n, rfl, d5, d6⟩
    case inr.inr.inr =>
      have := sc_int n
      have := sc_str s
      have := sc_str p
      refine q_when (b := false) (by walk_at "et") (fun hb => nomatch hb) (fun hb H1 e1 => ?_)
      refine q_when (b := decide (n ≤ (s.length : Int)) || decide (p = "")) (by walk_at "et") (fun hb H2 e2 => ?_) (fun hb H2 e2 => ?_)
      · have hb : n ≤ s.length ∨ p = "" := by simpa using hb
        walk_at "st"
        show V.str s = (if n ≤ s.length ∨ p = "" then .str s else if 10000 < n then .non else .str (Txt.mul ⟨#[(TL.tl p).headD 0]⟩ (n - s.length) ++ s))
        rw [if_pos hb]
      · have hb : ¬ (n ≤ s.length ∨ p = "") := by simpa using hb
        refine q_when (b := decide (10000 < n)) (by walk_at "et") (fun hc H3 e3 => ?_) (fun hc H3 e3 => ?_)
        · have hc := of_decide_eq_true hc
          walk_at "st"
          show V.non = (if n ≤ s.length ∨ p = "" then .str s else if 10000 < n then .non else .str (Txt.mul ⟨#[(TL.tl p).headD 0]⟩ (n - s.length) ++ s))
          rw [if_neg hb, if_pos hc]
        · have hc := of_decide_eq_false hc
          have hp : atI p.cps.toList 0 = some ((TL.tl p).headD 0) := by
            have n1 := ne_tl (fun z => hb (.inr z))
            cases hq : TL.tl p with
            | nil => exact absurd hq n1
            | cons c r =>
              have hq2 : p.cps.toList = c :: r := hq
              rw [hq2]
              exact L2.atI_nat (xs := c :: r) (j := 0) rfl
          have ml : (Txt.mul ⟨#[(TL.tl p).headD 0]⟩ (n - s.length)).length + s.length ≤ 100000 := by
            rw [mul_len (by omega)]
            have e : (⟨#[(TL.tl p).headD 0]⟩ : Str).length = 1 := rfl
            rw [e]
            omega
          refine s_ret (ev_op (ev_op (ev_op (ev_var rfl) ev_c (rv_ixuS (by omega) hp)) (ev_op (ev_var rfl) (by walk_at "ev") rv_subI) (rv_mulS (Nat.le_refl 1) (by omega) (by omega))) (ev_var rfl) (rv_addS ml)) (fun H4 e4 => fin hQ (by walk_at "ex") ?_)
          show _ = (if n ≤ s.length ∨ p = "" then V.str s else if 10000 < n then .non else .str (Txt.mul ⟨#[(TL.tl p).headD 0]⟩ (n - s.length) ++ s))
          rw [if_neg hb, if_neg hc]
    all_goals (have := sc_non; first | (have := sc_str s; have := sc_str p; walk_at "st"; rfl) | (have := sc_str s; have := sc_int n; walk_at "st"; rfl) | (have := sc_str p; have := sc_int n; walk_at "st"; rfl) | (have := sc_str s; walk_at "st"; rfl) | (have := sc_str p; walk_at "st"; rfl) | (have := sc_int n; walk_at "st"; rfl) | (walk_at "st"; rfl))

end

section
variable {P : Program} {w : World} {K : PySem.W.Frag} {mg : Str → Option Value} {base : Heap}

/-! ### patterns -/
inductive Itm
  | many
  | one
  | lit (c : Nat)
deriving DecidableEq
def itD : Itm → PyData
  | .many => .str "many"
  | .one => .str "one"
  | .lit c => .tuple [.str ⟨#[c]⟩]
def itemsOf : List Nat → List Itm
  | [] => []
  | c :: r => if c = 42 then .many :: itemsOf r else if c = 63 then .one :: itemsOf r else if c = 92 then (match r with | [] => [.lit 92] | d :: r' => .lit d :: itemsOf r') else .lit c :: itemsOf r
theorem items_len : ∀ (l : List Nat), (itemsOf l).length ≤ l.length
  | [] => by simp [itemsOf]
  | [c] => by
    unfold itemsOf
    split
    · simp [itemsOf]
    · split
      · simp [itemsOf]
      · split <;> simp [itemsOf]
  | c :: d :: r => by
    have h1 := items_len (d :: r)
    have h2 := items_len r
    unfold itemsOf
    simp only [List.length_cons] at h1 ⊢
    split
    · simp only [List.length_cons]; omega
    · split
      · simp only [List.length_cons]; omega
      · split
        · simp only [List.length_cons]; omega
        · simp only [List.length_cons]; omega
theorem lf_items : ∀ l : List Itm, lfAll (l.map itD) = true
  | [] => rfl
  | x :: l => by
    simp only [List.map_cons, lfAll, Bool.and_eq_true]
    refine ⟨?_, lf_items l⟩
    cases x <;> rfl
theorem str_one {c d : Nat} : decide ((⟨#[c]⟩ : Str) = ⟨#[d]⟩) = decide (c = d) := by
  by_cases h : c = d
  · subst h
    simp
  · simp [h]
def itemsD : List V → PyData
  | [.str p] => .list ((itemsOf (TL.tl p)).map itD)
  | _ => .none
theorem it_eq (c : Nat) (r : List Nat) : itemsOf (c :: r) = if c = 42 then .many :: itemsOf r else if c = 63 then .one :: itemsOf r else if c = 92 then (match r with | [] => [.lit 92] | d :: r' => .lit d :: itemsOf r') else .lit c :: itemsOf r := by
  conv => lhs; rw [itemsOf.eq_def]
theorem it_many {c : Nat} {r : List Nat} (h : c = 42) : itemsOf (c :: r) = .many :: itemsOf r := by
  rw [it_eq, if_pos h]
theorem it_one {c : Nat} {r : List Nat} (h1 : ¬ c = 42) (h : c = 63) : itemsOf (c :: r) = .one :: itemsOf r := by
  rw [it_eq, if_neg h1, if_pos h]
theorem it_esc {c d : Nat} {r : List Nat} (h1 : ¬ c = 42) (h2 : ¬ c = 63) (h : c = 92) : itemsOf (c :: d :: r) = .lit d :: itemsOf r := by
  rw [it_eq, if_neg h1, if_neg h2, if_pos h]
theorem it_lit {c : Nat} {r : List Nat} (h1 : ¬ c = 42) (h2 : ¬ c = 63) (h : ¬ (c = 92 ∧ r ≠ [])) : itemsOf (c :: r) = .lit c :: itemsOf r := by
  rw [it_eq, if_neg h1, if_neg h2]
  split
  · rename_i h3
    cases r with
    | nil =>
      subst h3
      rfl
    | cons d r => exact absurd ⟨h3, by simp⟩ h
  · rfl

theorem c_pattern_items (T : Tx w K mg) : C8.Cal P w K mg base 1 "pattern_items" (spR K (fun vs => ∃ p, vs = [.str p] ∧ p.length ≤ 10000) itemsD) [] := by
  refine mk_cal T (x := "pattern_items") (i := 32) (j := 20) (N := ["pattern", "items", "at", "sign"]) (ps := ["pattern"]) rfl rfl (by decide +kernel) (fun _ _ _ _ _ _ us hl => match us, hl with | [_], _ => rfl) (fun vs H Q E h => by obtain ⟨⟨_, rfl, _⟩, _⟩ := h; rfl) (fun cdv A outer s H vs Q E nd hr h => ⟨_, (pss_cons (ps_set (i := 1) nd rfl (.inl rfl) (pe_lst pa_nil))
      (pss_cons (ps_set (i := 2) nd rfl (.inl rfl) pe_int)
      (pss_cons (ps_while PassesOwn.never (pt_cmpR o_lt (pv 2) (pe_callB b_len (by rfl) T.m_len boot_len (pa_cons (pv 0) pa_nil)) (nomark _)) (pss_cons (ps_set (i := 3) nd rfl (.inl rfl) (pe_ix ix_seq (pv 0) (pv 2) (fun _ _ => rfl)))
      (pss_cons (ps_if (pt_cmpR op_eq (pv 3) pe_str (nomark _)) (pss_one (ps_expr (pe_bm PySem.F.plainAttrs_list PySem.F.slot_list_append PySem.F.type_list_append mt_append (pv 1) (pa_cons pe_str pa_nil)))) (pss_one (ps_if (pt_cmpR op_eq (pv 3) pe_str (nomark _)) (pss_one (ps_expr (pe_bm PySem.F.plainAttrs_list PySem.F.slot_list_append PySem.F.type_list_append mt_append (pv 1) (pa_cons pe_str pa_nil)))) (pss_one (ps_if (PW.pt (pw_and (pt_cmpR op_eq (pv 3) pe_str (nomark _)) (pw_and1 (pt_cmpR o_lt (pe_op o_add (pv 2) pe_int) (pe_callB b_len (by rfl) T.m_len boot_len (pa_cons (pv 0) pa_nil)) (nomark _))))) (pss_cons (ps_set (i := 2) nd rfl (.inl rfl) (pe_op o_add (pv 2) pe_int))
      (pss_one (ps_expr (pe_bm PySem.F.plainAttrs_list PySem.F.slot_list_append PySem.F.type_list_append mt_append (pv 1) (pa_cons (pe_tup (pa_cons (pe_ix ix_seq (pv 0) (pv 2) (fun _ _ => rfl)) pa_nil)) pa_nil))))) (pss_one (ps_expr (pe_bm PySem.F.plainAttrs_list PySem.F.slot_list_append PySem.F.type_list_append mt_append (pv 1) (pa_cons (pe_tup (pa_cons (pv 3) pa_nil)) pa_nil)))))))))
      (pss_one (ps_set (i := 2) nd rfl (.inl rfl) (pe_op o_add (pv 2) pe_int))))))
      (pss_one (ps_ret (pv 1)))))), ?hb⟩)
  case hb =>
    obtain ⟨⟨p, rfl, c1⟩, hQ⟩ := h
    have hpl : (TL.tl p).length ≤ 10000 := by rw [← TL.len_tl]; exact c1
    refine q_asgL (xs := []) (el_lst ea_nil (Nat.zero_le _)) (fun l H1 hl e1 h1 => ?_)
    refine q_asg (v := .int 0) ev_c (fun H2 e2 => ?_)
    refine q_while (fun m σ' H' => ∃ (at_ : Nat) (a : Option V) (xs : List V) (acc : List Itm), m = (TL.tl p).length - at_ ∧ at_ ≤ (TL.tl p).length ∧ σ' = [some (.str p), some (.ref l), some (.int at_), a] ∧ Ex H H' ∧ H' l = some (.lst xs) ∧ DpAll K H' xs (acc.map itD) ∧ acc.length ≤ at_ ∧ acc ++ itemsOf ((TL.tl p).drop at_) = itemsOf (TL.tl p)) _ ⟨0, none, [], [], rfl, Nat.zero_le _, rfl, e1.trans e2, e2 l _ h1, .nil, Nat.le_refl _, by simp⟩ ?_
    rintro m σ' H' ⟨at_, a, xs, acc, rfl, hat, rfl, pe, pl, px, pa, pq⟩
    refine ⟨decide ((at_ : Int) < (p.length : Int)), by walk_at "et", fun hb H3 e3 => ?_, fun hb H3 e3 => ?_⟩
    · have hb : at_ < (TL.tl p).length := by rw [← TL.len_tl]; have := of_decide_eq_true hb; omega
      have xl := dpa_len px
      rw [List.length_map] at xl
      obtain ⟨c, hc⟩ : ∃ c, (TL.tl p)[at_]? = some c := ⟨_, List.getElem?_eq_getElem hb⟩
      have hd : (TL.tl p).drop at_ = c :: (TL.tl p).drop (at_ + 1) := by
        rw [List.drop_eq_getElem_cons hb]
        rw [List.getElem?_eq_getElem hb] at hc
        rw [Option.some.inj hc]
      have hix : atI p.cps.toList ((at_ : Nat) : Int) = some c := L2.atI_nat hc
      refine ⟨fun σ2 H2 => ∃ m', m' < (TL.tl p).length - at_ ∧ ∃ (at_ : Nat) (a : Option V) (xs : List V) (acc : List Itm), m' = (TL.tl p).length - at_ ∧ at_ ≤ (TL.tl p).length ∧ σ2 = [some (.str p), some (.ref l), some (.int at_), a] ∧ Ex H H2 ∧ H2 l = some (.lst xs) ∧ DpAll K H2 xs (acc.map itD) ∧ acc.length ≤ at_ ∧ acc ++ itemsOf ((TL.tl p).drop at_) = itemsOf (TL.tl p), fun _ _ z => z, ?_⟩
      have last : ∀ (n : Nat) (it : Itm) (σ2 : L2.St) (H4 : Hp) (ys : List V), σ2 = [some (.str p), some (.ref l), some (.int ((at_ + n : Nat) : Int)), some (.str ⟨#[c]⟩)] → at_ + n < (TL.tl p).length → Ex H H4 → H4 l = some (.lst ys) → DpAll K H4 ys ((acc.map itD) ++ [itD it]) → acc ++ itemsOf ((TL.tl p).drop at_) = (acc ++ [it]) ++ itemsOf ((TL.tl p).drop (at_ + n + 1)) →
          tAsg (tOp rAddU (tVar 2) (tC (.int 1))) (gName 2) { nx := fun σ2 H2 => ∃ m', m' < (TL.tl p).length - at_ ∧ ∃ (at_ : Nat) (a : Option V) (xs : List V) (acc : List Itm), m' = (TL.tl p).length - at_ ∧ at_ ≤ (TL.tl p).length ∧ σ2 = [some (.str p), some (.ref l), some (.int at_), a] ∧ Ex H H2 ∧ H2 l = some (.lst xs) ∧ DpAll K H2 xs (acc.map itD) ∧ acc.length ≤ at_ ∧ acc ++ itemsOf ((TL.tl p).drop at_) = itemsOf (TL.tl p), ct := fun σ2 H2 => ∃ m', m' < (TL.tl p).length - at_ ∧ ∃ (at_ : Nat) (a : Option V) (xs : List V) (acc : List Itm), m' = (TL.tl p).length - at_ ∧ at_ ≤ (TL.tl p).length ∧ σ2 = [some (.str p), some (.ref l), some (.int at_), a] ∧ Ex H H2 ∧ H2 l = some (.lst xs) ∧ DpAll K H2 xs (acc.map itD) ∧ acc.length ≤ at_ ∧ acc ++ itemsOf ((TL.tl p).drop at_) = itemsOf (TL.tl p), bk := tRet (tVar 1) { nx := fun x H' => Q V.non H', rt := Q }, rt := Q } σ2 H4 := by
        intro n it σ2 H4 ys hσ hn he hl4 hx4 hq4
        subst hσ
        refine s_asg (v := .int (((at_ + n + 1 : Nat) : Int))) (ev_is (by walk_at "ev") (by push_cast; rfl)) (fun H5 e5 => ⟨_, ?_, at_ + n + 1, _, ys, acc ++ [it], rfl, by omega, rfl, he.trans e5, e5 l _ hl4, ?_, ?_, ?_⟩)
        · omega
        · rw [List.map_append]
          exact dpa_ex e5 _ _ hx4
        · rw [List.length_append, List.length_singleton]
          omega
        · rw [← hq4]
          exact pq
      refine q_asg (v := .str ⟨#[c]⟩) (ev_op (ev_var rfl) (ev_var rfl) (rv_ixuS (by omega) hix)) (fun H4 e4 => ?_)
      have pl4 := e4 l _ (e3 l _ pl)
      have px4 := dpa_ex (e3.trans e4) _ _ px
      by_cases k1 : c = 42
      · refine q_if (b := true) (et_is (by walk_at "et") (decide_eq_true (by rw [k1]; rfl))) (fun _ H5 e5 => ?_) (fun hb => nomatch hb)
        refine s_appD (e5 l _ pl4) (ev_var rfl) (ed_ev ev_c (.str "many")) (by omega) (dpa_ex e5 _ _ px4) (lf_items _) rfl (fun H6 ys e6 _ hx => ?_)
        refine last 0 .many _ _ ys rfl hb (Ex.mut ((((pe.trans e3).trans e4).trans e5).trans e6) hl) upd_same hx ?_
        rw [hd, it_many k1]
        simp
      · refine q_if (b := false) (et_is (by walk_at "et") (show decide ((⟨#[c]⟩ : Str) = ⟨#[42]⟩) = false by rw [str_one]; exact decide_eq_false k1)) (fun hb => nomatch hb) (fun _ H5 e5 => ?_)
        by_cases k2 : c = 63
        · refine s_if (b := true) (et_is (by walk_at "et") (decide_eq_true (by rw [k2]; rfl))) (fun _ H6 e6 => ?_) (fun hb => nomatch hb)
          refine s_appD (e6 l _ (e5 l _ pl4)) (ev_var rfl) (ed_ev ev_c (.str "one")) (by omega) (dpa_ex (e5.trans e6) _ _ px4) (lf_items _) rfl (fun H7 ys e7 _ hx => ?_)
          refine last 0 .one _ _ ys rfl hb (Ex.mut (((((pe.trans e3).trans e4).trans e5).trans e6).trans e7) hl) upd_same hx ?_
          rw [hd, it_one k1 k2]
          simp
        · refine s_if (b := false) (et_is (by walk_at "et") (show decide ((⟨#[c]⟩ : Str) = ⟨#[63]⟩) = false by rw [str_one]; exact decide_eq_false k2)) (fun hb => nomatch hb) (fun _ H6 e6 => ?_)
          refine s_if (b := decide (c = 92) && decide ((at_ : Int) + 1 < (p.length : Int))) (et_is (by walk_at "et") (show (decide ((⟨#[c]⟩ : Str) = ⟨#[92]⟩) && _) = _ by rw [str_one])) (fun k3 H7 e7 => ?_) (fun k3 H7 e7 => ?_)
          · rw [Bool.and_eq_true] at k3
            have k4 := of_decide_eq_true k3.1
            have k5 := of_decide_eq_true k3.2
            have k6 : at_ + 1 < (TL.tl p).length := by rw [← TL.len_tl]; omega
            obtain ⟨c2, hc2⟩ : ∃ c, (TL.tl p)[at_ + 1]? = some c := ⟨_, List.getElem?_eq_getElem k6⟩
            have hd2 : (TL.tl p).drop (at_ + 1) = c2 :: (TL.tl p).drop (at_ + 1 + 1) := by
              rw [List.drop_eq_getElem_cons k6]
              rw [List.getElem?_eq_getElem k6] at hc2
              rw [Option.some.inj hc2]
            have hix2 : atI p.cps.toList (((at_ + 1 : Nat)) : Int) = some c2 := L2.atI_nat hc2
            refine q_asg (v := .int ((at_ + 1 : Nat) : Int)) (ev_is (by walk_at "ev") (by push_cast; rfl)) (fun H8 e8 => ?_)
            refine s_appD (d := itD (.lit c2)) (e8 l _ (e7 l _ (e6 l _ (e5 l _ pl4)))) (ev_var rfl) (ed_tup (ead_cons (ed_ev (ev_op (ev_var rfl) (ev_var rfl) (rv_ixuS (by omega) hix2)) (.str _)) ead_nil) (by simp)) (by omega) (dpa_ex (((e5.trans e6).trans e7).trans e8) _ _ px4) (lf_items _) rfl (fun H9 ys e9 _ hx => ?_)
            refine last 1 (.lit c2) _ _ ys rfl k6 (Ex.mut (((((((pe.trans e3).trans e4).trans e5).trans e6).trans e7).trans e8).trans e9) hl) upd_same hx ?_
            rw [hd, hd2, it_esc k1 k2 k4]
            simp
          · refine s_appD (d := itD (.lit c)) (e7 l _ (e6 l _ (e5 l _ pl4))) (ev_var rfl) (ed_tup (ead_cons (ed_var rfl (.str _)) ead_nil) (by simp)) (by omega) (dpa_ex ((e5.trans e6).trans e7) _ _ px4) (lf_items _) rfl (fun H9 ys e9 _ hx => ?_)
            refine last 0 (.lit c) _ _ ys rfl hb (Ex.mut ((((((pe.trans e3).trans e4).trans e5).trans e6).trans e7).trans e9) hl) upd_same hx ?_
            rw [hd, it_lit k1 k2]
            · simp
            · rintro ⟨z1, z2⟩
              have z3 : at_ + 1 < (TL.tl p).length := by
                by_cases z4 : at_ + 1 < (TL.tl p).length
                · exact z4
                · exact absurd (List.drop_eq_nil_of_le (by omega)) z2
              rw [← TL.len_tl] at z3
              rw [decide_eq_true z1, decide_eq_true (by omega)] at k3
              cases k3
    · have hb := of_decide_eq_false hb
      have hb : at_ = (TL.tl p).length := by rw [← TL.len_tl] at hat ⊢; omega
      refine s_retD (K := K) (d := .list (acc.map itD)) (ed_var rfl (dp_ex e3 _ _ (.lst (sq_of pl) px))) ?_
      have e : acc = itemsOf (TL.tl p) := by
        rw [← pq, hb, List.drop_length]
        simp [itemsOf]
      rw [e]
      exact hQ.go (pe.trans e3)


/-! the matcher -/
def hitI (T : List Nat) (I : List Itm) (at_ place : Nat) : Bool := match I[place]? with
  | some .many => false
  | some .one => true
  | some (.lit c) => decide (T[at_]? = some c)
  | none => false
def manyI (I : List Itm) (place : Nat) : Bool := decide (I[place]? = some .many)
def runL (T : List Nat) (I : List Itm) : Nat → Nat → Nat → Option Nat → Nat → Option Bool
  | 0, _, _, _, _ => none
  | m + 1, at_, place, star, held =>
    if at_ < T.length then
      if manyI I place = true then runL T I m at_ (place + 1) (some place) at_
      else if hitI T I at_ place = true then runL T I m (at_ + 1) (place + 1) star held
      else match star with
        | some s => runL T I m (held + 1) (s + 1) star (held + 1)
        | none => some false
    else some ((I.drop place).all fun x => decide (x = .many))
theorem many_lt {I : List Itm} {p : Nat} (h : manyI I p = true) : p < I.length := by
  have := of_decide_eq_true h
  exact (List.getElem?_eq_some_iff.mp this).1
theorem hit_lt {T : List Nat} {I : List Itm} {a p : Nat} (h : hitI T I a p = true) : p < I.length := by
  unfold hitI at h
  cases e : I[p]? with
  | none => rw [e] at h; cases h
  | some x => exact (List.getElem?_eq_some_iff.mp e).1
theorem run_some {T : List Nat} {I : List Itm} : ∀ (m at_ place : Nat) (star : Option Nat) (held : Nat), held ≤ at_ → at_ ≤ T.length → place ≤ I.length → (∀ s, star = some s → s < I.length) →
    (T.length - held) * ((T.length + 1) * (I.length + 1)) + (T.length - at_) * (I.length + 1) + (I.length - place) < m → runL T I m at_ place star held ≠ none
  | 0, _, _, _, _, _, _, _, _, h => absurd h (Nat.not_lt_zero _)
  | m + 1, at_, place, star, held, h1, h2, h3, h4, h => by
    unfold runL
    split
    · rename_i hlt
      split
      · rename_i hm
        have hp := many_lt hm
        refine run_some m at_ (place + 1) (some place) at_ (Nat.le_refl _) h2 hp (fun s e => by cases e; exact hp) ?_
        have q : (T.length - at_) * ((T.length + 1) * (I.length + 1)) ≤ (T.length - held) * ((T.length + 1) * (I.length + 1)) := Nat.mul_le_mul_right _ (by omega)
        omega
      · split
        · rename_i hm
          have hp := hit_lt hm
          refine run_some m (at_ + 1) (place + 1) star held (by omega) hlt hp h4 ?_
          have q : (T.length - (at_ + 1)) * (I.length + 1) ≤ (T.length - at_) * (I.length + 1) := Nat.mul_le_mul_right _ (by omega)
          omega
        · cases star with
          | none => simp
          | some s =>
            have hs := h4 s rfl
            refine run_some m (held + 1) (s + 1) (some s) (held + 1) (Nat.le_refl _) (by omega) hs h4 ?_
            have e1 : T.length - held = (T.length - (held + 1)) + 1 := by omega
            have q : (T.length - held) * ((T.length + 1) * (I.length + 1)) = (T.length - (held + 1)) * ((T.length + 1) * (I.length + 1)) + (T.length + 1) * (I.length + 1) := by rw [e1, Nat.succ_mul]
            have q2 : (T.length - (held + 1)) * (I.length + 1) ≤ T.length * (I.length + 1) := Nat.mul_le_mul_right _ (by omega)
            have q3 : (T.length + 1) * (I.length + 1) = T.length * (I.length + 1) + (I.length + 1) := Nat.succ_mul ..
            rw [q] at h
            omega
    · simp
def fuelL (T : List Nat) (I : List Itm) : Nat := T.length * ((T.length + 1) * (I.length + 1)) + T.length * (I.length + 1) + I.length + 1
def likeB (s p : Str) : Bool := (runL (TL.tl s) (itemsOf (TL.tl p)) (fuelL (TL.tl s) (itemsOf (TL.tl p))) 0 0 none 0).getD false
theorem like_run (s p : Str) : runL (TL.tl s) (itemsOf (TL.tl p)) (fuelL (TL.tl s) (itemsOf (TL.tl p))) 0 0 none 0 = some (likeB s p) := by
  have h := run_some (T := TL.tl s) (I := itemsOf (TL.tl p)) (fuelL (TL.tl s) (itemsOf (TL.tl p))) 0 0 none 0 (Nat.le_refl _) (Nat.zero_le _) (Nat.zero_le _) (fun _ e => nomatch e) (by unfold fuelL; simp only [Nat.sub_zero]; omega)
  unfold likeB
  cases e : runL (TL.tl s) (itemsOf (TL.tl p)) (fuelL (TL.tl s) (itemsOf (TL.tl p))) 0 0 none 0 with
  | none => exact absurd e h
  | some b => rfl
theorem asc_ok {s : Str} (h : Asc s) : PyData.strOk s = true := by
  unfold PyData.strOk
  rw [← Array.all_toList, List.all_eq_true]
  intro c hc
  have := h c hc
  exact decide_eq_true (by omega)
theorem asc_one {c : Nat} (h : 32 ≤ c ∧ c ≤ 126) : Asc ⟨#[c]⟩ := fun d hd => by
  have h2 : d ∈ [c] := hd
  rw [List.mem_singleton] at h2
  subst h2
  exact h
def ItOk (x : Itm) : Prop := ∀ c, x = .lit c → 32 ≤ c ∧ c ≤ 126
theorem it_shaped {x : Itm} (h : ItOk x) : SeqAt.shaped (itD x) = true := by
  cases x with
  | many => exact sh_str _ (by decide +kernel)
  | one => exact sh_str _ (by decide +kernel)
  | lit c => exact sh_tup1 (sh_str _ (asc_ok (asc_one (h c rfl)))) (by simp [PyData.depth])
theorem items_ok : ∀ (l : List Nat), (∀ c ∈ l, 32 ≤ c ∧ c ≤ 126) → ∀ x ∈ itemsOf l, ItOk x
  | [], _, x, hx => by simp [itemsOf] at hx
  | [c], h, x, hx => by
    have hc := h c (by simp)
    rw [it_eq] at hx
    split at hx
    · simp [itemsOf] at hx; subst hx; exact fun _ e => nomatch e
    · split at hx
      · simp [itemsOf] at hx; subst hx; exact fun _ e => nomatch e
      · split at hx
        · simp at hx; subst hx; exact fun d e => by cases e; omega
        · simp [itemsOf] at hx; subst hx; exact fun d e => by cases e; exact hc
  | c :: d :: r, h, x, hx => by
    have h1 := items_ok (d :: r) (fun c hc => h c (List.mem_cons_of_mem _ hc))
    have h2 := items_ok r (fun c hc => h c (List.mem_cons_of_mem _ (List.mem_cons_of_mem _ hc)))
    have hc := h c (by simp)
    have hd := h d (by simp)
    rw [it_eq] at hx
    split at hx
    · rcases List.mem_cons.mp hx with rfl | hx
      · exact fun _ e => nomatch e
      · exact h1 x hx
    · split at hx
      · rcases List.mem_cons.mp hx with rfl | hx
        · exact fun _ e => nomatch e
        · exact h1 x hx
      · split at hx
        · rcases List.mem_cons.mp hx with rfl | hx
          · exact fun z e => by cases e; exact hd
          · exact h2 x hx
        · rcases List.mem_cons.mp hx with rfl | hx
          · exact fun z e => by cases e; exact hc
          · exact h1 x hx
theorem eqv_many (x : Itm) : PyData.eqv (itD x) (.str "many") = decide (x = .many) := by
  cases x with
  | many => rfl
  | one => rfl
  | lit c => rfl
theorem eqv_one (x : Itm) : PyData.eqv (itD x) (.str "one") = decide (x = .one) := by
  cases x with
  | many => rfl
  | one => rfl
  | lit c => rfl
theorem eqv_lit (x : Itm) (c : Nat) : PyData.eqv (itD x) (.tuple [.str ⟨#[c]⟩]) = decide (x = .lit c) := by
  cases x with
  | many => rfl
  | one => rfl
  | lit d =>
    show PyData.eqv (.tuple [.str ⟨#[d]⟩]) (.tuple [.str ⟨#[c]⟩]) = _
    simp only [PyData.eqv, PyData.eqvAll, Bool.and_true]
    by_cases h : d = c
    · subst h
      simp
    · have h2 : ¬ (⟨#[d]⟩ : Str) = ⟨#[c]⟩ := by simpa using h
      simp [h, h2]

theorem c_is_like (T : Tx w K mg) : C8.Cal P w K mg base 2 "is_like" (spSS (fun s p => OkS s ∧ OkS p) (fun s p => .bl (likeB s p))) [] := by
  refine mk_cal T (x := "is_like") (i := 33) (j := 21) (N := ["text", "pattern", "items", "at", "place", "star", "held"]) (ps := ["text", "pattern"]) rfl rfl (by decide +kernel) (fun _ _ _ _ _ _ us hl => match us, hl with | [_, _], _ => rfl) (fun vs H Q E h => by obtain ⟨_, _, rfl, _⟩ := h; rfl) (fun cdv A outer s H vs Q E nd hr h => ⟨_, (pss_cons (ps_set (i := 2) nd rfl (.inl rfl) (C8.pe_c (c_pattern_items T) hr (by decide) (by rfl) (pa_cons (pv 1) pa_nil)))
      (pss_cons (ps_set (i := 3) nd rfl (.inl rfl) pe_int)
      (pss_cons (ps_set (i := 4) nd rfl (.inl rfl) pe_int)
      (pss_cons (ps_set (i := 5) nd rfl (.inl rfl) pe_non)
      (pss_cons (ps_set (i := 6) nd rfl (.inl rfl) pe_int)
      (pss_cons (ps_while PassesOwn.never (pt_cmpR o_lt (pv 3) (pe_callB b_len (by rfl) T.m_len boot_len (pa_cons (pv 0) pa_nil)) (nomark _)) (pss_one (ps_if (PW.pt (pw_and (pt_cmpR o_lt (pv 4) (pe_callB b_len (by rfl) T.m_len boot_len (pa_cons (pv 2) pa_nil)) (nomark _)) (pw_and1 (pt_cmpR (op_eqD hr.units) (pe_ix ix_seq (pv 2) (pv 4) (fun _ _ => rfl)) pe_str (nomark _))))) (pss_cons (ps_set (i := 5) nd rfl (.inl rfl) (pv 4))
      (pss_cons (ps_set (i := 6) nd rfl (.inl rfl) (pv 3))
      (pss_one (ps_set (i := 4) nd rfl (.inl rfl) (pe_op o_add (pv 4) pe_int))))) (pss_one (ps_if (PW.pt (pw_and (pt_cmpR o_lt (pv 4) (pe_callB b_len (by rfl) T.m_len boot_len (pa_cons (pv 2) pa_nil)) (nomark _)) (pw_and1 (PW.pt (pw_or (pt_cmpR (op_eqD hr.units) (pe_ix ix_seq (pv 2) (pv 4) (fun _ _ => rfl)) pe_str (nomark _)) (pw_or1 (pt_cmpR (op_eqD hr.units) (pe_ix ix_seq (pv 2) (pv 4) (fun _ _ => rfl)) (pe_tup (pa_cons (pe_ix ix_seq (pv 0) (pv 3) (fun _ _ => rfl)) pa_nil)) (nomark _)))))))) (pss_cons (ps_set (i := 4) nd rfl (.inl rfl) (pe_op o_add (pv 4) pe_int))
      (pss_one (ps_set (i := 3) nd rfl (.inl rfl) (pe_op o_add (pv 3) pe_int)))) (pss_one (ps_if (pt_cmpR o_notN (pv 5) pe_non (nomark _)) (pss_cons (ps_set (i := 6) nd rfl (.inl rfl) (pe_op o_add (pv 6) pe_int))
      (pss_cons (ps_set (i := 3) nd rfl (.inl rfl) (pv 6))
      (pss_one (ps_set (i := 4) nd rfl (.inl rfl) (pe_op o_add (pv 5) pe_int))))) (pss_one (ps_ret pe_bl)))))))))
      (pss_cons (ps_while PassesOwn.never (PW.pt (pw_and (pt_cmpR o_lt (pv 4) (pe_callB b_len (by rfl) T.m_len boot_len (pa_cons (pv 2) pa_nil)) (nomark _)) (pw_and1 (pt_cmpR (op_eqD hr.units) (pe_ix ix_seq (pv 2) (pv 4) (fun _ _ => rfl)) pe_str (nomark _))))) (pss_one (ps_set (i := 4) nd rfl (.inl rfl) (pe_op o_add (pv 4) pe_int))))
      (pss_one (ps_ret (pe_cmpR op_eq (pv 4) (pe_callB b_len (by rfl) T.m_len boot_len (pa_cons (pv 2) pa_nil)) (nomark _))))))))))), ?hb⟩)
  case hb =>
    obtain ⟨s, p, rfl, ⟨⟨c1, sA⟩, c2, pA⟩, hQ⟩ := h
    have hrun := like_run s p
    have hok : ∀ x ∈ itemsOf (TL.tl p), ItOk x := items_ok _ pA
    have hI : (itemsOf (TL.tl p)).length ≤ 10000 := Nat.le_trans (items_len _) (by rw [← TL.len_tl]; exact c2)
    generalize hIe : itemsOf (TL.tl p) = I at *
    refine q_asgD (d := .list (I.map itD)) (ed_is (ed_cR (vs := [.str p]) (by walk_at "ea") ⟨p, rfl, c2⟩) (by rw [← hIe]; rfl)) (fun iv H1 e1 hv => ?_)
    obtain ⟨l, xs, rfl, hl, hx⟩ : ∃ l xs, iv = .ref l ∧ SqL K H1 l xs ∧ DpAll K H1 xs (I.map itD) := by
      cases hv with
      | lst h1 h2 => exact ⟨_, _, rfl, h1, h2⟩
    have hn : xs.length = I.length := by rw [dpa_len hx, List.length_map]
    refine q_asg (v := .int 0) ev_c (fun H2 e2 => ?_)
    refine q_asg (v := .int 0) ev_c (fun H3 e3 => ?_)
    refine q_asg (v := .non) ev_c (fun H4 e4 => ?_)
    refine q_asg (v := .int 0) ev_c (fun H5 e5 => ?_)
    have lenv : ∀ {σ : L2.St} {H6 : Hp}, σ[2]? = some (some (.ref l)) → Ex H1 H6 → Ev (tCB (rLenU K) (tCons (tVar 2) tNil)) σ H6 (.int I.length) := fun hσ e6 => ev_is (ev_cb (ea_cons (ev_var hσ) ea_nil) (rc_lenL (ex_l e6 hl))) (by rw [hn])
    have item : ∀ {σ : L2.St} {H6 : Hp} {k : Nat} {it : Itm}, σ[2]? = some (some (.ref l)) → σ[4]? = some (some (.int (k : Int))) → Ex H1 H6 → I[k]? = some it → EvD K (tOp (rIx K) (tVar 2) (tVar 4)) σ H6 (itD it) := fun hσ hk e6 hi => ed_ixL (ed_var hσ (dp_ex e6 _ _ hv)) (ev_var hk) (L2.atI_nat (by rw [List.getElem?_map, hi]; rfl))
    have manyT : ∀ {σ : L2.St} {H6 : Hp} {k : Nat}, σ[2]? = some (some (.ref l)) → σ[4]? = some (some (.int (k : Int))) → Ex H1 H6 → EvT (tAnd (tTest (tOp rLtI (tVar 4) (tCB (rLenU K) (tCons (tVar 2) tNil)))) (tTest (tOp (rEqD K) (tOp (rIx K) (tVar 2) (tVar 4)) (tC (.str "many"))))) σ H6 (manyI I k) := by
      intro σ H6 k hσ hk e6
      unfold manyI
      by_cases hlt : k < I.length
      · have hi := List.getElem?_eq_getElem hlt
        refine et_is (et_and1 (et_is (et_test (ev_op (ev_var hk) (lenv hσ e6) rv_ltI)) (decide_eq_true (by omega))) (et_test (ev_eqD (item hσ hk e6 hi) (ed_ev ev_c (.str _)) (it_shaped (hok _ (List.getElem_mem _))) (sh_str _ (by decide +kernel))))) ?_
        rw [eqv_many, hi]
        simp
      · refine et_is (et_and0 (et_is (et_test (ev_op (ev_var hk) (lenv hσ e6) rv_ltI)) (decide_eq_false (by omega)))) ?_
        rw [List.getElem?_eq_none (by omega)]
        rfl
    refine q_while (fun m σ' H' => ∃ (at_ place held : Nat) (star : Option Nat), runL (TL.tl s) I m at_ place star held = some (likeB s p) ∧ at_ ≤ (TL.tl s).length ∧ place ≤ I.length ∧ held ≤ at_ ∧ (∀ z, star = some z → z < I.length) ∧ σ' = [some (.str s), some (.str p), some (.ref l), some (.int at_), some (.int place), some (match star with | none => V.non | some z => .int z), some (.int held)] ∧ Ex H H' ∧ Ex H1 H') _ ⟨0, 0, 0, none, hrun, Nat.zero_le _, Nat.zero_le _, Nat.le_refl _, (fun _ e => nomatch e), rfl, ((((e1.trans e2).trans e3).trans e4).trans e5), (((e2.trans e3).trans e4).trans e5)⟩ ?_
    rintro m σ' H' ⟨at_, place, held, star, hr0, hat, hpl, hhe, hst, rfl, pe, pe1⟩
    cases m with
    | zero => cases hr0
    | succ m =>
    unfold runL at hr0
    refine ⟨decide ((at_ : Int) < (s.length : Int)), by walk_at "et", fun hb H6 e6 => ?_, fun hb H6 e6 => ?_⟩
    · have hb0 : at_ < s.length := by have := of_decide_eq_true hb; omega
      have hb : at_ < (TL.tl s).length := by rw [← TL.len_tl]; exact hb0
      rw [if_pos hb] at hr0
      refine ⟨fun σ2 H2 => ∃ m', m' < m + 1 ∧ ∃ (at_ place held : Nat) (star : Option Nat), runL (TL.tl s) I m' at_ place star held = some (likeB s p) ∧ at_ ≤ (TL.tl s).length ∧ place ≤ I.length ∧ held ≤ at_ ∧ (∀ z, star = some z → z < I.length) ∧ σ2 = [some (.str s), some (.str p), some (.ref l), some (.int at_), some (.int place), some (match star with | none => V.non | some z => .int z), some (.int held)] ∧ Ex H H2 ∧ Ex H1 H2, fun _ _ z => z, ?_⟩
      refine s_if (b := manyI I place) (manyT rfl rfl (pe1.trans e6)) (fun hm H7 e7 => ?_) (fun hm H7 e7 => ?_)
      · rw [if_pos hm] at hr0
        have hp := many_lt hm
        refine q_asg (v := .int place) (ev_var rfl) (fun H8 e8 => ?_)
        refine q_asg (v := .int at_) (ev_var rfl) (fun H9 e9 => ?_)
        refine s_asg (v := .int ((place + 1 : Nat) : Int)) (ev_is (by walk_at "ev") (by push_cast; rfl)) (fun H10 e10 => ⟨m, Nat.lt_succ_self _, at_, place + 1, at_, some place, hr0, hat, hp, Nat.le_refl _, fun z e => by cases e; exact hp, rfl, ((((pe.trans e6).trans e7).trans e8).trans e9).trans e10, ((((pe1.trans e6).trans e7).trans e8).trans e9).trans e10⟩)
      · rw [if_neg (by rw [hm]; exact Bool.false_ne_true)] at hr0
        have hitT : EvT (tAnd (tTest (tOp rLtI (tVar 4) (tCB (rLenU K) (tCons (tVar 2) tNil)))) (tOr (tTest (tOp (rEqD K) (tOp (rIx K) (tVar 2) (tVar 4)) (tC (.str "one")))) (tTest (tOp (rEqD K) (tOp (rIx K) (tVar 2) (tVar 4)) (tTup (tCons (tOp (rIx K) (tVar 0) (tVar 3)) tNil)))))) [some (.str s), some (.str p), some (.ref l), some (.int at_), some (.int place), some (match star with | none => V.non | some z => .int z), some (.int held)] H7 (hitI (TL.tl s) I at_ place) := by
          have e67 := (pe1.trans e6).trans e7
          by_cases hlt : place < I.length
          · have hi := List.getElem?_eq_getElem hlt
            have hc := List.getElem?_eq_getElem hb
            refine et_is (et_and1 (et_is (et_test (ev_op (ev_var rfl) (lenv rfl e67) rv_ltI)) (decide_eq_true (by omega))) (et_or (et_test (ev_eqD (item rfl rfl e67 hi) (ed_ev ev_c (.str _)) (it_shaped (hok _ (List.getElem_mem _))) (sh_str _ (by decide +kernel)))) (fun _ => et_test (ev_eqD (d2 := .tuple [.str ⟨#[(TL.tl s)[at_]]⟩]) (item rfl rfl e67 hi) (ed_tup (ead_cons (ed_ev (ev_op (ev_var rfl) (ev_var rfl) (rv_ixuS (by omega) (L2.atI_nat hc))) (.str _)) ead_nil) (by simp)) (it_shaped (hok _ (List.getElem_mem _))) (it_shaped (x := .lit (TL.tl s)[at_]) (fun c e => by cases e; exact sA _ (List.getElem_mem _))))))) ?_
            rw [eqv_one, eqv_lit]
            have hm2 : ¬ I[place] = .many := fun z => by
              unfold manyI at hm
              rw [hi, z] at hm
              simp at hm
            unfold hitI
            rw [hi, hc]
            cases hq : I[place] with
            | many => exact absurd hq hm2
            | one => rfl
            | lit c =>
              by_cases hcc : (TL.tl s)[at_] = c
              · subst hcc
                simp
              · have hcc2 : ¬ c = (TL.tl s)[at_] := fun z => hcc z.symm
                rw [decide_eq_false (fun z => nomatch z), Bool.false_or, decide_eq_false (fun z => hcc2 (Itm.lit.inj z))]
                exact (decide_eq_false (fun z => hcc (Option.some.inj z))).symm
          · refine et_is (et_and0 (et_is (et_test (ev_op (ev_var rfl) (lenv rfl e67) rv_ltI)) (decide_eq_false (by omega)))) ?_
            unfold hitI
            rw [List.getElem?_eq_none (by omega)]
        refine s_if (b := hitI (TL.tl s) I at_ place) hitT (fun hh H8 e8 => ?_) (fun hh H8 e8 => ?_)
        · rw [if_pos hh] at hr0
          have hp := hit_lt hh
          refine q_asg (v := .int ((place + 1 : Nat) : Int)) (ev_is (by walk_at "ev") (by push_cast; rfl)) (fun H9 e9 => ?_)
          refine s_asg (v := .int ((at_ + 1 : Nat) : Int)) (ev_is (by walk_at "ev") (by push_cast; rfl)) (fun H10 e10 => ⟨m, Nat.lt_succ_self _, at_ + 1, place + 1, held, star, hr0, hb, hp, by omega, hst, rfl, ((((pe.trans e6).trans e7).trans e8).trans e9).trans e10, ((((pe1.trans e6).trans e7).trans e8).trans e9).trans e10⟩)
        · rw [if_neg (by rw [hh]; exact Bool.false_ne_true)] at hr0
          cases star with
          | none =>
            have hr1 : false = likeB s p := Option.some.inj hr0
            refine s_if (b := false) (by walk_at "et") (fun z => nomatch z) (fun _ H9 e9 => ?_)
            exact s_ret (v := .bl false) ev_c (fun H10 e10 => fin hQ (((((pe.trans e6).trans e7).trans e8).trans e9).trans e10) (congrArg V.bl hr1))
          | some z =>
            have hz := hst z rfl
            refine s_if (b := true) (by walk_at "et") (fun _ H9 e9 => ?_) (fun z => nomatch z)
            refine q_asg (v := .int ((held + 1 : Nat) : Int)) (ev_is (by walk_at "ev") (by push_cast; rfl)) (fun H10 e10 => ?_)
            refine q_asg (v := .int ((held + 1 : Nat) : Int)) (ev_var rfl) (fun H11 e11 => ?_)
            refine s_asg (v := .int ((z + 1 : Nat) : Int)) (ev_is (by walk_at "ev") (by push_cast; rfl)) (fun H12 e12 => ⟨m, Nat.lt_succ_self _, held + 1, z + 1, held + 1, some z, hr0, by omega, hz, Nat.le_refl _, hst, rfl, ((((((pe.trans e6).trans e7).trans e8).trans e9).trans e10).trans e11).trans e12, ((((((pe1.trans e6).trans e7).trans e8).trans e9).trans e10).trans e11).trans e12⟩)
    · have hb := of_decide_eq_false hb
      have hb : ¬ at_ < (TL.tl s).length := by rw [← TL.len_tl]; omega
      rw [if_neg hb] at hr0
      have hr1 : ((I.drop place).all fun x => decide (x = .many)) = likeB s p := Option.some.inj hr0
      refine q_while (fun m σ' H' => ∃ place : Nat, m = I.length - place ∧ place ≤ I.length ∧ ((I.drop place).all fun x => decide (x = .many)) = likeB s p ∧ (∃ a b c, σ' = [some (.str s), some (.str p), some (.ref l), a, some (.int place), b, c]) ∧ Ex H H' ∧ Ex H1 H') _ ⟨place, rfl, hpl, hr1, ⟨_, _, _, rfl⟩, pe.trans e6, pe1.trans e6⟩ ?_
      rintro m2 σ' H' ⟨pl2, rfl, hpl2, hr2, ⟨a, b, c, rfl⟩, qe, qe1⟩
      refine ⟨manyI I pl2, manyT rfl rfl qe1, fun hm H7 e7 => ?_, fun hm H7 e7 => ?_⟩
      · have hp := many_lt hm
        refine ⟨fun σ2 H2 => ∃ m', m' < I.length - pl2 ∧ ∃ place : Nat, m' = I.length - place ∧ place ≤ I.length ∧ ((I.drop place).all fun x => decide (x = .many)) = likeB s p ∧ (∃ a b c, σ2 = [some (.str s), some (.str p), some (.ref l), a, some (.int place), b, c]) ∧ Ex H H2 ∧ Ex H1 H2, fun _ _ z => z, ?_⟩
        refine s_asg (v := .int ((pl2 + 1 : Nat) : Int)) (ev_is (by walk_at "ev") (by push_cast; rfl)) (fun H8 e8 => ⟨_, ?_, pl2 + 1, rfl, hp, ?_, ⟨a, b, c, rfl⟩, (qe.trans e7).trans e8, (qe1.trans e7).trans e8⟩)
        · omega
        · rw [← hr2, List.drop_eq_getElem_cons hp, List.all_cons]
          have hm := of_decide_eq_true hm
          rw [List.getElem?_eq_getElem hp] at hm
          rw [Option.some.inj hm]
          simp
      · refine s_ret (ev_op (ev_var rfl) (lenv rfl (qe1.trans e7)) rv_eqII) (fun H8 e8 => fin hQ ((qe.trans e7).trans e8) ?_)
        show V.bl _ = V.bl (likeB s p)
        rw [← hr2]
        congr 1
        by_cases hlt : pl2 < I.length
        · rw [List.drop_eq_getElem_cons hlt, List.all_cons]
          have hm := of_decide_eq_false hm
          rw [List.getElem?_eq_getElem hlt] at hm
          have hm2 : ¬ I[pl2] = .many := fun z => hm (by rw [z])
          rw [decide_eq_false hm2, decide_eq_false (by omega)]
          rfl
        · rw [List.drop_eq_nil_of_le (by omega), decide_eq_true (by omega)]
          rfl


def likeF (a b : V) : V := match a, b with
  | .str s, .str t => .bl (likeB s t)
  | _, _ => .non

theorem c_like (T : Tx w K mg) : C8.Cal P w K mg base 3 "like" (spVV (fun a b => OptS a ∧ OptS b) likeF) [] := by
  refine mk_cal T (x := "like") (i := 94) (j := 71) (N := ["value", "pattern"]) (ps := ["value", "pattern"]) rfl rfl (by decide +kernel) (fun _ _ _ _ _ _ us hl => match us, hl with | [_, _], _ => rfl) (fun vs H Q E h => by obtain ⟨_, _, rfl, _⟩ := h; rfl) (fun cdv A outer s H vs Q E nd hr h => ⟨_, (pss_one (ps_ret (pe_ifExp (pt_val (C8.pe_c (c_are_texts T) hr (by decide) (by rfl) (pa_cons (pv 0) (pa_cons (pv 1) pa_nil)))) (C8.pe_c (c_is_like T) hr (by decide) (by rfl) (pa_cons (pv 0) (pa_cons (pv 1) pa_nil))) pe_non))), ?hb⟩)
  case hb =>
    obtain ⟨a, b, rfl, c, hQ⟩ := h
    rcases c with ⟨c1, c2⟩
    rcases c1 with rfl | ⟨s, rfl, c1, c3⟩ <;> rcases c2 with rfl | ⟨t, rfl, c2, c4⟩
    · have := sc_non
      walk_at "st"; rfl
    · have := sc_non
      have := sc_str t
      walk_at "st"; rfl
    · have := sc_non
      have := sc_str s
      walk_at "st"; rfl
    · have := sc_str s
      have := sc_str t
      walk_at "st"; rfl

end

end

section
/-! ### the reading by itself: a value (ev), a test (et), arguments (ea), an operation on values (rv), a built-in call (rc), side conditions (sd), statements (st) -/
local macro_rules | `(tactic| walk_at "sd") => `(tactic| first | exact True.intro | assumption | omega | decide | exact Or.inl rfl | exact Or.inr ⟨_, rfl⟩ | exact Or.inr ⟨_, rfl, by assumption, by assumption⟩ | exact Or.inr ⟨_, rfl, by omega, by omega⟩ | (refine ⟨?_, ?_⟩ <;> walk_at "sd") | (simp only [*] <;> omega))
local macro_rules | `(tactic| walk_at "ea") => `(tactic| first
  | (with_reducible exact ea_nil)
  | ((with_reducible refine' ea_cons ?ha ?hr); (case ha => walk_at "ev"); (case hr => walk_at "ea")))
local macro_rules | `(tactic| walk_at "rv") => `(tactic| first
  | ((with_reducible show RV rAddU _ _ _ _); first | exact rv_addI | (refine' rv_addS ?h; (case h => walk_at "sd")))
  | ((with_reducible show RV rSubI _ _ _ _); exact rv_subI)
  | ((with_reducible show RV rMulI _ _ _ _); first | exact rv_mulL (by omega) (by omega) | exact rv_mulR (by omega) (by omega))
  | ((with_reducible show RV rMulS _ _ _ _); refine' rv_mulS ?h1 ?h2 ?h3; (case h1 => walk_at "sd"); (case h2 => walk_at "sd"); (case h3 => walk_at "sd"))
  | ((with_reducible show RV rDivI _ _ _ _); exact rv_divI (by omega) (by omega))
  | ((with_reducible show RV rModI _ _ _ _); exact rv_modI (by omega))
  | ((with_reducible show RV rLtI _ _ _ _); exact rv_ltI)
  | ((with_reducible show RV rLeI _ _ _ _); exact rv_leI)
  | ((with_reducible show RV rGtI _ _ _ _); exact rv_gtI)
  | ((with_reducible show RV rGeI _ _ _ _); exact rv_geI)
  | ((with_reducible show RV Y.rIsN _ _ _ _); first | exact rv_isN1 | exact rv_isN0 rfl)
  | ((with_reducible show RV Y.rNotN _ _ _ _); first | exact rv_notN1 | exact rv_notN0 rfl)
  | ((with_reducible show RV (rIsU _) _ _ _ _); first | exact rv_isBB | exact rv_isNB | exact rv_isIB | exact rv_isSB | exact rv_isnBB)
  | ((with_reducible show RV rEq _ _ _ _); first | exact rv_eqII | exact rv_eqSS | exact rv_eqBB | exact rv_eq rfl)
  | ((with_reducible show RV rNe _ _ _ _); first | exact rv_neII | exact rv_neSS | exact rv_neBB | exact rv_ne rfl)
  | ((with_reducible show RV (rIx _) _ _ _ _); first | exact rv_ixuT (by assumption) rfl | exact rv_ixuL (by assumption) rfl | exact rv_ixuT (by assumption) (by assumption) | exact rv_ixuL (by assumption) (by assumption) | exact rv_ixuS (by assumption) (by assumption)))
local macro_rules | `(tactic| walk_at "eo") => `(tactic| first | (with_reducible exact eo_none) | ((with_reducible refine' eo_some ?hx); (case hx => walk_at "ev")))
local macro_rules | `(tactic| walk_at "rm") => `(tactic| first
  | ((with_reducible show RM rStart _ _ _ _); exact rm_start)
  | ((with_reducible show RM rFind _ _ _ _); exact rm_find)
  | ((with_reducible show RM rDigit _ _ _ _); exact rm_digit)
  | ((with_reducible show RM rStrip _ _ _ _); refine' rm_strip ?hz; (case hz => walk_at "sd"))
  | ((with_reducible show RM rLStrip _ _ _ _); refine' rm_lstrip ?hz; (case hz => walk_at "sd"))
  | ((with_reducible show RM rRStrip _ _ _ _); refine' rm_rstrip ?hz; (case hz => walk_at "sd"))
  | ((with_reducible show RM rZfill _ _ _ _); exact rm_zfill rfl))
local macro_rules | `(tactic| walk_at "eu") => `(tactic| first
  | ((with_reducible refine' eu_date ?ha ?h1 ?h2); (case ha => walk_at "ea"); (case h1 => walk_at "sd"); (case h2 => walk_at "sd"))
  | ((with_reducible refine' eu_tup ?ha ?hl); (case ha => walk_at "ea"); (case hl => exact Nat.le_of_ble_eq_true rfl)))
local macro_rules | `(tactic| walk_at "rc") => `(tactic| first
  | ((with_reducible show RC (rLenU _) _ _ _); first | exact rc_lenL (by assumption) | exact rc_lenT (by assumption) | (refine' rc_lenS ?h; (case h => walk_at "sd")))
  | ((with_reducible show RC rAbsI _ _ _); exact rc_abs)
  | ((with_reducible show RC rMaxI _ _ _); exact rc_max)
  | ((with_reducible show RC rMinI _ _ _); exact rc_min)
  | ((with_reducible show RC rIntU _ _ _); first | exact rc_intI | exact rc_intB)
  | ((with_reducible show RC rStrI _ _ _); refine' rc_str ?h; (case h => walk_at "sd"))
  | ((with_reducible show RC (rIsi _) _ _ _); first
      | exact rc_isi kb_nb tx_non | exact rc_isi kb_ni tx_non | exact rc_isi kb_ns tx_non
      | exact rc_isi kb_bb (tx_bl _) | exact rc_isi kb_bi (tx_bl _) | exact rc_isi kb_bs (tx_bl _)
      | exact rc_isi kb_ib (tx_int _) | exact rc_isi kb_ii (tx_int _) | exact rc_isi kb_is (tx_int _)
      | exact rc_isi kb_sb (tx_str _) | exact rc_isi kb_si (tx_str _) | exact rc_isi kb_ss (tx_str _)))
local macro_rules | `(tactic| walk_at "ev") => `(tactic| first
  | (with_reducible exact ev_c)
  | ((with_reducible refine' ev_var ?hv); (case hv => rfl))
  | ((with_reducible refine' ev_op ?ha ?hb ?hr); (case ha => walk_at "ev"); (case hb => walk_at "ev"); (case hr => walk_at "rv"))
  | ((with_reducible refine' ev_ixU1 ?ha ?hb ?hi); (case ha => walk_at "eu"); (case hb => walk_at "ev"); (case hi => rfl))
  | ((with_reducible refine' ev_m0 ?ho ?hr); (case ho => walk_at "ev"); (case hr => walk_at "rm"))
  | ((with_reducible refine' ev_m1 ?ho ?he ?hr); (case ho => walk_at "ev"); (case he => walk_at "ev"); (case hr => walk_at "rm"))
  | ((with_reducible refine' ev_slS ?hx ?h1 ?h2 ?hz); (case hx => walk_at "ev"); (case h1 => walk_at "eo"); (case h2 => walk_at "eo"); (case hz => walk_at "sd"))
  | ((with_reducible refine' ev_un ?ha ?hr); (case ha => walk_at "ev"); (case hr => exact ru_negI))
  | ((with_reducible refine' ev_cb ?ha ?hr); (case ha => walk_at "ea"); (case hr => walk_at "rc"))
  | ((with_reducible show Ev (tIf _ _ _) _ _ _); first
      | (refine' ev_ifT ?ht ?hx; (case ht => walk_at "et"); (case hx => walk_at "ev"))
      | (refine' ev_ifF ?ht ?hx; (case ht => walk_at "et"); (case hx => walk_at "ev"))
      | (refine' ev_ifB ?ht ?hx ?hy; (case ht => walk_at "et"); (case hx => (intro hb; walk_at "ev")); (case hy => (intro hb; walk_at "ev"))))
  | ((with_reducible show Ev (tAndV _ _) _ _ _); first
      | (refine' ev_and0 ?h1; (case h1 => walk_at "ev"))
      | (refine' ev_and1 ?h1 ?h2; (case h1 => walk_at "ev"); (case h2 => walk_at "ev"))
      | (refine' ev_andV ?h1 ?h2; (case h1 => walk_at "ev"); (case h2 => (intro hb; walk_at "ev"))))
  | ((with_reducible show Ev (tOrV _ _) _ _ _); first
      | (refine' ev_or1 ?h1; (case h1 => walk_at "ev"))
      | (refine' ev_or0 ?h1 ?h2; (case h1 => walk_at "ev"); (case h2 => walk_at "ev"))
      | (refine' ev_orV ?h1 ?h2; (case h1 => walk_at "ev"); (case h2 => (intro hb; walk_at "ev"))))
  | ((with_reducible show Ev (tNotV _) _ _ _); refine' ev_notV ?h1; (case h1 => walk_at "ev"))
  | ((with_reducible show Ev (tChain _ _ _ _ _) _ _ _); refine' ev_is (ev_chainI ?ha ?hb ?hc ?hr ?hs) ?he; (case ha => walk_at "ev"); (case hb => walk_at "ev"); (case hc => walk_at "ev"); (case hr => walk_at "rv"); (case hs => walk_at "rv"); (case he => rfl))
  | ((with_reducible show Ev (tCall _ _ _ _) _ _ _); refine' ev_is ?hk ?he; (case hk => first
      | ((with_reducible refine' ec_I ?ha ?hc); (case ha => walk_at "ea"); (case hc => walk_at "sd"))
      | ((with_reducible refine' ec_II ?ha ?hc); (case ha => walk_at "ea"); (case hc => walk_at "sd"))
      | ((with_reducible refine' ec_III ?ha ?hc); (case ha => walk_at "ea"); (case hc => walk_at "sd"))
      | ((with_reducible refine' ec_V ?ha ?hc); (case ha => walk_at "ea"); (case hc => walk_at "sd"))
      | ((with_reducible refine' ec_VV ?ha ?hc); (case ha => walk_at "ea"); (case hc => walk_at "sd"))
      | ((with_reducible refine' ec_VVV ?ha ?hc); (case ha => walk_at "ea"); (case hc => walk_at "sd"))
      | ((with_reducible refine' ec_S ?ha ?hc); (case ha => walk_at "ea"); (case hc => walk_at "sd"))
      | ((with_reducible refine' ec_SS ?ha ?hc); (case ha => walk_at "ea"); (case hc => walk_at "sd"))
      | ((with_reducible refine' ec_SSS ?ha ?hc); (case ha => walk_at "ea"); (case hc => walk_at "sd"))); (case he => rfl)))
local macro_rules | `(tactic| walk_at "et") => `(tactic| first
  | ((with_reducible show EvT (tTest _) _ _ _); refine' et_is (et_test ?h) ?he; (case h => walk_at "ev"); (case he => rfl))
  | ((with_reducible show EvT (tB _) _ _ _); refine' et_is (et_B ?h) ?he; (case h => walk_at "ev"); (case he => rfl))
  | ((with_reducible show EvT (tNot _) _ _ _); refine' et_is (et_not ?h) ?he; (case h => walk_at "et"); (case he => rfl))
  | ((with_reducible show EvT (tAnd _ _) _ _ _); first
      | (refine' et_is (et_and0 ?h1) ?he; (case h1 => walk_at "et"); (case he => rfl))
      | (refine' et_and1 ?h1 ?h2; (case h1 => walk_at "et"); (case h2 => walk_at "et"))
      | (refine' et_and ?h1 ?h2; (case h1 => walk_at "et"); (case h2 => (intro hb; walk_at "et"))))
  | ((with_reducible show EvT (tOr _ _) _ _ _); first
      | (refine' et_is (et_or1 ?h1) ?he; (case h1 => walk_at "et"); (case he => rfl))
      | (refine' et_or0 ?h1 ?h2; (case h1 => walk_at "et"); (case h2 => walk_at "et"))
      | (refine' et_or ?h1 ?h2; (case h1 => walk_at "et"); (case h2 => (intro hb; walk_at "et")))))
local macro_rules | `(tactic| walk_at "ex") => `(tactic| first | exact Ex.refl _ | assumption | (refine Ex.trans ?hx (by assumption); (case hx => walk_at "ex")))
local macro_rules | `(tactic| walk_at "st") => `(tactic| first
  | ((with_reducible show tRet (tTup _) _ _ _); refine' s_retD ?ht (finD (by assumption) (by walk_at "ex") ?he); (case ht => walk_at "ed"))
  | ((with_reducible show tSeq (tIfS _ _ tNext) _ _ _ _); refine' q_when ?ht ?h1 ?h2; (case ht => walk_at "et"); all_goals ((intro hb H1 e1); first | (exfalso; cases hb; done) | walk_at "st" | (exfalso; simp_all; done)))
  | ((with_reducible show tSeq (tIfS _ _ _) _ _ _ _); refine' q_if ?ht ?h1 ?h2; (case ht => walk_at "et"); all_goals ((intro hb H1 e1); first | (exfalso; cases hb; done) | walk_at "st" | (exfalso; simp_all; done)))
  | ((with_reducible show tIfS _ _ _ _ _ _); refine' s_if ?ht ?h1 ?h2; (case ht => walk_at "et"); all_goals ((intro hb H1 e1); first | (exfalso; cases hb; done) | walk_at "st" | (exfalso; simp_all; done)))
  | ((with_reducible show tSeq (tAsg _ (gName _)) _ _ _ _); refine' q_asg ?ht ?h1; (case ht => walk_at "ev"); (intro H1 e1; walk_at "st"))
  | ((with_reducible show tRet _ _ _ _); refine' s_ret ?ht ?h1; (case ht => walk_at "ev"); (intro H1 e1; refine fin (by assumption) (by walk_at "ex") ?he))
  | ((with_reducible show tRet _ _ _ _); refine' s_retD ?ht (finD (by assumption) (by walk_at "ex") ?he); (case ht => walk_at "ed")))
local macro_rules | `(tactic| walk_at "ad") => `(tactic| first
  | (with_reducible exact ead_nil)
  | ((with_reducible refine' ead_cons ?ha ?hr); (case ha => walk_at "ed"); (case hr => walk_at "ad")))
local macro_rules | `(tactic| walk_at "ed") => `(tactic| first
  | ((with_reducible refine' ed_tup ?ha ?hl); (case ha => walk_at "ad"); (case hl => exact Nat.le_of_ble_eq_true rfl))
  | ((with_reducible refine' ed_lst ?ha ?hl); (case ha => walk_at "ad"); (case hl => exact Nat.le_of_ble_eq_true rfl))
  | ((with_reducible refine' ed_var ?ha ?hl); (case ha => rfl); (case hl => first | assumption | constructor))
  | (refine' ed_ev ?ha ?hl; (case ha => walk_at "ev"); (case hl => constructor)))
local macro_rules | `(tactic| walk_at "as") => `(tactic| ((with_reducible show tSeq (tAsg _ (gName _)) _ _ _ _); refine' q_asg ?ht ?h1; (case ht => walk_at "ev"); intro H1 e1))
local macro_rules | `(tactic| walk_at "as1") => `(tactic| ((with_reducible show tAsg _ (gName _) _ _ _); refine' s_asg ?ht ?h1; (case ht => walk_at "ev"); intro H1 e1))
local macro_rules | `(tactic| walk_at "ru") => `(tactic| ((with_reducible show tRet (tTup _) _ _ _); refine' s_retU (eu_tup ?ha ?hl) ?hk; (case ha => walk_at "ea"); (case hl => exact Nat.le_of_ble_eq_true rfl); intro p H1 np e1 hp))

section
variable {P : Program} {w : World} {K : PySem.W.Frag} {mg : Str → Option Value} {base : Heap}

/-! ### ranks -/
/-- a value of the law: texts are short and plain -/
def OkV : V → Prop
  | .non => True
  | .bl _ => True
  | .int _ => True
  | .str s => OkS s
  | _ => False
theorem OkV.sc {v : V} (h : OkV v) : Sc v := by
  cases v <;> first | exact False.elim h | exact True.intro
def rankD : V → PyData
  | .non => .tuple [.int 0, .int 0]
  | .bl b => .tuple [.int 1, .int (if b then 1 else 0)]
  | .int i => .tuple [.int 2, .int i]
  | .str s => .tuple [.int 3, .str s]
  | _ => .none
theorem rank_shaped {v : V} (h : OkV v) : SeqAt.shaped (rankD v) = true := by
  cases v <;> first
    | exact False.elim h
    | exact sh_tup2 (sh_int _) (sh_int _) (by simp [PyData.depth]) (by simp [PyData.depth])
    | exact sh_tup2 (sh_int _) (sh_str _ (asc_ok h.2)) (by simp [PyData.depth]) (by simp [PyData.depth])
def sameB (a b : V) : Bool := PyData.eqv (rankD a) (rankD b)
def ltB (a b : V) : Bool := PySem.W.dataLt (rankD a) (rankD b)
theorem rank_alike {a b : V} (ha : OkV a) (hb : OkV b) (h : krV a = krV b) : PySem.W.alike (rankD a) (rankD b) = true := by
  cases a <;> first
    | exact False.elim ha
    | (cases b <;> first
        | exact False.elim hb
        | rfl
        | simp [krV] at h)
theorem rank_depth (a : V) : (rankD a).depth ≤ 64 := by
  cases a <;> simp [rankD, PyData.depth, PyData.depthAll]
theorem rank_ne {a : V} (ha : OkV a) : rankD a ≠ .none := by
  cases a <;> first | exact False.elim ha | exact fun z => nomatch z
def rankR : List V → PyData
  | [v] => rankD v
  | _ => .none
theorem q_whenD {b : Bool} {t : TT} {tu tz : TS} {D : Ends} {σ : L2.St} {H : Hp} (h : EvT t σ H b) (h1 : b = true → ∀ H1, Ex H H1 → tu { D with nx := tz D } σ H1) (h2 : b = false → ∀ H1, Ex H H1 → tz D σ H1) : tSeq (tIfS t tu tNext) tz D σ H := q_when h h1 h2

theorem c_rank (T : Tx w K mg) : C8.Cal P w K mg base 1 "rank" (spR K (fun vs => ∃ v, vs = [v] ∧ Sc v) rankR) [] := by
  refine mk_cal T (x := "rank") (i := 3) (j := 2) (N := ["value"]) (ps := ["value"]) rfl rfl (by decide +kernel) (fun _ _ _ _ _ _ us hl => match us, hl with | [_], _ => rfl) (fun vs H Q E h => by obtain ⟨⟨_, rfl, _⟩, _⟩ := h; rfl) (fun cdv A outer s H vs Q E nd hr h => ⟨_, (pss_cons (ps_if (pt_cmpR o_isN (pv 0) pe_non (nomark _)) (pss_one (ps_ret (pe_tup (pa_cons pe_int (pa_cons pe_int pa_nil))))) pss_nil)
      (pss_cons (ps_if (pt_val (pe_callB call_isi (by rfl) T.m_isinstance boot_isinstance (pa_cons (pv 0) (pa_cons (pe_bltn (v := .ty "bool") (by rfl) T.m_bool boot_bool rfl) pa_nil)))) (pss_one (ps_ret (pe_tup (pa_cons pe_int (pa_cons (pe_callTy b_int (by rfl) T.m_int boot_int (pa_cons (pv 0) pa_nil)) pa_nil))))) pss_nil)
      (pss_cons (ps_if (pt_val (pe_callB call_isi (by rfl) T.m_isinstance boot_isinstance (pa_cons (pv 0) (pa_cons (pe_bltn (v := .ty "int") (by rfl) T.m_int boot_int rfl) pa_nil)))) (pss_one (ps_ret (pe_tup (pa_cons pe_int (pa_cons (pv 0) pa_nil))))) pss_nil)
      (pss_one (ps_ret (pe_tup (pa_cons pe_int (pa_cons (pv 0) pa_nil)))))))), ?hb⟩)
  case hb =>
    obtain ⟨⟨a, rfl, c⟩, hQ⟩ := h
    cases a <;> first | exact False.elim c | (walk_at "st"; rfl)

theorem c__law_rank (T : Tx w K mg) : C8.Cal P w K mg base 1 "_law_rank" (spR K (fun vs => ∃ v, vs = [v] ∧ Sc v) rankR) [] := by
  refine mk_cal T (x := "_law_rank") (i := 125) (j := 96) (N := ["_law_value"]) (ps := ["_law_value"]) rfl rfl (by decide +kernel) (fun _ _ _ _ _ _ us hl => match us, hl with | [_], _ => rfl) (fun vs H Q E h => by obtain ⟨⟨_, rfl, _⟩, _⟩ := h; rfl) (fun cdv A outer s H vs Q E nd hr h => ⟨_, (pss_cons (ps_if (pt_cmpR o_isN (pv 0) pe_non (nomark _)) (pss_one (ps_ret (pe_tup (pa_cons pe_int (pa_cons pe_int pa_nil))))) pss_nil)
      (pss_cons (ps_if (pt_cmpR o_isU (pv 0) pe_bl (nomark _)) (pss_one (ps_ret (pe_tup (pa_cons pe_int (pa_cons pe_int pa_nil))))) pss_nil)
      (pss_cons (ps_if (pt_cmpR o_isU (pv 0) pe_bl (nomark _)) (pss_one (ps_ret (pe_tup (pa_cons pe_int (pa_cons pe_int pa_nil))))) pss_nil)
      (pss_cons (ps_if (pt_val (pe_callB call_isi (by rfl) T.m_isinstance boot_isinstance (pa_cons (pv 0) (pa_cons (pe_bltn (v := .ty "str") (by rfl) T.m_str boot_str rfl) pa_nil)))) (pss_one (ps_ret (pe_tup (pa_cons pe_int (pa_cons (pv 0) pa_nil))))) pss_nil)
      (pss_one (ps_ret (pe_tup (pa_cons pe_int (pa_cons (pv 0) pa_nil))))))))), ?hb⟩)
  case hb =>
    obtain ⟨⟨a, rfl, c⟩, hQ⟩ := h
    cases a with
    | bl b => cases b <;> (walk_at "st"; rfl)
    | non => walk_at "st"; rfl
    | int i => walk_at "st"; rfl
    | str s => walk_at "st"; rfl
    | _ => exact False.elim c

theorem c_same (T : Tx w K mg) : C8.Cal P w K mg base 2 "same" (spVV (fun a b => OkV a ∧ OkV b) (fun a b => .bl (sameB a b))) [] := by
  refine mk_cal T (x := "same") (i := 4) (j := 3) (N := ["first", "second"]) (ps := ["first", "second"]) rfl rfl (by decide +kernel) (fun _ _ _ _ _ _ us hl => match us, hl with | [_, _], _ => rfl) (fun vs H Q E h => by obtain ⟨_, _, rfl, _⟩ := h; rfl) (fun cdv A outer s H vs Q E nd hr h => ⟨_, (pss_one (ps_ret (pe_cmpR (op_eqD hr.units) (C8.pe_c (c_rank T) hr (by decide) (by rfl) (pa_cons (pv 0) pa_nil)) (C8.pe_c (c_rank T) hr (by decide) (by rfl) (pa_cons (pv 1) pa_nil)) (nomark _)))), ?hb⟩)
  case hb =>
    obtain ⟨a, b, rfl, c, hQ⟩ := h
    exact s_ret (ev_eqD (ed_cR (f := rankR) (vs := [a]) (ea_cons (ev_var rfl) ea_nil) ⟨_, rfl, c.1.sc⟩) (ed_cR (f := rankR) (vs := [b]) (ea_cons (ev_var rfl) ea_nil) ⟨_, rfl, c.2.sc⟩) (rank_shaped c.1) (rank_shaped c.2)) (fun H1 e1 => fin hQ e1 rfl)

theorem c_before (T : Tx w K mg) : C8.Cal P w K mg base 2 "before" (spVV (fun a b => OkV a ∧ OkV b ∧ krV a = krV b) (fun a b => .bl (ltB a b))) [] := by
  refine mk_cal T (x := "before") (i := 5) (j := 4) (N := ["first", "second"]) (ps := ["first", "second"]) rfl rfl (by decide +kernel) (fun _ _ _ _ _ _ us hl => match us, hl with | [_, _], _ => rfl) (fun vs H Q E h => by obtain ⟨_, _, rfl, _⟩ := h; rfl) (fun cdv A outer s H vs Q E nd hr h => ⟨_, (pss_one (ps_ret (pe_cmpR (op_ltD hr.units) (C8.pe_c (c_rank T) hr (by decide) (by rfl) (pa_cons (pv 0) pa_nil)) (C8.pe_c (c_rank T) hr (by decide) (by rfl) (pa_cons (pv 1) pa_nil)) (nomark _)))), ?hb⟩)
  case hb =>
    obtain ⟨a, b, rfl, c, hQ⟩ := h
    exact s_ret (ev_ltD (ed_cR (f := rankR) (vs := [a]) (ea_cons (ev_var rfl) ea_nil) ⟨_, rfl, c.1.sc⟩) (ed_cR (f := rankR) (vs := [b]) (ea_cons (ev_var rfl) ea_nil) ⟨_, rfl, c.2.1.sc⟩) (rank_alike c.1 c.2.1 c.2.2) (rank_ne c.1) (rank_depth a)) (fun H1 e1 => fin hQ e1 rfl)


def cmpB (a b : V) : Bool := decide (krV a = krV b) && !decide (a = .non)
theorem cmp_kr {a b : V} (h : cmpB a b = true) : krV a = krV b := by
  unfold cmpB at h
  rw [Bool.and_eq_true] at h
  exact of_decide_eq_true h.1
def eqF (a b : V) : V := if cmpB a b = true then .bl (sameB a b) else .non
def lessF (a b : V) : V := if cmpB a b = true then .bl (ltB a b) else .non
def mostF (a b : V) : V := if cmpB a b = true then .bl (!ltB b a) else .non
def leastF (a b : V) : V := if cmpB a b = true then (if ltB b a = true then b else a) else .non
def greatF (a b : V) : V := if cmpB a b = true then (if ltB a b = true then b else a) else .non
def coalF (a b : V) : V := match a with
  | .non => b
  | _ => a
def nullF (a : V) : V := .bl (decide (a = .non))

theorem c_is_null (T : Tx w K mg) : C8.Cal P w K mg base 1 "is_null" (spV Sc nullF) [] := by
  refine mk_cal T (x := "is_null") (i := 101) (j := 77) (N := ["value"]) (ps := ["value"]) rfl rfl (by decide +kernel) (fun _ _ _ _ _ _ us hl => match us, hl with | [_], _ => rfl) (fun vs H Q E h => by obtain ⟨_, rfl, _⟩ := h; rfl) (fun cdv A outer s H vs Q E nd hr h => ⟨_, (pss_one (ps_ret (pe_cmpR o_isN (pv 0) pe_non (nomark _)))), ?hb⟩)
  case hb =>
    obtain ⟨a, rfl, c, hQ⟩ := h
    cases a <;> first | exact False.elim c | (walk_at "st"; rfl)

theorem c_comparable (T : Tx w K mg) : C8.Cal P w K mg base 2 "comparable" (spVV (fun a b => Sc a ∧ Sc b) (fun a b => .bl (cmpB a b))) [] := by
  refine mk_cal T (x := "comparable") (i := 102) (j := 78) (N := ["first", "second"]) (ps := ["first", "second"]) rfl rfl (by decide +kernel) (fun _ _ _ _ _ _ us hl => match us, hl with | [_, _], _ => rfl) (fun vs H Q E h => by obtain ⟨_, _, rfl, _⟩ := h; rfl) (fun cdv A outer s H vs Q E nd hr h => ⟨_, (pss_one (ps_ret (pe_and (pe_cmpR op_eq (C8.pe_c (c_kind_rank T) hr (by decide) (by rfl) (pa_cons (pv 0) pa_nil)) (C8.pe_c (c_kind_rank T) hr (by decide) (by rfl) (pa_cons (pv 1) pa_nil)) (nomark _)) (pe_one (pe_cmpR o_notN (pv 0) pe_non (nomark _)))))), ?hb⟩)
  case hb =>
    obtain ⟨a, b, rfl, c, hQ⟩ := h
    cases a <;> first | exact False.elim c.1 | (cases b <;> first | exact False.elim c.2 | (walk_at "st" <;> rfl))

theorem c_equal (T : Tx w K mg) : C8.Cal P w K mg base 3 "equal" (spVV (fun a b => OkV a ∧ OkV b) eqF) [] := by
  refine mk_cal T (x := "equal") (i := 103) (j := 79) (N := ["first", "second"]) (ps := ["first", "second"]) rfl rfl (by decide +kernel) (fun _ _ _ _ _ _ us hl => match us, hl with | [_, _], _ => rfl) (fun vs H Q E h => by obtain ⟨_, _, rfl, _⟩ := h; rfl) (fun cdv A outer s H vs Q E nd hr h => ⟨_, (pss_one (ps_ret (pe_ifExp (pt_val (C8.pe_c (c_comparable T) hr (by decide) (by rfl) (pa_cons (pv 0) (pa_cons (pv 1) pa_nil)))) (C8.pe_c (c_same T) hr (by decide) (by rfl) (pa_cons (pv 0) (pa_cons (pv 1) pa_nil))) pe_non))), ?hb⟩)
  case hb =>
    obtain ⟨a, b, rfl, c, hQ⟩ := h
    exact s_ret (ev_ifB (et_B (ec_VV (ea_cons (ev_var rfl) (ea_cons (ev_var rfl) ea_nil)) ⟨c.1.sc, c.2.sc⟩)) (fun _ => (ec_VV (ea_cons (ev_var rfl) (ea_cons (ev_var rfl) ea_nil)) ⟨c.1, c.2⟩)) (fun _ => ev_c)) (fun H1 e1 => fin hQ e1 rfl)

theorem c_less (T : Tx w K mg) : C8.Cal P w K mg base 3 "less" (spVV (fun a b => OkV a ∧ OkV b) lessF) [] := by
  refine mk_cal T (x := "less") (i := 104) (j := 80) (N := ["first", "second"]) (ps := ["first", "second"]) rfl rfl (by decide +kernel) (fun _ _ _ _ _ _ us hl => match us, hl with | [_, _], _ => rfl) (fun vs H Q E h => by obtain ⟨_, _, rfl, _⟩ := h; rfl) (fun cdv A outer s H vs Q E nd hr h => ⟨_, (pss_one (ps_ret (pe_ifExp (pt_val (C8.pe_c (c_comparable T) hr (by decide) (by rfl) (pa_cons (pv 0) (pa_cons (pv 1) pa_nil)))) (C8.pe_c (c_before T) hr (by decide) (by rfl) (pa_cons (pv 0) (pa_cons (pv 1) pa_nil))) pe_non))), ?hb⟩)
  case hb =>
    obtain ⟨a, b, rfl, c, hQ⟩ := h
    exact s_ret (ev_ifB (et_B (ec_VV (ea_cons (ev_var rfl) (ea_cons (ev_var rfl) ea_nil)) ⟨c.1.sc, c.2.sc⟩)) (fun hb => (ec_VV (ea_cons (ev_var rfl) (ea_cons (ev_var rfl) ea_nil)) ⟨c.1, c.2, cmp_kr hb⟩)) (fun _ => ev_c)) (fun H1 e1 => fin hQ e1 rfl)

theorem c_at_most (T : Tx w K mg) : C8.Cal P w K mg base 3 "at_most" (spVV (fun a b => OkV a ∧ OkV b) mostF) [] := by
  refine mk_cal T (x := "at_most") (i := 105) (j := 81) (N := ["first", "second"]) (ps := ["first", "second"]) rfl rfl (by decide +kernel) (fun _ _ _ _ _ _ us hl => match us, hl with | [_, _], _ => rfl) (fun vs H Q E h => by obtain ⟨_, _, rfl, _⟩ := h; rfl) (fun cdv A outer s H vs Q E nd hr h => ⟨_, (pss_one (ps_ret (pe_ifExp (pt_val (C8.pe_c (c_comparable T) hr (by decide) (by rfl) (pa_cons (pv 0) (pa_cons (pv 1) pa_nil)))) (pe_not (C8.pe_c (c_before T) hr (by decide) (by rfl) (pa_cons (pv 1) (pa_cons (pv 0) pa_nil)))) pe_non))), ?hb⟩)
  case hb =>
    obtain ⟨a, b, rfl, c, hQ⟩ := h
    exact s_ret (ev_ifB (et_B (ec_VV (ea_cons (ev_var rfl) (ea_cons (ev_var rfl) ea_nil)) ⟨c.1.sc, c.2.sc⟩)) (fun hb => ev_notV (ec_VV (ea_cons (ev_var rfl) (ea_cons (ev_var rfl) ea_nil)) ⟨c.2, c.1, (cmp_kr hb).symm⟩)) (fun _ => ev_c)) (fun H1 e1 => fin hQ e1 rfl)

theorem c_least (T : Tx w K mg) : C8.Cal P w K mg base 3 "least" (spVV (fun a b => OkV a ∧ OkV b) leastF) [] := by
  refine mk_cal T (x := "least") (i := 106) (j := 82) (N := ["first", "second"]) (ps := ["first", "second"]) rfl rfl (by decide +kernel) (fun _ _ _ _ _ _ us hl => match us, hl with | [_, _], _ => rfl) (fun vs H Q E h => by obtain ⟨_, _, rfl, _⟩ := h; rfl) (fun cdv A outer s H vs Q E nd hr h => ⟨_, (pss_cons (ps_if (pt_not (pt_val (C8.pe_c (c_comparable T) hr (by decide) (by rfl) (pa_cons (pv 0) (pa_cons (pv 1) pa_nil))))) (pss_one (ps_ret pe_non)) pss_nil)
      (pss_one (ps_ret (pe_ifExp (pt_val (C8.pe_c (c_before T) hr (by decide) (by rfl) (pa_cons (pv 1) (pa_cons (pv 0) pa_nil)))) (pv 1) (pv 0))))), ?hb⟩)
  case hb =>
    obtain ⟨a, b, rfl, c, hQ⟩ := h
    refine q_when (b := !cmpB a b) (et_not (et_B (ec_VV (ea_cons (ev_var rfl) (ea_cons (ev_var rfl) ea_nil)) ⟨c.1.sc, c.2.sc⟩))) (fun hb H1 e1 => ?_) (fun hb H1 e1 => ?_)
    · refine s_ret ev_c (fun H2 e2 => fin hQ (e1.trans e2) ?_)
      unfold leastF
      rw [if_neg]
      simpa using hb
    · have hb : cmpB a b = true := by simpa using hb
      refine s_ret (ev_ifB (et_B (ec_VV (ea_cons (ev_var rfl) (ea_cons (ev_var rfl) ea_nil)) ⟨c.2, c.1, (cmp_kr hb).symm⟩)) (fun _ => ev_var rfl) (fun _ => ev_var rfl)) (fun H2 e2 => fin hQ (e1.trans e2) ?_)
      unfold leastF
      rw [if_pos hb]

theorem c_greatest (T : Tx w K mg) : C8.Cal P w K mg base 3 "greatest" (spVV (fun a b => OkV a ∧ OkV b) greatF) [] := by
  refine mk_cal T (x := "greatest") (i := 107) (j := 83) (N := ["first", "second"]) (ps := ["first", "second"]) rfl rfl (by decide +kernel) (fun _ _ _ _ _ _ us hl => match us, hl with | [_, _], _ => rfl) (fun vs H Q E h => by obtain ⟨_, _, rfl, _⟩ := h; rfl) (fun cdv A outer s H vs Q E nd hr h => ⟨_, (pss_cons (ps_if (pt_not (pt_val (C8.pe_c (c_comparable T) hr (by decide) (by rfl) (pa_cons (pv 0) (pa_cons (pv 1) pa_nil))))) (pss_one (ps_ret pe_non)) pss_nil)
      (pss_one (ps_ret (pe_ifExp (pt_val (C8.pe_c (c_before T) hr (by decide) (by rfl) (pa_cons (pv 0) (pa_cons (pv 1) pa_nil)))) (pv 1) (pv 0))))), ?hb⟩)
  case hb =>
    obtain ⟨a, b, rfl, c, hQ⟩ := h
    refine q_when (b := !cmpB a b) (et_not (et_B (ec_VV (ea_cons (ev_var rfl) (ea_cons (ev_var rfl) ea_nil)) ⟨c.1.sc, c.2.sc⟩))) (fun hb H1 e1 => ?_) (fun hb H1 e1 => ?_)
    · refine s_ret ev_c (fun H2 e2 => fin hQ (e1.trans e2) ?_)
      unfold greatF
      rw [if_neg]
      simpa using hb
    · have hb : cmpB a b = true := by simpa using hb
      refine s_ret (ev_ifB (et_B (ec_VV (ea_cons (ev_var rfl) (ea_cons (ev_var rfl) ea_nil)) ⟨c.1, c.2, cmp_kr hb⟩)) (fun _ => ev_var rfl) (fun _ => ev_var rfl)) (fun H2 e2 => fin hQ (e1.trans e2) ?_)
      unfold greatF
      rw [if_pos hb]

theorem c_coalesce (T : Tx w K mg) : C8.Cal P w K mg base 1 "coalesce" (spVV (fun a b => Sc a ∧ Sc b) coalF) [] := by
  refine mk_cal T (x := "coalesce") (i := 108) (j := 84) (N := ["first", "second"]) (ps := ["first", "second"]) rfl rfl (by decide +kernel) (fun _ _ _ _ _ _ us hl => match us, hl with | [_, _], _ => rfl) (fun vs H Q E h => by obtain ⟨_, _, rfl, _⟩ := h; rfl) (fun cdv A outer s H vs Q E nd hr h => ⟨_, (pss_one (ps_ret (pe_ifExp (pt_cmpR o_isN (pv 0) pe_non (nomark _)) (pv 1) (pv 0)))), ?hb⟩)
  case hb =>
    obtain ⟨a, b, rfl, c, hQ⟩ := h
    cases a <;> first | exact False.elim c.1 | (walk_at "st"; rfl)


/-! ### kinds of values -/
def ckD : V → PyData
  | .non => .none
  | .bl _ => .tuple [.str "bool", .bool false]
  | .str _ => .tuple [.str "text", .bool false]
  | _ => .tuple [.str "int", .bool false]
def ckR : List V → PyData
  | [v] => ckD v
  | _ => .none
def Sc2 (v : V) : Prop := Sc v ∧ ∀ s, v = .str s → s.length ≤ 100000
theorem OkV.sc2 {v : V} (h : OkV v) : Sc2 v := ⟨h.sc, fun s e => by
  subst e
  exact Nat.le_trans h.1 (by decide)⟩
def isBV : V → Bool
  | .bl _ => true
  | _ => false
def isTV : V → Bool
  | .str s => decide (s.length ≤ 10000)
  | _ => false
def isDV : V → Bool
  | .int i => decide (-719162 ≤ i) && decide (i ≤ 2932896)
  | _ => false
def isNV : V → Bool
  | .int i => decide (-1000000000000000 ≤ i) && decide (i ≤ 1000000000000000)
  | _ => false
def fitB (v : V) (k : Str) : Bool := if k = "bool" then isBV v else if k = "text" then isTV v else if k = "date" then isDV v else isNV v
def fitF (v k : V) : V := match k with
  | .str z => .bl (fitB v z)
  | _ => .non
theorem fit_b {v : V} {k : Str} (h : k = "bool") : fitB v k = isBV v := if_pos h
theorem fit_t {v : V} {k : Str} (h0 : ¬ k = "bool") (h : k = "text") : fitB v k = isTV v := by
  unfold fitB
  rw [if_neg h0, if_pos h]
theorem fit_d {v : V} {k : Str} (h0 : ¬ k = "bool") (h1 : ¬ k = "text") (h : k = "date") : fitB v k = isDV v := by
  unfold fitB
  rw [if_neg h0, if_neg h1, if_pos h]
theorem fit_n {v : V} {k : Str} (h0 : ¬ k = "bool") (h1 : ¬ k = "text") (h : ¬ k = "date") : fitB v k = isNV v := by
  unfold fitB
  rw [if_neg h0, if_neg h1, if_neg h]
theorem dec_int (i : Nat) : decide ((i : Int) ≤ 10000) = decide (i ≤ 10000) := by
  by_cases h : i ≤ 10000
  · rw [decide_eq_true h, decide_eq_true (by omega)]
  · rw [decide_eq_false h, decide_eq_false (by omega)]

theorem c_constant_kind (T : Tx w K mg) : C8.Cal P w K mg base 1 "constant_kind" (spR K (fun vs => ∃ v, vs = [v] ∧ Sc v) ckR) [] := by
  refine mk_cal T (x := "constant_kind") (i := 45) (j := 26) (N := ["value"]) (ps := ["value"]) rfl rfl (by decide +kernel) (fun _ _ _ _ _ _ us hl => match us, hl with | [_], _ => rfl) (fun vs H Q E h => by obtain ⟨⟨_, rfl, _⟩, _⟩ := h; rfl) (fun cdv A outer s H vs Q E nd hr h => ⟨_, (pss_cons (ps_if (pt_cmpR o_isN (pv 0) pe_non (nomark _)) (pss_one (ps_ret pe_non)) pss_nil)
      (pss_cons (ps_if (pt_val (pe_callB call_isi (by rfl) T.m_isinstance boot_isinstance (pa_cons (pv 0) (pa_cons (pe_bltn (v := .ty "bool") (by rfl) T.m_bool boot_bool rfl) pa_nil)))) (pss_one (ps_ret (pe_tup (pa_cons pe_str (pa_cons pe_bl pa_nil))))) pss_nil)
      (pss_cons (ps_if (pt_val (pe_callB call_isi (by rfl) T.m_isinstance boot_isinstance (pa_cons (pv 0) (pa_cons (pe_bltn (v := .ty "str") (by rfl) T.m_str boot_str rfl) pa_nil)))) (pss_one (ps_ret (pe_tup (pa_cons pe_str (pa_cons pe_bl pa_nil))))) pss_nil)
      (pss_one (ps_ret (pe_tup (pa_cons pe_str (pa_cons pe_bl pa_nil)))))))), ?hb⟩)
  case hb =>
    obtain ⟨⟨a, rfl, c⟩, hQ⟩ := h
    cases a <;> first | exact False.elim c | (walk_at "st" <;> first | exact finD hQ (by walk_at "ex") rfl | rfl)

theorem c_fits (T : Tx w K mg) : C8.Cal P w K mg base 3 "fits" (spVV (fun v k => Sc2 v ∧ ∃ z, k = .str z) fitF) [] := by
  refine mk_cal T (x := "fits") (i := 50) (j := 31) (N := ["value", "kind"]) (ps := ["value", "kind"]) rfl rfl (by decide +kernel) (fun _ _ _ _ _ _ us hl => match us, hl with | [_, _], _ => rfl) (fun vs H Q E h => by obtain ⟨_, _, rfl, _⟩ := h; rfl) (fun cdv A outer s H vs Q E nd hr h => ⟨_, (pss_cons (ps_if (pt_cmpR op_eq (pv 1) pe_str (nomark _)) (pss_one (ps_ret (pe_callB call_isi (by rfl) T.m_isinstance boot_isinstance (pa_cons (pv 0) (pa_cons (pe_bltn (v := .ty "bool") (by rfl) T.m_bool boot_bool rfl) pa_nil))))) pss_nil)
      (pss_cons (ps_if (pt_cmpR op_eq (pv 1) pe_str (nomark _)) (pss_one (ps_ret (pe_and (pe_callB call_isi (by rfl) T.m_isinstance boot_isinstance (pa_cons (pv 0) (pa_cons (pe_bltn (v := .ty "str") (by rfl) T.m_str boot_str rfl) pa_nil))) (pe_one (pe_cmpR o_le (pe_callB b_len (by rfl) T.m_len boot_len (pa_cons (pv 0) pa_nil)) (C8.pe_gc (by rfl) T.MOST) (nomark _)))))) pss_nil)
      (pss_cons (ps_if (pt_cmpR op_eq (pv 1) pe_str (nomark _)) (pss_one (ps_ret (C8.pe_c (c_is_day T) hr (by decide) (by rfl) (pa_cons (pv 0) pa_nil)))) pss_nil)
      (pss_one (ps_ret (pe_and (C8.pe_c (c_is_integer T) hr (by decide) (by rfl) (pa_cons (pv 0) pa_nil)) (pe_one (pe_chain o_le o_le (pe_un u_neg (C8.pe_gc (by rfl) T.GREATEST)) (pv 0) (C8.pe_gc (by rfl) T.GREATEST))))))))), ?hb⟩)
  case hb =>
    obtain ⟨a, k, rfl, ⟨c, z, rfl⟩, hQ⟩ := h
    have hQ : RetV (.bl (fitB a z)) H Q := hQ
    refine q_when (b := decide (z = "bool")) (by walk_at "et") (fun hb H1 e1 => ?_) (fun hb H1 e1 => ?_)
    · have hb := of_decide_eq_true hb
      rw [fit_b hb] at hQ
      cases a <;> first | exact False.elim c.1 | (walk_at "st"; rfl)
    have k1 := of_decide_eq_false hb
    refine q_when (b := decide (z = "text")) (by walk_at "et") (fun hb H2 e2 => ?_) (fun hb H2 e2 => ?_)
    · have hb := of_decide_eq_true hb
      rw [fit_t k1 hb] at hQ
      cases a with
      | str s =>
        have hl := c.2 s rfl
        have hQ : RetV (.bl (decide (s.length ≤ 10000))) H Q := hQ
        rw [← dec_int] at hQ
        walk_at "st" <;> simp
      | non => walk_at "st"; rfl
      | bl b => walk_at "st"; rfl
      | int i => walk_at "st"; rfl
      | _ => exact False.elim c.1
    have k2 := of_decide_eq_false hb
    refine q_when (b := decide (z = "date")) (by walk_at "et") (fun hb H3 e3 => ?_) (fun hb H3 e3 => ?_)
    · have hb := of_decide_eq_true hb
      rw [fit_d k1 k2 hb] at hQ
      have hs := c.1
      cases a <;> first | exact False.elim c.1 | (walk_at "st" <;> rfl)
    · have k3 := of_decide_eq_false hb
      rw [fit_n k1 k2 k3] at hQ
      have hs := c.1
      cases a <;> first | exact False.elim c.1 | (walk_at "st" <;> rfl)

theorem c__law_fits (T : Tx w K mg) : C8.Cal P w K mg base 2 "_law_fits" (spVV (fun v k => Sc2 v ∧ ∃ z, k = .str z) fitF) [] := by
  refine mk_cal T (x := "_law_fits") (i := 132) (j := 103) (N := ["_law_value", "_law_kind"]) (ps := ["_law_value", "_law_kind"]) rfl rfl (by decide +kernel) (fun _ _ _ _ _ _ us hl => match us, hl with | [_, _], _ => rfl) (fun vs H Q E h => by obtain ⟨_, _, rfl, _⟩ := h; rfl) (fun cdv A outer s H vs Q E nd hr h => ⟨_, (pss_cons (ps_if (pt_cmpR op_eq (pv 1) pe_str (nomark _)) (pss_one (ps_ret (pe_or (pe_cmpR o_isU (pv 0) pe_bl (nomark _)) (pe_one (pe_cmpR o_isU (pv 0) pe_bl (nomark _)))))) pss_nil)
      (pss_cons (ps_if (pt_cmpR op_eq (pv 1) pe_str (nomark _)) (pss_one (ps_ret (pe_and (pe_callB call_isi (by rfl) T.m_isinstance boot_isinstance (pa_cons (pv 0) (pa_cons (pe_bltn (v := .ty "str") (by rfl) T.m_str boot_str rfl) pa_nil))) (pe_one (pe_cmpR o_le (pe_callB b_len (by rfl) T.m_len boot_len (pa_cons (pv 0) pa_nil)) pe_int (nomark _)))))) pss_nil)
      (pss_cons (ps_if (pt_not (pt_val (C8.pe_c (c__law_is_integer T) hr (by decide) (by rfl) (pa_cons (pv 0) pa_nil)))) (pss_one (ps_ret pe_bl)) pss_nil)
      (pss_cons (ps_if (pt_cmpR op_eq (pv 1) pe_str (nomark _)) (pss_one (ps_ret (pe_chain o_le o_le (pe_un u_neg pe_int) (pv 0) pe_int))) pss_nil)
      (pss_one (ps_ret (pe_chain o_le o_le (pe_un u_neg pe_int) (pv 0) pe_int))))))), ?hb⟩)
  case hb =>
    obtain ⟨a, k, rfl, ⟨c, z, rfl⟩, hQ⟩ := h
    have hQ : RetV (.bl (fitB a z)) H Q := hQ
    refine q_when (b := decide (z = "bool")) (by walk_at "et") (fun hb H1 e1 => ?_) (fun hb H1 e1 => ?_)
    · have hb := of_decide_eq_true hb
      rw [fit_b hb] at hQ
      cases a with
      | bl b => cases b <;> (walk_at "st" <;> rfl)
      | non => walk_at "st" <;> rfl
      | int i => walk_at "st" <;> rfl
      | str s => walk_at "st" <;> rfl
      | _ => exact False.elim c.1
    have k1 := of_decide_eq_false hb
    refine q_when (b := decide (z = "text")) (by walk_at "et") (fun hb H2 e2 => ?_) (fun hb H2 e2 => ?_)
    · have hb := of_decide_eq_true hb
      rw [fit_t k1 hb] at hQ
      cases a with
      | str s =>
        have hl := c.2 s rfl
        have hQ : RetV (.bl (decide (s.length ≤ 10000))) H Q := hQ
        rw [← dec_int] at hQ
        walk_at "st" <;> simp
      | non => walk_at "st"; rfl
      | bl b => walk_at "st"; rfl
      | int i => walk_at "st"; rfl
      | _ => exact False.elim c.1
    have k2 := of_decide_eq_false hb
    have hs := c.1
    by_cases k3 : z = "date"
    · rw [fit_d k1 k2 k3] at hQ
      cases a with
      | int i =>
        refine q_when (b := false) (by walk_at "et") (fun z => nomatch z) (fun _ H3 e3 => ?_)
        refine q_when (b := true) (et_is (by walk_at "et") (decide_eq_true k3)) (fun _ H4 e4 => ?_) (fun z => nomatch z)
        walk_at "st"; rfl
      | non => walk_at "st" <;> rfl
      | bl b => walk_at "st" <;> rfl
      | str s => walk_at "st" <;> rfl
      | _ => exact False.elim c.1
    · rw [fit_n k1 k2 k3] at hQ
      cases a with
      | int i =>
        refine q_when (b := false) (by walk_at "et") (fun z => nomatch z) (fun _ H3 e3 => ?_)
        refine q_when (b := false) (et_is (by walk_at "et") (decide_eq_false k3)) (fun z => nomatch z) (fun _ H4 e4 => ?_)
        walk_at "st"; rfl
      | non => walk_at "st" <;> rfl
      | bl b => walk_at "st" <;> rfl
      | str s => walk_at "st" <;> rfl
      | _ => exact False.elim c.1

end

section
variable {P : Program} {w : World} {K : PySem.W.Frag} {mg : Str → Option Value} {base : Heap}

/-! ### the deeds -/
theorem cal_up {j k : Nat} {x : Str} {sp : Sp} {dvs : List V} (c : C8.Cal P w K mg base j x sp dvs) (h : j ≤ k) : C8.Cal P w K mg base k x sp dvs := by
  obtain ⟨f, fd, ps, ds, F, hm, kp, b, d⟩ := c.ex
  exact ⟨f, fd, ps, ds, F.mono h, hm, kp, b, d⟩
theorem rv_ixD {H : Hp} {p : Addr} {z : Str} {v : V} (h : KDct K w p z v) : RV (rIxD K w) (.ref p) (.str z) H v := fun H1 _ _ q => ⟨p, z, v, rfl, rfl, h, q H1 (Ex.refl H1)⟩
theorem ev_cl {σ : L2.St} {H : Hp} {i : Nat} {f : Addr} {sp : Sp} {E : XK} {tA : TA} {vs : List V} {z : V} (hi : σ[i]? = some (some (.ref f))) (h : EvA tA σ H vs) (hs : SpV sp vs H z) : Ev (tCallL i f sp [] E tA) σ H z := fun H1 e Q q =>
  ⟨hi, h H1 e _ fun H2 e2 => by
    rw [List.append_nil]
    exact hs H2 (e.trans e2) Q (fun H3 e3 => q H3 (e2.trans e3)) E⟩
theorem deed_at {i : Nat} {x : Str} {kvs : List (Str × Str)} {ks : List Str} (T : Tx w K mg) (ht : ts[i]? = some (fun K => He.ga K x, ks)) (hv : He.valsB K (He.ga K x) (kvs.map fun q => (q.1, He.Dv.glo q.2)) = true) {j : Nat} {nm py : Str} (hr : kvs[j]? = some (nm, py)) : KDct K w (He.ga K x) nm (.ref (He.ga K py)) := by
  obtain ⟨es, n, hk⟩ := T.says.tab i ht
  obtain ⟨u, h1, h2⟩ := He.valsB_ok hv (q := (nm, He.Dv.glo py)) (List.mem_map_of_mem (f := fun q : Str × Str => (q.1, He.Dv.glo q.2)) (List.mem_of_getElem? hr))
  exact ⟨es, n, u, hk.1, hk.2, h1, h2⟩

inductive U
  | negated
  | negate
  | without_sign
  | sign_of
  | is_null
  | lower
  | upper
  | length
  | trim
  | year_of
  | month_of
  | day_of_month
  | weekday
  | month_start
  | year_start
  | week_start
  | as_date
  | as_decimal
  | to_decimal
  | to_int
  | int_to_text
  | decimal_to_text
  | date_to_text
  | text_to_int
  | text_to_decimal
  | text_to_date
deriving DecidableEq
def U.name : U → Str
  | .negated => "not"
  | .negate => "negate"
  | .without_sign => "abs"
  | .sign_of => "sign"
  | .is_null => "is null"
  | .lower => "lower"
  | .upper => "upper"
  | .length => "length"
  | .trim => "trim"
  | .year_of => "year"
  | .month_of => "month"
  | .day_of_month => "day"
  | .weekday => "weekday"
  | .month_start => "month start"
  | .year_start => "year start"
  | .week_start => "week start"
  | .as_date => "as date"
  | .as_decimal => "as decimal"
  | .to_decimal => "to decimal"
  | .to_int => "to int"
  | .int_to_text => "int to text"
  | .decimal_to_text => "decimal to text"
  | .date_to_text => "date to text"
  | .text_to_int => "text to int"
  | .text_to_decimal => "text to decimal"
  | .text_to_date => "text to date"
def U.py : U → Str
  | .negated => "negated"
  | .negate => "negate"
  | .without_sign => "without_sign"
  | .sign_of => "sign_of"
  | .is_null => "is_null"
  | .lower => "lower"
  | .upper => "upper"
  | .length => "length"
  | .trim => "trim"
  | .year_of => "year_of"
  | .month_of => "month_of"
  | .day_of_month => "day_of_month"
  | .weekday => "weekday"
  | .month_start => "month_start"
  | .year_start => "year_start"
  | .week_start => "week_start"
  | .as_date => "as_date"
  | .as_decimal => "as_decimal"
  | .to_decimal => "to_decimal"
  | .to_int => "to_int"
  | .int_to_text => "int_to_text"
  | .decimal_to_text => "decimal_to_text"
  | .date_to_text => "date_to_text"
  | .text_to_int => "text_to_int"
  | .text_to_decimal => "text_to_decimal"
  | .text_to_date => "text_to_date"
def U.ix : U → Nat
  | .negated => 0
  | .negate => 1
  | .without_sign => 2
  | .sign_of => 3
  | .is_null => 4
  | .lower => 5
  | .upper => 6
  | .length => 7
  | .trim => 8
  | .year_of => 9
  | .month_of => 10
  | .day_of_month => 11
  | .weekday => 12
  | .month_start => 13
  | .year_start => 14
  | .week_start => 15
  | .as_date => 16
  | .as_decimal => 17
  | .to_decimal => 18
  | .to_int => 19
  | .int_to_text => 20
  | .decimal_to_text => 21
  | .date_to_text => 22
  | .text_to_int => 23
  | .text_to_decimal => 24
  | .text_to_date => 25
def U.gx : U → Nat
  | .negated => 44
  | .negate => 47
  | .without_sign => 48
  | .sign_of => 49
  | .is_null => 77
  | .lower => 65
  | .upper => 66
  | .length => 67
  | .trim => 68
  | .year_of => 33
  | .month_of => 34
  | .day_of_month => 35
  | .weekday => 36
  | .month_start => 37
  | .year_start => 38
  | .week_start => 39
  | .as_date => 32
  | .as_decimal => 50
  | .to_decimal => 51
  | .to_int => 52
  | .int_to_text => 53
  | .decimal_to_text => 54
  | .date_to_text => 40
  | .text_to_int => 55
  | .text_to_decimal => 56
  | .text_to_date => 41
def U.dom : U → V → Prop
  | .negated => OptB
  | .negate => OptI
  | .without_sign => OptI
  | .sign_of => OptI
  | .is_null => Sc
  | .lower => OptS
  | .upper => OptS
  | .length => OptS
  | .trim => OptS
  | .year_of => OptD
  | .month_of => OptD
  | .day_of_month => OptD
  | .weekday => OptD
  | .month_start => OptD
  | .year_start => OptD
  | .week_start => OptD
  | .as_date => OptI
  | .as_decimal => OptI
  | .to_decimal => OptI
  | .to_int => OptI
  | .int_to_text => OptI
  | .decimal_to_text => OptI
  | .date_to_text => OptD
  | .text_to_int => OptS
  | .text_to_decimal => OptS
  | .text_to_date => OptS
def U.fn : U → V → V
  | .negated => negV
  | .negate => negF
  | .without_sign => absF
  | .sign_of => signF
  | .is_null => nullF
  | .lower => lowF
  | .upper => upF
  | .length => lenF
  | .trim => trimF
  | .year_of => yearF
  | .month_of => monthF
  | .day_of_month => domF
  | .weekday => wdayF
  | .month_start => mstartF
  | .year_start => ystartF
  | .week_start => wstartF
  | .as_date => asDateF
  | .as_decimal => asDecF
  | .to_decimal => toDecF
  | .to_int => toIntF
  | .int_to_text => intTxtF
  | .decimal_to_text => decTxtF
  | .date_to_text => dateTxtF
  | .text_to_int => txtIntF
  | .text_to_decimal => txtDecF
  | .text_to_date => txtDateF
theorem U.row : ∀ u : U, unaryDeeds[u.ix]? = some (u.name, u.py) := by
  intro u
  cases u <;> rfl
theorem U.glo : ∀ u : U, fa[u.gx]? = some (.glo u.py) := by
  intro u
  cases u <;> rfl
theorem U.cal (T : Tx w K mg) : ∀ u : U, C8.Cal P w K mg base 5 u.py (spV u.dom u.fn) []
  | .negated => cal_up (c_negated T) (by decide)
  | .negate => cal_up (c_negate T) (by decide)
  | .without_sign => cal_up (c_without_sign T) (by decide)
  | .sign_of => cal_up (c_sign_of T) (by decide)
  | .is_null => cal_up (c_is_null T) (by decide)
  | .lower => cal_up (c_lower T) (by decide)
  | .upper => cal_up (c_upper T) (by decide)
  | .length => cal_up (c_length T) (by decide)
  | .trim => cal_up (c_trim T) (by decide)
  | .year_of => cal_up (c_year_of T) (by decide)
  | .month_of => cal_up (c_month_of T) (by decide)
  | .day_of_month => cal_up (c_day_of_month T) (by decide)
  | .weekday => cal_up (c_weekday T) (by decide)
  | .month_start => cal_up (c_month_start T) (by decide)
  | .year_start => cal_up (c_year_start T) (by decide)
  | .week_start => cal_up (c_week_start T) (by decide)
  | .as_date => cal_up (c_as_date T) (by decide)
  | .as_decimal => cal_up (c_as_decimal T) (by decide)
  | .to_decimal => cal_up (c_to_decimal T) (by decide)
  | .to_int => cal_up (c_to_int T) (by decide)
  | .int_to_text => cal_up (c_int_to_text T) (by decide)
  | .decimal_to_text => cal_up (c_decimal_to_text T) (by decide)
  | .date_to_text => cal_up (c_date_to_text T) (by decide)
  | .text_to_int => cal_up (c_text_to_int T) (by decide)
  | .text_to_decimal => cal_up (c_text_to_decimal T) (by decide)
  | .text_to_date => cal_up (c_text_to_date T) (by decide)
inductive B
  | both
  | either
  | equal
  | less
  | at_most
  | same
  | least
  | greatest
  | added
  | subtracted
  | multiplied
  | divided
  | rest
  | decimals_multiplied
  | decimals_divided
  | joined
  | like
  | position
  | coalesce
  | days_added
  | months_added
deriving DecidableEq
def B.name : B → Str
  | .both => "and"
  | .either => "or"
  | .equal => "equal"
  | .less => "less"
  | .at_most => "at most"
  | .same => "same"
  | .least => "least"
  | .greatest => "greatest"
  | .added => "add"
  | .subtracted => "subtract"
  | .multiplied => "multiply"
  | .divided => "divide"
  | .rest => "rest"
  | .decimals_multiplied => "multiply decimals"
  | .decimals_divided => "divide decimals"
  | .joined => "join"
  | .like => "like"
  | .position => "position"
  | .coalesce => "coalesce"
  | .days_added => "add days"
  | .months_added => "add months"
def B.py : B → Str
  | .both => "both"
  | .either => "either"
  | .equal => "equal"
  | .less => "less"
  | .at_most => "at_most"
  | .same => "same"
  | .least => "least"
  | .greatest => "greatest"
  | .added => "added"
  | .subtracted => "subtracted"
  | .multiplied => "multiplied"
  | .divided => "divided"
  | .rest => "rest"
  | .decimals_multiplied => "decimals_multiplied"
  | .decimals_divided => "decimals_divided"
  | .joined => "joined"
  | .like => "like"
  | .position => "position"
  | .coalesce => "coalesce"
  | .days_added => "days_added"
  | .months_added => "months_added"
def B.ix : B → Nat
  | .both => 0
  | .either => 1
  | .equal => 2
  | .less => 3
  | .at_most => 4
  | .same => 5
  | .least => 6
  | .greatest => 7
  | .added => 8
  | .subtracted => 9
  | .multiplied => 10
  | .divided => 11
  | .rest => 12
  | .decimals_multiplied => 13
  | .decimals_divided => 14
  | .joined => 15
  | .like => 16
  | .position => 17
  | .coalesce => 18
  | .days_added => 19
  | .months_added => 20
def B.gx : B → Nat
  | .both => 45
  | .either => 46
  | .equal => 79
  | .less => 80
  | .at_most => 81
  | .same => 3
  | .least => 82
  | .greatest => 83
  | .added => 58
  | .subtracted => 59
  | .multiplied => 60
  | .divided => 61
  | .rest => 62
  | .decimals_multiplied => 63
  | .decimals_divided => 64
  | .joined => 70
  | .like => 71
  | .position => 72
  | .coalesce => 84
  | .days_added => 42
  | .months_added => 43
def B.dom : B → V → V → Prop
  | .both => (fun a b => OptB a ∧ OptB b)
  | .either => (fun a b => OptB a ∧ OptB b)
  | .equal => (fun a b => OkV a ∧ OkV b)
  | .less => (fun a b => OkV a ∧ OkV b)
  | .at_most => (fun a b => OkV a ∧ OkV b)
  | .same => (fun a b => OkV a ∧ OkV b)
  | .least => (fun a b => OkV a ∧ OkV b)
  | .greatest => (fun a b => OkV a ∧ OkV b)
  | .added => (fun a b => OptI a ∧ OptI b)
  | .subtracted => (fun a b => OptI a ∧ OptI b)
  | .multiplied => (fun a b => OptI a ∧ OptI b)
  | .divided => (fun a b => OptI a ∧ OptI b)
  | .rest => (fun a b => OptI a ∧ OptI b)
  | .decimals_multiplied => (fun a b => OptI a ∧ OptI b)
  | .decimals_divided => (fun a b => OptI a ∧ OptI b)
  | .joined => (fun a b => OptS a ∧ OptS b)
  | .like => (fun a b => OptS a ∧ OptS b)
  | .position => (fun a b => OptS a ∧ OptS b)
  | .coalesce => (fun a b => Sc a ∧ Sc b)
  | .days_added => (fun a b => OptD a ∧ OptI b)
  | .months_added => (fun a b => OptD a ∧ OptI b)
def B.fn : B → V → V → V
  | .both => andV
  | .either => orV
  | .equal => eqF
  | .less => lessF
  | .at_most => mostF
  | .same => (fun a b => .bl (sameB a b))
  | .least => leastF
  | .greatest => greatF
  | .added => addF
  | .subtracted => subF
  | .multiplied => mulF
  | .divided => divF
  | .rest => restF
  | .decimals_multiplied => mulDF
  | .decimals_divided => divDF
  | .joined => joinF
  | .like => likeF
  | .position => posF
  | .coalesce => coalF
  | .days_added => daysAddF
  | .months_added => monthsAddF
theorem B.row : ∀ u : B, binaryDeeds[u.ix]? = some (u.name, u.py) := by
  intro u
  cases u <;> rfl
theorem B.glo : ∀ u : B, fa[u.gx]? = some (.glo u.py) := by
  intro u
  cases u <;> rfl
theorem B.cal (T : Tx w K mg) : ∀ u : B, C8.Cal P w K mg base 5 u.py (spVV u.dom u.fn) []
  | .both => cal_up (c_both T) (by decide)
  | .either => cal_up (c_either T) (by decide)
  | .equal => cal_up (c_equal T) (by decide)
  | .less => cal_up (c_less T) (by decide)
  | .at_most => cal_up (c_at_most T) (by decide)
  | .same => cal_up (c_same T) (by decide)
  | .least => cal_up (c_least T) (by decide)
  | .greatest => cal_up (c_greatest T) (by decide)
  | .added => cal_up (c_added T) (by decide)
  | .subtracted => cal_up (c_subtracted T) (by decide)
  | .multiplied => cal_up (c_multiplied T) (by decide)
  | .divided => cal_up (c_divided T) (by decide)
  | .rest => cal_up (c_rest T) (by decide)
  | .decimals_multiplied => cal_up (c_decimals_multiplied T) (by decide)
  | .decimals_divided => cal_up (c_decimals_divided T) (by decide)
  | .joined => cal_up (c_joined T) (by decide)
  | .like => cal_up (c_like T) (by decide)
  | .position => cal_up (c_position T) (by decide)
  | .coalesce => cal_up (c_coalesce T) (by decide)
  | .days_added => cal_up (c_days_added T) (by decide)
  | .months_added => cal_up (c_months_added T) (by decide)
inductive W3
  | part_of
  | split
  | replaced_in
  | pad
deriving DecidableEq
def W3.name : W3 → Str
  | .part_of => "part"
  | .split => "split"
  | .replaced_in => "replace"
  | .pad => "pad"
def W3.py : W3 → Str
  | .part_of => "part_of"
  | .split => "split"
  | .replaced_in => "replaced_in"
  | .pad => "pad"
def W3.ix : W3 → Nat
  | .part_of => 0
  | .split => 1
  | .replaced_in => 2
  | .pad => 3
def W3.gx : W3 → Nat
  | .part_of => 73
  | .split => 74
  | .replaced_in => 75
  | .pad => 76
def W3.dom : W3 → V → V → V → Prop
  | .part_of => (fun a b c => OptS a ∧ OptI b ∧ OptI c)
  | .split => (fun a b c => OptS a ∧ OptS b ∧ OptI c)
  | .replaced_in => (fun a b c => OptS a ∧ OptS b ∧ OptS c)
  | .pad => (fun a b c => OptS a ∧ OptS b ∧ OptI c)
def W3.fn : W3 → V → V → V → V
  | .part_of => partF
  | .split => splitF
  | .replaced_in => repF
  | .pad => padF
theorem W3.row : ∀ u : W3, ternaryDeeds[u.ix]? = some (u.name, u.py) := by
  intro u
  cases u <;> rfl
theorem W3.glo : ∀ u : W3, fa[u.gx]? = some (.glo u.py) := by
  intro u
  cases u <;> rfl
theorem W3.cal (T : Tx w K mg) : ∀ u : W3, C8.Cal P w K mg base 5 u.py (spVVV u.dom u.fn) []
  | .part_of => cal_up (c_part_of T) (by decide)
  | .split => cal_up (c_split T) (by decide)
  | .replaced_in => cal_up (c_replaced_in T) (by decide)
  | .pad => cal_up (c_pad T) (by decide)
def sp_unary : Sp := fun vs H Q _ => ∃ (u : U) (a : V), vs = [.str u.name, a] ∧ u.dom a ∧ RetV (u.fn a) H Q
theorem c_unary (T : Tx w K mg) : C8.Cal P w K mg base 6 "unary" sp_unary [] := by
  refine mk_cal T (x := "unary") (i := 112) (j := 85) (N := ["name", "value", "action"]) (ps := ["name", "value"]) rfl rfl (by decide +kernel) (fun _ _ _ _ _ _ us hl => match us, hl with | [_, _], _ => rfl) (fun vs H Q E h => by obtain ⟨_, _, rfl, _⟩ := h; rfl) (fun cdv A outer s H vs Q E nd hr h => ?hb)
  case hb =>
    obtain ⟨u, a, rfl, c, hQ⟩ := h
    obtain ⟨f, fd, ps, ds, F, hm, kp, bi, d⟩ := (u.cal (P := P) (base := base) T).ex
    have hf : f = He.ga K u.py := by
      have h2 := hm.symm.trans (T.glo_ u.glo)
      exact Value.ref.inj (Option.some.inj h2)
    have hk := deed_at T (i := 3) (x := "UNARY_DEEDS") rfl T.unaryD u.row
    rw [← hf] at hk
    refine ⟨_, pss_cons (ps_set (i := 2) nd rfl (.inl rfl) (pe_ix ix_kdict (C8.pe_gc (by rfl) T.UNARY_DEEDS) (pv 0) (fun _ _ => rfl))) (pss_one (ps_ret (pe_callL (CX := C8.CX0) (E := C8.E0) (f := f) (i := 2) F hr rfl (.inl rfl) kp bi d C8.pass0 (pa_cons (pv 1) pa_nil)))), ?_⟩
    refine q_asg (v := .ref f) (ev_op ev_c (ev_var rfl) (rv_ixD hk)) (fun H1 e1 => ?_)
    exact s_ret (ev_cl rfl (ea_cons (ev_var rfl) ea_nil) fun H2 e2 Q2 q2 E2 => ⟨a, rfl, c, q2⟩) (fun H3 e3 => fin hQ (e1.trans e3) rfl)

def sp_binary : Sp := fun vs H Q _ => ∃ (u : B) (a b : V), vs = [.str u.name, a, b] ∧ u.dom a b ∧ RetV (u.fn a b) H Q
theorem c_binary (T : Tx w K mg) : C8.Cal P w K mg base 6 "binary" sp_binary [] := by
  refine mk_cal T (x := "binary") (i := 113) (j := 86) (N := ["name", "first", "second", "action"]) (ps := ["name", "first", "second"]) rfl rfl (by decide +kernel) (fun _ _ _ _ _ _ us hl => match us, hl with | [_, _, _], _ => rfl) (fun vs H Q E h => by obtain ⟨_, _, _, rfl, _⟩ := h; rfl) (fun cdv A outer s H vs Q E nd hr h => ?hb)
  case hb =>
    obtain ⟨u, a, b, rfl, c, hQ⟩ := h
    obtain ⟨f, fd, ps, ds, F, hm, kp, bi, d⟩ := (u.cal (P := P) (base := base) T).ex
    have hf : f = He.ga K u.py := by
      have h2 := hm.symm.trans (T.glo_ u.glo)
      exact Value.ref.inj (Option.some.inj h2)
    have hk := deed_at T (i := 4) (x := "BINARY_DEEDS") rfl T.binaryD u.row
    rw [← hf] at hk
    refine ⟨_, pss_cons (ps_set (i := 3) nd rfl (.inl rfl) (pe_ix ix_kdict (C8.pe_gc (by rfl) T.BINARY_DEEDS) (pv 0) (fun _ _ => rfl))) (pss_one (ps_ret (pe_callL (CX := C8.CX0) (E := C8.E0) (f := f) (i := 3) F hr rfl (.inl rfl) kp bi d C8.pass0 (pa_cons (pv 1) (pa_cons (pv 2) pa_nil))))), ?_⟩
    refine q_asg (v := .ref f) (ev_op ev_c (ev_var rfl) (rv_ixD hk)) (fun H1 e1 => ?_)
    exact s_ret (ev_cl rfl (ea_cons (ev_var rfl) (ea_cons (ev_var rfl) ea_nil)) fun H2 e2 Q2 q2 E2 => ⟨a, b, rfl, c, q2⟩) (fun H3 e3 => fin hQ (e1.trans e3) rfl)

def sp_ternary : Sp := fun vs H Q _ => ∃ (u : W3) (a b c : V), vs = [.str u.name, a, b, c] ∧ u.dom a b c ∧ RetV (u.fn a b c) H Q
theorem c_ternary (T : Tx w K mg) : C8.Cal P w K mg base 6 "ternary" sp_ternary [] := by
  refine mk_cal T (x := "ternary") (i := 114) (j := 87) (N := ["name", "first", "second", "third", "action"]) (ps := ["name", "first", "second", "third"]) rfl rfl (by decide +kernel) (fun _ _ _ _ _ _ us hl => match us, hl with | [_, _, _, _], _ => rfl) (fun vs H Q E h => by obtain ⟨_, _, _, _, rfl, _⟩ := h; rfl) (fun cdv A outer s H vs Q E nd hr h => ?hb)
  case hb =>
    obtain ⟨u, a, b, c, rfl, c0, hQ⟩ := h
    obtain ⟨f, fd, ps, ds, F, hm, kp, bi, d⟩ := (u.cal (P := P) (base := base) T).ex
    have hf : f = He.ga K u.py := by
      have h2 := hm.symm.trans (T.glo_ u.glo)
      exact Value.ref.inj (Option.some.inj h2)
    have hk := deed_at T (i := 5) (x := "TERNARY_DEEDS") rfl T.ternaryD u.row
    rw [← hf] at hk
    refine ⟨_, pss_cons (ps_set (i := 4) nd rfl (.inl rfl) (pe_ix ix_kdict (C8.pe_gc (by rfl) T.TERNARY_DEEDS) (pv 0) (fun _ _ => rfl))) (pss_one (ps_ret (pe_callL (CX := C8.CX0) (E := C8.E0) (f := f) (i := 4) F hr rfl (.inl rfl) kp bi d C8.pass0 (pa_cons (pv 1) (pa_cons (pv 2) (pa_cons (pv 3) pa_nil)))))), ?_⟩
    refine q_asg (v := .ref f) (ev_op ev_c (ev_var rfl) (rv_ixD hk)) (fun H1 e1 => ?_)
    exact s_ret (ev_cl rfl (ea_cons (ev_var rfl) (ea_cons (ev_var rfl) (ea_cons (ev_var rfl) ea_nil))) fun H2 e2 Q2 q2 E2 => ⟨a, b, c, rfl, c0, q2⟩) (fun H3 e3 => fin hQ (e1.trans e3) rfl)

end

section
variable {P : Program} {w : World} {K : PySem.W.Frag} {mg : Str → Option Value} {base : Heap}
/-! ### kinds, expressions, their data -/
inductive Kd
  | bool
  | int
  | text
  | date
  | dec
deriving DecidableEq
def Kd.name : Kd → Str
  | .bool => "bool"
  | .int => "int"
  | .text => "text"
  | .date => "date"
  | .dec => "decimal"
inductive Xp
  | const (v : V)
  | col (n : Nat)
  | un (u : U) (a : Xp)
  | bin (b : B) (a c : Xp)
  | ter (t : W3) (a b c : Xp)
  | ch (a b c : Xp)
def enc : Xp → PyData
  | .const v => .tuple [.str "constant", toD v]
  | .col n => .tuple [.str "column", .int n]
  | .un u a => .tuple [.str "unary", .str u.name, enc a]
  | .bin b a c => .tuple [.str "binary", .str b.name, enc a, enc c]
  | .ter t a b c => .tuple [.str "ternary", .str t.name, enc a, enc b, enc c]
  | .ch a b c => .tuple [.str "choice", enc a, enc b, enc c]
/-- the constants within are scalars of the law -/
def Okx : Xp → Prop
  | .const v => OkV v
  | .col _ => True
  | .un _ a => Okx a
  | .bin _ a c => Okx a ∧ Okx c
  | .ter _ a b c => Okx a ∧ Okx b ∧ Okx c
  | .ch a b c => Okx a ∧ Okx b ∧ Okx c
def dpx : Xp → Nat
  | .const _ => 0
  | .col _ => 0
  | .un _ a => dpx a + 1
  | .bin _ a c => max (dpx a) (dpx c) + 1
  | .ter _ a b c => max (dpx a) (max (dpx b) (dpx c)) + 1
  | .ch a b c => max (dpx a) (max (dpx b) (dpx c)) + 1
def evX (row : List V) : Xp → V
  | .const v => v
  | .col n => (row[n]?).getD .non
  | .un u a => u.fn (evX row a)
  | .bin b a c => b.fn (evX row a) (evX row c)
  | .ter t a b c => t.fn (evX row a) (evX row b) (evX row c)
  | .ch a b c => if evX row a = .bl true then evX row b else evX row c
/-- all that is asked where the expression is evaluated -/
def Dm (row : List V) : Xp → Prop
  | .const v => OkV v
  | .col _ => True
  | .un u a => Dm row a ∧ u.dom (evX row a)
  | .bin b a c => (Dm row a ∧ Dm row c) ∧ b.dom (evX row a) (evX row c)
  | .ter t a b c => (Dm row a ∧ Dm row b ∧ Dm row c) ∧ t.dom (evX row a) (evX row b) (evX row c)
  | .ch a b c => (Dm row a ∧ Sc (evX row a)) ∧ (evX row a = .bl true → Dm row b) ∧ (evX row a ≠ .bl true → Dm row c)
theorem toD_sc {v : V} {K : PySem.W.Frag} {H : Hp} (h : Sc v) : Dp K H v (toD v) := by
  cases v <;> first | exact False.elim h | constructor
theorem sc0_of {v : V} (h : Sc v) : Sc0 v := by
  cases v <;> first | exact False.elim h | exact True.intro
theorem lf_toD {v : V} (h : Sc v) : lf (toD v) = true := by
  cases v <;> first | exact False.elim h | rfl
theorem lf_enc : ∀ {e : Xp}, Okx e → lf (enc e) = true
  | .const v, h => by
    have := lf_toD h.sc
    simp [enc, lf, lfAll, this]
  | .col n, _ => by simp [enc, lf, lfAll]
  | .un u a, h => by
    have h1 := lf_enc (e := a) h
    simp [enc, lf, lfAll, h1]
  | .bin b a c, h => by
    have h1 := lf_enc (e := a) h.1
    have h2 := lf_enc (e := c) h.2
    simp [enc, lf, lfAll, h1, h2]
  | .ter t a b c, h => by
    have h1 := lf_enc (e := a) h.1
    have h2 := lf_enc (e := b) h.2.1
    have h3 := lf_enc (e := c) h.2.2
    simp [enc, lf, lfAll, h1, h2, h3]
  | .ch a b c, h => by
    have h1 := lf_enc (e := a) h.1
    have h2 := lf_enc (e := b) h.2.1
    have h3 := lf_enc (e := c) h.2.2
    simp [enc, lf, lfAll, h1, h2, h3]
theorem lay_toD {v : V} (h : OkV v) : (toD v).canLay0 = true ∧ (toD v).depth = 0 := by
  cases v with
  | non => exact ⟨by simp [toD, PyData.canLay0], rfl⟩
  | bl b => exact ⟨by simp [toD, PyData.canLay0], rfl⟩
  | int i => exact ⟨by simp [toD, PyData.canLay0], rfl⟩
  | str s => exact ⟨by simp [toD, PyData.canLay0, asc_ok h.2], rfl⟩
  | _ => exact False.elim h
theorem U.nameOk (u : U) : PyData.strOk u.name = true := by cases u <;> decide +kernel
theorem B.nameOk (u : B) : PyData.strOk u.name = true := by cases u <;> decide +kernel
theorem W3.nameOk (u : W3) : PyData.strOk u.name = true := by cases u <;> decide +kernel
theorem lay_enc : ∀ {e : Xp}, Okx e → (enc e).canLay0 = true ∧ (enc e).depth ≤ dpx e + 1
  | .const v, h => by
    obtain ⟨h1, h2⟩ := lay_toD h
    refine ⟨?_, ?_⟩
    · simp only [enc, PyData.canLay0, PyData.canLayAll0, h1, Bool.and_true]
      decide +kernel
    · simp only [enc, PyData.depth, PyData.depthAll, h2]
      omega
  | .col n, _ => by
    refine ⟨?_, ?_⟩
    · simp only [enc, PyData.canLay0, PyData.canLayAll0, Bool.and_true]
      decide +kernel
    · simp only [enc, PyData.depth, PyData.depthAll]
      omega
  | .un u a, h => by
    obtain ⟨h1, h2⟩ := lay_enc (e := a) h
    refine ⟨?_, ?_⟩
    · simp only [enc, PyData.canLay0, PyData.canLayAll0, Bool.and_true, h1, u.nameOk]
      decide +kernel
    · simp only [enc, PyData.depth, PyData.depthAll, dpx]
      omega
  | .bin u a c, h => by
    obtain ⟨h1, h2⟩ := lay_enc (e := a) h.1
    obtain ⟨h3, h4⟩ := lay_enc (e := c) h.2
    refine ⟨?_, ?_⟩
    · simp only [enc, PyData.canLay0, PyData.canLayAll0, Bool.and_true, h1, h3, u.nameOk]
      decide +kernel
    · simp only [enc, PyData.depth, PyData.depthAll, dpx]
      omega
  | .ter u a b c, h => by
    obtain ⟨h1, h2⟩ := lay_enc (e := a) h.1
    obtain ⟨h3, h4⟩ := lay_enc (e := b) h.2.1
    obtain ⟨h5, h6⟩ := lay_enc (e := c) h.2.2
    refine ⟨?_, ?_⟩
    · simp only [enc, PyData.canLay0, PyData.canLayAll0, Bool.and_true, h1, h3, h5, u.nameOk]
      decide +kernel
    · simp only [enc, PyData.depth, PyData.depthAll, dpx]
      omega
  | .ch a b c, h => by
    obtain ⟨h1, h2⟩ := lay_enc (e := a) h.1
    obtain ⟨h3, h4⟩ := lay_enc (e := b) h.2.1
    obtain ⟨h5, h6⟩ := lay_enc (e := c) h.2.2
    refine ⟨?_, ?_⟩
    · simp only [enc, PyData.canLay0, PyData.canLayAll0, Bool.and_true, h1, h3, h5]
      decide +kernel
    · simp only [enc, PyData.depth, PyData.depthAll, dpx]
      omega
theorem sh_enc {e : Xp} (h : Okx e) (hd : dpx e ≤ 60) : SeqAt.shaped (enc e) = true := by
  obtain ⟨h1, h2⟩ := lay_enc h
  simp only [SeqAt.shaped, h1, Bool.true_and, decide_eq_true_eq]
  omega
/-! the kinds of columns and expressions -/
abbrev Cols : Type := List (Kd × Bool)
def encC (c : Kd × Bool) : PyData := .tuple [.str c.1.name, .bool c.2]
def encK : Option (Kd × Bool) → PyData
  | some c => encC c
  | none => .none
def uK : U → List (Kd × Kd)
  | .negated => [(.bool, .bool)]
  | .negate => [(.int, .int), (.dec, .dec)]
  | .without_sign => [(.int, .int), (.dec, .dec)]
  | .sign_of => [(.int, .int), (.dec, .int)]
  | .lower => [(.text, .text)]
  | .upper => [(.text, .text)]
  | .trim => [(.text, .text)]
  | .length => [(.text, .int)]
  | .year_of => [(.date, .int)]
  | .month_of => [(.date, .int)]
  | .day_of_month => [(.date, .int)]
  | .weekday => [(.date, .int)]
  | .month_start => [(.date, .date)]
  | .year_start => [(.date, .date)]
  | .week_start => [(.date, .date)]
  | .as_date => [(.int, .date)]
  | .as_decimal => [(.int, .dec)]
  | .to_decimal => [(.int, .dec)]
  | .to_int => [(.dec, .int)]
  | .int_to_text => [(.int, .text)]
  | .date_to_text => [(.date, .text)]
  | .decimal_to_text => [(.dec, .text)]
  | .text_to_int => [(.text, .int)]
  | .text_to_date => [(.text, .date)]
  | .text_to_decimal => [(.text, .dec)]
  | .is_null => []
def bK : B → List (Kd × Kd × Kd)
  | .both => [(.bool, .bool, .bool)]
  | .either => [(.bool, .bool, .bool)]
  | .added => [(.int, .int, .int), (.dec, .dec, .dec)]
  | .rest => [(.int, .int, .int), (.dec, .dec, .dec)]
  | .subtracted => [(.int, .int, .int), (.dec, .dec, .dec), (.date, .date, .int)]
  | .multiplied => [(.int, .int, .int)]
  | .divided => [(.int, .int, .int)]
  | .decimals_multiplied => [(.dec, .dec, .dec)]
  | .decimals_divided => [(.dec, .dec, .dec)]
  | .joined => [(.text, .text, .text)]
  | .like => [(.text, .text, .bool)]
  | .position => [(.text, .text, .int)]
  | .days_added => [(.date, .int, .date)]
  | .months_added => [(.date, .int, .date)]
  | _ => []
def tK : W3 → Kd × Kd × Kd
  | .part_of => (.text, .int, .int)
  | .split => (.text, .text, .int)
  | .pad => (.text, .text, .int)
  | .replaced_in => (.text, .text, .text)
def U.op (u : U) : Bool := openNames.contains u.name
def B.op (u : B) : Bool := openNames.contains u.name
def kdU (u : U) (k : Kd × Bool) : Option (Kd × Bool) := if u = .is_null then some (.bool, false) else ((uK u).find? fun r => decide (r.1 = k.1)).map fun r => (r.2, k.2 || u.op)
def kdB (b : B) (k l : Kd × Bool) : Option (Kd × Bool) := match b with
  | .same => if k.1 = l.1 then some (.bool, false) else none
  | .coalesce => if k.1 = l.1 then some (k.1, k.2 && l.2) else none
  | .least => if k.1 = l.1 then some (k.1, k.2 || l.2) else none
  | .greatest => if k.1 = l.1 then some (k.1, k.2 || l.2) else none
  | .equal => if k.1 = l.1 then some (.bool, k.2 || l.2) else none
  | .less => if k.1 = l.1 then some (.bool, k.2 || l.2) else none
  | .at_most => if k.1 = l.1 then some (.bool, k.2 || l.2) else none
  | b => ((bK b).find? fun r => decide (r.1 = k.1) && decide (r.2.1 = l.1)).map fun r => (r.2.2, (k.2 || l.2) || b.op)
def ckX : V → Option (Kd × Bool)
  | .non => none
  | .bl _ => some (.bool, false)
  | .str _ => some (.text, false)
  | _ => some (.int, false)
def isNull : Xp → Bool
  | .const .non => true
  | _ => false
def kdX (cs : Cols) : Xp → Option (Kd × Bool)
  | .const v => ckX v
  | .col n => cs[n]?
  | .un u a => match kdX cs a with
    | some k => kdU u k
    | none => none
  | .bin b a c => match kdX cs a, kdX cs c with
    | some k, some l => kdB b k l
    | _, _ => none
  | .ter t a b c => match kdX cs a, kdX cs b, kdX cs c with
    | some k, some l, some m => if (k.1, l.1, m.1) = tK t then some (.text, true) else none
    | _, _, _ => none
  | .ch a b c => match kdX cs a with
    | some (.bool, _) => match kdX cs b, kdX cs c with
      | some k, some l => if k.1 = l.1 then some (k.1, k.2 || l.2) else none
      | none, some l => if isNull b = true then some (l.1, true) else none
      | some k, none => if isNull c = true then some (k.1, true) else none
      | none, none => none
    | _ => none
/-! folding -/
def isC : Xp → Bool
  | .const _ => true
  | _ => false
def cv : Xp → V
  | .const v => v
  | _ => .non
def foldOp (e : Xp) : Xp := match e with
  | .un _ a => if isC a = true then .const (evX [] e) else e
  | .bin b a c => if isC a = true ∧ isC c = true then .const (evX [] e) else (match b with
    | .both => if (isC a = true ∧ cv a = .bl false) ∨ (isC c = true ∧ cv c = .bl false) then .const (.bl false) else e
    | .either => if (isC a = true ∧ cv a = .bl true) ∨ (isC c = true ∧ cv c = .bl true) then .const (.bl true) else e
    | .coalesce => if isC a = true then (if cv a = .non then c else a) else e
    | _ => e)
  | .ter _ a b c => if isC a = true ∧ isC b = true ∧ isC c = true then .const (evX [] e) else e
  | e => e
def foldX : Xp → Xp
  | .const v => .const v
  | .col n => .col n
  | .un u a => foldOp (.un u (foldX a))
  | .bin b a c => foldOp (.bin b (foldX a) (foldX c))
  | .ter t a b c => foldOp (.ter t (foldX a) (foldX b) (foldX c))
  | .ch a b c => if isC (foldX a) = true then (if cv (foldX a) = .bl true then foldX b else foldX c) else .ch (foldX a) (foldX b) (foldX c)

end

section
variable {P : Program} {w : World} {K : PySem.W.Frag} {mg : Str → Option Value} {base : Heap}

/-! ### values of expressions -/
theorem cal_imp {k : Nat} {x : Str} {sp sp' : Sp} {dvs : List V} (c : C8.Cal P w K mg base k x sp dvs) (h : ∀ vs H Q E, sp' vs H Q E → sp vs H Q E) : C8.Cal P w K mg base k x sp' dvs := by
  obtain ⟨f, fd, ps, ds, F, hm, kp, b, d⟩ := c.ex
  exact ⟨f, fd, ps, ds, F.imp h, hm, kp, b, d⟩
section
variable {σ : L2.St} {H H' : Hp} {ta tb te tx tl : TE} {tA : TA} {E : XK} {ds es : List PyData} {v : V}
theorem et_eqS {i : Nat} {a b : Str} {k : Bool} (h : σ[i]? = some (some (.str a))) (hk : decide (a = b) = k) : EvT (tTest (tOp rEq (tVar i) (tC (.str b)))) σ H k := et_is (et_test (ev_op (ev_var h) ev_c rv_eqSS)) hk
theorem et_neS {i : Nat} {a b : Str} {k : Bool} (h : σ[i]? = some (some (.str a))) (hk : (!decide (a = b)) = k) : EvT (tTest (tOp rNe (tVar i) (tC (.str b)))) σ H k := et_is (et_test (ev_op (ev_var h) ev_c rv_neSS)) hk
/-- [te for x in t], values known -/
theorem el_lcTV {j : Nat} {vs : List Nat} {zs : List V} (h : EvD K tl σ H (.tuple es)) (hz : es.length ≤ 40000) (hl : zs.length = es.length) (hw : ∀ x, wipe ((wipe σ vs).set j (some x)) vs = wipe σ vs)
    (he : ∀ (i : Nat) x e v H1, Ex H H1 → Dp K H1 x e → es[i]? = some e → zs[i]? = some v → Ev te ((wipe σ vs).set j (some x)) H1 v) : EvL (tLc (iTup K tl) (gName j) tYes te vs) σ H zs := fun H0 e Q q => h H0 e _ fun v H1 e1 hv => by
  cases hv with
  | tup hq hx =>
    rename_i a xs
    have ln := dpa_len hx
    refine ⟨a, rfl, ⟨xs, hq⟩, fun Dl hD => lc_tup (xs := xs) (fun i H' => H1 Dl = none ∧ Ex H1 H' ∧ H' Dl = some (.lst (zs.take i))) ⟨hD, Ex.new hD, upd_same⟩ (fun i H' _ p => ex_t p.2.1 hq) (fun i x H' hi p => ?_) (fun H' p => ?_)⟩
    · obtain ⟨p1, p2, p3⟩ := p
      obtain ⟨e0, he1, he2⟩ := dpa_get' hx hi
      have hlt : i < es.length := (List.getElem?_eq_some_iff.mp he1).1
      have hd0 : zs[i]? = some zs[i] := List.getElem?_eq_getElem (by omega)
      refine ⟨hw x, ?_⟩
      show te ((wipe σ vs).set j (some x)) H' fun y H4 => ∃ acc, H4 Dl = some (.lst acc) ∧ acc.length < sizeLine ∧ (H1 Dl = none ∧ Ex H1 (upd H4 Dl (.lst (acc ++ [y]))) ∧ (upd H4 Dl (.lst (acc ++ [y]))) Dl = some (.lst (zs.take (i + 1))))
      refine he i x e0 zs[i] H' ((e.trans e1).trans p2) (dp_ex p2 _ _ he2) he1 hd0 H' (Ex.refl H') _ fun H4 e4 => ⟨zs.take i, e4 Dl _ p3, sz_lt (by rw [List.length_take]; omega), p1, Ex.mut (p2.trans e4) p1, ?_⟩
      rw [upd_same, List.take_succ, hd0]
      rfl
    · obtain ⟨p1, p2, p3⟩ := p
      rw [ln, ← hl, List.take_length] at p3
      exact q Dl H' (fresh_back e1 p1) (e1.trans p2) p3
end
def spEv (K : PySem.W.Frag) (d : Nat) : Sp := fun vs H Q _ => ∃ (e : Xp) (x : V) (ra : Addr) (row : List V), vs = [x, .ref ra] ∧ Dp K H x (enc e) ∧ SqL K H ra row ∧ dpx e < d ∧ Okx e ∧ Dm row e ∧ RetV (evX row e) H Q
theorem ec_E {σ : L2.St} {H : Hp} {tA : TA} {E : XK} {d : Nat} {e : Xp} {x : V} {ra : Addr} {row : List V} (h : EvA tA σ H [x, .ref ra]) (he : Dp K H x (enc e)) (hr : SqL K H ra row) (hd : dpx e < d) (hok : Okx e) (hm : Dm row e) : Ev (tCall (spEv K d) [] E tA) σ H (evX row e) :=
  ev_call h fun H1 e1 Q q E => ⟨e, x, ra, row, rfl, dp_ex e1 _ _ he, ex_l e1 hr, hd, hok, hm, q⟩
/-- the same where the expression is made on the way -/
theorem ec_E2 {σ : L2.St} {H : Hp} {ta tb : TE} {E : XK} {d : Nat} {e : Xp} {ra : Addr} {row : List V} (h : EvD K ta σ H (enc e)) (h2 : Ev tb σ H (.ref ra)) (hr : SqL K H ra row) (hd : dpx e < d) (hok : Okx e) (hm : Dm row e) : Ev (tCall (spEv K d) [] E (tCons ta (tCons tb tNil))) σ H (evX row e) := fun H1 e1 Q q =>
  h H1 e1 _ fun x H2 e2 hx => h2 H2 (e1.trans e2) _ fun H3 e3 => ⟨e, x, ra, row, rfl, dp_ex e3 _ _ hx, ex_l ((e1.trans e2).trans e3) hr, hd, hok, hm, fun H4 e4 => q H4 ((e2.trans e3).trans e4)⟩
theorem ec_un {σ : L2.St} {H : Hp} {tA : TA} {E : XK} {u : U} {a : V} (h : EvA tA σ H [.str u.name, a]) (c : u.dom a) : Ev (tCall sp_unary [] E tA) σ H (u.fn a) := ev_call h fun _ _ _ q _ => ⟨u, a, rfl, c, q⟩
theorem ec_bin {σ : L2.St} {H : Hp} {tA : TA} {E : XK} {u : B} {a b : V} (h : EvA tA σ H [.str u.name, a, b]) (c : u.dom a b) : Ev (tCall sp_binary [] E tA) σ H (u.fn a b) := ev_call h fun _ _ _ q _ => ⟨u, a, b, rfl, c, q⟩
theorem ec_ter {σ : L2.St} {H : Hp} {tA : TA} {E : XK} {u : W3} {a b d : V} (h : EvA tA σ H [.str u.name, a, b, d]) (c : u.dom a b d) : Ev (tCall sp_ternary [] E tA) σ H (u.fn a b d) := ev_call h fun _ _ _ q _ => ⟨u, a, b, d, rfl, c, q⟩
theorem rv_isT {x : V} {b : Bool} {H : Hp} (h : Sc x) : RV (rIsU false) x (.bl b) H (.bl (decide (x = .bl b))) := fun H1 _ Q q => ⟨b, rfl, by
  cases x with
  | non => exact .inl rfl
  | bl c => exact .inr (.inl ⟨c, rfl⟩)
  | int i => exact .inr (.inr (.inl ⟨i, rfl⟩))
  | str s => exact .inr (.inr (.inr ⟨s, rfl⟩))
  | _ => exact False.elim h, q H1 (Ex.refl H1)⟩
/-- the form, the name and the parts of an expression -/
def frm : Xp → Str
  | .const _ => "constant"
  | .col _ => "column"
  | .un _ _ => "unary"
  | .bin _ _ _ => "binary"
  | .ter _ _ _ _ => "ternary"
  | .ch _ _ _ => "choice"
theorem ed_frm {σ : L2.St} {H : Hp} {i : Nat} {x : V} {e : Xp} (h : σ[i]? = some (some x)) (he : Dp K H x (enc e)) : Ev (tOp (rIx K) (tVar i) (tC (.int 0))) σ H (.str (frm e)) := by
  cases e <;> exact ev_dS (ed_ixT (ed_var h he) ev_c rfl)

theorem cz_evaluate (T : Tx w K mg) : C8.Cal P w K mg base 1 "evaluate" (fun _ _ _ _ => False) [] :=
  mk_cal T (x := "evaluate") (i := 118) (j := 90) (N := ["expression", "row", "form", "values", "part"]) (ps := ["expression", "row"]) rfl rfl (by decide +kernel) (fun _ _ _ _ _ _ us hl => match us, hl with | [_, _], _ => rfl) (fun _ _ _ _ h => h.elim) (fun _ _ _ _ _ _ _ _ _ _ h => h.elim)

theorem cs_evaluate {d : Nat} (ih : C8.Cal P w K mg base (6 + d) "evaluate" (spEv K d) []) (T : Tx w K mg) : C8.Cal P w K mg base (6 + d + 1) "evaluate" (spEv K (d + 1)) [] := by
  refine mk_cal T (x := "evaluate") (i := 118) (j := 90) (N := ["expression", "row", "form", "values", "part"]) (ps := ["expression", "row"]) rfl rfl (by decide +kernel) (fun _ _ _ _ _ _ us hl => match us, hl with | [_, _], _ => rfl) (fun vs H Q E h => by obtain ⟨_, _, _, _, rfl, _⟩ := h; rfl) (fun cdv A outer s H vs Q E nd hr h => ⟨_, (pss_cons (ps_set (i := 2) nd rfl (.inl rfl) (pe_ix ix_seq (pv 0) pe_int (fun _ _ => rfl)))
      (pss_cons (ps_if (pt_cmpR op_eq (pv 2) pe_str (nomark _)) (pss_one (ps_ret (pe_ix ix_seq (pv 0) pe_int (fun _ _ => rfl)))) pss_nil)
      (pss_cons (ps_if (pt_cmpR op_eq (pv 2) pe_str (nomark _)) (pss_one (ps_ret (pe_ifExp (pt_cmpR o_lt (pe_ix ix_seq (pv 0) pe_int (fun _ _ => rfl)) (pe_callB b_len (by rfl) T.m_len boot_len (pa_cons (pv 1) pa_nil)) (nomark _)) (pe_ix ix_seq (pv 1) (pe_ix ix_seq (pv 0) pe_int (fun _ _ => rfl)) (fun _ _ => rfl)) pe_non))) pss_nil)
      (pss_cons (ps_if (pt_cmpR op_eq (pv 2) pe_str (nomark _)) (pss_cons (ps_if (pt_cmpR o_isU (C8.pe_c ih hr (Nat.le_refl _) (by rfl) (pa_cons (pe_ix ix_seq (pv 0) pe_int (fun _ _ => rfl)) (pa_cons (pv 1) pa_nil))) pe_bl (nomark _)) (pss_one (ps_ret (C8.pe_c ih hr (Nat.le_refl _) (by rfl) (pa_cons (pe_ix ix_seq (pv 0) pe_int (fun _ _ => rfl)) (pa_cons (pv 1) pa_nil))))) pss_nil)
      (pss_one (ps_ret (C8.pe_c ih hr (Nat.le_refl _) (by rfl) (pa_cons (pe_ix ix_seq (pv 0) pe_int (fun _ _ => rfl)) (pa_cons (pv 1) pa_nil)))))) pss_nil)
      (pss_cons (ps_setLc (i := 3) (own := [("part", 4)]) (g := gName 4) (by rfl) nd rfl rfl (sw_true rfl rfl rfl (by decide +kernel)) (pi_tup (pe_slice sl_tupA (pv 0) (po_some pe_int) po_none)) (blkOk_by (own := [("part", 4)]) (N := ["expression", "row", "form", "values", "part"]) (sc := C8.fnScope (top 118)) (by decide +kernel)) (fun _ _ _ _ _ => pg_name (i := 4) nd rfl (.inl rfl)) (fun _ _ _ _ _ => pts_nil) (fun _ _ _ _ _ => (C8.pe_c ih hr (Nat.le_refl _) (by rfl) (pa_cons (pv 4) (pa_cons (pv 1) pa_nil)))))
      (pss_cons (ps_if (pt_cmpR op_eq (pv 2) pe_str (nomark _)) (pss_one (ps_ret (C8.pe_c (c_unary T) hr (by omega) (by rfl) (pa_cons (pe_ix ix_seq (pv 0) pe_int (fun _ _ => rfl)) (pa_cons (pe_ix ix_seq (pv 3) pe_int (fun _ _ => rfl)) pa_nil))))) pss_nil)
      (pss_cons (ps_if (pt_cmpR op_eq (pv 2) pe_str (nomark _)) (pss_one (ps_ret (C8.pe_c (c_binary T) hr (by omega) (by rfl) (pa_cons (pe_ix ix_seq (pv 0) pe_int (fun _ _ => rfl)) (pa_cons (pe_ix ix_seq (pv 3) pe_int (fun _ _ => rfl)) (pa_cons (pe_ix ix_seq (pv 3) pe_int (fun _ _ => rfl)) pa_nil)))))) pss_nil)
      (pss_one (ps_ret (C8.pe_c (c_ternary T) hr (by omega) (by rfl) (pa_cons (pe_ix ix_seq (pv 0) pe_int (fun _ _ => rfl)) (pa_cons (pe_ix ix_seq (pv 3) pe_int (fun _ _ => rfl)) (pa_cons (pe_ix ix_seq (pv 3) pe_int (fun _ _ => rfl)) (pa_cons (pe_ix ix_seq (pv 3) pe_int (fun _ _ => rfl)) pa_nil)))))))))))))), ?hb⟩)
  case hb =>
    obtain ⟨e, x, ra, row, rfl, he, hrow, hd, hok, hdm, hQ⟩ := h
    cases e with
    | const v =>
      have hv : Dp K H x (.tuple [.str "constant", toD v]) := he
      refine q_asg (v := .str "constant") (ev_dS (ed_ixT (ed_var rfl hv) ev_c rfl)) (fun H1 e1 => ?_)
      refine q_when (b := true) (et_eqS rfl (by decide +kernel)) (fun _ H2 e2 => ?_) (fun z => nomatch z)
      exact s_ret (ev_dV (sc0_of hok.sc) (ed_ixT (ed_var rfl (dp_ex (e1.trans e2) _ _ hv)) ev_c rfl)) (fun H3 e3 => fin hQ ((e1.trans e2).trans e3) rfl)
    | col n =>
      have hv : Dp K H x (.tuple [.str "column", .int n]) := he
      refine q_asg (v := .str "column") (ev_dS (ed_ixT (ed_var rfl hv) ev_c rfl)) (fun H1 e1 => ?_)
      refine q_when (b := false) (et_eqS rfl (by decide +kernel)) (fun z => nomatch z) (fun _ H2 e2 => ?_)
      refine q_when (b := true) (et_eqS rfl (by decide +kernel)) (fun _ H3 e3 => ?_) (fun z => nomatch z)
      have e13 := (e1.trans e2).trans e3
      have hv3 := dp_ex e13 _ _ hv
      have hr3 := ex_l e13 hrow
      have hQ : RetV ((row[n]?).getD .non) H Q := hQ
      by_cases hlt : n < row.length
      · have hg := List.getElem?_eq_getElem hlt
        refine s_ret (ev_ifT (et_is (et_test (ev_op (ev_dI (ed_ixT (ed_var rfl hv3) ev_c rfl)) (ev_cb (ea_cons (ev_var rfl) ea_nil) (rc_lenL hr3)) rv_ltI)) (decide_eq_true (by omega))) (ev_op (ev_var rfl) (ev_dI (ed_ixT (ed_var rfl hv3) ev_c rfl)) (rv_ixuL hr3 (L2.atI_nat hg)))) (fun H4 e4 => fin hQ (e13.trans e4) ?_)
        rw [hg]
        rfl
      · refine s_ret (ev_ifF (et_is (et_test (ev_op (ev_dI (ed_ixT (ed_var rfl hv3) ev_c rfl)) (ev_cb (ea_cons (ev_var rfl) ea_nil) (rc_lenL hr3)) rv_ltI)) (decide_eq_false (by omega))) ev_c) (fun H4 e4 => fin hQ (e13.trans e4) ?_)
        rw [List.getElem?_eq_none (by omega)]
        rfl
    | ch a b c =>
      have hv : Dp K H x (.tuple [.str "choice", enc a, enc b, enc c]) := he
      have hd : max (dpx a) (max (dpx b) (dpx c)) + 1 < d + 1 := hd
      obtain ⟨⟨m1, m2⟩, m3, m4⟩ := hdm
      obtain ⟨o1, o2, o3⟩ := hok
      refine q_asg (v := .str "choice") (ev_dS (ed_ixT (ed_var rfl hv) ev_c rfl)) (fun H1 e1 => ?_)
      refine q_when (b := false) (et_eqS rfl (by decide +kernel)) (fun z => nomatch z) (fun _ H2 e2 => ?_)
      refine q_when (b := false) (et_eqS rfl (by decide +kernel)) (fun z => nomatch z) (fun _ H3 e3 => ?_)
      refine q_when (b := true) (et_eqS rfl (by decide +kernel)) (fun _ H4 e4 => ?_) (fun z => nomatch z)
      have e14 := ((e1.trans e2).trans e3).trans e4
      have hv4 := dp_ex e14 _ _ hv
      have hr4 := ex_l e14 hrow
      have hQ : RetV (if evX row a = .bl true then evX row b else evX row c) H Q := hQ
      refine q_when (b := decide (evX row a = .bl true)) (et_test (ev_op (ec_E2 (ed_ixT (ed_var rfl hv4) ev_c rfl) (ev_var rfl) hr4 (by omega) o1 m1) ev_c (rv_isT m2))) (fun hb H5 e5 => ?_) (fun hb H5 e5 => ?_)
      · have hb := of_decide_eq_true hb
        rw [if_pos hb] at hQ
        exact s_ret (ec_E2 (ed_ixT (ed_var rfl (dp_ex e5 _ _ hv4)) ev_c rfl) (ev_var rfl) (ex_l e5 hr4) (by omega) o2 (m3 hb)) (fun H6 e6 => fin hQ ((e14.trans e5).trans e6) rfl)
      · have hb := of_decide_eq_false hb
        rw [if_neg hb] at hQ
        exact s_ret (ec_E2 (ed_ixT (ed_var rfl (dp_ex e5 _ _ hv4)) ev_c rfl) (ev_var rfl) (ex_l e5 hr4) (by omega) o3 (m4 hb)) (fun H6 e6 => fin hQ ((e14.trans e5).trans e6) rfl)
    | un u a =>
      have hv : Dp K H x (.tuple [.str "unary", .str u.name, enc a]) := he
      have hrow0 := hrow
      refine q_asg (v := .str "unary") (ev_dS (ed_ixT (ed_var rfl hv) ev_c rfl)) (fun H1 e1 => ?_)
      refine q_when (b := false) (et_eqS rfl (by decide +kernel)) (fun z => nomatch z) (fun _ H2 e2 => ?_)
      refine q_when (b := false) (et_eqS rfl (by decide +kernel)) (fun z => nomatch z) (fun _ H3 e3 => ?_)
      refine q_when (b := false) (et_eqS rfl (by decide +kernel)) (fun z => nomatch z) (fun _ H4 e4 => ?_)
      have e14 := ((e1.trans e2).trans e3).trans e4
      refine q_asgL (xs := [evX row a]) (el_lcTV (es := [enc a]) (ed_is (ed_slA (ed_var rfl (dp_ex e14 _ _ hv)) (eo_some ev_c) eo_none) rfl) (by simp) rfl (fun _ => rfl) (fun i y e1 v1 H5 e5 hy hi hj => ?_)) (fun l H5 hl e5 h5 => ?_)
      · have r5 := ex_l (e14.trans e5) hrow
        match i, hi, hj with
        | 0, hi, hj =>
          cases hi
          cases hj
          exact ec_E (ea_cons (ev_var rfl) (ea_cons (ev_var rfl) ea_nil)) hy r5 (by have hd : dpx a + 1 < d + 1 := hd; omega) hok hdm.1
        | i + 1, hi, hj => exact absurd (show ([] : List PyData)[i]? = some _ from hi) (by simp)
      · have s5 := sq_of (K := K) h5
        refine q_when (b := true) (et_eqS rfl (by decide +kernel)) (fun _ H6 e6 => ?_) (fun z => nomatch z)
        exact s_ret (ec_un (ea_cons (ev_dS (ed_ixT (ed_var rfl (dp_ex ((e14.trans e5).trans e6) _ _ hv)) ev_c rfl)) (ea_cons (ev_op (ev_var rfl) ev_c (rv_ixuL (ex_l e6 s5) rfl)) ea_nil)) hdm.2) (fun H9 e9 => fin hQ (((e14.trans e5).trans e6).trans e9) rfl)
    | bin u a b =>
      have hv : Dp K H x (.tuple [.str "binary", .str u.name, enc a, enc b]) := he
      have hrow0 := hrow
      refine q_asg (v := .str "binary") (ev_dS (ed_ixT (ed_var rfl hv) ev_c rfl)) (fun H1 e1 => ?_)
      refine q_when (b := false) (et_eqS rfl (by decide +kernel)) (fun z => nomatch z) (fun _ H2 e2 => ?_)
      refine q_when (b := false) (et_eqS rfl (by decide +kernel)) (fun z => nomatch z) (fun _ H3 e3 => ?_)
      refine q_when (b := false) (et_eqS rfl (by decide +kernel)) (fun z => nomatch z) (fun _ H4 e4 => ?_)
      have e14 := ((e1.trans e2).trans e3).trans e4
      refine q_asgL (xs := [evX row a, evX row b]) (el_lcTV (es := [enc a, enc b]) (ed_is (ed_slA (ed_var rfl (dp_ex e14 _ _ hv)) (eo_some ev_c) eo_none) rfl) (by simp) rfl (fun _ => rfl) (fun i y e1 v1 H5 e5 hy hi hj => ?_)) (fun l H5 hl e5 h5 => ?_)
      · have r5 := ex_l (e14.trans e5) hrow
        match i, hi, hj with
        | 0, hi, hj =>
          cases hi
          cases hj
          exact ec_E (ea_cons (ev_var rfl) (ea_cons (ev_var rfl) ea_nil)) hy r5 (by have hd : max (dpx a) (dpx b) + 1 < d + 1 := hd; omega) hok.1 hdm.1.1
        | 1, hi, hj =>
          cases hi
          cases hj
          exact ec_E (ea_cons (ev_var rfl) (ea_cons (ev_var rfl) ea_nil)) hy r5 (by have hd : max (dpx a) (dpx b) + 1 < d + 1 := hd; omega) hok.2 hdm.1.2
        | i + 2, hi, hj => exact absurd (show ([] : List PyData)[i]? = some _ from hi) (by simp)
      · have s5 := sq_of (K := K) h5
        refine q_when (b := false) (et_eqS rfl (by decide +kernel)) (fun z => nomatch z) (fun _ H6 e6 => ?_)
        refine q_when (b := true) (et_eqS rfl (by decide +kernel)) (fun _ H7 e7 => ?_) (fun z => nomatch z)
        exact s_ret (ec_bin (ea_cons (ev_dS (ed_ixT (ed_var rfl (dp_ex (((e14.trans e5).trans e6).trans e7) _ _ hv)) ev_c rfl)) (ea_cons (ev_op (ev_var rfl) ev_c (rv_ixuL (ex_l (e6.trans e7) s5) rfl)) (ea_cons (ev_op (ev_var rfl) ev_c (rv_ixuL (ex_l (e6.trans e7) s5) rfl)) ea_nil))) hdm.2) (fun H9 e9 => fin hQ ((((e14.trans e5).trans e6).trans e7).trans e9) rfl)
    | ter u a b c =>
      have hv : Dp K H x (.tuple [.str "ternary", .str u.name, enc a, enc b, enc c]) := he
      have hrow0 := hrow
      refine q_asg (v := .str "ternary") (ev_dS (ed_ixT (ed_var rfl hv) ev_c rfl)) (fun H1 e1 => ?_)
      refine q_when (b := false) (et_eqS rfl (by decide +kernel)) (fun z => nomatch z) (fun _ H2 e2 => ?_)
      refine q_when (b := false) (et_eqS rfl (by decide +kernel)) (fun z => nomatch z) (fun _ H3 e3 => ?_)
      refine q_when (b := false) (et_eqS rfl (by decide +kernel)) (fun z => nomatch z) (fun _ H4 e4 => ?_)
      have e14 := ((e1.trans e2).trans e3).trans e4
      refine q_asgL (xs := [evX row a, evX row b, evX row c]) (el_lcTV (es := [enc a, enc b, enc c]) (ed_is (ed_slA (ed_var rfl (dp_ex e14 _ _ hv)) (eo_some ev_c) eo_none) rfl) (by simp) rfl (fun _ => rfl) (fun i y e1 v1 H5 e5 hy hi hj => ?_)) (fun l H5 hl e5 h5 => ?_)
      · have r5 := ex_l (e14.trans e5) hrow
        match i, hi, hj with
        | 0, hi, hj =>
          cases hi
          cases hj
          exact ec_E (ea_cons (ev_var rfl) (ea_cons (ev_var rfl) ea_nil)) hy r5 (by have hd : max (dpx a) (max (dpx b) (dpx c)) + 1 < d + 1 := hd; omega) hok.1 hdm.1.1
        | 1, hi, hj =>
          cases hi
          cases hj
          exact ec_E (ea_cons (ev_var rfl) (ea_cons (ev_var rfl) ea_nil)) hy r5 (by have hd : max (dpx a) (max (dpx b) (dpx c)) + 1 < d + 1 := hd; omega) hok.2.1 hdm.1.2.1
        | 2, hi, hj =>
          cases hi
          cases hj
          exact ec_E (ea_cons (ev_var rfl) (ea_cons (ev_var rfl) ea_nil)) hy r5 (by have hd : max (dpx a) (max (dpx b) (dpx c)) + 1 < d + 1 := hd; omega) hok.2.2 hdm.1.2.2
        | i + 3, hi, hj => exact absurd (show ([] : List PyData)[i]? = some _ from hi) (by simp)
      · have s5 := sq_of (K := K) h5
        refine q_when (b := false) (et_eqS rfl (by decide +kernel)) (fun z => nomatch z) (fun _ H6 e6 => ?_)
        refine q_when (b := false) (et_eqS rfl (by decide +kernel)) (fun z => nomatch z) (fun _ H7 e7 => ?_)
        exact s_ret (ec_ter (ea_cons (ev_dS (ed_ixT (ed_var rfl (dp_ex (((e14.trans e5).trans e6).trans e7) _ _ hv)) ev_c rfl)) (ea_cons (ev_op (ev_var rfl) ev_c (rv_ixuL (ex_l (e6.trans e7) s5) rfl)) (ea_cons (ev_op (ev_var rfl) ev_c (rv_ixuL (ex_l (e6.trans e7) s5) rfl)) (ea_cons (ev_op (ev_var rfl) ev_c (rv_ixuL (ex_l (e6.trans e7) s5) rfl)) ea_nil)))) hdm.2) (fun H9 e9 => fin hQ ((((e14.trans e5).trans e6).trans e7).trans e9) rfl)


theorem c_evaluate (T : Tx w K mg) : ∀ d : Nat, C8.Cal P w K mg base (6 + d) "evaluate" (spEv K d) []
  | 0 => cal_up (cal_imp (cz_evaluate T) fun vs H Q E h => by
    obtain ⟨e, x, ra, row, _, _, _, hd, _⟩ := h
    exact absurd hd (Nat.not_lt_zero _)) (by decide)
  | d + 1 => cs_evaluate (c_evaluate T d) T

end

section
variable {P : Program} {w : World} {K : PySem.W.Frag} {mg : Str → Option Value} {base : Heap}

/-! ### folding -/
/-- a promise about one expression -/
def spX (K : PySem.W.Frag) (C : Xp → Prop) (f : Xp → PyData) : Sp := fun vs H Q _ => ∃ (e : Xp) (x : V), vs = [x] ∧ Dp K H x (enc e) ∧ C e ∧ RetD K (f e) H Q
theorem ed_X {σ : L2.St} {H : Hp} {ta : TE} {E : XK} {C : Xp → Prop} {f : Xp → PyData} {e : Xp} (h : EvD K ta σ H (enc e)) (c : C e) : EvD K (tCall (spX K C f) [] E (tCons ta tNil)) σ H (f e) := fun H1 e1 Q q =>
  h H1 e1 _ fun x H2 e2 hx => ⟨e, x, rfl, hx, c, fun v H3 e3 hv => q v H3 (e2.trans e3) hv⟩
theorem ev_X {σ : L2.St} {H : Hp} {ta : TE} {E : XK} {C : Xp → Prop} {f : Xp → Bool} {e : Xp} (h : EvD K ta σ H (enc e)) (c : C e) : Ev (tCall (spX K C (fun e => .bool (f e))) [] E (tCons ta tNil)) σ H (.bl (f e)) := ev_dB (ed_X (f := fun e => .bool (f e)) h c)
def prt : Xp → List Xp
  | .const _ => []
  | .col _ => []
  | .un _ a => [a]
  | .bin _ a b => [a, b]
  | .ter _ a b c => [a, b, c]
  | .ch a b c => [a, b, c]
def wpr : Xp → List Xp → Xp
  | .un u _, [a] => .un u a
  | .bin u _ _, [a, b] => .bin u a b
  | .ter u _ _ _, [a, b, c] => .ter u a b c
  | .ch _ _ _, [a, b, c] => .ch a b c
  | e, _ => e
def isLeaf : Xp → Bool
  | .const _ => true
  | .col _ => true
  | _ => false
theorem ev_inL2 {σ : L2.St} {H : Hp} {te : TE} {e : Xp} (h : Ev te σ H (.str (frm e))) : Ev (tOp (rIn K false) te (tTup (tCons (tC (.str "constant")) (tCons (tC (.str "column")) tNil)))) σ H (.bl (isLeaf e)) := by
  refine ev_is (ev_inU h (eu_tup (ea_cons ev_c (ea_cons ev_c ea_nil)) (Nat.le_of_ble_eq_true rfl)) rfl rfl) ?_
  cases e <;> rfl

theorem c_is_constant (T : Tx w K mg) : C8.Cal P w K mg base 1 "is_constant" (spX K (fun _ => True) (fun e => .bool (isC e))) [] := by
  refine mk_cal T (x := "is_constant") (i := 119) (j := 91) (N := ["expression"]) (ps := ["expression"]) rfl rfl (by decide +kernel) (fun _ _ _ _ _ _ us hl => match us, hl with | [_], _ => rfl) (fun vs H Q E h => by obtain ⟨_, _, rfl, _⟩ := h; rfl) (fun cdv A outer s H vs Q E nd hr h => ⟨_, (pss_one (ps_ret (pe_cmpR op_eq (pe_ix ix_seq (pv 0) pe_int (fun _ _ => rfl)) pe_str (nomark _)))), ?hb⟩)
  case hb =>
    obtain ⟨e, x, rfl, he, _, hQ⟩ := h
    have hQ : RetD K (.bool (isC e)) H Q := hQ
    refine s_ret (ev_is (ev_op (ed_frm rfl he) ev_c rv_eqSS) ?_) (fun H1 e1 => hQ (.bl (isC e)) H1 e1 (.bl _))
    cases e <;> rfl

theorem c_parts_of (T : Tx w K mg) : C8.Cal P w K mg base 1 "parts_of" (spX K (fun _ => True) (fun e => .list ((prt e).map enc))) [] := by
  refine mk_cal T (x := "parts_of") (i := 116) (j := 88) (N := ["expression", "form"]) (ps := ["expression"]) rfl rfl (by decide +kernel) (fun _ _ _ _ _ _ us hl => match us, hl with | [_], _ => rfl) (fun vs H Q E h => by obtain ⟨_, _, rfl, _⟩ := h; rfl) (fun cdv A outer s H vs Q E nd hr h => ⟨_, (pss_cons (ps_set (i := 1) nd rfl (.inl rfl) (pe_ix ix_seq (pv 0) pe_int (fun _ _ => rfl)))
      (pss_cons (ps_if (pt_cmpR op_in_seq (pv 1) (pe_tup (pa_cons pe_str (pa_cons pe_str pa_nil))) (by rfl)) (pss_one (ps_ret (pe_lst pa_nil))) pss_nil)
      (pss_cons (ps_if (pt_cmpR op_eq (pv 1) pe_str (nomark _)) (pss_one (ps_ret (pe_callTy b_list (by rfl) T.m_list boot_list (pa_cons (pe_slice sl_tupA (pv 0) (po_some pe_int) po_none) pa_nil)))) pss_nil)
      (pss_one (ps_ret (pe_callTy b_list (by rfl) T.m_list boot_list (pa_cons (pe_slice sl_tupA (pv 0) (po_some pe_int) po_none) pa_nil))))))), ?hb⟩)
  case hb =>
    obtain ⟨e, x, rfl, he, _, hQ⟩ := h
    have hQ : RetD K (.list ((prt e).map enc)) H Q := hQ
    cases e with
    | const v =>
      refine q_asg (v := .str "constant") (ed_frm (e := .const v) rfl he) (fun H1 e1 => ?_)
      refine q_when (b := true) (et_test (ev_inL2 (e := .const v) (ev_var rfl))) (fun _ H2 e2 => ?_) (fun z => nomatch z)
      exact s_retD (ed_lst ead_nil (Nat.zero_le _)) (hQ.go (e1.trans e2))
    | col n =>
      refine q_asg (v := .str "column") (ed_frm (e := .col n) rfl he) (fun H1 e1 => ?_)
      refine q_when (b := true) (et_test (ev_inL2 (e := .col n) (ev_var rfl))) (fun _ H2 e2 => ?_) (fun z => nomatch z)
      exact s_retD (ed_lst ead_nil (Nat.zero_le _)) (hQ.go (e1.trans e2))
    | un u a =>
      have hv : Dp K H x (.tuple [.str "unary", .str u.name, enc a]) := he
      have hQ : RetD K (.list [enc a]) H Q := hQ
      refine q_asg (v := .str "unary") (ev_dS (ed_ixT (ed_var rfl hv) ev_c rfl)) (fun H1 e1 => ?_)
      refine q_when (b := false) (et_test (ev_inL2 (e := .un u a) (ev_var rfl))) (fun z => nomatch z) (fun _ H2 e2 => ?_)
      refine q_when (b := false) (et_eqS rfl (by decide +kernel)) (fun z => nomatch z) (fun _ H3 e3 => ?_)
      exact s_retD (ed_listT (ed_is (ed_slA (ed_var rfl (dp_ex ((e1.trans e2).trans e3) _ _ hv)) (eo_some ev_c) eo_none) rfl)) (hQ.go ((e1.trans e2).trans e3))
    | bin u a b =>
      have hv : Dp K H x (.tuple [.str "binary", .str u.name, enc a, enc b]) := he
      have hQ : RetD K (.list [enc a, enc b]) H Q := hQ
      refine q_asg (v := .str "binary") (ev_dS (ed_ixT (ed_var rfl hv) ev_c rfl)) (fun H1 e1 => ?_)
      refine q_when (b := false) (et_test (ev_inL2 (e := .bin u a b) (ev_var rfl))) (fun z => nomatch z) (fun _ H2 e2 => ?_)
      refine q_when (b := false) (et_eqS rfl (by decide +kernel)) (fun z => nomatch z) (fun _ H3 e3 => ?_)
      exact s_retD (ed_listT (ed_is (ed_slA (ed_var rfl (dp_ex ((e1.trans e2).trans e3) _ _ hv)) (eo_some ev_c) eo_none) rfl)) (hQ.go ((e1.trans e2).trans e3))
    | ter u a b c =>
      have hv : Dp K H x (.tuple [.str "ternary", .str u.name, enc a, enc b, enc c]) := he
      have hQ : RetD K (.list [enc a, enc b, enc c]) H Q := hQ
      refine q_asg (v := .str "ternary") (ev_dS (ed_ixT (ed_var rfl hv) ev_c rfl)) (fun H1 e1 => ?_)
      refine q_when (b := false) (et_test (ev_inL2 (e := .ter u a b c) (ev_var rfl))) (fun z => nomatch z) (fun _ H2 e2 => ?_)
      refine q_when (b := false) (et_eqS rfl (by decide +kernel)) (fun z => nomatch z) (fun _ H3 e3 => ?_)
      exact s_retD (ed_listT (ed_is (ed_slA (ed_var rfl (dp_ex ((e1.trans e2).trans e3) _ _ hv)) (eo_some ev_c) eo_none) rfl)) (hQ.go ((e1.trans e2).trans e3))
    | ch a b c =>
      have hv : Dp K H x (.tuple [.str "choice", enc a, enc b, enc c]) := he
      have hQ : RetD K (.list [enc a, enc b, enc c]) H Q := hQ
      refine q_asg (v := .str "choice") (ev_dS (ed_ixT (ed_var rfl hv) ev_c rfl)) (fun H1 e1 => ?_)
      refine q_when (b := false) (et_test (ev_inL2 (e := .ch a b c) (ev_var rfl))) (fun z => nomatch z) (fun _ H2 e2 => ?_)
      refine q_when (b := true) (et_eqS rfl (by decide +kernel)) (fun _ H3 e3 => ?_) (fun z => nomatch z)
      exact s_retD (ed_listT (ed_is (ed_slA (ed_var rfl (dp_ex ((e1.trans e2).trans e3) _ _ hv)) (eo_some ev_c) eo_none) rfl)) (hQ.go ((e1.trans e2).trans e3))



def spW (K : PySem.W.Frag) : Sp := fun vs H Q _ => ∃ (e : Xp) (ps : List Xp) (x y : V), vs = [x, y] ∧ Dp K H x (enc e) ∧ Dp K H y (.list (ps.map enc)) ∧ ps.length = (prt e).length ∧ RetD K (enc (wpr e ps)) H Q


theorem len1 {α : Type} {l : List α} (h : l.length = 1) : ∃ a, l = [a] := match l, h with
  | [a], _ => ⟨a, rfl⟩
theorem len2 {α : Type} {l : List α} (h : l.length = 2) : ∃ a b, l = [a, b] := match l, h with
  | [a, b], _ => ⟨a, b, rfl⟩
theorem len3 {α : Type} {l : List α} (h : l.length = 3) : ∃ a b c, l = [a, b, c] := match l, h with
  | [a, b, c], _ => ⟨a, b, c, rfl⟩

theorem c_with_parts (T : Tx w K mg) : C8.Cal P w K mg base 1 "with_parts" (spW K) [] := by
  refine mk_cal T (x := "with_parts") (i := 117) (j := 89) (N := ["expression", "parts", "form"]) (ps := ["expression", "parts"]) rfl rfl (by decide +kernel) (fun _ _ _ _ _ _ us hl => match us, hl with | [_, _], _ => rfl) (fun vs H Q E h => by obtain ⟨_, _, _, _, rfl, _⟩ := h; rfl) (fun cdv A outer s H vs Q E nd hr h => ⟨_, (pss_cons (ps_set (i := 2) nd rfl (.inl rfl) (pe_ix ix_seq (pv 0) pe_int (fun _ _ => rfl)))
      (pss_cons (ps_if (pt_cmpR op_in_seq (pv 2) (pe_tup (pa_cons pe_str (pa_cons pe_str pa_nil))) (by rfl)) (pss_one (ps_ret (pv 0))) pss_nil)
      (pss_cons (ps_if (pt_cmpR op_eq (pv 2) pe_str (nomark _)) (pss_one (ps_ret (pe_tup (pa_cons pe_str (pa_cons (pe_ix ix_seq (pv 1) pe_int (fun _ _ => rfl)) (pa_cons (pe_ix ix_seq (pv 1) pe_int (fun _ _ => rfl)) (pa_cons (pe_ix ix_seq (pv 1) pe_int (fun _ _ => rfl)) pa_nil))))))) pss_nil)
      (pss_one (ps_ret (pe_op op_catA (pe_tup (pa_cons (pv 2) (pa_cons (pe_ix ix_seq (pv 0) pe_int (fun _ _ => rfl)) pa_nil))) (pe_callTy b_tuple (by rfl) T.m_tuple boot_tuple (pa_cons (pv 1) pa_nil)))))))), ?hb⟩)
  case hb =>
    obtain ⟨e, ps, x, y, rfl, he, hy, hn, hQ⟩ := h
    cases e with
    | const v =>
      refine q_asg (v := .str "constant") (ed_frm (e := .const v) rfl he) (fun H1 e1 => ?_)
      refine q_when (b := true) (et_test (ev_inL2 (e := .const v) (ev_var rfl))) (fun _ H2 e2 => ?_) (fun z => nomatch z)
      exact s_retD (ed_var rfl (dp_ex (e1.trans e2) _ _ he)) (hQ.go (e1.trans e2))
    | col n =>
      refine q_asg (v := .str "column") (ed_frm (e := .col n) rfl he) (fun H1 e1 => ?_)
      refine q_when (b := true) (et_test (ev_inL2 (e := .col n) (ev_var rfl))) (fun _ H2 e2 => ?_) (fun z => nomatch z)
      exact s_retD (ed_var rfl (dp_ex (e1.trans e2) _ _ he)) (hQ.go (e1.trans e2))
    | un u a =>
      have hv : Dp K H x (.tuple [.str "unary", .str u.name, enc a]) := he
      obtain ⟨a2, rfl⟩ : ∃ a2, ps = [a2] := len1 hn
      have hy : Dp K H y (.list [enc a2]) := hy
      have hQ : RetD K (.tuple [.str "unary", .str u.name, enc a2]) H Q := hQ
      refine q_asg (v := .str "unary") (ev_dS (ed_ixT (ed_var rfl hv) ev_c rfl)) (fun H1 e1 => ?_)
      refine q_when (b := false) (et_test (ev_inL2 (e := .un u a) (ev_var rfl))) (fun z => nomatch z) (fun _ H2 e2 => ?_)
      refine q_when (b := false) (et_eqS rfl (by decide +kernel)) (fun z => nomatch z) (fun _ H3 e3 => ?_)
      have e13 := (e1.trans e2).trans e3
      exact s_retD (ed_is (ed_cat (ed_tup (ead_cons (ed_var rfl (.str _)) (ead_cons (ed_ixT (ed_var rfl (dp_ex e13 _ _ hv)) ev_c rfl) ead_nil)) (Nat.le_of_ble_eq_true rfl)) (ed_tupL (ed_var rfl (dp_ex e13 _ _ hy))) (Nat.le_of_ble_eq_true rfl)) rfl) (hQ.go e13)
    | bin u a b =>
      have hv : Dp K H x (.tuple [.str "binary", .str u.name, enc a, enc b]) := he
      obtain ⟨a2, b2, rfl⟩ : ∃ a2 b2, ps = [a2, b2] := len2 hn
      have hy : Dp K H y (.list [enc a2, enc b2]) := hy
      have hQ : RetD K (.tuple [.str "binary", .str u.name, enc a2, enc b2]) H Q := hQ
      refine q_asg (v := .str "binary") (ev_dS (ed_ixT (ed_var rfl hv) ev_c rfl)) (fun H1 e1 => ?_)
      refine q_when (b := false) (et_test (ev_inL2 (e := .bin u a b) (ev_var rfl))) (fun z => nomatch z) (fun _ H2 e2 => ?_)
      refine q_when (b := false) (et_eqS rfl (by decide +kernel)) (fun z => nomatch z) (fun _ H3 e3 => ?_)
      have e13 := (e1.trans e2).trans e3
      exact s_retD (ed_is (ed_cat (ed_tup (ead_cons (ed_var rfl (.str _)) (ead_cons (ed_ixT (ed_var rfl (dp_ex e13 _ _ hv)) ev_c rfl) ead_nil)) (Nat.le_of_ble_eq_true rfl)) (ed_tupL (ed_var rfl (dp_ex e13 _ _ hy))) (Nat.le_of_ble_eq_true rfl)) rfl) (hQ.go e13)
    | ter u a b c =>
      have hv : Dp K H x (.tuple [.str "ternary", .str u.name, enc a, enc b, enc c]) := he
      obtain ⟨a2, b2, c2, rfl⟩ : ∃ a2 b2 c2, ps = [a2, b2, c2] := len3 hn
      have hy : Dp K H y (.list [enc a2, enc b2, enc c2]) := hy
      have hQ : RetD K (.tuple [.str "ternary", .str u.name, enc a2, enc b2, enc c2]) H Q := hQ
      refine q_asg (v := .str "ternary") (ev_dS (ed_ixT (ed_var rfl hv) ev_c rfl)) (fun H1 e1 => ?_)
      refine q_when (b := false) (et_test (ev_inL2 (e := .ter u a b c) (ev_var rfl))) (fun z => nomatch z) (fun _ H2 e2 => ?_)
      refine q_when (b := false) (et_eqS rfl (by decide +kernel)) (fun z => nomatch z) (fun _ H3 e3 => ?_)
      have e13 := (e1.trans e2).trans e3
      exact s_retD (ed_is (ed_cat (ed_tup (ead_cons (ed_var rfl (.str _)) (ead_cons (ed_ixT (ed_var rfl (dp_ex e13 _ _ hv)) ev_c rfl) ead_nil)) (Nat.le_of_ble_eq_true rfl)) (ed_tupL (ed_var rfl (dp_ex e13 _ _ hy))) (Nat.le_of_ble_eq_true rfl)) rfl) (hQ.go e13)
    | ch a b c =>
      obtain ⟨a2, b2, c2, rfl⟩ : ∃ a2 b2 c2, ps = [a2, b2, c2] := len3 hn
      have hy : Dp K H y (.list [enc a2, enc b2, enc c2]) := hy
      have hQ : RetD K (.tuple [.str "choice", enc a2, enc b2, enc c2]) H Q := hQ
      refine q_asg (v := .str "choice") (ed_frm (e := .ch a b c) rfl he) (fun H1 e1 => ?_)
      refine q_when (b := false) (et_test (ev_inL2 (e := .ch a b c) (ev_var rfl))) (fun z => nomatch z) (fun _ H2 e2 => ?_)
      refine q_when (b := true) (et_eqS rfl (by decide +kernel)) (fun _ H3 e3 => ?_) (fun z => nomatch z)
      have hy3 := dp_ex ((e1.trans e2).trans e3) _ _ hy
      exact s_retD (ed_tup (ead_cons (ed_ev ev_c (.str _)) (ead_cons (ed_ixL (ed_var rfl hy3) ev_c rfl) (ead_cons (ed_ixL (ed_var rfl hy3) ev_c rfl) (ead_cons (ed_ixL (ed_var rfl hy3) ev_c rfl) ead_nil)))) (Nat.le_of_ble_eq_true rfl)) (hQ.go ((e1.trans e2).trans e3))


theorem ed_W {σ : L2.St} {H : Hp} {ta tb : TE} {E : XK} {e : Xp} {ps : List Xp} (h : EvD K ta σ H (enc e)) (h2 : EvD K tb σ H (.list (ps.map enc))) (hn : ps.length = (prt e).length) : EvD K (tCall (spW K) [] E (tCons ta (tCons tb tNil))) σ H (enc (wpr e ps)) := fun H1 e1 Q q =>
  h H1 e1 _ fun x H2 e2 hx => h2 H2 (e1.trans e2) _ fun y H3 e3 hy => ⟨e, ps, x, y, rfl, dp_ex e3 _ _ hx, hy, hn, fun v H4 e4 hv => q v H4 ((e2.trans e3).trans e4) hv⟩
theorem ec_E3 {σ : L2.St} {H : Hp} {ta tb : TE} {E : XK} {d : Nat} {e : Xp} {row : List V} (h : EvD K ta σ H (enc e)) (h2 : EvL tb σ H row) (hd : dpx e < d) (hok : Okx e) (hm : Dm row e) : Ev (tCall (spEv K d) [] E (tCons ta (tCons tb tNil))) σ H (evX row e) := fun H1 e1 Q q =>
  h H1 e1 _ fun x H2 e2 hx => h2 H2 (e1.trans e2) _ fun l H3 _ e3 h3 => ⟨e, x, l, row, rfl, dp_ex e3 _ _ hx, sq_of h3, hd, hok, hm, fun H4 e4 => q H4 ((e2.trans e3).trans e4)⟩
/-- where an operation is folded: it can be evaluated, on any row -/
def Fop (d : Nat) (e : Xp) : Prop := dpx e < d ∧ Okx e ∧ ((prt e).all isC = true → Dm [] e ∧ Sc (evX [] e)) ∧ (isLeaf e = false ∧ frm e ≠ "choice")
theorem isC_cv {a : Xp} (h : isC a = true) : a = .const (cv a) := by
  cases a <;> first | rfl | cases h
theorem ed_cv {σ : L2.St} {H : Hp} {te : TE} {a : Xp} (h : EvD K te σ H (enc a)) (hc : isC a = true) (ho : Okx a) : Ev (tOp (rIx K) te (tC (.int 1))) σ H (cv a) := by
  cases a with
  | const v => exact ev_dV (sc0_of ho.sc) (ed_ixT (ds := [.str "constant", toD v]) h ev_c rfl)
  | _ => cases hc
theorem dpa_list {H : Hp} {x : V} {es : List PyData} (h : Dp K H x (.list es)) : True := trivial
theorem ok_prt {e : Xp} (h : Okx e) : ∀ a ∈ prt e, Okx a := by
  cases e with
  | const v => intro a ha; cases ha
  | col n => intro a ha; cases ha
  | un u a => intro z hz; rw [show prt (.un u a) = [a] from rfl, List.mem_singleton] at hz; subst hz; exact h
  | bin u a b =>
    intro z hz
    rcases List.mem_cons.mp hz with rfl | hz
    · exact h.1
    · rw [List.mem_singleton] at hz; subst hz; exact h.2
  | ter u a b c =>
    intro z hz
    rcases List.mem_cons.mp hz with rfl | hz
    · exact h.1
    · rcases List.mem_cons.mp hz with rfl | hz
      · exact h.2.1
      · rw [List.mem_singleton] at hz; subst hz; exact h.2.2
  | ch a b c =>
    intro z hz
    rcases List.mem_cons.mp hz with rfl | hz
    · exact h.1
    · rcases List.mem_cons.mp hz with rfl | hz
      · exact h.2.1
      · rw [List.mem_singleton] at hz; subst hz; exact h.2.2
theorem lf_bools : ∀ (l : List Bool), lfAll (l.map .bool) = true
  | [] => rfl
  | x :: l => by simp [lfAll, lf, lf_bools l]
def nmx : Xp → Str
  | .un u _ => u.name
  | .bin u _ _ => u.name
  | .ter u _ _ _ => u.name
  | _ => ""
/-- the short ways of and, or, coalesce -/
def shrt (w : Bool) (e : Xp) : Bool := (prt e).any fun a => isC a && decide (cv a = .bl w)
theorem foldOp_un (u : U) (a : Xp) : foldOp (.un u a) = if isC a = true then .const (evX [] (.un u a)) else .un u a := rfl
theorem foldOp_bin (b : B) (a c : Xp) : foldOp (.bin b a c) = if isC a = true ∧ isC c = true then .const (evX [] (.bin b a c)) else (match b with
    | .both => if (isC a = true ∧ cv a = .bl false) ∨ (isC c = true ∧ cv c = .bl false) then .const (.bl false) else .bin b a c
    | .either => if (isC a = true ∧ cv a = .bl true) ∨ (isC c = true ∧ cv c = .bl true) then .const (.bl true) else .bin b a c
    | .coalesce => if isC a = true then (if cv a = .non then c else a) else .bin b a c
    | _ => .bin b a c) := rfl
theorem foldOp_ter (t : W3) (a b c : Xp) : foldOp (.ter t a b c) = if isC a = true ∧ isC b = true ∧ isC c = true then .const (evX [] (.ter t a b c)) else .ter t a b c := rfl
theorem fold_all {e : Xp} (hl : isLeaf e = false ∧ frm e ≠ "choice") (h : (prt e).all isC = true) : foldOp e = .const (evX [] e) := by
  cases e with
  | const v => exact absurd hl.1 (by simp [isLeaf])
  | col n => exact absurd hl.1 (by simp [isLeaf])
  | ch a b c => exact absurd rfl hl.2
  | un u a =>
    have h : (isC a && true) = true := h
    rw [foldOp_un, if_pos (by simpa using h)]
  | bin u a b =>
    have h : (isC a && (isC b && true)) = true := h
    rw [foldOp_bin, if_pos (by simpa using h)]
  | ter u a b c =>
    have h : (isC a && (isC b && (isC c && true))) = true := h
    rw [foldOp_ter, if_pos (by simpa using h)]
theorem fold_and {a b : Xp} (h : (prt (.bin .both a b)).all isC = false) : foldOp (.bin .both a b) = if shrt false (.bin .both a b) = true then .const (.bl false) else .bin .both a b := by
  have h : (isC a && (isC b && true)) = false := h
  rw [foldOp_bin, if_neg (by simpa using h)]
  have e : shrt false (.bin .both a b) = ((isC a && decide (cv a = .bl false)) || ((isC b && decide (cv b = .bl false)) || false)) := rfl
  rw [e]
  by_cases h2 : (isC a = true ∧ cv a = .bl false) ∨ (isC b = true ∧ cv b = .bl false)
  · show (if (isC a = true ∧ cv a = .bl false) ∨ (isC b = true ∧ cv b = .bl false) then Xp.const (.bl false) else .bin .both a b) = _
    rw [if_pos h2, if_pos (by simpa using h2)]
  · show (if (isC a = true ∧ cv a = .bl false) ∨ (isC b = true ∧ cv b = .bl false) then Xp.const (.bl false) else .bin .both a b) = _
    rw [if_neg h2, if_neg (by simpa using h2)]
theorem fold_or {a b : Xp} (h : (prt (.bin .either a b)).all isC = false) : foldOp (.bin .either a b) = if shrt true (.bin .either a b) = true then .const (.bl true) else .bin .either a b := by
  have h : (isC a && (isC b && true)) = false := h
  rw [foldOp_bin, if_neg (by simpa using h)]
  have e : shrt true (.bin .either a b) = ((isC a && decide (cv a = .bl true)) || ((isC b && decide (cv b = .bl true)) || false)) := rfl
  rw [e]
  by_cases h2 : (isC a = true ∧ cv a = .bl true) ∨ (isC b = true ∧ cv b = .bl true)
  · show (if (isC a = true ∧ cv a = .bl true) ∨ (isC b = true ∧ cv b = .bl true) then Xp.const (.bl true) else .bin .either a b) = _
    rw [if_pos h2, if_pos (by simpa using h2)]
  · show (if (isC a = true ∧ cv a = .bl true) ∨ (isC b = true ∧ cv b = .bl true) then Xp.const (.bl true) else .bin .either a b) = _
    rw [if_neg h2, if_neg (by simpa using h2)]
theorem fold_coal {a b : Xp} (h : (prt (.bin .coalesce a b)).all isC = false) : foldOp (.bin .coalesce a b) = if isC a = true then (if cv a = .non then b else a) else .bin .coalesce a b := by
  have h : (isC a && (isC b && true)) = false := h
  rw [foldOp_bin, if_neg (by simpa using h)]
theorem fold_else {e : Xp} (h : (prt e).all isC = false) (n1 : nmx e ≠ "and") (n2 : nmx e ≠ "or") (n3 : nmx e ≠ "coalesce") : foldOp e = e := by
  cases e with
  | const v => rfl
  | col n => rfl
  | ch a b c => rfl
  | un u a =>
    have h : (isC a && true) = false := h
    rw [foldOp_un, if_neg (by simpa using h)]
  | bin u a b =>
    have h : (isC a && (isC b && true)) = false := h
    rw [foldOp_bin, if_neg (by simpa using h)]
    cases u <;> first | rfl | exact absurd rfl n1 | exact absurd rfl n2 | exact absurd rfl n3
  | ter u a b c =>
    have h : (isC a && (isC b && (isC c && true))) = false := h
    rw [foldOp_ter, if_neg (by simpa using h)]
theorem nm_and {e : Xp} (hl : isLeaf e = false ∧ frm e ≠ "choice") (h : nmx e = "and") : ∃ a b, e = .bin .both a b := by
  cases e with
  | const v => exact absurd hl.1 (by simp [isLeaf])
  | col n => exact absurd hl.1 (by simp [isLeaf])
  | ch a b c => exact absurd rfl hl.2
  | un u a => cases u <;> exact absurd h (of_decide_eq_false rfl)
  | bin u a b => cases u <;> first | exact ⟨a, b, rfl⟩ | exact absurd h (of_decide_eq_false rfl)
  | ter u a b c => cases u <;> exact absurd h (of_decide_eq_false rfl)
theorem nm_or {e : Xp} (hl : isLeaf e = false ∧ frm e ≠ "choice") (h : nmx e = "or") : ∃ a b, e = .bin .either a b := by
  cases e with
  | const v => exact absurd hl.1 (by simp [isLeaf])
  | col n => exact absurd hl.1 (by simp [isLeaf])
  | ch a b c => exact absurd rfl hl.2
  | un u a => cases u <;> exact absurd h (of_decide_eq_false rfl)
  | bin u a b => cases u <;> first | exact ⟨a, b, rfl⟩ | exact absurd h (of_decide_eq_false rfl)
  | ter u a b c => cases u <;> exact absurd h (of_decide_eq_false rfl)
theorem nm_coal {e : Xp} (hl : isLeaf e = false ∧ frm e ≠ "choice") (h : nmx e = "coalesce") : ∃ a b, e = .bin .coalesce a b := by
  cases e with
  | const v => exact absurd hl.1 (by simp [isLeaf])
  | col n => exact absurd hl.1 (by simp [isLeaf])
  | ch a b c => exact absurd rfl hl.2
  | un u a => cases u <;> exact absurd h (of_decide_eq_false rfl)
  | bin u a b => cases u <;> first | exact ⟨a, b, rfl⟩ | exact absurd h (of_decide_eq_false rfl)
  | ter u a b c => cases u <;> exact absurd h (of_decide_eq_false rfl)
theorem ed_nm {σ : L2.St} {H : Hp} {i : Nat} {x : V} {e : Xp} (hl : isLeaf e = false ∧ frm e ≠ "choice") (h : σ[i]? = some (some x)) (he : Dp K H x (enc e)) : Ev (tOp (rIx K) (tVar i) (tC (.int 1))) σ H (.str (nmx e)) := by
  cases e with
  | const v => exact absurd hl.1 (by simp [isLeaf])
  | col n => exact absurd hl.1 (by simp [isLeaf])
  | ch a b c => exact absurd rfl hl.2
  | _ => exact ev_dS (ed_ixT (ed_var h he) ev_c rfl)


theorem rv_isNd {x : V} {H : Hp} : RV rIsN x .non H (.bl (decide (x = .non))) := fun H1 _ _ q => ⟨rfl, q H1 (Ex.refl H1)⟩
theorem rv_isnNd {x : V} {H : Hp} : RV rNotN x .non H (.bl (!decide (x = .non))) := fun H1 _ _ q => ⟨rfl, q H1 (Ex.refl H1)⟩

theorem c_folded_operation (d : Nat) (T : Tx w K mg) : C8.Cal P w K mg base (6 + d + 1) "folded_operation" (spX K (Fop d) (fun e => enc (foldOp e))) [] := by
  refine mk_cal T (x := "folded_operation") (i := 120) (j := 92) (N := ["expression", "parts", "name", "part"]) (ps := ["expression"]) rfl rfl (by decide +kernel) (fun _ _ _ _ _ _ us hl => match us, hl with | [_], _ => rfl) (fun vs H Q E h => by obtain ⟨_, _, rfl, _⟩ := h; rfl) (fun cdv A outer s H vs Q E nd hr h => ⟨_, (pss_cons (ps_set (i := 1) nd rfl (.inl rfl) (C8.pe_c (c_parts_of T) hr (by omega) (by rfl) (pa_cons (pv 0) pa_nil)))
      (pss_cons (ps_if (pt_val (pe_callB (b_all rfl) (by rfl) T.m_all boot_all (pa_cons (pe_lc (own := [("part", 3)]) (g := gName 3) (by rfl) nd (pi_list (pv 1)) (blkOk_by (own := [("part", 3)]) (N := ["expression", "parts", "name", "part"]) (sc := C8.fnScope (top 120)) (by decide +kernel)) (fun _ _ _ _ _ => pg_name (i := 3) nd rfl (.inl rfl)) (fun _ _ _ _ _ => pts_nil) (fun _ _ _ _ _ => (C8.pe_c (c_is_constant T) hr (by omega) (by rfl) (pa_cons (pv 3) pa_nil)))) pa_nil))) (pss_one (ps_ret (pe_tup (pa_cons pe_str (pa_cons (C8.pe_c (c_evaluate T d) hr (Nat.le_refl _) (by rfl) (pa_cons (pv 0) (pa_cons (pe_lst pa_nil) pa_nil))) pa_nil))))) pss_nil)
      (pss_cons (ps_set (i := 2) nd rfl (.inl rfl) (pe_ix ix_seq (pv 0) pe_int (fun _ _ => rfl)))
      (pss_cons (ps_if (pt_cmpR op_eq (pv 2) pe_str (nomark _)) (pss_one (ps_for PassesOwn.never rfl (pi_list (pv 1)) (pg_name (i := 3) nd rfl (.inl rfl)) (pss_one (ps_if (PW.pt (pw_and (pt_val (C8.pe_c (c_is_constant T) hr (by omega) (by rfl) (pa_cons (pv 3) pa_nil))) (pw_and1 (pt_cmpR o_isU (pe_ix ix_seq (pv 3) pe_int (fun _ _ => rfl)) pe_bl (nomark _))))) (pss_one (ps_ret (pe_tup (pa_cons pe_str (pa_cons pe_bl pa_nil))))) pss_nil)))) pss_nil)
      (pss_cons (ps_if (pt_cmpR op_eq (pv 2) pe_str (nomark _)) (pss_one (ps_for PassesOwn.never rfl (pi_list (pv 1)) (pg_name (i := 3) nd rfl (.inl rfl)) (pss_one (ps_if (PW.pt (pw_and (pt_val (C8.pe_c (c_is_constant T) hr (by omega) (by rfl) (pa_cons (pv 3) pa_nil))) (pw_and1 (pt_cmpR o_isU (pe_ix ix_seq (pv 3) pe_int (fun _ _ => rfl)) pe_bl (nomark _))))) (pss_one (ps_ret (pe_tup (pa_cons pe_str (pa_cons pe_bl pa_nil))))) pss_nil)))) pss_nil)
      (pss_cons (ps_if (PW.pt (pw_and (pt_cmpR op_eq (pv 2) pe_str (nomark _)) (pw_and1 (pt_val (C8.pe_c (c_is_constant T) hr (by omega) (by rfl) (pa_cons (pe_ix ix_seq (pv 1) pe_int (fun _ _ => rfl)) pa_nil)))))) (pss_one (ps_ret (pe_ifExp (pt_cmpR o_isN (pe_ix ix_seq (pe_ix ix_seq (pv 1) pe_int (fun _ _ => rfl)) pe_int (fun _ _ => rfl)) pe_non (nomark _)) (pe_ix ix_seq (pv 1) pe_int (fun _ _ => rfl)) (pe_ix ix_seq (pv 1) pe_int (fun _ _ => rfl))))) pss_nil)
      (pss_one (ps_ret (pv 0))))))))), ?hb⟩)
  case hb =>
    obtain ⟨e, x, rfl, hx, ⟨hd, hok, hdm, hl⟩, hQ⟩ := h
    have hQ : RetD K (enc (foldOp e)) H Q := hQ
    refine q_asgD (d := .list ((prt e).map enc)) (ed_X (f := fun e => .list ((prt e).map enc)) (ed_var rfl hx) trivial) (fun pv H1 e1 hp => ?_)
    have plen : (prt e).length ≤ 3 := by
      cases e <;> exact Nat.le_of_ble_eq_true rfl
    refine q_when (b := ((prt e).map isC).all id) (et_B (ev_all (ns := (prt e).map isC) (ed_lcD (es := (prt e).map enc) (ed_var rfl hp) (by rw [List.length_map]; omega) (by simp) (lf_bools _) (fun _ => rfl) (fun i y z d H2 e2 hy hi hj => ?_)))) (fun hb H2 e2 => ?_) (fun hb H2 e2 => ?_)
    · rw [List.getElem?_map] at hi
      rw [List.getElem?_map, List.getElem?_map] at hj
      cases hpi : (prt e)[i]? with
      | none => rw [hpi] at hi; cases hi
      | some a =>
        rw [hpi] at hi hj
        cases hi
        cases hj
        exact ed_X (f := fun e => .bool (isC e)) (ed_var rfl hy) trivial
    · have hall : (prt e).all isC = true := by
        rw [List.all_map] at hb
        exact hb
      have hq := hdm hall
      rw [fold_all hl hall] at hQ
      refine s_retD (K := K) (d := .tuple [.str "constant", toD (evX [] e)]) (ed_tup (ead_cons (ed_ev ev_c (.str _)) (ead_cons ?_ ead_nil)) (Nat.le_of_ble_eq_true rfl)) (hQ.go (e1.trans e2))
      exact ed_ev (ec_E3 (ed_var rfl (dp_ex (e1.trans e2) _ _ hx)) (el_lst (vs := []) ea_nil (Nat.zero_le _)) hd hok hq.1) (toD_sc hq.2)
    · have hall : (prt e).all isC = false := by
        rw [List.all_map] at hb
        exact hb
      have hx2 := dp_ex (e1.trans e2) _ _ hx
      have hp2 := dp_ex e2 _ _ hp
      refine q_asg (v := .str (nmx e)) (ed_nm hl rfl hx2) (fun H3 e3 => ?_)
      have E3 := (e1.trans e2).trans e3
      have hx3 := dp_ex e3 _ _ hx2
      have hp3 := dp_ex e3 _ _ hp2
      generalize hw : start ["expression", "parts", "name", "part"] [x] = s0 at *
      cases hw
      -- the last way: coalesce, and the expression itself
      have last : ∀ (a3 : Option V) (H4 : Hp), Ex H3 H4 → (nmx e = "and" ∨ nmx e = "or" → foldOp e = e) → tSeq (tIfS (tAnd (tTest (tOp rEq (tVar 2) (tC (.str "coalesce")))) (tB (tCall (spX K (fun _ => True) (fun e => .bool (isC e))) [] C8.E0 (tCons (tOp (rIx K) (tVar 1) (tC (.int 0))) tNil)))) (tRet (tIf (tTest (tOp rIsN (tOp (rIx K) (tOp (rIx K) (tVar 1) (tC (.int 0))) (tC (.int 1))) (tC .non))) (tOp (rIx K) (tVar 1) (tC (.int 1))) (tOp (rIx K) (tVar 1) (tC (.int 0))))) tNext) (tRet (tVar 0)) { nx := fun _ H' => Q .non H', rt := Q } [some x, some pv, some (.str (nmx e)), a3] H4 := by
        intro a3 H4 e4 hf
        have hx4 := dp_ex e4 _ _ hx3
        have hp4 := dp_ex e4 _ _ hp3
        by_cases hc : nmx e = "coalesce"
        · obtain ⟨a, b, rfl⟩ := nm_coal hl hc
          have hp4 : Dp K H4 pv (.list [enc a, enc b]) := hp4
          rw [fold_coal hall] at hQ
          refine q_when (b := isC a) (et_is (et_and1 (et_is (et_test (ev_op (ev_var rfl) ev_c rv_eqSS)) (decide_eq_true hc)) (et_B (ev_X (f := isC) (ed_ixL (ed_var rfl hp4) ev_c rfl) trivial))) rfl) (fun hb H5 e5 => ?_) (fun hb H5 e5 => ?_)
          · have hp5 := dp_ex e5 _ _ hp4
            rw [if_pos hb] at hQ
            refine s_retD (K := K) (ed_if (b := decide (cv a = .non)) (et_test (ev_op (ed_cv (ed_ixL (ed_var rfl hp5) ev_c rfl) hb hok.1) ev_c rv_isNd)) (fun hz => ?_) (fun hz => ?_)) ((hQ.go E3).go (e4.trans e5))
            · rw [if_pos (of_decide_eq_true hz)]
              exact ed_ixL (ed_var rfl hp5) ev_c rfl
            · rw [if_neg (of_decide_eq_false hz)]
              exact ed_ixL (ed_var rfl hp5) ev_c rfl
          · rw [if_neg (by rw [hb]; exact Bool.false_ne_true)] at hQ
            exact s_retD (ed_var rfl (dp_ex e5 _ _ hx4)) ((hQ.go E3).go (e4.trans e5))
        · refine q_when (b := false) (et_and0 (et_is (et_test (ev_op (ev_var rfl) ev_c rv_eqSS)) (decide_eq_false hc))) (fun z => nomatch z) (fun _ H5 e5 => ?_)
          have hfe : foldOp e = e := by
            by_cases h1 : nmx e = "and"
            · exact hf (.inl h1)
            · by_cases h2 : nmx e = "or"
              · exact hf (.inr h2)
              · exact fold_else hall h1 h2 hc
          rw [hfe] at hQ
          exact s_retD (ed_var rfl (dp_ex e5 _ _ hx4)) ((hQ.go E3).go (e4.trans e5))
      -- a loop: found, or not
      have run : ∀ (w : Bool) (D : Ends) (H4 : Hp), Ex H3 H4 → D.rt = Q → (shrt w e = true → foldOp e = .const (.bl w)) → (∀ a3 H5, Ex H4 H5 → shrt w e = false → D.nx [some x, some pv, some (.str (nmx e)), a3] H5) →
          tFor (iList K (tVar 1)) (gName 3) (tIfS (tAnd (tB (tCall (spX K (fun _ => True) (fun e => .bool (isC e))) [] C8.E0 (tCons (tVar 3) tNil))) (tTest (tOp (rIsU false) (tOp (rIx K) (tVar 3) (tC (.int 1))) (tC (.bl w))))) (tRet (tTup (tCons (tC (.str "constant")) (tCons (tC (.bl w)) tNil)))) tNext) D [some x, some pv, some (.str (nmx e)), none] H4 := by
        intro w D H4 e4 hrt hfo hnx
        refine s_forLD (ds := (prt e).map enc) (ed_var rfl (dp_ex e4 _ _ hp3)) (fun i σ' H' => (∃ a, σ' = [some x, some pv, some (.str (nmx e)), a]) ∧ ∀ (j : Nat) a, j < i → (prt e)[j]? = some a → (isC a && decide (cv a = .bl w)) = false) (fun H6 e6 => ⟨⟨none, rfl⟩, fun j a hj => absurd hj (Nat.not_lt_zero _)⟩) (fun i y d σ' H' H0 hi f1 f2 hp2 hd => ?_) (fun σ' H' f1 hp2 => ?_)
        · obtain ⟨⟨s3, rfl⟩, hno⟩ := hp2
          rw [List.getElem?_map] at hi
          cases hpi : (prt e)[i]? with
          | none => rw [hpi] at hi; cases hi
          | some a =>
            rw [hpi] at hi
            cases hi
            have oka := ok_prt hok a (List.mem_of_getElem? hpi)
            have tst : EvT (tAnd (tB (tCall (spX K (fun _ => True) (fun e => .bool (isC e))) [] C8.E0 (tCons (tVar 3) tNil))) (tTest (tOp (rIsU false) (tOp (rIx K) (tVar 3) (tC (.int 1))) (tC (.bl w))))) [some x, some pv, some (.str (nmx e)), some y] H' (isC a && decide (cv a = .bl w)) := et_and (et_B (ev_X (f := isC) (ed_var rfl hd) trivial)) (fun hc => et_test (ev_op (ed_cv (ed_var rfl hd) hc oka) ev_c (rv_isT (by
              cases a with
              | const v => exact oka.sc
              | _ => exact trivial))))
            refine s_when tst (fun hb H7 e7 => ?_) (fun hb H7 e7 => ?_)
            · refine s_retD (K := K) (d := enc (.const (.bl w))) (ed_tup (ead_cons (ed_ev ev_c (.str _)) (ead_cons (ed_ev ev_c (.bl _)) ead_nil)) (Nat.le_of_ble_eq_true rfl)) ?_
              rw [hfo (List.any_eq_true.mpr ⟨a, List.mem_of_getElem? hpi, hb⟩)] at hQ
              show RetD K _ _ D.rt
              rw [hrt]
              exact ((((hQ.go E3).go e4).go f1).go f2).go e7
            · refine ⟨f2.trans e7, ⟨_, rfl⟩, fun j b hj hb2 => ?_⟩
              by_cases hji : j < i
              · exact hno j b hji hb2
              · have : j = i := by omega
                subst this
                rw [hpi] at hb2
                cases hb2
                exact hb
        · obtain ⟨⟨s3, rfl⟩, hno⟩ := hp2
          refine hnx s3 H' f1 ?_
          unfold shrt
          rw [List.any_eq_false]
          intro a ha
          obtain ⟨j, hj⟩ := List.getElem?_of_mem ha
          rw [hno j a (by have := (List.getElem?_eq_some_iff.mp hj).1; rw [List.length_map]; exact this) hj]
          exact Bool.false_ne_true
      refine q_if (b := decide (nmx e = "and")) (et_eqS rfl rfl) (fun hb H4 e4 => ?_) (fun hb H4 e4 => ?_)
      · have h1 := of_decide_eq_true hb
        have hf : foldOp e = if shrt false e = true then .const (.bl false) else e := by
          obtain ⟨a, b, rfl⟩ := nm_and hl h1
          exact fold_and hall
        refine run false _ H4 e4 rfl (fun z => by rw [hf, if_pos z]) (fun a3 H5 e5 hn => ?_)
        refine q_if (b := false) (et_eqS rfl (by rw [h1]; decide +kernel)) (fun z => nomatch z) (fun _ H6 e6 => ?_)
        exact last a3 H6 ((e4.trans e5).trans e6) (fun _ => by rw [hf, if_neg (by rw [hn]; exact Bool.false_ne_true)])
      · have h1 := of_decide_eq_false hb
        refine q_if (b := decide (nmx e = "or")) (et_eqS rfl rfl) (fun hb2 H5 e5 => ?_) (fun hb2 H5 e5 => ?_)
        · have h2 := of_decide_eq_true hb2
          have hf : foldOp e = if shrt true e = true then .const (.bl true) else e := by
            obtain ⟨a, b, rfl⟩ := nm_or hl h2
            exact fold_or hall
          exact run true _ H5 (e4.trans e5) rfl (fun z => by rw [hf, if_pos z]) (fun a3 H6 e6 hn => last a3 H6 ((e4.trans e5).trans e6) (fun _ => by rw [hf, if_neg (by rw [hn]; exact Bool.false_ne_true)]))
        · have h2 := of_decide_eq_false hb2
          exact last none H5 (e4.trans e5) (fun z => (z.elim h1 h2).elim)



def FopC (e : Xp) : Prop := (prt e).all isC = true → Dm [] e ∧ OkV (evX [] e)
def FD : Xp → Prop
  | .un u a => FD a ∧ FopC (.un u (foldX a))
  | .bin u a b => (FD a ∧ FD b) ∧ FopC (.bin u (foldX a) (foldX b))
  | .ter u a b c => (FD a ∧ FD b ∧ FD c) ∧ FopC (.ter u (foldX a) (foldX b) (foldX c))
  | .ch a b c => FD a ∧ FD b ∧ FD c
  | _ => True
theorem foldOp_cases {e : Xp} (ho : Okx e) : foldOp e = e ∨ ((prt e).all isC = true ∧ foldOp e = .const (evX [] e)) ∨ (∃ w, foldOp e = .const (.bl w)) ∨ ∃ a ∈ prt e, foldOp e = a := by
  cases e with
  | const v => exact .inl rfl
  | col n => exact .inl rfl
  | ch a b c => exact .inl rfl
  | un u a =>
    rw [foldOp_un]
    split
    · rename_i h
      exact .inr (.inl ⟨by show (isC a && true) = true; simp [h], rfl⟩)
    · exact .inl rfl
  | ter u a b c =>
    rw [foldOp_ter]
    split
    · rename_i h
      exact .inr (.inl ⟨by show (isC a && (isC b && (isC c && true))) = true; simp [h], rfl⟩)
    · exact .inl rfl
  | bin u a b =>
    rw [foldOp_bin]
    split
    · rename_i h
      exact .inr (.inl ⟨by show (isC a && (isC b && true)) = true; simp [h], rfl⟩)
    · cases u <;> first
        | exact .inl rfl
        | (show (if _ then _ else _) = _ ∨ _
           split
           · first
              | exact .inr (.inr (.inl ⟨_, rfl⟩))
              | (split
                 · exact .inr (.inr (.inr ⟨b, by simp [prt], rfl⟩))
                 · exact .inr (.inr (.inr ⟨a, by simp [prt], rfl⟩)))
           · exact .inl rfl)
theorem dpx_prt {e a : Xp} (h : a ∈ prt e) : dpx a < dpx e := by
  cases e with
  | const v => cases h
  | col n => cases h
  | un u x =>
    rw [show prt (.un u x) = [x] from rfl, List.mem_singleton] at h
    subst h
    exact Nat.lt_succ_self _
  | bin u x y =>
    have e : dpx (.bin u x y) = max (dpx x) (dpx y) + 1 := rfl
    rw [e]
    rcases List.mem_cons.mp h with rfl | h
    · omega
    · rw [List.mem_singleton] at h; subst h; omega
  | ter u x y z =>
    have e : dpx (.ter u x y z) = max (dpx x) (max (dpx y) (dpx z)) + 1 := rfl
    rw [e]
    rcases List.mem_cons.mp h with rfl | h
    · omega
    · rcases List.mem_cons.mp h with rfl | h
      · omega
      · rw [List.mem_singleton] at h; subst h; omega
  | ch x y z =>
    have e : dpx (.ch x y z) = max (dpx x) (max (dpx y) (dpx z)) + 1 := rfl
    rw [e]
    rcases List.mem_cons.mp h with rfl | h
    · omega
    · rcases List.mem_cons.mp h with rfl | h
      · omega
      · rw [List.mem_singleton] at h; subst h; omega
theorem foldOp_ok {e : Xp} (h : Okx e) (hf : FopC e) : Okx (foldOp e) ∧ dpx (foldOp e) ≤ dpx e := by
  rcases foldOp_cases h with q | ⟨q1, q⟩ | ⟨w, q⟩ | ⟨a, ha, q⟩
  · rw [q]
    exact ⟨h, Nat.le_refl _⟩
  · rw [q]
    exact ⟨(hf q1).2, Nat.zero_le _⟩
  · rw [q]
    exact ⟨trivial, Nat.zero_le _⟩
  · rw [q]
    exact ⟨ok_prt h a ha, Nat.le_of_lt (dpx_prt ha)⟩
theorem fold_ok : ∀ (e : Xp), Okx e → FD e → Okx (foldX e) ∧ dpx (foldX e) ≤ dpx e
  | .const v, h, _ => ⟨h, Nat.le_refl _⟩
  | .col n, h, _ => ⟨h, Nat.le_refl _⟩
  | .un u a, h, f => by
    obtain ⟨h1, h2⟩ := fold_ok a h f.1
    obtain ⟨h3, h4⟩ := foldOp_ok (e := .un u (foldX a)) h1 f.2
    refine ⟨h3, Nat.le_trans h4 ?_⟩
    show dpx (foldX a) + 1 ≤ dpx a + 1
    omega
  | .bin u a b, h, f => by
    obtain ⟨h1, h2⟩ := fold_ok a h.1 f.1.1
    obtain ⟨h5, h6⟩ := fold_ok b h.2 f.1.2
    obtain ⟨h3, h4⟩ := foldOp_ok (e := .bin u (foldX a) (foldX b)) ⟨h1, h5⟩ f.2
    refine ⟨h3, Nat.le_trans h4 ?_⟩
    show max (dpx (foldX a)) (dpx (foldX b)) + 1 ≤ max (dpx a) (dpx b) + 1
    omega
  | .ter u a b c, h, f => by
    obtain ⟨h1, h2⟩ := fold_ok a h.1 f.1.1
    obtain ⟨h5, h6⟩ := fold_ok b h.2.1 f.1.2.1
    obtain ⟨h7, h8⟩ := fold_ok c h.2.2 f.1.2.2
    obtain ⟨h3, h4⟩ := foldOp_ok (e := .ter u (foldX a) (foldX b) (foldX c)) ⟨h1, h5, h7⟩ f.2
    refine ⟨h3, Nat.le_trans h4 ?_⟩
    show max (dpx (foldX a)) (max (dpx (foldX b)) (dpx (foldX c))) + 1 ≤ max (dpx a) (max (dpx b) (dpx c)) + 1
    omega
  | .ch a b c, h, f => by
    obtain ⟨h1, h2⟩ := fold_ok a h.1 f.1
    obtain ⟨h5, h6⟩ := fold_ok b h.2.1 f.2.1
    obtain ⟨h7, h8⟩ := fold_ok c h.2.2 f.2.2
    have e0 : foldX (.ch a b c) = if isC (foldX a) = true then (if cv (foldX a) = .bl true then foldX b else foldX c) else .ch (foldX a) (foldX b) (foldX c) := rfl
    have e1 : dpx (.ch a b c) = max (dpx a) (max (dpx b) (dpx c)) + 1 := rfl
    have e2 : dpx (.ch (foldX a) (foldX b) (foldX c)) = max (dpx (foldX a)) (max (dpx (foldX b)) (dpx (foldX c))) + 1 := rfl
    rw [e0]
    split
    · split
      · exact ⟨h5, by omega⟩
      · exact ⟨h7, by omega⟩
    · exact ⟨⟨h1, h5, h7⟩, by omega⟩
def Ff (d : Nat) (e : Xp) : Prop := dpx e < d ∧ Okx e ∧ FD e
theorem fd_prt {e : Xp} (h : FD e) : ∀ a ∈ prt e, FD a := by
  cases e with
  | const v => intro a ha; cases ha
  | col n => intro a ha; cases ha
  | un u a => intro z hz; rw [show prt (.un u a) = [a] from rfl, List.mem_singleton] at hz; subst hz; exact h.1
  | bin u a b =>
    intro z hz
    rcases List.mem_cons.mp hz with rfl | hz
    · exact h.1.1
    · rw [List.mem_singleton] at hz; subst hz; exact h.1.2
  | ter u a b c =>
    intro z hz
    rcases List.mem_cons.mp hz with rfl | hz
    · exact h.1.1
    · rcases List.mem_cons.mp hz with rfl | hz
      · exact h.1.2.1
      · rw [List.mem_singleton] at hz; subst hz; exact h.1.2.2
  | ch a b c =>
    intro z hz
    rcases List.mem_cons.mp hz with rfl | hz
    · exact h.1
    · rcases List.mem_cons.mp hz with rfl | hz
      · exact h.2.1
      · rw [List.mem_singleton] at hz; subst hz; exact h.2.2
theorem lf_encs : ∀ {l : List Xp}, (∀ a ∈ l, Okx a) → lfAll (l.map enc) = true
  | [], _ => rfl
  | x :: l, h => by
    simp only [List.map_cons, lfAll, Bool.and_eq_true]
    exact ⟨lf_enc (h x (List.mem_cons_self ..)), lf_encs fun a ha => h a (List.mem_cons_of_mem _ ha)⟩
theorem ev_inL3 {σ : L2.St} {H : Hp} {te : TE} {s : Str} {k : Bool} (h : Ev te σ H (.str s)) (hk : inV (.str s) [.str "constant", .str "column"] = k) : Ev (tOp (rIn K false) te (tTup (tCons (tC (.str "constant")) (tCons (tC (.str "column")) tNil)))) σ H (.bl k) :=
  ev_is (ev_inU h (eu_tup (ea_cons ev_c (ea_cons ev_c ea_nil)) (Nat.le_of_ble_eq_true rfl)) rfl rfl) (congrArg V.bl hk)

theorem cz_folded (T : Tx w K mg) : C8.Cal P w K mg base 1 "folded" (fun _ _ _ _ => False) [] :=
  mk_cal T (x := "folded") (i := 121) (j := 93) (N := ["expression", "changed", "part"]) (ps := ["expression"]) rfl rfl (by decide +kernel) (fun _ _ _ _ _ _ us hl => match us, hl with | [_], _ => rfl) (fun _ _ _ _ h => h.elim) (fun _ _ _ _ _ _ _ _ _ _ h => h.elim)

theorem cs_folded {d : Nat} (ih : C8.Cal P w K mg base (8 + d) "folded" (spX K (Ff d) (fun e => enc (foldX e))) []) (T : Tx w K mg) : C8.Cal P w K mg base (8 + d + 1) "folded" (spX K (Ff (d + 1)) (fun e => enc (foldX e))) [] := by
  refine mk_cal T (x := "folded") (i := 121) (j := 93) (N := ["expression", "changed", "part"]) (ps := ["expression"]) rfl rfl (by decide +kernel) (fun _ _ _ _ _ _ us hl => match us, hl with | [_], _ => rfl) (fun vs H Q E h => by obtain ⟨_, _, rfl, _⟩ := h; rfl) (fun cdv A outer s H vs Q E nd hr h => ⟨_, (pss_cons (ps_if (pt_cmpR op_in_seq (pe_ix ix_seq (pv 0) pe_int (fun _ _ => rfl)) (pe_tup (pa_cons pe_str (pa_cons pe_str pa_nil))) (by rfl)) (pss_one (ps_ret (pv 0))) pss_nil)
      (pss_cons (ps_set (i := 1) nd rfl (.inl rfl) (C8.pe_c (c_with_parts T) hr (by omega) (by rfl) (pa_cons (pv 0) (pa_cons (pe_lc (own := [("part", 2)]) (g := gName 2) (by rfl) nd (pi_list (C8.pe_c (c_parts_of T) hr (by omega) (by rfl) (pa_cons (pv 0) pa_nil))) (blkOk_by (own := [("part", 2)]) (N := ["expression", "changed", "part"]) (sc := C8.fnScope (top 121)) (by decide +kernel)) (fun _ _ _ _ _ => pg_name (i := 2) nd rfl (.inl rfl)) (fun _ _ _ _ _ => pts_nil) (fun _ _ _ _ _ => (C8.pe_c ih hr (Nat.le_refl _) (by rfl) (pa_cons (pv 2) pa_nil)))) pa_nil))))
      (pss_cons (ps_if (pt_cmpR op_ne (pe_ix ix_seq (pv 1) pe_int (fun _ _ => rfl)) pe_str (nomark _)) (pss_one (ps_ret (C8.pe_c (c_folded_operation (d + 1) T) hr (by omega) (by rfl) (pa_cons (pv 1) pa_nil)))) pss_nil)
      (pss_cons (ps_if (pt_not (pt_val (C8.pe_c (c_is_constant T) hr (by omega) (by rfl) (pa_cons (pe_ix ix_seq (pv 1) pe_int (fun _ _ => rfl)) pa_nil)))) (pss_one (ps_ret (pv 1))) pss_nil)
      (pss_one (ps_ret (pe_ifExp (pt_cmpR o_isU (pe_ix ix_seq (pe_ix ix_seq (pv 1) pe_int (fun _ _ => rfl)) pe_int (fun _ _ => rfl)) pe_bl (nomark _)) (pe_ix ix_seq (pv 1) pe_int (fun _ _ => rfl)) (pe_ix ix_seq (pv 1) pe_int (fun _ _ => rfl))))))))), ?hb⟩)
  case hb =>
    obtain ⟨e, x, rfl, hx, ⟨hd, hok, hfd⟩, hQ⟩ := h
    have hQ : RetD K (enc (foldX e)) H Q := hQ
    by_cases hleaf : isLeaf e = true
    · have hfe : foldX e = e := by
        cases e <;> first | rfl | cases hleaf
      rw [hfe] at hQ
      refine q_when (b := true) (et_test (ev_is (ev_inL2 (e := e) (ed_frm rfl hx)) (congrArg V.bl hleaf))) (fun _ H1 e1 => ?_) (fun z => nomatch z)
      exact s_retD (ed_var rfl (dp_ex e1 _ _ hx)) (hQ.go e1)
    · have hleaf : isLeaf e = false := by simpa using hleaf
      refine q_when (b := false) (et_test (ev_is (ev_inL2 (e := e) (ed_frm rfl hx)) (congrArg V.bl hleaf))) (fun z => nomatch z) (fun _ H1 e1 => ?_)
      have hx1 := dp_ex e1 _ _ hx
      have plen : (prt e).length ≤ 3 := by
        cases e <;> exact Nat.le_of_ble_eq_true rfl
      have fok : ∀ a ∈ prt e, Okx (foldX a) ∧ dpx (foldX a) ≤ dpx a := fun a ha => fold_ok a (ok_prt hok a ha) (fd_prt hfd a ha)
      have chg : EvD K (tCall (spW K) [] C8.E0 (tCons (tVar 0) (tCons (tLc (iList K (tCall (spX K (fun _ => True) (fun e => .list ((prt e).map enc))) [] C8.E0 (tCons (tVar 0) tNil))) (gName 2) tYes (tCall (spX K (Ff d) (fun e => enc (foldX e))) [] C8.E0 (tCons (tVar 2) tNil)) [2]) tNil))) [some x, none, none] H1 (enc (wpr e ((prt e).map foldX))) := by
        refine ed_W (ed_var rfl hx1) ?_ (by rw [List.length_map])
        rw [List.map_map]
        refine ed_lcD (es := (prt e).map enc) (ed_X (f := fun e => .list ((prt e).map enc)) (ed_var rfl hx1) trivial) (by rw [List.length_map]; omega) (by simp) ?_ (fun _ => rfl) (fun i y z t H2 e2 hy hi hj => ?_)
        · rw [← List.map_map]
          refine lf_encs fun a ha => ?_
          obtain ⟨b, hb, rfl⟩ := List.mem_map.mp ha
          exact (fok b hb).1
        · rw [List.getElem?_map] at hi hj
          cases hpi : (prt e)[i]? with
          | none => rw [hpi] at hi; cases hi
          | some a =>
            rw [hpi] at hi hj
            cases hi
            cases hj
            have ha := List.mem_of_getElem? hpi
            have := dpx_prt ha
            exact ed_X (f := fun e => enc (foldX e)) (ed_var rfl hy) ⟨by omega, ok_prt hok a ha, fd_prt hfd a ha⟩
      refine q_asgD chg (fun y H2 e2 hy => ?_)
      by_cases hch : frm e = "choice"
      · obtain ⟨a, b, c, rfl⟩ : ∃ a b c, e = .ch a b c := by
          cases e <;> first | exact ⟨_, _, _, rfl⟩ | exact absurd hch (of_decide_eq_false rfl)
        have hy : Dp K H2 y (enc (.ch (foldX a) (foldX b) (foldX c))) := hy
        have oka := (fok a (List.mem_cons_self ..)).1
        refine q_when (b := false) (et_is (et_test (ev_op (ed_frm rfl hy) ev_c rv_neSS)) rfl) (fun z => nomatch z) (fun _ H3 e3 => ?_)
        have hy3 := dp_ex e3 _ _ hy
        have hya : ∀ {H4 : Hp}, Ex H3 H4 → EvD K (tOp (rIx K) (tVar 1) (tC (.int 1))) [some x, some y, none] H4 (enc (foldX a)) := fun e4 => ed_ixT (ds := [.str "choice", enc (foldX a), enc (foldX b), enc (foldX c)]) (ed_var rfl (dp_ex e4 _ _ hy3)) ev_c rfl
        have hQ : RetD K (enc (if isC (foldX a) = true then (if cv (foldX a) = .bl true then foldX b else foldX c) else .ch (foldX a) (foldX b) (foldX c))) H Q := hQ
        refine q_when (b := !isC (foldX a)) (et_not (et_B (ev_X (f := isC) (hya (Ex.refl _)) trivial))) (fun hb H4 e4 => ?_) (fun hb H4 e4 => ?_)
        · have hb : isC (foldX a) = false := by simpa using hb
          rw [if_neg (by rw [hb]; exact Bool.false_ne_true)] at hQ
          exact s_retD (ed_var rfl (dp_ex e4 _ _ hy3)) (hQ.go (((e1.trans e2).trans e3).trans e4))
        · have hb : isC (foldX a) = true := by simpa using hb
          rw [if_pos hb] at hQ
          refine s_retD (K := K) (ed_if (b := decide (cv (foldX a) = .bl true)) (et_test (ev_op (ed_cv (hya e4) hb oka) ev_c (rv_isT (by
            cases hfa : foldX a with
            | const v => rw [hfa] at oka; exact oka.sc
            | _ => exact trivial)))) (fun hz => ?_) (fun hz => ?_)) (hQ.go (((e1.trans e2).trans e3).trans e4))
          · rw [if_pos (of_decide_eq_true hz)]
            exact ed_ixT (ds := [.str "choice", enc (foldX a), enc (foldX b), enc (foldX c)]) (ed_var rfl (dp_ex e4 _ _ hy3)) ev_c rfl
          · rw [if_neg (of_decide_eq_false hz)]
            exact ed_ixT (ds := [.str "choice", enc (foldX a), enc (foldX b), enc (foldX c)]) (ed_var rfl (dp_ex e4 _ _ hy3)) ev_c rfl
      · have hw : foldX e = foldOp (wpr e ((prt e).map foldX)) ∧ frm (wpr e ((prt e).map foldX)) = frm e ∧ isLeaf (wpr e ((prt e).map foldX)) = false := by
          cases e with
          | const v => cases hleaf
          | col n => cases hleaf
          | ch a b c => exact absurd rfl hch
          | un u a => exact ⟨rfl, rfl, rfl⟩
          | bin u a b => exact ⟨rfl, rfl, rfl⟩
          | ter u a b c => exact ⟨rfl, rfl, rfl⟩
        have hop : Fop (d + 1) (wpr e ((prt e).map foldX)) := by
          cases e with
          | const v => cases hleaf
          | col n => cases hleaf
          | ch a b c => exact absurd rfl hch
          | un u a =>
            have h1 := fok a (List.mem_cons_self ..)
            have hd : dpx a + 1 < d + 1 := hd
            refine ⟨?_, h1.1, fun z => ⟨(hfd.2 z).1, (hfd.2 z).2.sc⟩, rfl, of_decide_eq_false rfl⟩
            show dpx (foldX a) + 1 < d + 1
            omega
          | bin u a b =>
            have h1 := fok a (List.mem_cons_self ..)
            have h2 := fok b (List.mem_cons_of_mem _ (List.mem_cons_self ..))
            have hd : max (dpx a) (dpx b) + 1 < d + 1 := hd
            refine ⟨?_, ⟨h1.1, h2.1⟩, fun z => ⟨(hfd.2 z).1, (hfd.2 z).2.sc⟩, rfl, of_decide_eq_false rfl⟩
            show max (dpx (foldX a)) (dpx (foldX b)) + 1 < d + 1
            omega
          | ter u a b c =>
            have h1 := fok a (List.mem_cons_self ..)
            have h2 := fok b (List.mem_cons_of_mem _ (List.mem_cons_self ..))
            have h3 := fok c (List.mem_cons_of_mem _ (List.mem_cons_of_mem _ (List.mem_cons_self ..)))
            have hd : max (dpx a) (max (dpx b) (dpx c)) + 1 < d + 1 := hd
            refine ⟨?_, ⟨h1.1, h2.1, h3.1⟩, fun z => ⟨(hfd.2 z).1, (hfd.2 z).2.sc⟩, rfl, of_decide_eq_false rfl⟩
            show max (dpx (foldX a)) (max (dpx (foldX b)) (dpx (foldX c))) + 1 < d + 1
            omega
        refine q_when (b := true) (et_is (et_test (ev_op (ed_frm rfl hy) ev_c rv_neSS)) (by rw [hw.2.1, decide_eq_false hch]; rfl)) (fun _ H3 e3 => ?_) (fun z => nomatch z)
        rw [hw.1] at hQ
        exact s_retD (ed_X (f := fun e => enc (foldOp e)) (ed_var rfl (dp_ex e3 _ _ hy)) hop) (hQ.go ((e1.trans e2).trans e3))


theorem c_folded (T : Tx w K mg) : ∀ d : Nat, C8.Cal P w K mg base (8 + d) "folded" (spX K (Ff d) (fun e => enc (foldX e))) []
  | 0 => cal_up (cal_imp (cz_folded T) fun vs H Q E h => by
    obtain ⟨e, x, _, _, hd, _⟩ := h
    exact absurd hd.1 (Nat.not_lt_zero _)) (by decide)
  | d + 1 => cs_folded (c_folded T d) T

end

section
variable {P : Program} {w : World} {K : PySem.W.Frag} {mg : Str → Option Value} {base : Heap}
/-! ### kinds of expressions -/
def U.kx : U → Nat
  | .negated => 0
  | .negate => 1
  | .without_sign => 2
  | .sign_of => 3
  | .lower => 4
  | .upper => 5
  | .length => 7
  | .trim => 6
  | .year_of => 8
  | .month_of => 9
  | .day_of_month => 10
  | .weekday => 11
  | .month_start => 12
  | .year_start => 13
  | .week_start => 14
  | .as_date => 15
  | .as_decimal => 16
  | .to_decimal => 17
  | .to_int => 18
  | .int_to_text => 19
  | .decimal_to_text => 21
  | .date_to_text => 20
  | .text_to_int => 22
  | .text_to_decimal => 24
  | .text_to_date => 23
  | _ => 1000
def B.kx : B → Nat
  | .both => 0
  | .either => 1
  | .added => 2
  | .subtracted => 4
  | .multiplied => 5
  | .divided => 6
  | .rest => 3
  | .decimals_multiplied => 7
  | .decimals_divided => 8
  | .joined => 9
  | .like => 10
  | .position => 11
  | .days_added => 12
  | .months_added => 13
  | _ => 1000
def W3.kx : W3 → Nat
  | .part_of => 0
  | .split => 1
  | .replaced_in => 3
  | .pad => 2

def B.sp : B → Bool
  | .same => true
  | .coalesce => true
  | .least => true
  | .greatest => true
  | .equal => true
  | .less => true
  | .at_most => true
  | _ => false
theorem U.krow (u : U) (h : ¬ u = .is_null) : unaryRows[u.kx]? = some (u.name, (uK u).map fun r => [r.1.name, r.2.name]) := by
  cases u <;> first | rfl | exact absurd rfl h
theorem B.krow (u : B) (h : u.sp = false) : binaryRows[u.kx]? = some (u.name, (bK u).map fun r => [r.1.name, r.2.1.name, r.2.2.name]) := by
  cases u <;> first | rfl | cases h
theorem W3.krow (u : W3) : ternaryRows[u.kx]? = some (u.name, [(tK u).1.name, (tK u).2.1.name, (tK u).2.2.name]) := by
  cases u <;> rfl
theorem kd_dec (a b : Kd) : decide (a.name = b.name) = decide (a = b) := by
  cases a <;> cases b <;> rfl
theorem kd_ok (a : Kd) : PyData.strOk a.name = true := by cases a <;> decide +kernel
theorem U.opV (u : U) : inV (.str u.name) (openNames.map V.str) = u.op := by cases u <;> rfl
theorem B.opV (u : B) : inV (.str u.name) (openNames.map V.str) = u.op := by cases u <;> rfl
theorem dp_strs {a : Addr} {xs : List Str} {H : Hp} (h : SqT K H a (xs.map V.str)) : Dp K H (.ref a) (.tuple (xs.map .str)) := .tup h (dpa_of_strs xs)
theorem rows_dp {a : Addr} {xss : List (List Str)} (h : RowsAt K a xss) (H : Hp) : Dp K H (.ref a) (.tuple (xss.map fun r => .tuple (r.map .str))) := by
  obtain ⟨bs, h1, h2⟩ := h
  refine .tup (h1 H) ?_
  clear h1
  induction h2 with
  | nil => exact .nil
  | cons hb _ ih => exact .cons (dp_strs (hb H)) ih
theorem rows_at {i : Nat} {x : Str} {rs : KRows} {ks : List Str} (T : Tx w K mg) (ht : ts[i]? = some (fun K => He.ga K x, ks)) (hv : tabB K x rs = true) {j : Nat} {nm : Str} {r : List (List Str)} (hr : rs[j]? = some (nm, r)) : ∃ a, KDct K w (He.ga K x) nm (.ref a) ∧ ∀ H, Dp K H (.ref a) (.tuple (r.map fun r => .tuple (r.map .str))) := by
  obtain ⟨es, n, hk⟩ := T.says.tab i ht
  have h2 := List.all_eq_true.mp hv (nm, r) (List.mem_of_getElem? hr)
  cases e : PySem.W.nsIn K (He.ga K x) nm with
  | none =>
    simp only [e] at h2
    cases h2
  | some z =>
    simp only [e] at h2
    cases z with
    | none => cases h2
    | some u =>
      obtain ⟨a, rfl, hR⟩ := rowsB_ok h2
      exact ⟨a, ⟨es, n, _, hk.1, hk.2, e, rfl⟩, rows_dp hR⟩
theorem ter_at (T : Tx w K mg) (t : W3) : ∃ a, KDct K w (He.ga K "TERNARY_KINDS") t.name (.ref a) ∧ ∀ H, Dp K H (.ref a) (.tuple [.str (tK t).1.name, .str (tK t).2.1.name, .str (tK t).2.2.name]) := by
  obtain ⟨es, n, hk⟩ := T.says.tab 2 rfl
  have h2 := List.all_eq_true.mp T.ternaryK _ (List.mem_of_getElem? t.krow)
  cases e : PySem.W.nsIn K (He.ga K "TERNARY_KINDS") t.name with
  | none =>
    simp only [e] at h2
    cases h2
  | some z =>
    simp only [e] at h2
    cases z with
    | none => cases h2
    | some u =>
      obtain ⟨a, rfl, hR⟩ := strsB_ok h2
      exact ⟨a, ⟨es, n, _, hk.1, hk.2, e, rfl⟩, fun H => dp_strs (hR H)⟩
theorem ed_ixK {σ : L2.St} {H : Hp} {ta tb : TE} {a : Addr} {nm : Str} {p : Addr} {d : PyData} (hk : KDct K w p nm (.ref a)) (hd : ∀ H, Dp K H (.ref a) d) (h1 : Ev ta σ H (.ref p)) (h2 : Ev tb σ H (.str nm)) : EvD K (tOp (rIxD K w) ta tb) σ H d :=
  ed_ev (ev_op h1 h2 (rv_ixD hk)) (hd H)
def resB (u : B) (c l : Kd × Bool) : Kd × Bool := match u with
  | .same => (.bool, false)
  | .coalesce => (c.1, c.2 && l.2)
  | .least => (c.1, c.2 || l.2)
  | .greatest => (c.1, c.2 || l.2)
  | _ => (.bool, c.2 || l.2)
theorem kdB_sp {u : B} {c l : Kd × Bool} (h : u.sp = true) (hb : c.1 = l.1) : kdB u c l = some (resB u c l) := by
  cases u <;> first
    | exact if_pos hb
    | cases h
def spUK (K : PySem.W.Frag) : Sp := fun vs H Q _ => ∃ (u : U) (c : Kd × Bool) (x : V), vs = [.str u.name, x] ∧ Dp K H x (encC c) ∧ RetD K (encK (kdU u c)) H Q
def spBK (K : PySem.W.Frag) : Sp := fun vs H Q _ => ∃ (u : B) (c l : Kd × Bool) (x y : V), vs = [.str u.name, x, y] ∧ Dp K H x (encC c) ∧ Dp K H y (encC l) ∧ RetD K (encK (kdB u c l)) H Q
section
variable {σ : L2.St} {H : Hp} {te : TE} {c : Kd × Bool}
theorem ev_k0 (h : EvD K te σ H (encC c)) : Ev (tOp (rIx K) te (tC (.int 0))) σ H (.str c.1.name) := ev_dS (ed_ixT (ds := [.str c.1.name, .bool c.2]) h ev_c rfl)
theorem ev_k1 (h : EvD K te σ H (encC c)) : Ev (tOp (rIx K) te (tC (.int 1))) σ H (.bl c.2) := ev_dB (ed_ixT (ds := [.str c.1.name, .bool c.2]) h ev_c rfl)
end
theorem find_no {α : Type} {l : List α} {p : α → Bool} (h : ∀ (j : Nat) a, j < l.length → l[j]? = some a → p a = false) : l.find? p = none := by
  rw [List.find?_eq_none]
  intro a ha
  obtain ⟨j, hj⟩ := List.getElem?_of_mem ha
  rw [h j a (List.getElem?_eq_some_iff.mp hj).1 hj]
  exact Bool.false_ne_true
theorem find_at {α : Type} {l : List α} {p : α → Bool} {i : Nat} {a : α} (h : ∀ (j : Nat) b, j < i → l[j]? = some b → p b = false) (hi : l[i]? = some a) (hp : p a = true) : l.find? p = some a := by
  refine PyProof.Rows.find_of_first (i := i) (fun b hb => ?_) hi hp
  obtain ⟨j, hj⟩ := List.getElem?_of_mem hb
  rw [List.getElem?_take] at hj
  split at hj
  · exact h j b (by assumption) hj
  · cases hj

theorem rv_isT0 {p : Addr} {xs : List Str} {H : Hp} {s : Str} (h : SqT K H p (xs.map V.str)) : RV (rIn K false) (.str s) (.ref p) H (.bl (inV (.str s) (xs.map V.str))) := Evl.rv_isT h rfl (by
  rw [List.all_map, List.all_eq_true]
  intro a _
  rfl)

theorem c_unary_kind (T : Tx w K mg) : C8.Cal P w K mg base 1 "unary_kind" (spUK K) [] := by
  refine mk_cal T (x := "unary_kind") (i := 46) (j := 27) (N := ["name", "kind", "needed", "result"]) (ps := ["name", "kind"]) rfl rfl (by decide +kernel) (fun _ _ _ _ _ _ us hl => match us, hl with | [_, _], _ => rfl) (fun vs H Q E h => by obtain ⟨_, _, _, rfl, _⟩ := h; rfl) (fun cdv A outer s H vs Q E nd hr h => ⟨_, (pss_cons (ps_if (pt_cmpR op_eq (pv 0) pe_str (nomark _)) (pss_one (ps_ret (pe_tup (pa_cons pe_str (pa_cons pe_bl pa_nil))))) pss_nil)
      (pss_cons (ps_for PassesOwn.never rfl (pi_tup (pe_ix ix_kdict (C8.pe_gc (by rfl) T.UNARY_KINDS) (pv 0) (fun _ _ => rfl))) (pg_tup rfl (pgs_cons (pg_name (i := 2) nd rfl (.inl rfl)) (pgs_cons (pg_name (i := 3) nd rfl (.inl rfl)) pgs_nil))) (pss_one (ps_if (pt_cmpR op_eq (pv 2) (pe_ix ix_seq (pv 1) pe_int (fun _ _ => rfl)) (nomark _)) (pss_one (ps_ret (pe_tup (pa_cons (pv 3) (pa_cons (pe_or (pe_ix ix_seq (pv 1) pe_int (fun _ _ => rfl)) (pe_one (pe_cmpR op_in_seq (pv 0) (C8.pe_gc (by rfl) T.OPEN) (by rfl)))) pa_nil))))) pss_nil)))
      (pss_one (ps_ret pe_non)))), ?hb⟩)
  case hb =>
    obtain ⟨u, c, x, rfl, hx, hQ⟩ := h
    by_cases hn : u = .is_null
    · subst hn
      refine q_when (b := true) (et_eqS rfl (by decide +kernel)) (fun _ H1 e1 => ?_) (fun z => nomatch z)
      exact s_retD (K := K) (d := .tuple [.str "bool", .bool false]) (ed_tup (ead_cons (ed_ev ev_c (.str _)) (ead_cons (ed_ev ev_c (.bl _)) ead_nil)) (Nat.le_of_ble_eq_true rfl)) (hQ.go e1)
    · have hne : decide (u.name = "is null") = false := by
        cases u <;> first | rfl | exact absurd rfl hn
      have hkd : kdU u c = ((uK u).find? fun r => decide (r.1 = c.1)).map fun r => (r.2, c.2 || u.op) := by
        unfold kdU
        rw [if_neg hn]
      rw [hkd] at hQ
      obtain ⟨a, hk, ha⟩ := rows_at T (i := 0) (x := "UNARY_KINDS") rfl T.unaryK (u.krow hn)
      refine q_when (b := false) (et_eqS rfl hne) (fun z => nomatch z) (fun _ H1 e1 => ?_)
      refine q_forTD (ed_ixK hk ha ev_c (ev_var rfl)) (fun i σ' H' => (∃ a b, σ' = [some (.str u.name), some x, a, b]) ∧ ∀ (j : Nat) r, j < i → (uK u)[j]? = some r → decide (r.1 = c.1) = false) (fun H2 e2 => ⟨⟨_, _, rfl⟩, fun j r hj => absurd hj (Nat.not_lt_zero _)⟩) (fun i y d σ' H' H0 hi f1 f2 hp hd => ?_) (fun σ' H' f1 hp => ?_)
      · obtain ⟨⟨s2, s3, rfl⟩, hno⟩ := hp
        rw [List.map_map, List.getElem?_map] at hi
        cases hpi : (uK u)[i]? with
        | none => rw [hpi] at hi; cases hi
        | some r =>
          rw [hpi] at hi
          cases hi
          have hx2 := dp_ex ((e1.trans f1).trans f2) _ _ hx
          refine g_two (a := .non) (b := .non) hd (fun a2 b2 ha2 hb2 => ?_)
          cases ha2
          cases hb2
          refine s_when (b := decide (r.1 = c.1)) (et_is (et_test (ev_op (ev_var rfl) (ev_k0 (ed_var rfl hx2)) rv_eqSS)) (kd_dec _ _)) (fun hb H3 e3 => ?_) (fun hb H3 e3 => ⟨f2.trans e3, ⟨_, _, rfl⟩, fun j r2 hj hr2 => ?_⟩)
          · rw [find_at hno hpi hb] at hQ
            refine s_retD (K := K) (d := .tuple [.str r.2.name, .bool (c.2 || u.op)]) (ed_tup (ead_cons (ed_var rfl (.str _)) (ead_cons (ed_ev (ev_orV (ev_k1 (ed_var rfl (dp_ex e3 _ _ hx2))) (fun _ => ev_is (ev_op (ev_var rfl) ev_c (rv_isT0 (T.open_ _))) (congrArg V.bl u.opV))) (.bl _)) ead_nil)) (Nat.le_of_ble_eq_true rfl)) (hQ.go (((e1.trans f1).trans f2).trans e3))
          · by_cases hji : j < i
            · exact hno j r2 hji hr2
            · have : j = i := by omega
              subst this
              rw [hpi] at hr2
              cases hr2
              exact hb
      · obtain ⟨⟨s2, s3, rfl⟩, hno⟩ := hp
        rw [find_no (fun j a _ => hno j a (by rw [List.length_map, List.length_map]; assumption))] at hQ
        exact s_retD (K := K) (d := .none) (ed_ev ev_c .non) (hQ.go (e1.trans f1))


theorem c_binary_kind (T : Tx w K mg) : C8.Cal P w K mg base 1 "binary_kind" (spBK K) [] := by
  refine mk_cal T (x := "binary_kind") (i := 47) (j := 28) (N := ["name", "first", "second", "nullable", "one", "other", "result"]) (ps := ["name", "first", "second"]) rfl rfl (by decide +kernel) (fun _ _ _ _ _ _ us hl => match us, hl with | [_, _, _], _ => rfl) (fun vs H Q E h => by obtain ⟨_, _, _, _, _, rfl, _⟩ := h; rfl) (fun cdv A outer s H vs Q E nd hr h => ⟨_, (pss_cons (ps_set (i := 3) nd rfl (.inl rfl) (pe_or (pe_ix ix_seq (pv 1) pe_int (fun _ _ => rfl)) (pe_one (pe_ix ix_seq (pv 2) pe_int (fun _ _ => rfl)))))
      (pss_cons (ps_if (pt_cmpR op_in_seq (pv 0) (pe_tup (pa_cons pe_str (pa_cons pe_str (pa_cons pe_str (pa_cons pe_str (pa_cons pe_str (pa_cons pe_str (pa_cons pe_str pa_nil)))))))) (by rfl)) (pss_cons (ps_if (pt_cmpR op_ne (pe_ix ix_seq (pv 1) pe_int (fun _ _ => rfl)) (pe_ix ix_seq (pv 2) pe_int (fun _ _ => rfl)) (nomark _)) (pss_one (ps_ret pe_non)) pss_nil)
      (pss_cons (ps_if (pt_cmpR op_eq (pv 0) pe_str (nomark _)) (pss_one (ps_ret (pe_tup (pa_cons pe_str (pa_cons pe_bl pa_nil))))) pss_nil)
      (pss_cons (ps_if (pt_cmpR op_eq (pv 0) pe_str (nomark _)) (pss_one (ps_ret (pe_tup (pa_cons (pe_ix ix_seq (pv 1) pe_int (fun _ _ => rfl)) (pa_cons (pe_and (pe_ix ix_seq (pv 1) pe_int (fun _ _ => rfl)) (pe_one (pe_ix ix_seq (pv 2) pe_int (fun _ _ => rfl)))) pa_nil))))) pss_nil)
      (pss_cons (ps_if (pt_cmpR op_in_seq (pv 0) (pe_tup (pa_cons pe_str (pa_cons pe_str pa_nil))) (by rfl)) (pss_one (ps_ret (pe_tup (pa_cons (pe_ix ix_seq (pv 1) pe_int (fun _ _ => rfl)) (pa_cons (pv 3) pa_nil))))) pss_nil)
      (pss_one (ps_ret (pe_tup (pa_cons pe_str (pa_cons (pv 3) pa_nil))))))))) pss_nil)
      (pss_cons (ps_for PassesOwn.never rfl (pi_tup (pe_ix ix_kdict (C8.pe_gc (by rfl) T.BINARY_KINDS) (pv 0) (fun _ _ => rfl))) (pg_tup rfl (pgs_cons (pg_name (i := 4) nd rfl (.inl rfl)) (pgs_cons (pg_name (i := 5) nd rfl (.inl rfl)) (pgs_cons (pg_name (i := 6) nd rfl (.inl rfl)) pgs_nil)))) (pss_one (ps_if (PW.pt (pw_and (pt_cmpR op_eq (pv 4) (pe_ix ix_seq (pv 1) pe_int (fun _ _ => rfl)) (nomark _)) (pw_and1 (pt_cmpR op_eq (pv 5) (pe_ix ix_seq (pv 2) pe_int (fun _ _ => rfl)) (nomark _))))) (pss_one (ps_ret (pe_tup (pa_cons (pv 6) (pa_cons (pe_or (pv 3) (pe_one (pe_cmpR op_in_seq (pv 0) (C8.pe_gc (by rfl) T.OPEN) (by rfl)))) pa_nil))))) pss_nil)))
      (pss_one (ps_ret pe_non))))), ?hb⟩)
  case hb =>
    obtain ⟨u, c, l, x, y, rfl, hx, hy, hQ⟩ := h
    refine q_asg (v := .bl (c.2 || l.2)) (ev_orV (ev_k1 (ed_var rfl hx)) (fun _ => ev_k1 (ed_var rfl hy))) (fun H1 e1 => ?_)
    have hin : inV (.str u.name) [.str "equal", .str "less", .str "at most", .str "same", .str "least", .str "greatest", .str "coalesce"] = u.sp := by
      cases u <;> rfl
    by_cases hsp : u.sp = true
    · rw [hsp] at hin
      refine q_when (b := true) (et_test (ev_is (ev_inU (ev_var rfl) (eu_tup (ea_cons ev_c (ea_cons ev_c (ea_cons ev_c (ea_cons ev_c (ea_cons ev_c (ea_cons ev_c (ea_cons ev_c ea_nil))))))) (Nat.le_of_ble_eq_true rfl)) rfl rfl) (congrArg V.bl hin))) (fun _ H2 e2 => ?_) (fun z => nomatch z)
      have hx2 := dp_ex (e1.trans e2) _ _ hx
      have hy2 := dp_ex (e1.trans e2) _ _ hy
      refine q_when (b := !decide (c.1 = l.1)) (et_is (et_test (ev_op (ev_k0 (ed_var rfl hx2)) (ev_k0 (ed_var rfl hy2)) rv_neSS)) (congrArg (! ·) (kd_dec _ _))) (fun hb H3 e3 => ?_) (fun hb H3 e3 => ?_)
      · have hb : ¬ c.1 = l.1 := by simpa using hb
        have hkd : kdB u c l = none := by
          cases u <;> first | exact if_neg hb | cases hsp
        rw [hkd] at hQ
        exact s_retD (K := K) (d := .none) (ed_ev ev_c .non) (hQ.go ((e1.trans e2).trans e3))
      · have hb : c.1 = l.1 := by simpa using hb
        have hx3 := dp_ex e3 _ _ hx2
        have hy3 := dp_ex e3 _ _ hy2
        rw [kdB_sp hsp hb] at hQ
        have hQ := hQ.go ((e1.trans e2).trans e3)
        cases u <;> first
          | (cases hsp; done)
          | (first
               | (refine q_when (b := true) (et_eqS rfl rfl) (fun _ H4 e4 => ?_) (fun z => nomatch z)
                  exact s_retD (K := K) (d := .tuple [.str "bool", .bool false]) (ed_tup (ead_cons (ed_ev ev_c (.str _)) (ead_cons (ed_ev ev_c (.bl _)) ead_nil)) (Nat.le_of_ble_eq_true rfl)) (hQ.go e4))
               | (refine q_when (b := false) (et_eqS rfl rfl) (fun z => nomatch z) (fun _ H4 e4 => ?_)
                  first
                    | (refine q_when (b := true) (et_eqS rfl rfl) (fun _ H5 e5 => ?_) (fun z => nomatch z)
                       exact s_retD (K := K) (d := .tuple [.str c.1.name, .bool (c.2 && l.2)]) (ed_tup (ead_cons (ed_ev (ev_k0 (ed_var rfl (dp_ex (e4.trans e5) _ _ hx3))) (.str _)) (ead_cons (ed_ev (ev_andV (ev_k1 (ed_var rfl (dp_ex (e4.trans e5) _ _ hx3))) (fun _ => ev_k1 (ed_var rfl (dp_ex (e4.trans e5) _ _ hy3)))) (.bl _)) ead_nil)) (Nat.le_of_ble_eq_true rfl)) (hQ.go (e4.trans e5)))
                    | (refine q_when (b := false) (et_eqS rfl rfl) (fun z => nomatch z) (fun _ H5 e5 => ?_)
                       first
                         | (refine q_when (b := true) (et_test (ev_is (ev_inU (ev_var rfl) (eu_tup (ea_cons ev_c (ea_cons ev_c ea_nil)) (Nat.le_of_ble_eq_true rfl)) rfl rfl) rfl)) (fun _ H6 e6 => ?_) (fun z => nomatch z)
                            exact s_retD (K := K) (d := .tuple [.str c.1.name, .bool (c.2 || l.2)]) (ed_tup (ead_cons (ed_ev (ev_k0 (ed_var rfl (dp_ex ((e4.trans e5).trans e6) _ _ hx3))) (.str _)) (ead_cons (ed_var rfl (.bl _)) ead_nil)) (Nat.le_of_ble_eq_true rfl)) (hQ.go ((e4.trans e5).trans e6)))
                         | (refine q_when (b := false) (et_test (ev_is (ev_inU (ev_var rfl) (eu_tup (ea_cons ev_c (ea_cons ev_c ea_nil)) (Nat.le_of_ble_eq_true rfl)) rfl rfl) rfl)) (fun z => nomatch z) (fun _ H6 e6 => ?_)
                            exact s_retD (K := K) (d := .tuple [.str "bool", .bool (c.2 || l.2)]) (ed_tup (ead_cons (ed_ev ev_c (.str _)) (ead_cons (ed_var rfl (.bl _)) ead_nil)) (Nat.le_of_ble_eq_true rfl)) (hQ.go ((e4.trans e5).trans e6))))))
    · have hsp : u.sp = false := by simpa using hsp
      rw [hsp] at hin
      refine q_when (b := false) (et_test (ev_is (ev_inU (ev_var rfl) (eu_tup (ea_cons ev_c (ea_cons ev_c (ea_cons ev_c (ea_cons ev_c (ea_cons ev_c (ea_cons ev_c (ea_cons ev_c ea_nil))))))) (Nat.le_of_ble_eq_true rfl)) rfl rfl) (congrArg V.bl hin))) (fun z => nomatch z) (fun _ H2 e2 => ?_)
      have hkd : kdB u c l = ((bK u).find? fun r => decide (r.1 = c.1) && decide (r.2.1 = l.1)).map fun r => (r.2.2, (c.2 || l.2) || u.op) := by
        cases u <;> first | rfl | cases hsp
      rw [hkd] at hQ
      obtain ⟨a, hk, ha⟩ := rows_at T (i := 1) (x := "BINARY_KINDS") rfl T.binaryK (u.krow hsp)
      have e12 := e1.trans e2
      refine q_forTD (ed_ixK hk ha ev_c (ev_var rfl)) (fun i σ' H' => (∃ a b d, σ' = [some (.str u.name), some x, some y, some (.bl (c.2 || l.2)), a, b, d]) ∧ ∀ (j : Nat) r, j < i → (bK u)[j]? = some r → (decide (r.1 = c.1) && decide (r.2.1 = l.1)) = false) (fun H2 e2 => ⟨⟨_, _, _, rfl⟩, fun j r hj => absurd hj (Nat.not_lt_zero _)⟩) (fun i z d σ' H' H0 hi f1 f2 hp hd => ?_) (fun σ' H' f1 hp => ?_)
      · obtain ⟨⟨s2, s3, s4, rfl⟩, hno⟩ := hp
        rw [List.map_map, List.getElem?_map] at hi
        cases hpi : (bK u)[i]? with
        | none => rw [hpi] at hi; cases hi
        | some r =>
          rw [hpi] at hi
          cases hi
          have hx2 := dp_ex ((e12.trans f1).trans f2) _ _ hx
          have hy2 := dp_ex ((e12.trans f1).trans f2) _ _ hy
          refine g_three hd (fun a2 b2 c2 ha2 hb2 hc2 => ?_)
          cases ha2
          cases hb2
          cases hc2
          refine s_when (b := decide (r.1 = c.1) && decide (r.2.1 = l.1)) (et_and (et_is (et_test (ev_op (ev_var rfl) (ev_k0 (ed_var rfl hx2)) rv_eqSS)) (kd_dec _ _)) (fun _ => et_is (et_test (ev_op (ev_var rfl) (ev_k0 (ed_var rfl hy2)) rv_eqSS)) (kd_dec _ _))) (fun hb H3 e3 => ?_) (fun hb H3 e3 => ⟨f2.trans e3, ⟨_, _, _, rfl⟩, fun j r2 hj hr2 => ?_⟩)
          · rw [find_at hno hpi hb] at hQ
            refine s_retD (K := K) (d := .tuple [.str r.2.2.name, .bool ((c.2 || l.2) || u.op)]) (ed_tup (ead_cons (ed_var rfl (.str _)) (ead_cons (ed_ev (ev_orV (ev_var rfl) (fun _ => ev_is (ev_op (ev_var rfl) ev_c (rv_isT0 (T.open_ _))) (congrArg V.bl u.opV))) (.bl _)) ead_nil)) (Nat.le_of_ble_eq_true rfl)) (hQ.go (((e12.trans f1).trans f2).trans e3))
          · by_cases hji : j < i
            · exact hno j r2 hji hr2
            · have : j = i := by omega
              subst this
              rw [hpi] at hr2
              cases hr2
              exact hb
      · obtain ⟨⟨s2, s3, s4, rfl⟩, hno⟩ := hp
        rw [find_no (fun j a _ => hno j a (by rw [List.length_map, List.length_map]; assumption))] at hQ
        exact s_retD (K := K) (d := .none) (ed_ev ev_c .non) (hQ.go (e12.trans f1))

end

section
variable {P : Program} {w : World} {K : PySem.W.Frag} {mg : Str → Option Value} {base : Heap}

/-! ### kind_of -/
def spKd (K : PySem.W.Frag) (C : Xp → Prop) : Sp := fun vs H Q _ => ∃ (e : Xp) (cs : Cols) (x y : V), vs = [x, y] ∧ Dp K H x (enc e) ∧ Dp K H y (.list (cs.map encC)) ∧ C e ∧ RetD K (encK (kdX cs e)) H Q
theorem ed_Kd {σ : L2.St} {H : Hp} {ta tb : TE} {E : XK} {C : Xp → Prop} {e : Xp} {cs : Cols} (h : EvD K ta σ H (enc e)) (h2 : EvD K tb σ H (.list (cs.map encC))) (c : C e) : EvD K (tCall (spKd K C) [] E (tCons ta (tCons tb tNil))) σ H (encK (kdX cs e)) := fun H1 e1 Q q =>
  h H1 e1 _ fun x H2 e2 hx => h2 H2 (e1.trans e2) _ fun y H3 e3 hy => ⟨e, cs, x, y, rfl, dp_ex e3 _ _ hx, hy, c, fun v H4 e4 hv => q v H4 ((e2.trans e3).trans e4) hv⟩
def Kok (d : Nat) (e : Xp) : Prop := dpx e < d ∧ Okx e
def Kch (d : Nat) (e : Xp) : Prop := Kok d e ∧ frm e = "choice"
theorem isN_enc {H : Hp} {v : V} {o : Option (Kd × Bool)} (h : Dp K H v (encK o)) : decide (v = .non) = o.isNone := by
  cases o with
  | none =>
    cases h
    rfl
  | some c =>
    have h : Dp K H v (.tuple [.str c.1.name, .bool c.2]) := h
    cases h
    rfl
theorem isNull_eqv {e : Xp} (h : Okx e) : PyData.eqv (enc e) (.tuple [.str "constant", .none]) = isNull e := by
  cases e with
  | const v =>
    show PyData.eqv (.tuple [.str "constant", toD v]) (.tuple [.str "constant", .none]) = _
    cases v <;> first | exact False.elim h | (simp [PyData.eqv, PyData.eqvAll, toD, isNull])
  | col n =>
    show PyData.eqv (.tuple [.str "column", .int n]) (.tuple [.str "constant", .none]) = false
    simp [PyData.eqv, PyData.eqvAll]
  | un u a =>
    show PyData.eqv (.tuple [.str "unary", .str u.name, enc a]) (.tuple [.str "constant", .none]) = false
    simp [PyData.eqv, PyData.eqvAll]
  | bin u a b =>
    show PyData.eqv (.tuple [.str "binary", .str u.name, enc a, enc b]) (.tuple [.str "constant", .none]) = false
    simp [PyData.eqv, PyData.eqvAll]
  | ter u a b c =>
    show PyData.eqv (.tuple [.str "ternary", .str u.name, enc a, enc b, enc c]) (.tuple [.str "constant", .none]) = false
    simp [PyData.eqv, PyData.eqvAll]
  | ch a b c =>
    show PyData.eqv (.tuple [.str "choice", enc a, enc b, enc c]) (.tuple [.str "constant", .none]) = false
    simp [PyData.eqv, PyData.eqvAll]
theorem sh_null : SeqAt.shaped (.tuple [.str "constant", .none]) = true := sh_tup2 (sh_str _ (by decide +kernel)) sh_none (by simp [PyData.depth]) (by simp [PyData.depth])
section
variable {σ : L2.St} {H : Hp} {te ta : TE} {i : Nat} {v : V} {o : Option (Kd × Bool)}
theorem et_isN (h : σ[i]? = some (some v)) (hv : Dp K H v (encK o)) : EvT (tTest (tOp rIsN (tVar i) (tC .non))) σ H o.isNone := et_is (et_test (ev_op (ev_var h) ev_c rv_isNd)) (isN_enc hv)
theorem et_isnN (h : σ[i]? = some (some v)) (hv : Dp K H v (encK o)) : EvT (tTest (tOp rNotN (tVar i) (tC .non))) σ H (!o.isNone) := et_is (et_test (ev_op (ev_var h) ev_c rv_isnNd)) (by rw [isN_enc hv])
theorem et_null {e : Xp} (h : EvD K ta σ H (enc e)) (hok : Okx e) (hd : dpx e ≤ 60) : EvT (tTest (tOp (rEqD K) ta (tTup (tCons (tC (.str "constant")) (tCons (tC .non) tNil))))) σ H (isNull e) := et_is (et_test (ev_eqD h (ed_tup (ead_cons (ed_ev ev_c (.str _)) (ead_cons (ed_ev ev_c .non) ead_nil)) (Nat.le_of_ble_eq_true rfl)) (sh_enc hok hd) sh_null)) (isNull_eqv hok)
end
theorem kd_ne (k : Kd) : (!decide (k.name = "bool")) = !decide (k = .bool) := congrArg (! ·) (kd_dec k .bool)

theorem cs_choice_kind {d : Nat} (d60 : d ≤ 60) (ih : C8.Cal P w K mg base (4 + 2 * d) "kind_of" (spKd K (Kok d)) []) (T : Tx w K mg) : C8.Cal P w K mg base (4 + 2 * d + 1) "choice_kind" (spKd K (Kch (d + 1))) [] := by
  refine mk_cal T (x := "choice_kind") (i := 48) (j := 29) (N := ["expression", "columns", "condition", "first", "second"]) (ps := ["expression", "columns"]) rfl rfl (by decide +kernel) (fun _ _ _ _ _ _ us hl => match us, hl with | [_, _], _ => rfl) (fun vs H Q E h => by obtain ⟨_, _, _, _, rfl, _⟩ := h; rfl) (fun cdv A outer s H vs Q E nd hr h => ⟨_, (pss_cons (ps_set (i := 2) nd rfl (.inl rfl) (C8.pe_c ih hr (Nat.le_refl _) (by rfl) (pa_cons (pe_ix ix_seq (pv 0) pe_int (fun _ _ => rfl)) (pa_cons (pv 1) pa_nil))))
      (pss_cons (ps_if (PW.pt (pw_or (pt_cmpR o_isN (pv 2) pe_non (nomark _)) (pw_or1 (pt_cmpR op_ne (pe_ix ix_seq (pv 2) pe_int (fun _ _ => rfl)) pe_str (nomark _))))) (pss_one (ps_ret pe_non)) pss_nil)
      (pss_cons (ps_set (i := 3) nd rfl (.inl rfl) (C8.pe_c ih hr (Nat.le_refl _) (by rfl) (pa_cons (pe_ix ix_seq (pv 0) pe_int (fun _ _ => rfl)) (pa_cons (pv 1) pa_nil))))
      (pss_cons (ps_set (i := 4) nd rfl (.inl rfl) (C8.pe_c ih hr (Nat.le_refl _) (by rfl) (pa_cons (pe_ix ix_seq (pv 0) pe_int (fun _ _ => rfl)) (pa_cons (pv 1) pa_nil))))
      (pss_cons (ps_if (PW.pt (pw_and (pt_cmpR o_notN (pv 3) pe_non (nomark _)) (pw_and1 (pt_cmpR o_notN (pv 4) pe_non (nomark _))))) (pss_one (ps_ret (pe_ifExp (pt_cmpR op_eq (pe_ix ix_seq (pv 3) pe_int (fun _ _ => rfl)) (pe_ix ix_seq (pv 4) pe_int (fun _ _ => rfl)) (nomark _)) (pe_tup (pa_cons (pe_ix ix_seq (pv 3) pe_int (fun _ _ => rfl)) (pa_cons (pe_or (pe_ix ix_seq (pv 3) pe_int (fun _ _ => rfl)) (pe_one (pe_ix ix_seq (pv 4) pe_int (fun _ _ => rfl)))) pa_nil))) pe_non))) pss_nil)
      (pss_cons (ps_if (PW.pt (pw_and (pt_cmpR o_isN (pv 3) pe_non (nomark _)) (pw_and (pt_cmpR o_notN (pv 4) pe_non (nomark _)) (pw_and1 (pt_cmpR (op_eqD hr.units) (pe_ix ix_seq (pv 0) pe_int (fun _ _ => rfl)) (pe_tup (pa_cons pe_str (pa_cons pe_non pa_nil))) (nomark _)))))) (pss_one (ps_ret (pe_tup (pa_cons (pe_ix ix_seq (pv 4) pe_int (fun _ _ => rfl)) (pa_cons pe_bl pa_nil))))) pss_nil)
      (pss_cons (ps_if (PW.pt (pw_and (pt_cmpR o_isN (pv 4) pe_non (nomark _)) (pw_and (pt_cmpR o_notN (pv 3) pe_non (nomark _)) (pw_and1 (pt_cmpR (op_eqD hr.units) (pe_ix ix_seq (pv 0) pe_int (fun _ _ => rfl)) (pe_tup (pa_cons pe_str (pa_cons pe_non pa_nil))) (nomark _)))))) (pss_one (ps_ret (pe_tup (pa_cons (pe_ix ix_seq (pv 3) pe_int (fun _ _ => rfl)) (pa_cons pe_bl pa_nil))))) pss_nil)
      (pss_one (ps_ret pe_non))))))))), ?hb⟩)
  case hb =>
    obtain ⟨e, cs, x, y, rfl, hx, hy, ⟨⟨hd, hok⟩, hf⟩, hQ⟩ := h
    obtain ⟨a, b, c, rfl⟩ : ∃ a b c, e = .ch a b c := by
      cases e <;> first | exact ⟨_, _, _, rfl⟩ | exact absurd hf (of_decide_eq_false rfl)
    obtain ⟨o1, o2, o3⟩ := hok
    have hd : max (dpx a) (max (dpx b) (dpx c)) + 1 < d + 1 := hd
    have hx : Dp K H x (.tuple [.str "choice", enc a, enc b, enc c]) := hx
    refine q_asgD (d := encK (kdX cs a)) (ed_Kd (ed_ixT (ed_var rfl hx) ev_c rfl) (ed_var rfl hy) ⟨by omega, o1⟩) (fun v1 H1 e1 h1 => ?_)
    have hQ : RetD K (encK (match kdX cs a with
      | some (.bool, _) => match kdX cs b, kdX cs c with
        | some k, some l => if k.1 = l.1 then some (k.1, k.2 || l.2) else none
        | none, some l => if isNull b = true then some (l.1, true) else none
        | some k, none => if isNull c = true then some (k.1, true) else none
        | none, none => none
      | _ => none)) H Q := hQ
    have ret : ∀ {σ : L2.St} {H2 : Hp}, Ex H H2 → RetD K .none H Q → tRet (tC .non) { nx := fun _ H' => Q .non H', rt := Q } σ H2 := fun e hq => s_retD (K := K) (d := .none) (ed_ev ev_c .non) (hq.go e)
    cases hka : kdX cs a with
    | none =>
      rw [hka] at hQ h1
      refine q_when (b := true) (et_is (et_or1 (et_is (et_isN (o := none) rfl h1) rfl)) rfl) (fun _ H2 e2 => ?_) (fun z => nomatch z)
      exact s_retD (K := K) (d := .none) (ed_ev ev_c .non) (hQ.go (e1.trans e2))
    | some ka =>
      rw [hka] at hQ h1
      have h1 : Dp K H1 v1 (encC ka) := h1
      refine q_when (b := !decide (ka.1 = .bool)) (et_or0 (et_is (et_isN (o := some ka) rfl h1) rfl) (et_is (et_test (ev_op (ev_k0 (ed_var rfl h1)) ev_c rv_neSS)) (kd_ne ka.1))) (fun hb H2 e2 => ?_) (fun hb H2 e2 => ?_)
      · have hb : ¬ ka.1 = .bool := by simpa using hb
        obtain ⟨k0, k1⟩ := ka
        refine s_retD (K := K) (d := .none) (ed_ev ev_c .non) (RetD.go ?_ (e1.trans e2))
        cases k0 <;> first | exact absurd rfl hb | exact hQ
      · have hb : ka.1 = .bool := by simpa using hb
        obtain ⟨k0, k1⟩ := ka
        have hb : k0 = .bool := hb
        subst hb
        have e12 := e1.trans e2
        have hx2 := dp_ex e12 _ _ hx
        have hy2 := dp_ex e12 _ _ hy
        refine q_asgD (d := encK (kdX cs b)) (ed_Kd (ed_ixT (ed_var rfl hx2) ev_c rfl) (ed_var rfl hy2) ⟨by omega, o2⟩) (fun v2 H3 e3 h3 => ?_)
        have hx3 := dp_ex e3 _ _ hx2
        have hy3 := dp_ex e3 _ _ hy2
        refine q_asgD (d := encK (kdX cs c)) (ed_Kd (ed_ixT (ed_var rfl hx3) ev_c rfl) (ed_var rfl hy3) ⟨by omega, o3⟩) (fun v3 H4 e4 h4 => ?_)
        have h3 := dp_ex e4 _ _ h3
        have hx4 := dp_ex e4 _ _ hx3
        have hQ := hQ.go ((e12.trans e3).trans e4)
        cases hkb : kdX cs b with
        | some kb =>
          rw [hkb] at hQ h3
          have h3 : Dp K H4 v2 (encC kb) := h3
          cases hkc : kdX cs c with
          | some kc =>
            rw [hkc] at hQ h4
            have h4 : Dp K H4 v3 (encC kc) := h4
            refine q_when (b := true) (et_and1 (et_is (et_isnN (o := some kb) rfl h3) rfl) (et_is (et_isnN (o := some kc) rfl h4) rfl)) (fun _ H5 e5 => ?_) (fun z => nomatch z)
            have h3 := dp_ex e5 _ _ h3
            have h4 := dp_ex e5 _ _ h4
            have hQ : RetD K (encK (if kb.1 = kc.1 then some (kb.1, kb.2 || kc.2) else none)) H4 Q := hQ
            refine s_retD (K := K) (ed_if (b := decide (kb.1 = kc.1)) (et_is (et_test (ev_op (ev_k0 (ed_var rfl h3)) (ev_k0 (ed_var rfl h4)) rv_eqSS)) (kd_dec _ _)) (fun hz => ?_) (fun hz => ?_)) (hQ.go e5)
            · rw [if_pos (of_decide_eq_true hz)]
              exact ed_tup (ead_cons (ed_ev (ev_k0 (ed_var rfl h3)) (.str _)) (ead_cons (ed_ev (ev_orV (ev_k1 (ed_var rfl h3)) (fun _ => ev_k1 (ed_var rfl h4))) (.bl _)) ead_nil)) (Nat.le_of_ble_eq_true rfl)
            · rw [if_neg (of_decide_eq_false hz)]
              exact ed_ev ev_c .non
          | none =>
            rw [hkc] at hQ h4
            refine q_when (b := false) (et_and1 (et_is (et_isnN (o := some kb) rfl h3) rfl) (et_is (et_isnN (o := none) rfl h4) rfl)) (fun z => nomatch z) (fun _ H5 e5 => ?_)
            have h3 := dp_ex e5 _ _ h3
            have h4 := dp_ex e5 _ _ h4
            refine q_when (b := false) (et_and0 (et_is (et_isN (o := some kb) rfl h3) rfl)) (fun z => nomatch z) (fun _ H6 e6 => ?_)
            have h3 := dp_ex e6 _ _ h3
            have h4 := dp_ex e6 _ _ h4
            have hx6 := dp_ex (e5.trans e6) _ _ hx4
            have hQ : RetD K (encK (if isNull c = true then some (kb.1, true) else none)) H4 Q := hQ
            refine q_when (b := isNull c) (et_and1 (et_is (et_isN (o := none) rfl h4) rfl) (et_and1 (et_is (et_isnN (o := some kb) rfl h3) rfl) (et_null (ed_ixT (ed_var rfl hx6) ev_c rfl) o3 (by omega)))) (fun hz H7 e7 => ?_) (fun hz H7 e7 => ?_)
            · rw [if_pos hz] at hQ
              exact s_retD (K := K) (d := .tuple [.str kb.1.name, .bool true]) (ed_tup (ead_cons (ed_ev (ev_k0 (ed_var rfl (dp_ex e7 _ _ h3))) (.str _)) (ead_cons (ed_ev ev_c (.bl _)) ead_nil)) (Nat.le_of_ble_eq_true rfl)) (hQ.go ((e5.trans e6).trans e7))
            · rw [if_neg (by rw [hz]; exact Bool.false_ne_true)] at hQ
              exact s_retD (K := K) (d := .none) (ed_ev ev_c .non) (hQ.go ((e5.trans e6).trans e7))
        | none =>
          rw [hkb] at hQ h3
          refine q_when (b := false) (et_and0 (et_is (et_isnN (o := none) rfl h3) rfl)) (fun z => nomatch z) (fun _ H5 e5 => ?_)
          have h3 := dp_ex e5 _ _ h3
          have h4 := dp_ex e5 _ _ h4
          have hx5 := dp_ex e5 _ _ hx4
          cases hkc : kdX cs c with
          | some kc =>
            rw [hkc] at hQ h4
            have hQ : RetD K (encK (if isNull b = true then some (kc.1, true) else none)) H4 Q := hQ
            refine q_when (b := isNull b) (et_and1 (et_is (et_isN (o := none) rfl h3) rfl) (et_and1 (et_is (et_isnN (o := some kc) rfl h4) rfl) (et_null (ed_ixT (ed_var rfl hx5) ev_c rfl) o2 (by omega)))) (fun hz H6 e6 => ?_) (fun hz H6 e6 => ?_)
            · rw [if_pos hz] at hQ
              exact s_retD (K := K) (d := .tuple [.str kc.1.name, .bool true]) (ed_tup (ead_cons (ed_ev (ev_k0 (c := kc) (ed_var rfl (dp_ex e6 _ _ h4))) (.str _)) (ead_cons (ed_ev ev_c (.bl _)) ead_nil)) (Nat.le_of_ble_eq_true rfl)) (hQ.go (e5.trans e6))
            · rw [if_neg (by rw [hz]; exact Bool.false_ne_true)] at hQ
              refine q_when (b := false) (et_and0 (et_is (et_isN (o := some kc) rfl (dp_ex e6 _ _ h4)) rfl)) (fun z => nomatch z) (fun _ H7 e7 => ?_)
              exact s_retD (K := K) (d := .none) (ed_ev ev_c .non) (hQ.go ((e5.trans e6).trans e7))
          | none =>
            rw [hkc] at hQ h4
            refine q_when (b := false) (et_and1 (et_is (et_isN (o := none) rfl h3) rfl) (et_and0 (et_is (et_isnN (o := none) rfl h4) rfl))) (fun z => nomatch z) (fun _ H6 e6 => ?_)
            refine q_when (b := false) (et_and1 (et_is (et_isN (o := none) rfl (dp_ex e6 _ _ h4)) rfl) (et_and0 (et_is (et_isnN (o := none) rfl (dp_ex e6 _ _ h3)) rfl))) (fun z => nomatch z) (fun _ H7 e7 => ?_)
            exact s_retD (K := K) (d := .none) (ed_ev ev_c .non) (hQ.go ((e5.trans e6).trans e7))

theorem cz_kind_of (T : Tx w K mg) : C8.Cal P w K mg base 1 "kind_of" (fun _ _ _ _ => False) [] :=
  mk_cal T (x := "kind_of") (i := 49) (j := 30) (N := ["expression", "columns", "form", "kinds", "part", "kind"]) (ps := ["expression", "columns"]) rfl rfl (by decide +kernel) (fun _ _ _ _ _ _ us hl => match us, hl with | [_, _], _ => rfl) (fun _ _ _ _ h => h.elim) (fun _ _ _ _ _ _ _ _ _ _ h => h.elim)


theorem lf_encK (o : Option (Kd × Bool)) : lf (encK o) = true := by
  cases o <;> rfl
theorem lf_encKs : ∀ (l : List (Option (Kd × Bool))), lfAll (l.map encK) = true
  | [] => rfl
  | o :: l => by
    simp only [List.map_cons, lfAll, Bool.and_eq_true]
    exact ⟨lf_encK o, lf_encKs l⟩
theorem lf_strs : ∀ (l : List Str), lfAll (l.map .str) = true
  | [] => rfl
  | x :: l => by simp [lfAll, lf, lf_strs l]
theorem encK_lay (o : Option (Kd × Bool)) : (encK o).canLay0 = true ∧ (encK o).depth ≤ 1 := by
  cases o with
  | none => exact ⟨by simp [encK, PyData.canLay0], by simp [encK, PyData.depth]⟩
  | some c => exact ⟨by simp [encK, encC, PyData.canLay0, PyData.canLayAll0, kd_ok], by simp [encK, encC, PyData.depth, PyData.depthAll]⟩
theorem encKs_lay : ∀ (l : List (Option (Kd × Bool))), PyData.canLayAll0 (l.map encK) = true ∧ PyData.depthAll (l.map encK) ≤ 1
  | [] => ⟨by simp [PyData.canLayAll0], by simp [PyData.depthAll]⟩
  | o :: l => by
    obtain ⟨h1, h2⟩ := encKs_lay l
    obtain ⟨h3, h4⟩ := encK_lay o
    refine ⟨?_, ?_⟩
    · simp only [List.map_cons, PyData.canLayAll0, h1, h3, Bool.and_true]
    · simp only [List.map_cons, PyData.depthAll]
      omega
theorem sh_encKs (l : List (Option (Kd × Bool))) : SeqAt.shaped (.list (l.map encK)) = true := by
  obtain ⟨h1, h2⟩ := encKs_lay l
  have h3 : (PyData.list (l.map encK)).canLay0 = true := by
    simp only [PyData.canLay0]
    exact h1
  have h4 : (PyData.list (l.map encK)).depth ≤ 64 := by
    simp only [PyData.depth]
    omega
  show ((PyData.list (l.map encK)).canLay0 && decide ((PyData.list (l.map encK)).depth ≤ 64)) = true
  rw [h3, decide_eq_true h4]
  rfl
theorem encK_none (o : Option (Kd × Bool)) : PyData.eqv (encK o) .none = o.isNone := by
  cases o with
  | none => simp [encK, PyData.eqv]
  | some c => simp [encK, encC, PyData.eqv]
theorem any_none (l : List (Option (Kd × Bool))) : ((l.map encK).any fun z => PyData.eqv z .none) = l.any (·.isNone) := by
  rw [List.any_map]
  congr 1
  funext o
  exact encK_none o
theorem ck_enc {v : V} (h : Sc v) : ckD v = encK (ckX v) := by
  cases v <;> first | exact False.elim h | rfl
theorem ec_uk {σ : L2.St} {H : Hp} {ta tb : TE} {E : XK} {u : U} {c : Kd × Bool} (h : Ev ta σ H (.str u.name)) (h2 : EvD K tb σ H (encC c)) : EvD K (tCall (spUK K) [] E (tCons ta (tCons tb tNil))) σ H (encK (kdU u c)) := fun H1 e1 Q q =>
  h H1 e1 _ fun H2 e2 => h2 H2 (e1.trans e2) _ fun y H3 e3 hy => ⟨u, c, y, rfl, hy, fun v H4 e4 hv => q v H4 ((e2.trans e3).trans e4) hv⟩
theorem ec_bk {σ : L2.St} {H : Hp} {ta tb tc : TE} {E : XK} {u : B} {c l : Kd × Bool} (h : Ev ta σ H (.str u.name)) (h2 : EvD K tb σ H (encC c)) (h3 : EvD K tc σ H (encC l)) : EvD K (tCall (spBK K) [] E (tCons ta (tCons tb (tCons tc tNil)))) σ H (encK (kdB u c l)) := fun H1 e1 Q q =>
  h H1 e1 _ fun H2 e2 => h2 H2 (e1.trans e2) _ fun y H3 e3 hy => h3 H3 ((e1.trans e2).trans e3) _ fun z H4 e4 hz => ⟨u, c, l, y, z, rfl, dp_ex e4 _ _ hy, hz, fun v H5 e5 hv => q v H5 (((e2.trans e3).trans e4).trans e5) hv⟩
theorem ter_eqv (k l m : Kd) (t : Kd × Kd × Kd) : PyData.eqv (.tuple [.str k.name, .str l.name, .str m.name]) (.tuple [.str t.1.name, .str t.2.1.name, .str t.2.2.name]) = decide ((k, l, m) = t) := by
  obtain ⟨a, b, c⟩ := t
  simp only [PyData.eqv, PyData.eqvAll]
  cases k <;> cases a <;> first
    | rfl
    | (cases l <;> cases b <;> first
        | rfl
        | (cases m <;> cases c <;> rfl))
theorem sh_three {a b c : Str} (h1 : PyData.strOk a = true) (h2 : PyData.strOk b = true) (h3 : PyData.strOk c = true) : SeqAt.shaped (.tuple [.str a, .str b, .str c]) = true := by
  simp [SeqAt.shaped, PyData.canLay0, PyData.canLayAll0, PyData.depth, PyData.depthAll, h1, h2, h3]
theorem kd_un {cs : Cols} {u : U} {a : Xp} : kdX cs (.un u a) = match kdX cs a with
    | some k => kdU u k
    | none => none := rfl
theorem kd_bin {cs : Cols} {u : B} {a b : Xp} : kdX cs (.bin u a b) = match kdX cs a, kdX cs b with
    | some k, some l => kdB u k l
    | _, _ => none := rfl
theorem kd_ter {cs : Cols} {t : W3} {a b c : Xp} : kdX cs (.ter t a b c) = match kdX cs a, kdX cs b, kdX cs c with
    | some k, some l, some m => if (k.1, l.1, m.1) = tK t then some (.text, true) else none
    | _, _, _ => none := rfl

theorem cs_kind_of {d : Nat} (d60 : d ≤ 60) (ih : C8.Cal P w K mg base (4 + 2 * d) "kind_of" (spKd K (Kok d)) []) (T : Tx w K mg) : C8.Cal P w K mg base (4 + 2 * d + 1 + 1) "kind_of" (spKd K (Kok (d + 1))) [] := by
  refine mk_cal T (x := "kind_of") (i := 49) (j := 30) (N := ["expression", "columns", "form", "kinds", "part", "kind"]) (ps := ["expression", "columns"]) rfl rfl (by decide +kernel) (fun _ _ _ _ _ _ us hl => match us, hl with | [_, _], _ => rfl) (fun vs H Q E h => by obtain ⟨_, _, _, _, rfl, _⟩ := h; rfl) (fun cdv A outer s H vs Q E nd hr h => ⟨_, (pss_cons (ps_set (i := 2) nd rfl (.inl rfl) (pe_ix ix_seq (pv 0) pe_int (fun _ _ => rfl)))
      (pss_cons (ps_if (pt_cmpR op_eq (pv 2) pe_str (nomark _)) (pss_one (ps_ret (C8.pe_c (c_constant_kind T) hr (by omega) (by rfl) (pa_cons (pe_ix ix_seq (pv 0) pe_int (fun _ _ => rfl)) pa_nil)))) pss_nil)
      (pss_cons (ps_if (pt_cmpR op_eq (pv 2) pe_str (nomark _)) (pss_one (ps_ret (pe_ifExp (pt_cmpR o_lt (pe_ix ix_seq (pv 0) pe_int (fun _ _ => rfl)) (pe_callB b_len (by rfl) T.m_len boot_len (pa_cons (pv 1) pa_nil)) (nomark _)) (pe_ix ix_seq (pv 1) (pe_ix ix_seq (pv 0) pe_int (fun _ _ => rfl)) (fun _ _ => rfl)) pe_non))) pss_nil)
      (pss_cons (ps_if (pt_cmpR op_eq (pv 2) pe_str (nomark _)) (pss_one (ps_ret (C8.pe_c (cs_choice_kind d60 ih T) hr (Nat.le_refl _) (by rfl) (pa_cons (pv 0) (pa_cons (pv 1) pa_nil))))) pss_nil)
      (pss_cons (ps_setLc (i := 3) (own := [("part", 4)]) (g := gName 4) (by rfl) nd rfl rfl (sw_true rfl rfl rfl (by decide +kernel)) (pi_tup (pe_slice sl_tupA (pv 0) (po_some pe_int) po_none)) (blkOk_by (own := [("part", 4)]) (N := ["expression", "columns", "form", "kinds", "part", "kind"]) (sc := C8.fnScope (top 49)) (by decide +kernel)) (fun _ _ _ _ _ => pg_name (i := 4) nd rfl (.inl rfl)) (fun _ _ _ _ _ => pts_nil) (fun _ _ _ _ _ => (C8.pe_c ih hr (by omega) (by rfl) (pa_cons (pv 4) (pa_cons (pv 1) pa_nil)))))
      (pss_cons (ps_if (pt_cmpR (op_inD (room65 hr)) pe_non (pv 3) (by rfl)) (pss_one (ps_ret pe_non)) pss_nil)
      (pss_cons (ps_if (pt_cmpR op_eq (pv 2) pe_str (nomark _)) (pss_one (ps_ret (C8.pe_c (c_unary_kind T) hr (by omega) (by rfl) (pa_cons (pe_ix ix_seq (pv 0) pe_int (fun _ _ => rfl)) (pa_cons (pe_ix ix_seq (pv 3) pe_int (fun _ _ => rfl)) pa_nil))))) pss_nil)
      (pss_cons (ps_if (pt_cmpR op_eq (pv 2) pe_str (nomark _)) (pss_one (ps_ret (C8.pe_c (c_binary_kind T) hr (by omega) (by rfl) (pa_cons (pe_ix ix_seq (pv 0) pe_int (fun _ _ => rfl)) (pa_cons (pe_ix ix_seq (pv 3) pe_int (fun _ _ => rfl)) (pa_cons (pe_ix ix_seq (pv 3) pe_int (fun _ _ => rfl)) pa_nil)))))) pss_nil)
      (pss_cons (ps_if (pt_cmpR (op_eqD hr.units) (pe_callTy b_tuple (by rfl) T.m_tuple boot_tuple (pa_cons (pe_lc (own := [("kind", 5)]) (g := gName 5) (by rfl) nd (pi_list (pv 3)) (blkOk_by (own := [("kind", 5)]) (N := ["expression", "columns", "form", "kinds", "part", "kind"]) (sc := C8.fnScope (top 49)) (by decide +kernel)) (fun _ _ _ _ _ => pg_name (i := 5) nd rfl (.inl rfl)) (fun _ _ _ _ _ => pts_nil) (fun _ _ _ _ _ => (pe_ix (ix_seqK (K := K) rfl) (pv 5) pe_int (fun _ _ => rfl)))) pa_nil)) (pe_ix ix_kdict (C8.pe_gc (by rfl) T.TERNARY_KINDS) (pe_ix ix_seq (pv 0) pe_int (fun _ _ => rfl)) (fun _ _ => rfl)) (nomark _)) (pss_one (ps_ret (pe_tup (pa_cons pe_str (pa_cons pe_bl pa_nil))))) pss_nil)
      (pss_one (ps_ret pe_non))))))))))), ?hb⟩)
  case hb =>
    obtain ⟨e, cs, x, y, rfl, hx, hy, ⟨hd, hok⟩, hQ⟩ := h
    cases e with
    | const v =>
      have hv : Dp K H x (.tuple [.str "constant", toD v]) := hx
      refine q_asg (v := .str "constant") (ev_dS (ed_ixT (ed_var rfl hv) ev_c rfl)) (fun H1 e1 => ?_)
      refine q_when (b := true) (et_eqS rfl (by decide +kernel)) (fun _ H2 e2 => ?_) (fun z => nomatch z)
      have hQ : RetD K (encK (ckX v)) H Q := hQ
      rw [← ck_enc hok.sc] at hQ
      exact s_retD (ed_cR (f := ckR) (vs := [v]) (ea_cons (ev_dV (sc0_of hok.sc) (ed_ixT (ed_var rfl (dp_ex (e1.trans e2) _ _ hv)) ev_c rfl)) ea_nil) ⟨v, rfl, hok.sc⟩) (hQ.go (e1.trans e2))
    | col n =>
      have hv : Dp K H x (.tuple [.str "column", .int n]) := hx
      refine q_asg (v := .str "column") (ev_dS (ed_ixT (ed_var rfl hv) ev_c rfl)) (fun H1 e1 => ?_)
      refine q_when (b := false) (et_eqS rfl (by decide +kernel)) (fun z => nomatch z) (fun _ H2 e2 => ?_)
      refine q_when (b := true) (et_eqS rfl (by decide +kernel)) (fun _ H3 e3 => ?_) (fun z => nomatch z)
      have e13 := (e1.trans e2).trans e3
      have hv3 := dp_ex e13 _ _ hv
      have hy3 := dp_ex e13 _ _ hy
      have hQ : RetD K (encK cs[n]?) H Q := hQ
      refine s_retD (K := K) (d := encK cs[n]?) (ed_if (b := decide (n < cs.length)) (et_is (et_test (ev_op (ev_dI (ed_ixT (ed_var rfl hv3) ev_c rfl)) (ev_is (ev_lenD (ed_var rfl hy3)) (by rw [List.length_map])) rv_ltI)) (by
        by_cases hlt : n < cs.length
        · rw [decide_eq_true hlt, decide_eq_true (by omega)]
        · rw [decide_eq_false hlt, decide_eq_false (by omega)])) (fun hz => ?_) (fun hz => ?_)) (hQ.go e13)
      · have hz := of_decide_eq_true hz
        have hg : cs[n]? = some cs[n] := List.getElem?_eq_getElem hz
        rw [hg]
        exact ed_ixL (ed_var rfl hy3) (ev_dI (ed_ixT (ed_var rfl hv3) ev_c rfl)) (L2.atI_nat (by rw [List.getElem?_map, hg]; rfl))
      · have hz := of_decide_eq_false hz
        rw [List.getElem?_eq_none (by omega)]
        exact ed_ev ev_c .non
    | ch a b c =>
      have hv : Dp K H x (.tuple [.str "choice", enc a, enc b, enc c]) := hx
      refine q_asg (v := .str "choice") (ev_dS (ed_ixT (ed_var rfl hv) ev_c rfl)) (fun H1 e1 => ?_)
      refine q_when (b := false) (et_eqS rfl (by decide +kernel)) (fun z => nomatch z) (fun _ H2 e2 => ?_)
      refine q_when (b := false) (et_eqS rfl (by decide +kernel)) (fun z => nomatch z) (fun _ H3 e3 => ?_)
      refine q_when (b := true) (et_eqS rfl (by decide +kernel)) (fun _ H4 e4 => ?_) (fun z => nomatch z)
      have e14 := ((e1.trans e2).trans e3).trans e4
      exact s_retD (ed_Kd (e := .ch a b c) (ed_var rfl (dp_ex e14 _ _ hx)) (ed_var rfl (dp_ex e14 _ _ hy)) ⟨⟨hd, hok⟩, rfl⟩) (hQ.go e14)
    | un u a =>
      have hv : Dp K H x (.tuple [.str "unary", .str u.name, enc a]) := hx
      refine q_asg (v := .str "unary") (ev_dS (ed_ixT (ed_var rfl hv) ev_c rfl)) (fun H1 e1 => ?_)
      refine q_when (b := false) (et_eqS rfl (by decide +kernel)) (fun z => nomatch z) (fun _ H2 e2 => ?_)
      refine q_when (b := false) (et_eqS rfl (by decide +kernel)) (fun z => nomatch z) (fun _ H3 e3 => ?_)
      refine q_when (b := false) (et_eqS rfl (by decide +kernel)) (fun z => nomatch z) (fun _ H4 e4 => ?_)
      have e14 := ((e1.trans e2).trans e3).trans e4
      have hv4 := dp_ex e14 _ _ hv
      have hy4 := dp_ex e14 _ _ hy
      refine q_asgD (d := .list ([kdX cs a].map encK)) (ed_lcTD (es := [enc a]) (ed_is (ed_slA (ed_var rfl hv4) (eo_some ev_c) eo_none) rfl) (by simp) rfl (lf_encKs _) (fun _ => rfl) (fun i z t r H5 e5 hz hi hj => ?_)) (fun kv H5 e5 h5 => ?_)
      · have y5 := dp_ex e5 _ _ hy4
        match i, hi, hj with
        | 0, hi, hj =>
          cases hi
          cases hj
          exact ed_Kd (ed_var rfl hz) (ed_var rfl y5) ⟨by have hd : dpx a + 1 < d + 1 := hd; omega, hok⟩
        | i + 1, hi, hj => exact absurd (show ([] : List PyData)[i]? = some _ from hi) (by simp)
      · have v5 := dp_ex e5 _ _ hv4
        have e15 := e14.trans e5
        have hQ5 := hQ.go e15
        have inn : EvT (tTest (tOp (rInD K) (tC .non) (tVar 3))) [some x, some y, some (.str "unary"), some kv, none, none] H5 ([kdX cs a].any (·.isNone)) := et_is (et_test (ev_inD (ed_ev ev_c .non) (ed_var rfl h5) sh_none (sh_encKs _))) (any_none _)
        cases hk0 : kdX cs a with
        | none =>
          have hn : [kdX cs a].any (·.isNone) = true := by simp [hk0]
          rw [hn] at inn
          refine q_when (b := true) inn (fun _ H6 e6 => ?_) (fun z => nomatch z)
          have hr : kdX cs (.un u a) = none := by
            rw [kd_un, hk0]
          rw [hr] at hQ5
          exact s_retD (K := K) (d := .none) (ed_ev ev_c .non) (hQ5.go e6)
        | some k0 =>
          have hn : [kdX cs a].any (·.isNone) = false := by simp [hk0]
          rw [hn] at inn
          refine q_when (b := false) inn (fun z => nomatch z) (fun _ H6 e6 => ?_)
          have h6 : Dp K H6 kv (.list ([some k0].map encK)) := by
            have := dp_ex e6 _ _ h5
            rw [hk0] at this
            exact this
          have v6 := dp_ex e6 _ _ v5
          rw [kd_un, hk0] at hQ5
          refine q_when (b := true) (et_eqS rfl (by decide +kernel)) (fun _ H7 e7 => ?_) (fun z => nomatch z)
          exact s_retD (ec_uk (ev_dS (ed_ixT (ed_var rfl (dp_ex e7 _ _ v6)) ev_c rfl)) (ed_ixL (ed_var rfl (dp_ex e7 _ _ h6)) ev_c rfl)) (hQ5.go (e6.trans e7))
    | bin u a b =>
      have hv : Dp K H x (.tuple [.str "binary", .str u.name, enc a, enc b]) := hx
      refine q_asg (v := .str "binary") (ev_dS (ed_ixT (ed_var rfl hv) ev_c rfl)) (fun H1 e1 => ?_)
      refine q_when (b := false) (et_eqS rfl (by decide +kernel)) (fun z => nomatch z) (fun _ H2 e2 => ?_)
      refine q_when (b := false) (et_eqS rfl (by decide +kernel)) (fun z => nomatch z) (fun _ H3 e3 => ?_)
      refine q_when (b := false) (et_eqS rfl (by decide +kernel)) (fun z => nomatch z) (fun _ H4 e4 => ?_)
      have e14 := ((e1.trans e2).trans e3).trans e4
      have hv4 := dp_ex e14 _ _ hv
      have hy4 := dp_ex e14 _ _ hy
      refine q_asgD (d := .list ([kdX cs a, kdX cs b].map encK)) (ed_lcTD (es := [enc a, enc b]) (ed_is (ed_slA (ed_var rfl hv4) (eo_some ev_c) eo_none) rfl) (by simp) rfl (lf_encKs _) (fun _ => rfl) (fun i z t r H5 e5 hz hi hj => ?_)) (fun kv H5 e5 h5 => ?_)
      · have y5 := dp_ex e5 _ _ hy4
        match i, hi, hj with
        | 0, hi, hj =>
          cases hi
          cases hj
          exact ed_Kd (ed_var rfl hz) (ed_var rfl y5) ⟨by have hd : max (dpx a) (dpx b) + 1 < d + 1 := hd; omega, hok.1⟩
        | 1, hi, hj =>
          cases hi
          cases hj
          exact ed_Kd (ed_var rfl hz) (ed_var rfl y5) ⟨by have hd : max (dpx a) (dpx b) + 1 < d + 1 := hd; omega, hok.2⟩
        | i + 2, hi, hj => exact absurd (show ([] : List PyData)[i]? = some _ from hi) (by simp)
      · have v5 := dp_ex e5 _ _ hv4
        have e15 := e14.trans e5
        have hQ5 := hQ.go e15
        have inn : EvT (tTest (tOp (rInD K) (tC .non) (tVar 3))) [some x, some y, some (.str "binary"), some kv, none, none] H5 ([kdX cs a, kdX cs b].any (·.isNone)) := et_is (et_test (ev_inD (ed_ev ev_c .non) (ed_var rfl h5) sh_none (sh_encKs _))) (any_none _)
        cases hk0 : kdX cs a with
        | none =>
          have hn : [kdX cs a, kdX cs b].any (·.isNone) = true := by simp [hk0]
          rw [hn] at inn
          refine q_when (b := true) inn (fun _ H6 e6 => ?_) (fun z => nomatch z)
          have hr : kdX cs (.bin u a b) = none := by
            rw [kd_bin, hk0]
          rw [hr] at hQ5
          exact s_retD (K := K) (d := .none) (ed_ev ev_c .non) (hQ5.go e6)
        | some k0 =>
          cases hk1 : kdX cs b with
          | none =>
            have hn : [kdX cs a, kdX cs b].any (·.isNone) = true := by simp [hk1]
            rw [hn] at inn
            refine q_when (b := true) inn (fun _ H6 e6 => ?_) (fun z => nomatch z)
            have hr : kdX cs (.bin u a b) = none := by
              rw [kd_bin, hk0, hk1]
            rw [hr] at hQ5
            exact s_retD (K := K) (d := .none) (ed_ev ev_c .non) (hQ5.go e6)
          | some k1 =>
            have hn : [kdX cs a, kdX cs b].any (·.isNone) = false := by simp [hk0, hk1]
            rw [hn] at inn
            refine q_when (b := false) inn (fun z => nomatch z) (fun _ H6 e6 => ?_)
            have h6 : Dp K H6 kv (.list ([some k0, some k1].map encK)) := by
              have := dp_ex e6 _ _ h5
              rw [hk0, hk1] at this
              exact this
            have v6 := dp_ex e6 _ _ v5
            rw [kd_bin, hk0, hk1] at hQ5
            refine q_when (b := false) (et_eqS rfl (by decide +kernel)) (fun z => nomatch z) (fun _ H7 e7 => ?_)
            refine q_when (b := true) (et_eqS rfl (by decide +kernel)) (fun _ H8 e8 => ?_) (fun z => nomatch z)
            exact s_retD (ec_bk (ev_dS (ed_ixT (ed_var rfl (dp_ex (e7.trans e8) _ _ v6)) ev_c rfl)) (ed_ixL (ed_var rfl (dp_ex (e7.trans e8) _ _ h6)) ev_c rfl) (ed_ixL (ed_var rfl (dp_ex (e7.trans e8) _ _ h6)) ev_c rfl)) (hQ5.go ((e6.trans e7).trans e8))
    | ter u a b c =>
      have hv : Dp K H x (.tuple [.str "ternary", .str u.name, enc a, enc b, enc c]) := hx
      refine q_asg (v := .str "ternary") (ev_dS (ed_ixT (ed_var rfl hv) ev_c rfl)) (fun H1 e1 => ?_)
      refine q_when (b := false) (et_eqS rfl (by decide +kernel)) (fun z => nomatch z) (fun _ H2 e2 => ?_)
      refine q_when (b := false) (et_eqS rfl (by decide +kernel)) (fun z => nomatch z) (fun _ H3 e3 => ?_)
      refine q_when (b := false) (et_eqS rfl (by decide +kernel)) (fun z => nomatch z) (fun _ H4 e4 => ?_)
      have e14 := ((e1.trans e2).trans e3).trans e4
      have hv4 := dp_ex e14 _ _ hv
      have hy4 := dp_ex e14 _ _ hy
      refine q_asgD (d := .list ([kdX cs a, kdX cs b, kdX cs c].map encK)) (ed_lcTD (es := [enc a, enc b, enc c]) (ed_is (ed_slA (ed_var rfl hv4) (eo_some ev_c) eo_none) rfl) (by simp) rfl (lf_encKs _) (fun _ => rfl) (fun i z t r H5 e5 hz hi hj => ?_)) (fun kv H5 e5 h5 => ?_)
      · have y5 := dp_ex e5 _ _ hy4
        match i, hi, hj with
        | 0, hi, hj =>
          cases hi
          cases hj
          exact ed_Kd (ed_var rfl hz) (ed_var rfl y5) ⟨by have hd : max (dpx a) (max (dpx b) (dpx c)) + 1 < d + 1 := hd; omega, hok.1⟩
        | 1, hi, hj =>
          cases hi
          cases hj
          exact ed_Kd (ed_var rfl hz) (ed_var rfl y5) ⟨by have hd : max (dpx a) (max (dpx b) (dpx c)) + 1 < d + 1 := hd; omega, hok.2.1⟩
        | 2, hi, hj =>
          cases hi
          cases hj
          exact ed_Kd (ed_var rfl hz) (ed_var rfl y5) ⟨by have hd : max (dpx a) (max (dpx b) (dpx c)) + 1 < d + 1 := hd; omega, hok.2.2⟩
        | i + 3, hi, hj => exact absurd (show ([] : List PyData)[i]? = some _ from hi) (by simp)
      · have v5 := dp_ex e5 _ _ hv4
        have e15 := e14.trans e5
        have hQ5 := hQ.go e15
        have inn : EvT (tTest (tOp (rInD K) (tC .non) (tVar 3))) [some x, some y, some (.str "ternary"), some kv, none, none] H5 ([kdX cs a, kdX cs b, kdX cs c].any (·.isNone)) := et_is (et_test (ev_inD (ed_ev ev_c .non) (ed_var rfl h5) sh_none (sh_encKs _))) (any_none _)
        cases hk0 : kdX cs a with
        | none =>
          have hn : [kdX cs a, kdX cs b, kdX cs c].any (·.isNone) = true := by simp [hk0]
          rw [hn] at inn
          refine q_when (b := true) inn (fun _ H6 e6 => ?_) (fun z => nomatch z)
          have hr : kdX cs (.ter u a b c) = none := by
            rw [kd_ter, hk0]
          rw [hr] at hQ5
          exact s_retD (K := K) (d := .none) (ed_ev ev_c .non) (hQ5.go e6)
        | some k0 =>
          cases hk1 : kdX cs b with
          | none =>
            have hn : [kdX cs a, kdX cs b, kdX cs c].any (·.isNone) = true := by simp [hk1]
            rw [hn] at inn
            refine q_when (b := true) inn (fun _ H6 e6 => ?_) (fun z => nomatch z)
            have hr : kdX cs (.ter u a b c) = none := by
              rw [kd_ter, hk0, hk1]
            rw [hr] at hQ5
            exact s_retD (K := K) (d := .none) (ed_ev ev_c .non) (hQ5.go e6)
          | some k1 =>
            cases hk2 : kdX cs c with
            | none =>
              have hn : [kdX cs a, kdX cs b, kdX cs c].any (·.isNone) = true := by simp [hk2]
              rw [hn] at inn
              refine q_when (b := true) inn (fun _ H6 e6 => ?_) (fun z => nomatch z)
              have hr : kdX cs (.ter u a b c) = none := by
                rw [kd_ter, hk0, hk1, hk2]
              rw [hr] at hQ5
              exact s_retD (K := K) (d := .none) (ed_ev ev_c .non) (hQ5.go e6)
            | some k2 =>
              have hn : [kdX cs a, kdX cs b, kdX cs c].any (·.isNone) = false := by simp [hk0, hk1, hk2]
              rw [hn] at inn
              refine q_when (b := false) inn (fun z => nomatch z) (fun _ H6 e6 => ?_)
              have h6 : Dp K H6 kv (.list ([some k0, some k1, some k2].map encK)) := by
                have := dp_ex e6 _ _ h5
                rw [hk0, hk1, hk2] at this
                exact this
              have v6 := dp_ex e6 _ _ v5
              rw [kd_ter, hk0, hk1, hk2] at hQ5
              refine q_when (b := false) (et_eqS rfl (by decide +kernel)) (fun z => nomatch z) (fun _ H7 e7 => ?_)
              refine q_when (b := false) (et_eqS rfl (by decide +kernel)) (fun z => nomatch z) (fun _ H8 e8 => ?_)
              obtain ⟨ta, hk, ha⟩ := ter_at T u
              have h8 := dp_ex (e7.trans e8) _ _ h6
              have v8 := dp_ex (e7.trans e8) _ _ v6
              have hQ5 : RetD K (encK (if (k0.1, k1.1, k2.1) = tK u then some (.text, true) else none)) H5 Q := hQ5
              refine q_when (b := decide ((k0.1, k1.1, k2.1) = tK u)) (et_is (et_test (ev_eqD (d1 := .tuple [.str k0.1.name, .str k1.1.name, .str k2.1.name]) (ed_tupL (ed_lcD (es := [some k0, some k1, some k2].map encK) (ds := [k0.1.name, k1.1.name, k2.1.name].map .str) (ed_var rfl h8) (by simp) rfl (lf_strs _) (fun _ => rfl) (fun i z t r H9 e9 hz hi hj => ?_))) (ed_ixK hk ha ev_c (ev_dS (ed_ixT (ed_var rfl v8) ev_c rfl))) (sh_three (kd_ok _) (kd_ok _) (kd_ok _)) (sh_three (kd_ok _) (kd_ok _) (kd_ok _)))) (ter_eqv _ _ _ _)) (fun hz H9 e9 => ?_) (fun hz H9 e9 => ?_)
              · match i, hi, hj with
                | 0, hi, hj =>
                  cases hi
                  cases hj
                  exact ed_ev (ev_k0 (ed_var rfl hz)) (.str _)
                | 1, hi, hj =>
                  cases hi
                  cases hj
                  exact ed_ev (ev_k0 (ed_var rfl hz)) (.str _)
                | 2, hi, hj =>
                  cases hi
                  cases hj
                  exact ed_ev (ev_k0 (ed_var rfl hz)) (.str _)
                | i + 3, hi, hj => exact absurd (show ([] : List PyData)[i]? = some _ from hi) (by simp)
              · rw [if_pos (of_decide_eq_true hz)] at hQ5
                exact s_retD (K := K) (d := .tuple [.str "text", .bool true]) (ed_tup (ead_cons (ed_ev ev_c (.str _)) (ead_cons (ed_ev ev_c (.bl _)) ead_nil)) (Nat.le_of_ble_eq_true rfl)) (hQ5.go (((e6.trans e7).trans e8).trans e9))
              · rw [if_neg (of_decide_eq_false hz)] at hQ5
                exact s_retD (K := K) (d := .none) (ed_ev ev_c .non) (hQ5.go (((e6.trans e7).trans e8).trans e9))


theorem c_kind_of (T : Tx w K mg) : ∀ d : Nat, d ≤ 61 → C8.Cal P w K mg base (4 + 2 * d) "kind_of" (spKd K (Kok d)) []
  | 0, _ => cal_up (cal_imp (cz_kind_of T) fun vs H Q E h => by
    obtain ⟨e, cs, x, y, _, _, _, hd, _⟩ := h
    exact absurd hd.1 (Nat.not_lt_zero _)) (by decide)
  | d + 1, h => cs_kind_of (by omega) (c_kind_of T d (by omega)) T

end

section
variable {P : Program} {w : World} {K : PySem.W.Frag} {mg : Str → Option Value} {base : Heap}

/-! ### the law's own defs -/
def FitK (k : Kd) (v : V) : Prop := match k with
  | .bool => ∃ b, v = .bl b
  | .int => ∃ i, v = .int i ∧ -1000000000000000 ≤ i ∧ i ≤ 1000000000000000
  | .text => ∃ s, v = .str s ∧ OkS s
  | .date => ∃ i, v = .int i ∧ -719162 ≤ i ∧ i ≤ 2932896
  | .dec => ∃ i, v = .int i ∧ -1000000000000000 ≤ i ∧ i ≤ 1000000000000000
def FitN (c : Kd × Bool) (v : V) : Prop := (v = .non ∧ c.2 = true) ∨ FitK c.1 v
theorem FitK.ok {k : Kd} {v : V} (h : FitK k v) : OkV v := by
  cases k with
  | bool => obtain ⟨b, rfl⟩ := h; exact trivial
  | int => obtain ⟨b, rfl, _⟩ := h; exact trivial
  | text => obtain ⟨b, rfl, h⟩ := h; exact h
  | date => obtain ⟨b, rfl, _⟩ := h; exact trivial
  | dec => obtain ⟨b, rfl, _⟩ := h; exact trivial
theorem FitN.ok {c : Kd × Bool} {v : V} (h : FitN c v) : OkV v := by
  rcases h with ⟨rfl, _⟩ | h
  · exact trivial
  · exact h.ok
/-- the constants within fit -/
def Lx : Xp → Prop
  | .const v => v = .non ∨ ∃ k, FitK k v
  | .col _ => True
  | .un _ a => Lx a
  | .bin _ a c => Lx a ∧ Lx c
  | .ter _ a b c => Lx a ∧ Lx b ∧ Lx c
  | .ch a b c => Lx a ∧ Lx b ∧ Lx c
theorem Lx.ok : ∀ {e : Xp}, Lx e → Okx e
  | .const v, h => by
    rcases h with rfl | ⟨k, h⟩
    · exact trivial
    · exact h.ok
  | .col _, _ => trivial
  | .un _ a, h => Lx.ok (e := a) h
  | .bin _ a c, h => ⟨Lx.ok h.1, Lx.ok h.2⟩
  | .ter _ a b c, h => ⟨Lx.ok h.1, Lx.ok h.2.1, Lx.ok h.2.2⟩
  | .ch a b c, h => ⟨Lx.ok h.1, Lx.ok h.2.1, Lx.ok h.2.2⟩
/-- an expression of kind k, as the law makes them -/
def Gen (cs : Cols) (k : Kd) (d : Nat) (e : Xp) : Prop := Lx e ∧ dpx e ≤ d ∧ ∃ b, kdX cs e = some (k, b)
theorem Gen.mono {cs : Cols} {k : Kd} {d d' : Nat} {e : Xp} (h : Gen cs k d e) (hd : d ≤ d') : Gen cs k d' e := ⟨h.1, Nat.le_trans h.2.1 hd, h.2.2⟩
section
variable {σ : L2.St} {H H' : Hp} {ta tb te tx tl : TE} {tA : TA} {E : XK} {D : Ends} {tz tu : TS} {ds es : List PyData} {v : V}
/-- a new list, its items data -/
def EvR (K : PySem.W.Frag) (te : TE) (σ : L2.St) (H : Hp) (ds : List PyData) : Prop := ∀ H1, Ex H H1 → ∀ Q : VK, (∀ p H2 vs, H1 p = none → Ex H1 H2 → H2 p = some (.lst vs) → DpAll K H2 vs ds → Q (.ref p) H2) → te σ H1 Q
theorem er_lst (h : EvAD K tA σ H ds) (hl : ds.length ≤ 100000) : EvR K (tLst tA) σ H ds := fun H1 e _ q =>
  h H1 e _ fun vs H2 e2 hs => ⟨sz_of (by rw [dpa_len hs]; exact hl), fun p hp => q p _ vs (fresh_back e2 hp) (e2.trans (Ex.new hp)) upd_same (dpa_ex (Ex.new hp) ds vs hs)⟩
theorem er_cat {l : Addr} {xs : List V} (h : Ev ta σ H (.ref l)) (hl : H l = some (.lst xs)) (hx : DpAll K H xs ds) (h2 : EvR K tb σ H es) (hz : ds.length + es.length ≤ 100000) : EvR K (tOp rCat ta tb) σ H (ds ++ es) := fun H1 e Q q =>
  h H1 e _ fun H2 e2 => h2 H2 (e.trans e2) _ fun b H3 zs hb e3 hb3 hz3 => ⟨l, b, xs, zs, rfl, rfl, ((e.trans e2).trans e3) l _ hl, hb3, sz_of (by rw [dpa_len hx, dpa_len hz3]; exact hz), fun p hp => q p _ _ (fresh_back (e2.trans e3) hp) ((e2.trans e3).trans (Ex.new hp)) upd_same (dpa_ex (Ex.new hp) _ _ (dpa_app (dpa_ex ((e.trans e2).trans e3) _ _ hx) hz3))⟩
theorem q_asgR {i : Nat} (h : EvR K te σ H ds) (k : ∀ p H1 vs, H p = none → Ex H H1 → H1 p = some (.lst vs) → DpAll K H1 vs ds → tz D (σ.set i (some (.ref p))) H1) : tSeq (tAsg te (gName i)) tz D σ H := h H (Ex.refl H) _ k
theorem ed_R (h : EvR K te σ H ds) : EvD K te σ H (.list ds) := fun H1 e Q q => h H1 e Q fun p H2 vs _ e2 h2 hd => q (.ref p) H2 e2 (.lst (sq_of h2) hd)
theorem tup_run {tA : TA} {Q : VK} (h : tA σ H fun vs H1 => vs.length ≤ sizeLine ∧ ∀ p, H1 p = none → Q (.ref p) (upd H1 p (.tup vs))) : tTup tA σ H Q := h
theorem ca_ev {tr : TA} {Q : List V → Hp → Prop} (h : Ev ta σ H v) (k : ∀ H1, Ex H H1 → tr σ H1 fun vs H2 => Q (v :: vs) H2) : tCons ta tr σ H Q := h H (Ex.refl H) _ k
theorem ca_new {tr : TA} {xs : List V} {Q : List V → Hp → Prop} (h : EvL ta σ H xs) (k : ∀ p H1, H p = none → Ex H H1 → H1 p = some (.lst xs) → tr σ H1 fun vs H2 => Q (.ref p :: vs) H2) : tCons ta tr σ H Q := h H (Ex.refl H) _ k
/-- [(f, x, [..], r) for x in [..]] -/
def rowD (f n : Str) (ks : List Str) (r : Str) : PyData := .tuple [.str f, .str n, .list (ks.map .str), .str r]
def RowV (H : Hp) (Dl : Addr) (f : Str) (ks : List Str) (r : Str) (v : V) (n : Str) : Prop := ∃ p q, v = .ref p ∧ q ≠ Dl ∧ H p = some (.tup [.str f, .str n, .ref q, .str r]) ∧ H q = some (.lst (ks.map .str))
theorem RowV.ex {H H' : Hp} {Dl : Addr} {f : Str} {ks : List Str} {r : Str} {v : V} {n : Str} (e : Ex H H') (h : RowV H Dl f ks r v n) : RowV H' Dl f ks r v n := by
  obtain ⟨p, q, h1, h2, h3, h4⟩ := h
  exact ⟨p, q, h1, h2, e _ _ h3, e _ _ h4⟩
theorem RowV.mut {H : Hp} {Dl : Addr} {f : Str} {ks : List Str} {r : Str} {v : V} {n : Str} {xs ys : List V} (hD : H Dl = some (.lst xs)) (h : RowV H Dl f ks r v n) : RowV (upd H Dl (.lst ys)) Dl f ks r v n := by
  obtain ⟨p, q, h1, h2, h3, h4⟩ := h
  refine ⟨p, q, h1, h2, ?_, ?_⟩
  · rw [upd_ne (fun z => by subst z; rw [hD] at h3; cases h3)]
    exact h3
  · rw [upd_ne h2]
    exact h4
theorem RowV.dp {H : Hp} {Dl : Addr} {f : Str} {ks : List Str} {r : Str} {v : V} {n : Str} (h : RowV H Dl f ks r v n) : Dp K H v (rowD f n ks r) := by
  obtain ⟨p, q, rfl, h2, h3, h4⟩ := h
  exact .tup (st_of h3) (.cons (.str _) (.cons (.str _) (.cons (.lst (sq_of h4) (dpa_of_strs ks)) (.cons (.str _) .nil))))
theorem er_lcRow {j : Nat} {vs : List Nat} {f r : Str} {ks names : List Str} {tk : TA} (h : EvL tl σ H (names.map V.str)) (hz : names.length ≤ 1000) (hj : j < σ.length) (hvs : vs = [j]) (hk : ∀ σ H, EvA tk σ H (ks.map V.str)) (hks : ks.length ≤ 10) :
    EvR K (tLc (iList K tl) (gName j) tYes (tTup (tCons (tC (.str f)) (tCons (tVar j) (tCons (tLst tk) (tCons (tC (.str r)) tNil))))) vs) σ H (names.map fun n => rowD f n ks r) := fun H0 e Q q => h H0 e _ fun a H1 ha e1 hx => by
  subst hvs
  have hw : ∀ x, wipe ((wipe σ [j]).set j (some x)) [j] = wipe σ [j] := fun x => by
    show (((σ.set j none).set j (some x)).set j none) = σ.set j none
    rw [List.set_set, List.set_set]
  refine ⟨a, rfl, ⟨_, sq_of hx⟩, fun Dl hD => lc_list (xs := names.map V.str) (fun i H' => H1 Dl = none ∧ Ex H1 H' ∧ ∃ acc, H' Dl = some (.lst acc) ∧ acc.length = i ∧ ∀ (m : Nat) v n, acc[m]? = some v → names[m]? = some n → RowV H' Dl f ks r v n) ⟨hD, Ex.new hD, [], upd_same, rfl, fun m v n hm => by simp at hm⟩ (fun i H' _ p => sq_of (p.2.1 a _ hx)) (fun i x H' hi p => ?_) (fun H' p => ?_)⟩
  · obtain ⟨p1, p2, acc, p3, p4, p5⟩ := p
    rw [List.getElem?_map] at hi
    cases hn : names[i]? with
    | none => rw [hn] at hi; cases hi
    | some nm =>
      rw [hn] at hi
      cases hi
      have hlt : i < names.length := (List.getElem?_eq_some_iff.mp hn).1
      refine ⟨hw _, ?_⟩
      show (tTup (tCons (tC (.str f)) (tCons (tVar j) (tCons (tLst tk) (tCons (tC (.str r)) tNil))))) ((wipe σ [j]).set j (some (.str nm))) H' fun y H4 => ∃ acc, H4 Dl = some (.lst acc) ∧ acc.length < sizeLine ∧ (H1 Dl = none ∧ Ex H1 (upd H4 Dl (.lst (acc ++ [y]))) ∧ ∃ acc2, (upd H4 Dl (.lst (acc ++ [y]))) Dl = some (.lst acc2) ∧ acc2.length = i + 1 ∧ ∀ (m : Nat) v n, acc2[m]? = some v → names[m]? = some n → RowV (upd H4 Dl (.lst (acc ++ [y]))) Dl f ks r v n)
      refine tup_run (ca_ev (v := .str f) ev_c fun H2 e2 => ca_ev (v := .str nm) (ev_var (by
        show ((σ.set j none).set j (some (.str nm)))[j]? = _
        rw [List.set_set, List.getElem?_set_self hj])) fun H3 e3 => ca_new (el_lst (hk _ H3) (by rw [List.length_map]; omega)) fun q0 H4 hq e4 h4 => ca_ev (v := .str r) ev_c fun H5 e5 => ?_)
      refine ⟨sz_of (Nat.le_of_ble_eq_true rfl), fun p0 hp0 => ?_⟩
      have hD3 := e3 Dl _ (e2 Dl _ p3)
      have hD5 : (upd H5 p0 (.tup [.str f, .str nm, .ref q0, .str r])) Dl = some (.lst acc) := (Ex.new hp0) Dl _ (e5 Dl _ (e4 Dl _ hD3))
      have hq5 : (upd H5 p0 (.tup [.str f, .str nm, .ref q0, .str r])) q0 = some (.lst (ks.map .str)) := (Ex.new hp0) q0 _ (e5 q0 _ h4)
      have hqD : q0 ≠ Dl := fun z => by
        subst z
        rw [hD3] at hq
        cases hq
      have eall : Ex H' (upd H5 p0 (.tup [.str f, .str nm, .ref q0, .str r])) := (((e2.trans e3).trans e4).trans e5).trans (Ex.new hp0)
      refine ⟨acc, hD5, sz_lt (by omega), p1, Ex.mut (p2.trans eall) p1, _, upd_same, by simp [p4], fun m v n hm hn2 => ?_⟩
      by_cases hmi : m < acc.length
      · rw [List.getElem?_append_left hmi] at hm
        exact ((p5 m v n hm hn2).ex eall).mut hD5
      · have hm2 : m = i := by
          have := (List.getElem?_eq_some_iff.mp hm).1
          rw [List.length_append, List.length_singleton] at this
          omega
        subst hm2
        rw [List.getElem?_append_right (by omega), p4] at hm
        simp at hm
        subst hm
        rw [hn] at hn2
        cases hn2
        exact RowV.mut hD5 ⟨p0, q0, rfl, hqD, upd_same, hq5⟩
  · obtain ⟨p1, p2, acc, p3, p4, p5⟩ := p
    rw [List.length_map] at p4
    refine q Dl H' acc (fresh_back e1 p1) (e1.trans p2) p3 ?_
    have key : ∀ (l : List V) (ns : List Str), l.length = ns.length → (∀ (m : Nat) v n, l[m]? = some v → ns[m]? = some n → RowV H' Dl f ks r v n) → DpAll K H' l (ns.map fun n => rowD f n ks r) := by
      intro l
      induction l with
      | nil =>
        intro ns hl _
        cases ns with
        | nil => exact .nil
        | cons _ _ => cases hl
      | cons v l ih =>
        intro ns hl hh
        cases ns with
        | nil => cases hl
        | cons n ns => exact .cons (hh 0 v n rfl rfl).dp (ih ns (by simpa using hl) fun m v' n' h1 h2 => hh (m + 1) v' n' h1 h2)
    exact key acc names p4 p5
end
theorem mod_sub {i n : Int} (h : 0 < n) : 0 ≤ i - i / n * n ∧ i - i / n * n < n := by
  have e := Int.emod_def i n
  have h1 := Int.emod_nonneg i (by omega : n ≠ 0)
  have h2 := Int.emod_lt_of_pos i h
  rw [Int.mul_comm (i / n) n]
  omega
theorem div_le {i n : Int} (h0 : 0 ≤ i) (h : 0 < n) : 0 ≤ i / n ∧ i / n ≤ i := ⟨Int.ediv_nonneg h0 (by omega), Int.ediv_le_self _ h0⟩

theorem c__law_numbers (T : Tx w K mg) : C8.Cal P w K mg base 1 "_law_numbers" ((fun vs H Q _ => ∃ (a : Addr) (xs : List Int), vs = [.ref a, .int 30] ∧ SqL K H a (xs.map V.int) ∧ xs.length ≤ 100000 ∧ ∀ ns : List Int, ns.length = 30 → RetD K (.list (ns.map .int)) H Q)) [] := by
  refine mk_cal T (x := "_law_numbers") (i := 123) (j := 94) (N := ["_law_script", "_law_count", "_law_numbers_here", "_law_k", "_law_cell_here"]) (ps := ["_law_script", "_law_count"]) rfl rfl (by decide +kernel) (fun _ _ _ _ _ _ us hl => match us, hl with | [_, _], _ => rfl) (fun vs H Q E h => by obtain ⟨_, _, rfl, _⟩ := h; rfl) (fun cdv A outer s H vs Q E nd hr h => ⟨_, (pss_cons (ps_set (i := 2) nd rfl (.inl rfl) (pe_lst pa_nil))
      (pss_cons (ps_for PassesOwn.never rfl (pi_range1 (by rfl) T.m_range (pa_cons (pv 1) pa_nil)) (pg_name (i := 3) nd rfl (.inl rfl)) (pss_cons (ps_set (i := 4) nd rfl (.inl rfl) pe_int)
      (pss_cons (ps_if (pt_cmpR o_gt (pe_callB b_len (by rfl) T.m_len boot_len (pa_cons (pv 0) pa_nil)) pe_int (nomark _)) (pss_one (ps_set (i := 4) nd rfl (.inl rfl) (pe_callTy b_int (by rfl) T.m_int boot_int (pa_cons (pe_ix ix_seq (pv 0) (pe_op o_sub (pv 3) (pe_op o_mul (pe_op o_div (pv 3) (pe_callB b_len (by rfl) T.m_len boot_len (pa_cons (pv 0) pa_nil))) (pe_callB b_len (by rfl) T.m_len boot_len (pa_cons (pv 0) pa_nil)))) (fun _ _ => rfl)) pa_nil)))) pss_nil)
      (pss_cons (ps_if (pt_cmpR o_lt (pv 4) pe_int (nomark _)) (pss_one (ps_set (i := 4) nd rfl (.inl rfl) (pe_op o_sub pe_int (pe_op o_mul pe_int (pv 4))))) pss_nil)
      (pss_cons (ps_if (PW.pt (pw_or (pt_cmpR o_ge (pv 3) (pe_callB b_len (by rfl) T.m_len boot_len (pa_cons (pv 0) pa_nil)) (nomark _)) (pw_or1 (pt_cmpR o_lt (pv 4) pe_int (nomark _))))) (pss_cons (ps_set (i := 4) nd rfl (.inl rfl) (pe_op o_mod (pe_callTy b_int (by rfl) T.m_int boot_int (pa_cons (pe_op o_add (pe_op o_mul (pe_op o_add (pe_op o_add (pv 4) (pe_op o_mul pe_int (pv 3))) pe_int) pe_int) (pe_op o_mul (pe_op o_mul (pv 3) (pv 3)) pe_int)) pa_nil)) pe_int))
      (pss_one (ps_set (i := 4) nd rfl (.inl rfl) (pe_op o_mod (pe_callTy b_int (by rfl) T.m_int boot_int (pa_cons (pe_op o_mul (pe_op o_add (pe_op o_add (pv 4) (pe_op o_mul pe_int (pv 3))) pe_int) pe_int) pa_nil)) pe_int)))) pss_nil)
      (pss_one (ps_expr (pe_bm PySem.F.plainAttrs_list PySem.F.slot_list_append PySem.F.type_list_append mt_append (pv 2) (pa_cons (pv 4) pa_nil)))))))))
      (pss_one (ps_ret (pv 2))))), ?hb⟩)
  case hb =>
    obtain ⟨a, xs, rfl, hx, hxl, hQ⟩ := h
    refine q_asgL (xs := []) (el_lst ea_nil (Nat.zero_le _)) (fun l H1 hl e1 h1 => ?_)
    refine q_forR1 (n := 30) (ea_cons (ev_var rfl) ea_nil) (by omega) (fun i σ' H' => ∃ s3 s4 ns, σ' = [some (.ref a), some (.int 30), some (.ref l), s3, s4] ∧ Ex H H' ∧ H' l = some (.lst (List.map V.int ns)) ∧ ns.length = i) (fun H2 e2 => ⟨none, none, [], rfl, e1.trans e2, e2 l _ h1, rfl⟩) (fun i σ' H' hi p => ?_) (fun σ' H' p => ?_)
    · obtain ⟨s3, s4, ns, rfl, pe, pl, pn⟩ := p
      have lenv : ∀ {σ : L2.St} {H2 : Hp}, σ[0]? = some (some (.ref a)) → Ex H H2 → Ev (tCB (rLenU K) (tCons (tVar 0) tNil)) σ H2 (.int xs.length) := fun hσ e => ev_is (ev_cb (ea_cons (ev_var hσ) ea_nil) (rc_lenL (ex_l e hx))) (by rw [List.length_map])
      -- the end of a turn
      have last : ∀ (c : Int) (H2 : Hp), Ex H' H2 → tDrop (tBM K "list" rAppend (tVar 2) (tCons (tVar 4) tNil)) { nx := fun σ' H' => ∃ s3 s4 ns, σ' = [some (.ref a), some (.int 30), some (.ref l), s3, s4] ∧ Ex H H' ∧ H' l = some (.lst (List.map V.int ns)) ∧ ns.length = i + 1, ct := fun σ' H' => ∃ s3 s4 ns, σ' = [some (.ref a), some (.int 30), some (.ref l), s3, s4] ∧ Ex H H' ∧ H' l = some (.lst (List.map V.int ns)) ∧ ns.length = i + 1, bk := tRet (tVar 2) { nx := fun _ H' => Q .non H', rt := Q }, rt := Q } [some (.ref a), some (.int 30), some (.ref l), some (.int i), some (.int c)] H2 := by
        intro c H2 e2
        refine s_app (e2 l _ pl) (ev_var rfl) (ev_var rfl) (by rw [List.length_map]; omega) (fun H3 e3 => ⟨_, _, ns ++ [c], rfl, Ex.mut ((pe.trans e2).trans e3) hl, ?_, by simp [pn]⟩)
        rw [upd_same, List.map_append]
        rfl
      have mix : ∀ (c : Int) (H2 : Hp), Ex H' H2 → tSeq (tIfS (tOr (tTest (tOp rGeI (tVar 3) (tCB (rLenU K) (tCons (tVar 0) tNil)))) (tTest (tOp rLtI (tVar 4) (tC (.int 1000000000))))) (tSeq (tAsg (tOp rModI (tCB rIntU (tCons (tOp rAddU (tOp rMulI (tOp rAddU (tOp rAddU (tVar 4) (tOp rMulI (tC (.int 101)) (tVar 3))) (tC (.int 13))) (tC (.int 40692))) (tOp rMulI (tOp rMulI (tVar 3) (tVar 3)) (tC (.int 6271)))) tNil)) (tC (.int 2147483399))) (gName 4)) (tAsg (tOp rModI (tCB rIntU (tCons (tOp rMulI (tOp rAddU (tOp rAddU (tVar 4) (tOp rMulI (tC (.int 29)) (tVar 3))) (tC (.int 5))) (tC (.int 3935559000370003845))) tNil)) (tC (.int 18446744073709551533))) (gName 4))) tNext) (tDrop (tBM K "list" rAppend (tVar 2) (tCons (tVar 4) tNil))) { nx := fun σ' H' => ∃ s3 s4 ns, σ' = [some (.ref a), some (.int 30), some (.ref l), s3, s4] ∧ Ex H H' ∧ H' l = some (.lst (List.map V.int ns)) ∧ ns.length = i + 1, ct := fun σ' H' => ∃ s3 s4 ns, σ' = [some (.ref a), some (.int 30), some (.ref l), s3, s4] ∧ Ex H H' ∧ H' l = some (.lst (List.map V.int ns)) ∧ ns.length = i + 1, bk := tRet (tVar 2) { nx := fun _ H' => Q .non H', rt := Q }, rt := Q } [some (.ref a), some (.int 30), some (.ref l), some (.int i), some (.int c)] H2 := by
        intro c H2 e2
        refine q_when (et_or (et_test (ev_op (ev_var rfl) (lenv rfl (pe.trans e2)) rv_geI)) (fun _ => et_test (ev_op (ev_var rfl) ev_c rv_ltI))) (fun _ H3 e3 => ?_) (fun _ H3 e3 => last c H3 (e2.trans e3))
        refine q_asg (ev_op (ev_cb (ea_cons (ev_op (ev_op (ev_op (ev_op (ev_var rfl) (ev_op ev_c (ev_var rfl) (rv_mulL (by omega) (by omega))) rv_addI) ev_c rv_addI) ev_c (rv_mulR (by omega) (by omega))) (ev_op (ev_op (ev_var rfl) (ev_var rfl) (rv_mulL (by omega) (by omega))) ev_c (rv_mulR (by omega) (by omega))) rv_addI) ea_nil) rc_intI) ev_c (rv_modI (by omega))) (fun H4 e4 => ?_)
        refine s_asg (ev_op (ev_cb (ea_cons (ev_op (ev_op (ev_op (ev_var rfl) (ev_op ev_c (ev_var rfl) (rv_mulL (by omega) (by omega))) rv_addI) ev_c rv_addI) ev_c (rv_mulR (by omega) (by omega))) ea_nil) rc_intI) ev_c (rv_modI (by omega))) (fun H5 e5 => last _ H5 (((e2.trans e3).trans e4).trans e5))
      refine q_asg (v := .int 0) ev_c (fun H2 e2 => ?_)
      have sign : ∀ (c : Int) (H3 : Hp), Ex H' H3 → _ := fun c H3 e3 => mix c H3 e3
      by_cases hpos : 0 < xs.length
      · refine q_if (b := true) (et_is (et_test (ev_op (lenv rfl (pe.trans e2)) ev_c rv_gtI)) (decide_eq_true (by omega))) (fun _ H3 e3 => ?_) (fun z => nomatch z)
        have hm := mod_sub (i := (i : Int)) (n := (xs.length : Int)) (by omega)
        have hd := div_le (i := (i : Int)) (n := (xs.length : Int)) (by omega) (by omega)
        have e13 := (pe.trans e2).trans e3
        have hat := atI_get (xs := xs.map V.int) (n := (i : Int) - (i : Int) / (xs.length : Int) * (xs.length : Int)) hm.1 (by rw [List.length_map]; exact hm.2) (.int 0)
        have hv : ∃ c, (xs.map V.int).getD ((i : Int) - (i : Int) / (xs.length : Int) * (xs.length : Int)).toNat (.int 0) = .int c := by
          rw [List.getD_eq_getElem?_getD, List.getElem?_map]
          cases xs[((i : Int) - (i : Int) / (xs.length : Int) * (xs.length : Int)).toNat]? with
          | none => exact ⟨0, rfl⟩
          | some c => exact ⟨c, rfl⟩
        obtain ⟨c, hc⟩ := hv
        rw [hc] at hat
        refine s_asg (v := .int c) (ev_cb (ea_cons (ev_op (ev_var rfl) (ev_op (ev_var rfl) (ev_op (ev_op (ev_var rfl) (lenv rfl e13) (rv_divI (by omega) (by omega))) (lenv rfl e13) (rv_mulL (by omega) (by omega))) rv_subI) (rv_ixuL (ex_l e13 hx) hat)) ea_nil) rc_intI) (fun H4 e4 => ?_)
        refine q_when (et_test (ev_op (ev_var rfl) ev_c rv_ltI)) (fun _ H5 e5 => ?_) (fun _ H5 e5 => mix c H5 (((e2.trans e3).trans e4).trans e5))
        exact s_asg (ev_op ev_c (ev_op ev_c (ev_var rfl) (rv_mulL (by omega) (by omega))) rv_subI) (fun H6 e6 => mix _ H6 ((((e2.trans e3).trans e4).trans e5).trans e6))
      · refine q_if (b := false) (et_is (et_test (ev_op (lenv rfl (pe.trans e2)) ev_c rv_gtI)) (decide_eq_false (by omega))) (fun z => nomatch z) (fun _ H3 e3 => ?_)
        refine q_when (et_test (ev_op (ev_var rfl) ev_c rv_ltI)) (fun _ H5 e5 => ?_) (fun _ H5 e5 => mix 0 H5 ((e2.trans e3).trans e5))
        exact s_asg (ev_op ev_c (ev_op ev_c (ev_var rfl) (rv_mulL (by omega) (by omega))) rv_subI) (fun H6 e6 => mix _ H6 (((e2.trans e3).trans e5).trans e6))
    · obtain ⟨s3, s4, ns, rfl, pe, pl, pn⟩ := p
      exact s_retD (K := K) (d := .list (ns.map .int)) (ed_var rfl (.lst (sq_of pl) (dpa_of_ints ns))) ((hQ ns pn).go pe)


theorem asc_all {s : Str} (h : (TL.tl s).all (fun c => decide (32 ≤ c) && decide (c ≤ 126)) = true) : Asc s := fun c hc => by
  have := List.all_eq_true.mp h c hc
  simpa using this

def signsS : Str := " !\"#$&'()*+,-./0123456789:;<=>?@ABCDEFGHIJKLMNOPQRSTUVWXYZ[\\]^_`abcdefghijklmnopqrstuvwxyz{|}~"
def fewS : Str := "ab*?\\ -'\"A"
theorem signs_ok : Asc signsS ∧ (TL.tl signsS).length = 94 := ⟨asc_all (by decide +kernel), by decide +kernel⟩
theorem few_ok : Asc fewS ∧ (TL.tl fewS).length = 10 := ⟨asc_all (by decide +kernel), by decide +kernel⟩
theorem pick {s : Str} {n r : Int} (h : Asc s) (hl : (TL.tl s).length = n.toNat) (hn : 0 < n) : ∃ c, atI s.cps.toList (r % n) = some c ∧ 32 ≤ c ∧ c ≤ 126 := by
  have h1 := Int.emod_nonneg r (by omega : n ≠ 0)
  have h2 := Int.emod_lt_of_pos r hn
  have hlt : (r % n).toNat < (TL.tl s).length := by omega
  refine ⟨_, atI_get (xs := TL.tl s) h1 (by omega) 0, h _ ?_⟩
  rw [List.getD_eq_getElem?_getD, List.getElem?_eq_getElem hlt]
  exact List.getElem_mem _

theorem c__law_text (T : Tx w K mg) : C8.Cal P w K mg base 1 "_law_text" ((fun vs H Q _ => ∃ n z : Int, vs = [.int n, .int z] ∧ 0 ≤ z ∧ z ≤ 10 ∧ ∀ s, OkS s → RetV (.str s) H Q)) [] := by
  refine mk_cal T (x := "_law_text") (i := 126) (j := 97) (N := ["_law_number", "_law_size", "_law_signs", "_law_few", "_law_word", "_law_rest", "_law_k"]) (ps := ["_law_number", "_law_size"]) rfl rfl (by decide +kernel) (fun _ _ _ _ _ _ us hl => match us, hl with | [_, _], _ => rfl) (fun vs H Q E h => by obtain ⟨_, _, rfl, _⟩ := h; rfl) (fun cdv A outer s H vs Q E nd hr h => ⟨_, (pss_cons (ps_set (i := 2) nd rfl (.inl rfl) pe_str)
      (pss_cons (ps_set (i := 3) nd rfl (.inl rfl) pe_str)
      (pss_cons (ps_set (i := 4) nd rfl (.inl rfl) (pe_lst pa_nil))
      (pss_cons (ps_set (i := 5) nd rfl (.inl rfl) (pe_op o_div (pe_callTy b_int (by rfl) T.m_int boot_int (pa_cons (pv 0) pa_nil)) pe_int))
      (pss_cons (ps_for PassesOwn.never rfl (pi_range1 (by rfl) T.m_range (pa_cons (pv 1) pa_nil)) (pg_name (i := 6) nd rfl (.inl rfl)) (pss_one (ps_if (pt_cmpR op_eq (pe_op o_mod (pe_callTy b_int (by rfl) T.m_int boot_int (pa_cons (pv 0) pa_nil)) pe_int) pe_int (nomark _)) (pss_cons (ps_expr (pe_bm PySem.F.plainAttrs_list PySem.F.slot_list_append PySem.F.type_list_append mt_append (pv 4) (pa_cons (pe_ix ix_seq (pv 2) (pe_op o_mod (pe_callTy b_int (by rfl) T.m_int boot_int (pa_cons (pv 5) pa_nil)) pe_int) (fun _ _ => rfl)) pa_nil)))
      (pss_one (ps_set (i := 5) nd rfl (.inl rfl) (pe_op o_add (pe_op o_div (pv 5) pe_int) (pe_op o_mul pe_int (pv 6)))))) (pss_cons (ps_expr (pe_bm PySem.F.plainAttrs_list PySem.F.slot_list_append PySem.F.type_list_append mt_append (pv 4) (pa_cons (pe_ix ix_seq (pv 3) (pe_op o_mod (pe_callTy b_int (by rfl) T.m_int boot_int (pa_cons (pv 5) pa_nil)) pe_int) (fun _ _ => rfl)) pa_nil)))
      (pss_one (ps_set (i := 5) nd rfl (.inl rfl) (pe_op o_add (pe_op o_div (pv 5) pe_int) (pe_op o_mul pe_int (pv 6)))))))))
      (pss_one (ps_ret (pe_m1 PySem.F.slot_str_join PySem.F.type_str_join m_join pe_str (pv 4))))))))), ?hb⟩)
  case hb =>
    obtain ⟨n, z, rfl, z0, z1, hQ⟩ := h
    refine q_asg (v := .str signsS) ev_c (fun Ha ea => ?_)
    refine q_asg (v := .str fewS) ev_c (fun Hb eb => ?_)
    refine q_asgL (xs := []) (el_lst ea_nil (Nat.zero_le _)) (fun l H1 hl e1 h1 => ?_)
    have hl : H l = none := fresh_back (ea.trans eb) hl
    have e1 : Ex H H1 := (ea.trans eb).trans e1
    refine q_asg (ev_op (ev_cb (ea_cons (ev_var rfl) ea_nil) rc_intI) ev_c (rv_divI (by omega) (by omega))) (fun H2 e2 => ?_)
    refine q_forR1 (n := z) (ea_cons (ev_var rfl) ea_nil) (by omega) (fun i σ' H' => ∃ rest s6 ws, σ' = [some (.int n), some (.int z), some (.str signsS), some (.str fewS), some (.ref l), some (.int rest), s6] ∧ Ex H H' ∧ H' l = some (.lst (List.map V.str ws)) ∧ ws.length = i ∧ ∀ w ∈ ws, w.length = 1 ∧ Asc w) (fun H3 e3 => ⟨_, none, [], rfl, (e1.trans e2).trans e3, e3 l _ (e2 l _ h1), rfl, fun w hw => by cases hw⟩) (fun i σ' H' hi p => ?_) (fun σ' H' p => ?_)
    · obtain ⟨rest, s6, ws, rfl, pe, pl, pn, pw⟩ := p
      refine s_if (et_test (ev_op (ev_op (ev_cb (ea_cons (ev_var rfl) ea_nil) rc_intI) ev_c (rv_modI (by omega))) ev_c rv_eqII)) (fun _ H2 e2 => ?_) (fun _ H2 e2 => ?_)
      · obtain ⟨c, hat, hc⟩ := pick (s := signsS) (n := 94) (r := rest) signs_ok.1 signs_ok.2 (by omega)
        refine q_app (e2 l _ pl) (ev_var rfl) (ev_op (ev_var rfl) (ev_op (ev_cb (ea_cons (ev_var rfl) ea_nil) rc_intI) ev_c (rv_modI (by omega))) (rv_ixuS (by decide +kernel) hat)) (by rw [List.length_map]; omega) (fun H5 e5 => ?_)
        refine s_asg (ev_op (ev_op (ev_var rfl) ev_c (rv_divI (by omega) (by omega))) (ev_op ev_c (ev_var rfl) (rv_mulL (by omega) (by omega))) rv_addI) (fun H6 e6 => ⟨_, _, ws ++ [⟨#[c]⟩], rfl, (Ex.mut ((pe.trans e2).trans e5) hl).trans e6, ?_, by simp [pn], fun w hw => ?_⟩)
        · refine e6 l _ ?_
          rw [upd_same, List.map_append]
          rfl
        · rcases List.mem_append.mp hw with hw | hw
          · exact pw w hw
          · rw [List.mem_singleton] at hw
            subst hw
            exact ⟨rfl, asc_one hc⟩
      · obtain ⟨c, hat, hc⟩ := pick (s := fewS) (n := 10) (r := rest) few_ok.1 few_ok.2 (by omega)
        refine q_app (e2 l _ pl) (ev_var rfl) (ev_op (ev_var rfl) (ev_op (ev_cb (ea_cons (ev_var rfl) ea_nil) rc_intI) ev_c (rv_modI (by omega))) (rv_ixuS (by decide +kernel) hat)) (by rw [List.length_map]; omega) (fun H5 e5 => ?_)
        refine s_asg (ev_op (ev_op (ev_var rfl) ev_c (rv_divI (by omega) (by omega))) (ev_op ev_c (ev_var rfl) (rv_mulL (by omega) (by omega))) rv_addI) (fun H6 e6 => ⟨_, _, ws ++ [⟨#[c]⟩], rfl, (Ex.mut ((pe.trans e2).trans e5) hl).trans e6, ?_, by simp [pn], fun w hw => ?_⟩)
        · refine e6 l _ ?_
          rw [upd_same, List.map_append]
          rfl
        · rcases List.mem_append.mp hw with hw | hw
          · exact pw w hw
          · rw [List.mem_singleton] at hw
            subst hw
            exact ⟨rfl, asc_one hc⟩
    · obtain ⟨rest, s6, ws, rfl, pe, pl, pn, pw⟩ := p
      have sum1 : (ws.map (·.length)).sum = ws.length := by
        clear pl pn
        induction ws with
        | nil => rfl
        | cons w ws ih =>
          have := ih fun w hw => pw w (List.mem_cons_of_mem _ hw)
          have h1 := (pw w (List.mem_cons_self ..)).1
          simp only [List.map_cons, List.sum_cons, List.length_cons, h1, this]
          omega
      have hj : OkS (Txt.join "" ws) := by
        refine ⟨?_, join_asc (fun c hc => by cases (show c ∈ ([] : List Nat) from hc)) fun w hw => (pw w hw).2⟩
        rw [join_len, sum1]
        have e : ("" : Str).length = 0 := rfl
        rw [e]
        omega
      refine s_ret (ev_m1 ev_c (ev_var rfl) (rm_joinL (sq_of pl) ?_)) (fun H3 e3 => fin (hQ _ hj) (pe.trans e3) rfl)
      rw [sum1]
      have e : ("" : Str).length = 0 := rfl
      rw [e]
      omega

end

section
variable {P : Program} {w : World} {K : PySem.W.Frag} {mg : Str → Option Value} {base : Heap}

/-! ### the rows of makers -/
inductive Mop
  | mu (u : U)
  | mb (b : B)
  | mt (t : W3)
structure Mr where
  op : Mop
  ks : List (Option Kd)
  r : Kd
def Mop.form : Mop → Str
  | .mu _ => "unary"
  | .mb _ => "binary"
  | .mt _ => "ternary"
def Mop.name : Mop → Str
  | .mu x => x.name
  | .mb x => x.name
  | .mt x => x.name
def knm : Option Kd → Str
  | some k => k.name
  | none => "any"
def mrD (m : Mr) : PyData := rowD m.op.form m.op.name (m.ks.map knm) m.r.name
def makers : List Mr := [⟨.mu .negated, [some .bool], .bool⟩,
  ⟨.mu .is_null, [none], .bool⟩,
  ⟨.mb .both, [some .bool, some .bool], .bool⟩,
  ⟨.mb .equal, [none, none], .bool⟩,
  ⟨.mb .less, [none, none], .bool⟩,
  ⟨.mb .at_most, [none, none], .bool⟩,
  ⟨.mb .same, [none, none], .bool⟩,
  ⟨.mb .either, [some .bool, some .bool], .bool⟩,
  ⟨.mb .like, [some .text, some .text], .bool⟩,
  ⟨.mu .negate, [some .int], .int⟩,
  ⟨.mu .without_sign, [some .int], .int⟩,
  ⟨.mu .sign_of, [some .int], .int⟩,
  ⟨.mu .year_of, [some .date], .int⟩,
  ⟨.mu .month_of, [some .date], .int⟩,
  ⟨.mu .day_of_month, [some .date], .int⟩,
  ⟨.mu .weekday, [some .date], .int⟩,
  ⟨.mb .added, [some .int, some .int], .int⟩,
  ⟨.mb .subtracted, [some .int, some .int], .int⟩,
  ⟨.mb .multiplied, [some .int, some .int], .int⟩,
  ⟨.mb .divided, [some .int, some .int], .int⟩,
  ⟨.mb .rest, [some .int, some .int], .int⟩,
  ⟨.mu .length, [some .text], .int⟩,
  ⟨.mu .to_int, [some .dec], .int⟩,
  ⟨.mu .sign_of, [some .dec], .int⟩,
  ⟨.mu .text_to_int, [some .text], .int⟩,
  ⟨.mb .subtracted, [some .date, some .date], .int⟩,
  ⟨.mb .position, [some .text, some .text], .int⟩,
  ⟨.mu .lower, [some .text], .text⟩,
  ⟨.mu .upper, [some .text], .text⟩,
  ⟨.mu .trim, [some .text], .text⟩,
  ⟨.mu .int_to_text, [some .int], .text⟩,
  ⟨.mu .date_to_text, [some .date], .text⟩,
  ⟨.mu .decimal_to_text, [some .dec], .text⟩,
  ⟨.mb .joined, [some .text, some .text], .text⟩,
  ⟨.mt .part_of, [some .text, some .int, some .int], .text⟩,
  ⟨.mt .split, [some .text, some .text, some .int], .text⟩,
  ⟨.mt .replaced_in, [some .text, some .text, some .text], .text⟩,
  ⟨.mt .pad, [some .text, some .text, some .int], .text⟩,
  ⟨.mu .month_start, [some .date], .date⟩,
  ⟨.mu .year_start, [some .date], .date⟩,
  ⟨.mu .week_start, [some .date], .date⟩,
  ⟨.mu .as_date, [some .int], .date⟩,
  ⟨.mu .text_to_date, [some .text], .date⟩,
  ⟨.mb .days_added, [some .date, some .int], .date⟩,
  ⟨.mb .months_added, [some .date, some .int], .date⟩,
  ⟨.mu .negate, [some .dec], .dec⟩,
  ⟨.mu .without_sign, [some .dec], .dec⟩,
  ⟨.mu .to_decimal, [some .int], .dec⟩,
  ⟨.mu .as_decimal, [some .int], .dec⟩,
  ⟨.mu .text_to_decimal, [some .text], .dec⟩,
  ⟨.mb .added, [some .dec, some .dec], .dec⟩,
  ⟨.mb .subtracted, [some .dec, some .dec], .dec⟩,
  ⟨.mb .rest, [some .dec, some .dec], .dec⟩,
  ⟨.mb .decimals_multiplied, [some .dec, some .dec], .dec⟩,
  ⟨.mb .decimals_divided, [some .dec, some .dec], .dec⟩]
def mk0 : List PyData := [rowD "unary" "not" ["bool"] "bool", rowD "unary" "is null" ["any"] "bool", rowD "binary" "and" ["bool", "bool"] "bool"]
def mk1 : List PyData := mk0 ++ ((["equal", "less", "at most", "same"] : List Str).map fun n => rowD "binary" n ["any", "any"] "bool")
def mk2 : List PyData := mk1 ++ [rowD "binary" "or" ["bool", "bool"] "bool", rowD "binary" "like" ["text", "text"] "bool"]
def mk3 : List PyData := mk2 ++ ((["negate", "abs", "sign"] : List Str).map fun n => rowD "unary" n ["int"] "int")
def mk4 : List PyData := mk3 ++ ((["year", "month", "day", "weekday"] : List Str).map fun n => rowD "unary" n ["date"] "int")
def mk5 : List PyData := mk4 ++ ((["add", "subtract", "multiply", "divide", "rest"] : List Str).map fun n => rowD "binary" n ["int", "int"] "int")
def mk6 : List PyData := mk5 ++ [rowD "unary" "length" ["text"] "int", rowD "unary" "to int" ["decimal"] "int", rowD "unary" "sign" ["decimal"] "int"]
def mk7 : List PyData := mk6 ++ [rowD "unary" "text to int" ["text"] "int", rowD "binary" "subtract" ["date", "date"] "int"]
def mk8 : List PyData := mk7 ++ [rowD "binary" "position" ["text", "text"] "int"]
def mk9 : List PyData := mk8 ++ ((["lower", "upper", "trim"] : List Str).map fun n => rowD "unary" n ["text"] "text")
def mk10 : List PyData := mk9 ++ [rowD "unary" "int to text" ["int"] "text", rowD "unary" "date to text" ["date"] "text"]
def mk11 : List PyData := mk10 ++ [rowD "unary" "decimal to text" ["decimal"] "text", rowD "binary" "join" ["text", "text"] "text"]
def mk12 : List PyData := mk11 ++ [rowD "ternary" "part" ["text", "int", "int"] "text", rowD "ternary" "split" ["text", "text", "int"] "text"]
def mk13 : List PyData := mk12 ++ [rowD "ternary" "replace" ["text", "text", "text"] "text", rowD "ternary" "pad" ["text", "text", "int"] "text"]
def mk14 : List PyData := mk13 ++ ((["month start", "year start", "week start"] : List Str).map fun n => rowD "unary" n ["date"] "date")
def mk15 : List PyData := mk14 ++ [rowD "unary" "as date" ["int"] "date", rowD "unary" "text to date" ["text"] "date"]
def mk16 : List PyData := mk15 ++ ((["add days", "add months"] : List Str).map fun n => rowD "binary" n ["date", "int"] "date")
def mk17 : List PyData := mk16 ++ ((["negate", "abs"] : List Str).map fun n => rowD "unary" n ["decimal"] "decimal")
def mk18 : List PyData := mk17 ++ [rowD "unary" "to decimal" ["int"] "decimal", rowD "unary" "as decimal" ["int"] "decimal"]
def mk19 : List PyData := mk18 ++ [rowD "unary" "text to decimal" ["text"] "decimal"]
def mk20 : List PyData := mk19 ++ ((["add", "subtract", "rest", "multiply decimals", "divide decimals"] : List Str).map fun n => rowD "binary" n ["decimal", "decimal"] "decimal")
theorem mk_all : mk20 = makers.map mrD := rfl
theorem q_asgC {a b : Option V} {te : TE} {tz : TS} {D : Ends} {H : Hp} {ds ds' : List PyData} (h : EvR K te [a, b] H ds) (hd : ds = ds') (k : ∀ p H1 vs, Ex H H1 → H1 p = some (.lst vs) → DpAll K H1 vs ds' → tz D [some (.ref p), b] H1) : tSeq (tAsg te (gName 0)) tz D [a, b] H := h H (Ex.refl H) _ fun p H1 vs _ e h1 hv => k p H1 vs e h1 (hd ▸ hv)

theorem c__law_makers (T : Tx w K mg) : C8.Cal P w K mg base 1 "_law_makers" ((fun vs H Q _ => vs = [] ∧ RetD K (.list (makers.map mrD)) H Q)) [] := by
  refine mk_cal T (x := "_law_makers") (i := 129) (j := 100) (N := ["_law_rows", "_law_name"]) (ps := []) rfl rfl (by decide +kernel) (fun _ _ _ _ _ _ us hl => match us, hl with | [], _ => rfl) (fun vs H Q E h => by obtain ⟨rfl, _⟩ := h; rfl) (fun cdv A outer s H vs Q E nd hr h => ⟨_, (pss_cons (ps_set (i := 0) nd rfl (.inl rfl) (pe_lst (pa_cons (pe_tup (pa_cons pe_str (pa_cons pe_str (pa_cons (pe_lst (pa_cons pe_str pa_nil)) (pa_cons pe_str pa_nil))))) (pa_cons (pe_tup (pa_cons pe_str (pa_cons pe_str (pa_cons (pe_lst (pa_cons pe_str pa_nil)) (pa_cons pe_str pa_nil))))) (pa_cons (pe_tup (pa_cons pe_str (pa_cons pe_str (pa_cons (pe_lst (pa_cons pe_str (pa_cons pe_str pa_nil))) (pa_cons pe_str pa_nil))))) pa_nil)))))
      (pss_cons (ps_set (i := 0) nd rfl (.inl rfl) (pe_op op_cat (pv 0) (pe_lc (own := [("_law_name", 1)]) (g := gName 1) (by rfl) nd (pi_list (pe_lst (pa_cons pe_str (pa_cons pe_str (pa_cons pe_str (pa_cons pe_str pa_nil)))))) (blkOk_by (own := [("_law_name", 1)]) (N := ["_law_rows", "_law_name"]) (sc := C8.fnScope (top 129)) (by decide +kernel)) (fun _ _ _ _ _ => pg_name (i := 1) nd rfl (.inl rfl)) (fun _ _ _ _ _ => pts_nil) (fun _ _ _ _ _ => (pe_tup (pa_cons pe_str (pa_cons (pv 1) (pa_cons (pe_lst (pa_cons pe_str (pa_cons pe_str pa_nil))) (pa_cons pe_str pa_nil)))))))))
      (pss_cons (ps_set (i := 0) nd rfl (.inl rfl) (pe_op op_cat (pv 0) (pe_lst (pa_cons (pe_tup (pa_cons pe_str (pa_cons pe_str (pa_cons (pe_lst (pa_cons pe_str (pa_cons pe_str pa_nil))) (pa_cons pe_str pa_nil))))) (pa_cons (pe_tup (pa_cons pe_str (pa_cons pe_str (pa_cons (pe_lst (pa_cons pe_str (pa_cons pe_str pa_nil))) (pa_cons pe_str pa_nil))))) pa_nil)))))
      (pss_cons (ps_set (i := 0) nd rfl (.inl rfl) (pe_op op_cat (pv 0) (pe_lc (own := [("_law_name", 1)]) (g := gName 1) (by rfl) nd (pi_list (pe_lst (pa_cons pe_str (pa_cons pe_str (pa_cons pe_str pa_nil))))) (blkOk_by (own := [("_law_name", 1)]) (N := ["_law_rows", "_law_name"]) (sc := C8.fnScope (top 129)) (by decide +kernel)) (fun _ _ _ _ _ => pg_name (i := 1) nd rfl (.inl rfl)) (fun _ _ _ _ _ => pts_nil) (fun _ _ _ _ _ => (pe_tup (pa_cons pe_str (pa_cons (pv 1) (pa_cons (pe_lst (pa_cons pe_str pa_nil)) (pa_cons pe_str pa_nil)))))))))
      (pss_cons (ps_set (i := 0) nd rfl (.inl rfl) (pe_op op_cat (pv 0) (pe_lc (own := [("_law_name", 1)]) (g := gName 1) (by rfl) nd (pi_list (pe_lst (pa_cons pe_str (pa_cons pe_str (pa_cons pe_str (pa_cons pe_str pa_nil)))))) (blkOk_by (own := [("_law_name", 1)]) (N := ["_law_rows", "_law_name"]) (sc := C8.fnScope (top 129)) (by decide +kernel)) (fun _ _ _ _ _ => pg_name (i := 1) nd rfl (.inl rfl)) (fun _ _ _ _ _ => pts_nil) (fun _ _ _ _ _ => (pe_tup (pa_cons pe_str (pa_cons (pv 1) (pa_cons (pe_lst (pa_cons pe_str pa_nil)) (pa_cons pe_str pa_nil)))))))))
      (pss_cons (ps_set (i := 0) nd rfl (.inl rfl) (pe_op op_cat (pv 0) (pe_lc (own := [("_law_name", 1)]) (g := gName 1) (by rfl) nd (pi_list (pe_lst (pa_cons pe_str (pa_cons pe_str (pa_cons pe_str (pa_cons pe_str (pa_cons pe_str pa_nil))))))) (blkOk_by (own := [("_law_name", 1)]) (N := ["_law_rows", "_law_name"]) (sc := C8.fnScope (top 129)) (by decide +kernel)) (fun _ _ _ _ _ => pg_name (i := 1) nd rfl (.inl rfl)) (fun _ _ _ _ _ => pts_nil) (fun _ _ _ _ _ => (pe_tup (pa_cons pe_str (pa_cons (pv 1) (pa_cons (pe_lst (pa_cons pe_str (pa_cons pe_str pa_nil))) (pa_cons pe_str pa_nil)))))))))
      (pss_cons (ps_set (i := 0) nd rfl (.inl rfl) (pe_op op_cat (pv 0) (pe_lst (pa_cons (pe_tup (pa_cons pe_str (pa_cons pe_str (pa_cons (pe_lst (pa_cons pe_str pa_nil)) (pa_cons pe_str pa_nil))))) (pa_cons (pe_tup (pa_cons pe_str (pa_cons pe_str (pa_cons (pe_lst (pa_cons pe_str pa_nil)) (pa_cons pe_str pa_nil))))) (pa_cons (pe_tup (pa_cons pe_str (pa_cons pe_str (pa_cons (pe_lst (pa_cons pe_str pa_nil)) (pa_cons pe_str pa_nil))))) pa_nil))))))
      (pss_cons (ps_set (i := 0) nd rfl (.inl rfl) (pe_op op_cat (pv 0) (pe_lst (pa_cons (pe_tup (pa_cons pe_str (pa_cons pe_str (pa_cons (pe_lst (pa_cons pe_str pa_nil)) (pa_cons pe_str pa_nil))))) (pa_cons (pe_tup (pa_cons pe_str (pa_cons pe_str (pa_cons (pe_lst (pa_cons pe_str (pa_cons pe_str pa_nil))) (pa_cons pe_str pa_nil))))) pa_nil)))))
      (pss_cons (ps_set (i := 0) nd rfl (.inl rfl) (pe_op op_cat (pv 0) (pe_lst (pa_cons (pe_tup (pa_cons pe_str (pa_cons pe_str (pa_cons (pe_lst (pa_cons pe_str (pa_cons pe_str pa_nil))) (pa_cons pe_str pa_nil))))) pa_nil))))
      (pss_cons (ps_set (i := 0) nd rfl (.inl rfl) (pe_op op_cat (pv 0) (pe_lc (own := [("_law_name", 1)]) (g := gName 1) (by rfl) nd (pi_list (pe_lst (pa_cons pe_str (pa_cons pe_str (pa_cons pe_str pa_nil))))) (blkOk_by (own := [("_law_name", 1)]) (N := ["_law_rows", "_law_name"]) (sc := C8.fnScope (top 129)) (by decide +kernel)) (fun _ _ _ _ _ => pg_name (i := 1) nd rfl (.inl rfl)) (fun _ _ _ _ _ => pts_nil) (fun _ _ _ _ _ => (pe_tup (pa_cons pe_str (pa_cons (pv 1) (pa_cons (pe_lst (pa_cons pe_str pa_nil)) (pa_cons pe_str pa_nil)))))))))
      (pss_cons (ps_set (i := 0) nd rfl (.inl rfl) (pe_op op_cat (pv 0) (pe_lst (pa_cons (pe_tup (pa_cons pe_str (pa_cons pe_str (pa_cons (pe_lst (pa_cons pe_str pa_nil)) (pa_cons pe_str pa_nil))))) (pa_cons (pe_tup (pa_cons pe_str (pa_cons pe_str (pa_cons (pe_lst (pa_cons pe_str pa_nil)) (pa_cons pe_str pa_nil))))) pa_nil)))))
      (pss_cons (ps_set (i := 0) nd rfl (.inl rfl) (pe_op op_cat (pv 0) (pe_lst (pa_cons (pe_tup (pa_cons pe_str (pa_cons pe_str (pa_cons (pe_lst (pa_cons pe_str pa_nil)) (pa_cons pe_str pa_nil))))) (pa_cons (pe_tup (pa_cons pe_str (pa_cons pe_str (pa_cons (pe_lst (pa_cons pe_str (pa_cons pe_str pa_nil))) (pa_cons pe_str pa_nil))))) pa_nil)))))
      (pss_cons (ps_set (i := 0) nd rfl (.inl rfl) (pe_op op_cat (pv 0) (pe_lst (pa_cons (pe_tup (pa_cons pe_str (pa_cons pe_str (pa_cons (pe_lst (pa_cons pe_str (pa_cons pe_str (pa_cons pe_str pa_nil)))) (pa_cons pe_str pa_nil))))) (pa_cons (pe_tup (pa_cons pe_str (pa_cons pe_str (pa_cons (pe_lst (pa_cons pe_str (pa_cons pe_str (pa_cons pe_str pa_nil)))) (pa_cons pe_str pa_nil))))) pa_nil)))))
      (pss_cons (ps_set (i := 0) nd rfl (.inl rfl) (pe_op op_cat (pv 0) (pe_lst (pa_cons (pe_tup (pa_cons pe_str (pa_cons pe_str (pa_cons (pe_lst (pa_cons pe_str (pa_cons pe_str (pa_cons pe_str pa_nil)))) (pa_cons pe_str pa_nil))))) (pa_cons (pe_tup (pa_cons pe_str (pa_cons pe_str (pa_cons (pe_lst (pa_cons pe_str (pa_cons pe_str (pa_cons pe_str pa_nil)))) (pa_cons pe_str pa_nil))))) pa_nil)))))
      (pss_cons (ps_set (i := 0) nd rfl (.inl rfl) (pe_op op_cat (pv 0) (pe_lc (own := [("_law_name", 1)]) (g := gName 1) (by rfl) nd (pi_list (pe_lst (pa_cons pe_str (pa_cons pe_str (pa_cons pe_str pa_nil))))) (blkOk_by (own := [("_law_name", 1)]) (N := ["_law_rows", "_law_name"]) (sc := C8.fnScope (top 129)) (by decide +kernel)) (fun _ _ _ _ _ => pg_name (i := 1) nd rfl (.inl rfl)) (fun _ _ _ _ _ => pts_nil) (fun _ _ _ _ _ => (pe_tup (pa_cons pe_str (pa_cons (pv 1) (pa_cons (pe_lst (pa_cons pe_str pa_nil)) (pa_cons pe_str pa_nil)))))))))
      (pss_cons (ps_set (i := 0) nd rfl (.inl rfl) (pe_op op_cat (pv 0) (pe_lst (pa_cons (pe_tup (pa_cons pe_str (pa_cons pe_str (pa_cons (pe_lst (pa_cons pe_str pa_nil)) (pa_cons pe_str pa_nil))))) (pa_cons (pe_tup (pa_cons pe_str (pa_cons pe_str (pa_cons (pe_lst (pa_cons pe_str pa_nil)) (pa_cons pe_str pa_nil))))) pa_nil)))))
      (pss_cons (ps_set (i := 0) nd rfl (.inl rfl) (pe_op op_cat (pv 0) (pe_lc (own := [("_law_name", 1)]) (g := gName 1) (by rfl) nd (pi_list (pe_lst (pa_cons pe_str (pa_cons pe_str pa_nil)))) (blkOk_by (own := [("_law_name", 1)]) (N := ["_law_rows", "_law_name"]) (sc := C8.fnScope (top 129)) (by decide +kernel)) (fun _ _ _ _ _ => pg_name (i := 1) nd rfl (.inl rfl)) (fun _ _ _ _ _ => pts_nil) (fun _ _ _ _ _ => (pe_tup (pa_cons pe_str (pa_cons (pv 1) (pa_cons (pe_lst (pa_cons pe_str (pa_cons pe_str pa_nil))) (pa_cons pe_str pa_nil)))))))))
      (pss_cons (ps_set (i := 0) nd rfl (.inl rfl) (pe_op op_cat (pv 0) (pe_lc (own := [("_law_name", 1)]) (g := gName 1) (by rfl) nd (pi_list (pe_lst (pa_cons pe_str (pa_cons pe_str pa_nil)))) (blkOk_by (own := [("_law_name", 1)]) (N := ["_law_rows", "_law_name"]) (sc := C8.fnScope (top 129)) (by decide +kernel)) (fun _ _ _ _ _ => pg_name (i := 1) nd rfl (.inl rfl)) (fun _ _ _ _ _ => pts_nil) (fun _ _ _ _ _ => (pe_tup (pa_cons pe_str (pa_cons (pv 1) (pa_cons (pe_lst (pa_cons pe_str pa_nil)) (pa_cons pe_str pa_nil)))))))))
      (pss_cons (ps_set (i := 0) nd rfl (.inl rfl) (pe_op op_cat (pv 0) (pe_lst (pa_cons (pe_tup (pa_cons pe_str (pa_cons pe_str (pa_cons (pe_lst (pa_cons pe_str pa_nil)) (pa_cons pe_str pa_nil))))) (pa_cons (pe_tup (pa_cons pe_str (pa_cons pe_str (pa_cons (pe_lst (pa_cons pe_str pa_nil)) (pa_cons pe_str pa_nil))))) pa_nil)))))
      (pss_cons (ps_set (i := 0) nd rfl (.inl rfl) (pe_op op_cat (pv 0) (pe_lst (pa_cons (pe_tup (pa_cons pe_str (pa_cons pe_str (pa_cons (pe_lst (pa_cons pe_str pa_nil)) (pa_cons pe_str pa_nil))))) pa_nil))))
      (pss_one (ps_ret (pe_op op_cat (pv 0) (pe_lc (own := [("_law_name", 1)]) (g := gName 1) (by rfl) nd (pi_list (pe_lst (pa_cons pe_str (pa_cons pe_str (pa_cons pe_str (pa_cons pe_str (pa_cons pe_str pa_nil))))))) (blkOk_by (own := [("_law_name", 1)]) (N := ["_law_rows", "_law_name"]) (sc := C8.fnScope (top 129)) (by decide +kernel)) (fun _ _ _ _ _ => pg_name (i := 1) nd rfl (.inl rfl)) (fun _ _ _ _ _ => pts_nil) (fun _ _ _ _ _ => (pe_tup (pa_cons pe_str (pa_cons (pv 1) (pa_cons (pe_lst (pa_cons pe_str (pa_cons pe_str pa_nil))) (pa_cons pe_str pa_nil)))))))))))))))))))))))))))))), ?hb⟩)
  case hb =>
    obtain ⟨rfl, hQ⟩ := h
    have hQ : RetD K (.list (makers.map mrD)) H Q := hQ
    rw [← mk_all] at hQ
    show tSeq _ _ _ [none, none] H
    refine q_asgC (K := K) (ds' := mk0) (er_lst (by walk_at "ad") (Nat.le_of_ble_eq_true rfl)) (by rfl) (fun l0 H0 x0 e0 hl0 hx0 => ?_)
    refine q_asgC (K := K) (ds' := mk1) (er_cat (ev_var rfl) hl0 hx0 (er_lcRow (f := "binary") (r := "bool") (ks := ["any", "any"]) (names := ["equal", "less", "at most", "same"]) (el_lst (ea_cons ev_c (ea_cons ev_c (ea_cons ev_c (ea_cons ev_c ea_nil)))) (Nat.le_of_ble_eq_true rfl)) (Nat.le_of_ble_eq_true rfl) (Nat.le_of_ble_eq_true rfl) rfl (fun _ _ => (ea_cons ev_c (ea_cons ev_c ea_nil))) (Nat.le_of_ble_eq_true rfl)) (Nat.le_of_ble_eq_true rfl)) (by rfl) (fun l1 H1 x1 e1 hl1 hx1 => ?_)
    refine q_asgC (K := K) (ds' := mk2) (er_cat (ev_var rfl) hl1 hx1 (er_lst (by walk_at "ad") (Nat.le_of_ble_eq_true rfl)) (Nat.le_of_ble_eq_true rfl)) (by rfl) (fun l2 H2 x2 e2 hl2 hx2 => ?_)
    refine q_asgC (K := K) (ds' := mk3) (er_cat (ev_var rfl) hl2 hx2 (er_lcRow (f := "unary") (r := "int") (ks := ["int"]) (names := ["negate", "abs", "sign"]) (el_lst (ea_cons ev_c (ea_cons ev_c (ea_cons ev_c ea_nil))) (Nat.le_of_ble_eq_true rfl)) (Nat.le_of_ble_eq_true rfl) (Nat.le_of_ble_eq_true rfl) rfl (fun _ _ => (ea_cons ev_c ea_nil)) (Nat.le_of_ble_eq_true rfl)) (Nat.le_of_ble_eq_true rfl)) (by rfl) (fun l3 H3 x3 e3 hl3 hx3 => ?_)
    refine q_asgC (K := K) (ds' := mk4) (er_cat (ev_var rfl) hl3 hx3 (er_lcRow (f := "unary") (r := "int") (ks := ["date"]) (names := ["year", "month", "day", "weekday"]) (el_lst (ea_cons ev_c (ea_cons ev_c (ea_cons ev_c (ea_cons ev_c ea_nil)))) (Nat.le_of_ble_eq_true rfl)) (Nat.le_of_ble_eq_true rfl) (Nat.le_of_ble_eq_true rfl) rfl (fun _ _ => (ea_cons ev_c ea_nil)) (Nat.le_of_ble_eq_true rfl)) (Nat.le_of_ble_eq_true rfl)) (by rfl) (fun l4 H4 x4 e4 hl4 hx4 => ?_)
    refine q_asgC (K := K) (ds' := mk5) (er_cat (ev_var rfl) hl4 hx4 (er_lcRow (f := "binary") (r := "int") (ks := ["int", "int"]) (names := ["add", "subtract", "multiply", "divide", "rest"]) (el_lst (ea_cons ev_c (ea_cons ev_c (ea_cons ev_c (ea_cons ev_c (ea_cons ev_c ea_nil))))) (Nat.le_of_ble_eq_true rfl)) (Nat.le_of_ble_eq_true rfl) (Nat.le_of_ble_eq_true rfl) rfl (fun _ _ => (ea_cons ev_c (ea_cons ev_c ea_nil))) (Nat.le_of_ble_eq_true rfl)) (Nat.le_of_ble_eq_true rfl)) (by rfl) (fun l5 H5 x5 e5 hl5 hx5 => ?_)
    refine q_asgC (K := K) (ds' := mk6) (er_cat (ev_var rfl) hl5 hx5 (er_lst (by walk_at "ad") (Nat.le_of_ble_eq_true rfl)) (Nat.le_of_ble_eq_true rfl)) (by rfl) (fun l6 H6 x6 e6 hl6 hx6 => ?_)
    refine q_asgC (K := K) (ds' := mk7) (er_cat (ev_var rfl) hl6 hx6 (er_lst (by walk_at "ad") (Nat.le_of_ble_eq_true rfl)) (Nat.le_of_ble_eq_true rfl)) (by rfl) (fun l7 H7 x7 e7 hl7 hx7 => ?_)
    refine q_asgC (K := K) (ds' := mk8) (er_cat (ev_var rfl) hl7 hx7 (er_lst (by walk_at "ad") (Nat.le_of_ble_eq_true rfl)) (Nat.le_of_ble_eq_true rfl)) (by rfl) (fun l8 H8 x8 e8 hl8 hx8 => ?_)
    refine q_asgC (K := K) (ds' := mk9) (er_cat (ev_var rfl) hl8 hx8 (er_lcRow (f := "unary") (r := "text") (ks := ["text"]) (names := ["lower", "upper", "trim"]) (el_lst (ea_cons ev_c (ea_cons ev_c (ea_cons ev_c ea_nil))) (Nat.le_of_ble_eq_true rfl)) (Nat.le_of_ble_eq_true rfl) (Nat.le_of_ble_eq_true rfl) rfl (fun _ _ => (ea_cons ev_c ea_nil)) (Nat.le_of_ble_eq_true rfl)) (Nat.le_of_ble_eq_true rfl)) (by rfl) (fun l9 H9 x9 e9 hl9 hx9 => ?_)
    refine q_asgC (K := K) (ds' := mk10) (er_cat (ev_var rfl) hl9 hx9 (er_lst (by walk_at "ad") (Nat.le_of_ble_eq_true rfl)) (Nat.le_of_ble_eq_true rfl)) (by rfl) (fun l10 H10 x10 e10 hl10 hx10 => ?_)
    refine q_asgC (K := K) (ds' := mk11) (er_cat (ev_var rfl) hl10 hx10 (er_lst (by walk_at "ad") (Nat.le_of_ble_eq_true rfl)) (Nat.le_of_ble_eq_true rfl)) (by rfl) (fun l11 H11 x11 e11 hl11 hx11 => ?_)
    refine q_asgC (K := K) (ds' := mk12) (er_cat (ev_var rfl) hl11 hx11 (er_lst (by walk_at "ad") (Nat.le_of_ble_eq_true rfl)) (Nat.le_of_ble_eq_true rfl)) (by rfl) (fun l12 H12 x12 e12 hl12 hx12 => ?_)
    refine q_asgC (K := K) (ds' := mk13) (er_cat (ev_var rfl) hl12 hx12 (er_lst (by walk_at "ad") (Nat.le_of_ble_eq_true rfl)) (Nat.le_of_ble_eq_true rfl)) (by rfl) (fun l13 H13 x13 e13 hl13 hx13 => ?_)
    refine q_asgC (K := K) (ds' := mk14) (er_cat (ev_var rfl) hl13 hx13 (er_lcRow (f := "unary") (r := "date") (ks := ["date"]) (names := ["month start", "year start", "week start"]) (el_lst (ea_cons ev_c (ea_cons ev_c (ea_cons ev_c ea_nil))) (Nat.le_of_ble_eq_true rfl)) (Nat.le_of_ble_eq_true rfl) (Nat.le_of_ble_eq_true rfl) rfl (fun _ _ => (ea_cons ev_c ea_nil)) (Nat.le_of_ble_eq_true rfl)) (Nat.le_of_ble_eq_true rfl)) (by rfl) (fun l14 H14 x14 e14 hl14 hx14 => ?_)
    refine q_asgC (K := K) (ds' := mk15) (er_cat (ev_var rfl) hl14 hx14 (er_lst (by walk_at "ad") (Nat.le_of_ble_eq_true rfl)) (Nat.le_of_ble_eq_true rfl)) (by rfl) (fun l15 H15 x15 e15 hl15 hx15 => ?_)
    refine q_asgC (K := K) (ds' := mk16) (er_cat (ev_var rfl) hl15 hx15 (er_lcRow (f := "binary") (r := "date") (ks := ["date", "int"]) (names := ["add days", "add months"]) (el_lst (ea_cons ev_c (ea_cons ev_c ea_nil)) (Nat.le_of_ble_eq_true rfl)) (Nat.le_of_ble_eq_true rfl) (Nat.le_of_ble_eq_true rfl) rfl (fun _ _ => (ea_cons ev_c (ea_cons ev_c ea_nil))) (Nat.le_of_ble_eq_true rfl)) (Nat.le_of_ble_eq_true rfl)) (by rfl) (fun l16 H16 x16 e16 hl16 hx16 => ?_)
    refine q_asgC (K := K) (ds' := mk17) (er_cat (ev_var rfl) hl16 hx16 (er_lcRow (f := "unary") (r := "decimal") (ks := ["decimal"]) (names := ["negate", "abs"]) (el_lst (ea_cons ev_c (ea_cons ev_c ea_nil)) (Nat.le_of_ble_eq_true rfl)) (Nat.le_of_ble_eq_true rfl) (Nat.le_of_ble_eq_true rfl) rfl (fun _ _ => (ea_cons ev_c ea_nil)) (Nat.le_of_ble_eq_true rfl)) (Nat.le_of_ble_eq_true rfl)) (by rfl) (fun l17 H17 x17 e17 hl17 hx17 => ?_)
    refine q_asgC (K := K) (ds' := mk18) (er_cat (ev_var rfl) hl17 hx17 (er_lst (by walk_at "ad") (Nat.le_of_ble_eq_true rfl)) (Nat.le_of_ble_eq_true rfl)) (by rfl) (fun l18 H18 x18 e18 hl18 hx18 => ?_)
    refine q_asgC (K := K) (ds' := mk19) (er_cat (ev_var rfl) hl18 hx18 (er_lst (by walk_at "ad") (Nat.le_of_ble_eq_true rfl)) (Nat.le_of_ble_eq_true rfl)) (by rfl) (fun l19 H19 x19 e19 hl19 hx19 => ?_)
    exact s_retD (K := K) (d := .list mk20) (ed_is (ed_R (er_cat (ev_var rfl) hl19 hx19 (er_lcRow (f := "binary") (r := "decimal") (ks := ["decimal", "decimal"]) (names := ["add", "subtract", "rest", "multiply decimals", "divide decimals"]) (el_lst (ea_cons ev_c (ea_cons ev_c (ea_cons ev_c (ea_cons ev_c (ea_cons ev_c ea_nil))))) (Nat.le_of_ble_eq_true rfl)) (Nat.le_of_ble_eq_true rfl) (Nat.le_of_ble_eq_true rfl) rfl (fun _ _ => (ea_cons ev_c (ea_cons ev_c ea_nil))) (Nat.le_of_ble_eq_true rfl)) (Nat.le_of_ble_eq_true rfl))) (by rfl)) (hQ.go (((((((((((((((((((e0.trans e1).trans e2).trans e3).trans e4).trans e5).trans e6).trans e7).trans e8).trans e9).trans e10).trans e11).trans e12).trans e13).trans e14).trans e15).trans e16).trans e17).trans e18).trans e19))


/-! ### values of which a word is known -/
section
variable {σ : L2.St} {H H' : Hp} {ta tb te tx tl : TE} {tA tr : TA} {E : XK} {D : Ends} {tz tu : TS} {d : PyData} {ds : List PyData} {v : V} {Pd Pe : PyData → Prop} {Ps : List PyData → Prop}
def EvP (K : PySem.W.Frag) (te : TE) (σ : L2.St) (H : Hp) (Pd : PyData → Prop) : Prop := ∀ H1, Ex H H1 → ∀ Q : VK, (∀ d v H2, Pd d → Ex H1 H2 → Dp K H2 v d → Q v H2) → te σ H1 Q
def EvAP (K : PySem.W.Frag) (ta : TA) (σ : L2.St) (H : Hp) (Ps : List PyData → Prop) : Prop := ∀ H1, Ex H H1 → ∀ Q : List V → Hp → Prop, (∀ ds vs H2, Ps ds → Ex H1 H2 → DpAll K H2 vs ds → Q vs H2) → ta σ H1 Q
theorem ep_ed (h : EvD K te σ H d) (hp : Pd d) : EvP K te σ H Pd := fun H1 e Q q => h H1 e Q fun v H2 e2 hv => q d v H2 hp e2 hv
theorem ep_imp (h : EvP K te σ H Pd) (hp : ∀ d, Pd d → Pe d) : EvP K te σ H Pe := fun H1 e Q q => h H1 e Q fun d v H2 hd e2 hv => q d v H2 (hp d hd) e2 hv
theorem eap_nil : EvAP K tNil σ H (fun ds => ds = []) := fun H1 _ _ q => q [] _ H1 rfl (Ex.refl H1) .nil
theorem eap_cons (h : EvP K ta σ H Pd) (hr : EvAP K tr σ H Ps) : EvAP K (tCons ta tr) σ H (fun ds => ∃ d r, ds = d :: r ∧ Pd d ∧ Ps r) := fun H1 e _ q =>
  h H1 e _ fun d v H2 hd e2 hv => hr H2 (e.trans e2) _ fun r vs H3 hr e3 hs => q _ _ H3 ⟨d, r, rfl, hd, hr⟩ (e2.trans e3) (.cons (dp_ex e3 d v hv) hs)
theorem ep_tup (h : EvAP K tA σ H Ps) (hl : ∀ ds, Ps ds → ds.length ≤ 100000 ∧ Pd (.tuple ds)) : EvP K (tTup tA) σ H Pd := fun H1 e _ q =>
  h H1 e _ fun ds vs H2 hd e2 hs => ⟨sz_of (by rw [dpa_len hs]; exact (hl ds hd).1), fun p hp => q _ (.ref p) _ (hl ds hd).2 (e2.trans (Ex.new hp)) (.tup (st_of upd_same) (dpa_ex (Ex.new hp) ds vs hs))⟩
theorem s_retP (h : EvP K te σ H Pd) (k : ∀ d, Pd d → RetD K d H D.rt) : tRet te D σ H := h H (Ex.refl H) _ fun d v H1 hd e hv => k d hd v H1 e hv
theorem q_asgP {i : Nat} (h : EvP K te σ H Pd) (k : ∀ d v H1, Pd d → Ex H H1 → Dp K H1 v d → tz D (σ.set i (some v)) H1) : tSeq (tAsg te (gName i)) tz D σ H := h H (Ex.refl H) _ fun d v H1 hd e hv => k d v H1 hd e hv
/-- [te for i in range(n)], no test -/
theorem ed_lcRD {j : Nat} {vs : List Nat} {n : Int} (h : EvA tA σ H [.int n]) (hn : 0 ≤ n ∧ n ≤ 40000) (hl : (ds.length : Int) = n) (hf : lfAll ds = true) (hw : ∀ x, wipe ((wipe σ vs).set j (some x)) vs = wipe σ vs)
    (he : ∀ (i : Nat) d H1, Ex H H1 → ds[i]? = some d → EvD K te ((wipe σ vs).set j (some (.int (i : Int)))) H1 d) : EvD K (tLc (iRng1 tA) (gName j) tYes te vs) σ H (.list ds) := fun H0 e Q q => h H0 e _ fun H1 e1 => ⟨n, rfl, by omega, by omega, fun Dl hD =>
  lc_range (lo := 0) (n := n.toNat) (fun i H' => H1 Dl = none ∧ Ex H1 H' ∧ ∃ acc, H' Dl = some (.lst acc) ∧ DpAll K H' acc (ds.take i)) ⟨hD, Ex.new hD, [], upd_same, .nil⟩ (fun i H' hi p => by
    obtain ⟨p1, p2, acc, p3, p4⟩ := p
    have hd0 : ds[i]? = some ds[i] := List.getElem?_eq_getElem (by omega)
    refine ⟨hw _, ?_⟩
    have e0 : (0 : Int) + (i : Int) = (i : Int) := Int.zero_add _
    show te ((wipe σ vs).set j (some (.int ((0 : Int) + (i : Int))))) H' fun y H4 => ∃ acc, H4 Dl = some (.lst acc) ∧ acc.length < sizeLine ∧ (H1 Dl = none ∧ Ex H1 (upd H4 Dl (.lst (acc ++ [y]))) ∧ ∃ acc2, (upd H4 Dl (.lst (acc ++ [y]))) Dl = some (.lst acc2) ∧ DpAll K (upd H4 Dl (.lst (acc ++ [y]))) acc2 (ds.take (i + 1)))
    rw [e0]
    refine he i ds[i] H' ((e.trans e1).trans p2) hd0 H' (Ex.refl H') _ fun y H4 e4 hy => ⟨acc, e4 Dl _ p3, sz_lt (by have := dpa_len p4; rw [List.length_take] at this; omega), p1, Ex.mut (p2.trans e4) p1, acc ++ [y], upd_same, ?_⟩
    have hk : DpAll K H4 (acc ++ [y]) (ds.take (i + 1)) := by
      rw [List.take_succ, hd0]
      exact dpa_app (dpa_ex e4 _ _ p4) (.cons hy .nil)
    exact dpa_mut (e4 Dl _ p3) _ _ (lf_take hf _) hk) (fun H' p => by
    obtain ⟨p1, p2, acc, p3, p4⟩ := p
    rw [show n.toNat = ds.length by omega, List.take_length] at p4
    exact q (.ref Dl) H' (e1.trans p2) (.lst (sq_of p3) p4))⟩
end
/-- a text of the law -/
def spTx : Sp := fun vs H Q _ => ∃ n z : Int, vs = [.int n, .int z] ∧ 0 ≤ z ∧ z ≤ 10 ∧ ∀ s, OkS s → RetV (.str s) H Q
theorem ep_text {σ : L2.St} {H : Hp} {tA : TA} {E : XK} {n z : Int} (h : EvA tA σ H [.int n, .int z]) (h0 : 0 ≤ z) (h1 : z ≤ 10) : EvP K (tCall spTx [] E tA) σ H (fun d => ∃ s, d = .str s ∧ OkS s) := fun H1 e1 Q q =>
  h H1 e1 _ fun H2 e2 => ⟨n, z, rfl, h0, h1, fun s hs H3 e3 => q (.str s) (.str s) H3 ⟨s, rfl, hs⟩ (e2.trans e3) (.str s)⟩
theorem given_mem {n : Nat} {f : Nat → Bool} {v : Nat → V} {x : V} (h : x ∈ given n f v) : ∃ i, i < n ∧ f i = true ∧ x = v i := by
  unfold given at h
  obtain ⟨i, hi, rfl⟩ := List.mem_map.mp h
  rw [List.mem_filter, List.mem_range] at hi
  exact ⟨i, hi.1, hi.2, rfl⟩
theorem gen_const {cs : Cols} {k : Kd} {v : V} (h : FitK k v) (hk : k = .bool ∨ k = .int ∨ k = .text) : Gen cs k 1 (.const v) := by
  refine ⟨.inr ⟨k, h⟩, Nat.zero_le _, ?_⟩
  rcases hk with rfl | rfl | rfl
  · obtain ⟨b, rfl⟩ := h
    exact ⟨false, rfl⟩
  · obtain ⟨b, rfl, _⟩ := h
    exact ⟨false, rfl⟩
  · obtain ⟨b, rfl, _⟩ := h
    exact ⟨false, rfl⟩
def spLf (K : PySem.W.Frag) : Sp := fun vs H Q _ => ∃ (k : Kd) (n : Int) (cs : Cols) (y : V), vs = [.str k.name, .int n, y] ∧ Dp K H y (.list (cs.map encC)) ∧ cs.length ≤ 100 ∧ ∀ e, Gen cs k 1 e → RetD K (enc e) H Q

theorem c__law_leaf (T : Tx w K mg) : C8.Cal P w K mg base 2 "_law_leaf" (spLf K) [] := by
  refine mk_cal T (x := "_law_leaf") (i := 127) (j := 98) (N := ["_law_kind", "_law_number", "_law_columns", "_law_found", "_law_rest", "_law_k"]) (ps := ["_law_kind", "_law_number", "_law_columns"]) rfl rfl (by decide +kernel) (fun _ _ _ _ _ _ us hl => match us, hl with | [_, _, _], _ => rfl) (fun vs H Q E h => by obtain ⟨_, _, _, _, rfl, _⟩ := h; rfl) (fun cdv A outer s H vs Q E nd hr h => ⟨_, (pss_cons (ps_setLc (i := 3) (own := [("_law_k", 5)]) (g := gName 5) (by rfl) nd rfl rfl (sw_true rfl rfl rfl (by decide +kernel)) (pi_range1 (by rfl) T.m_range (pa_cons (pe_callB b_len (by rfl) T.m_len boot_len (pa_cons (pv 2) pa_nil)) pa_nil)) (blkOk_by (own := [("_law_k", 5)]) (N := ["_law_kind", "_law_number", "_law_columns", "_law_found", "_law_rest", "_law_k"]) (sc := C8.fnScope (top 127)) (by decide +kernel)) (fun _ _ _ _ _ => pg_name (i := 5) nd rfl (.inl rfl)) (fun _ _ _ _ _ => (pts_one (pt_cmpR op_eq (pe_ix (ix_seqK (K := K) rfl) (pe_ix (ix_seqK (K := K) rfl) (pv 2) (pv 5) (fun _ _ => rfl)) pe_int (fun _ _ => rfl)) (pv 0) (nomark _)))) (fun _ _ _ _ _ => (pv 5)))
      (pss_cons (ps_if (PW.pt (pw_and (pt_cmpR o_gt (pe_callB b_len (by rfl) T.m_len boot_len (pa_cons (pv 3) pa_nil)) pe_int (nomark _)) (pw_and1 (pt_cmpR o_gt (pe_op o_mod (pe_callTy b_int (by rfl) T.m_int boot_int (pa_cons (pv 1) pa_nil)) pe_int) pe_int (nomark _))))) (pss_one (ps_ret (pe_tup (pa_cons pe_str (pa_cons (pe_ix ix_seq (pv 3) (pe_op o_mod (pe_op o_div (pe_callTy b_int (by rfl) T.m_int boot_int (pa_cons (pv 1) pa_nil)) pe_int) (pe_callB b_len (by rfl) T.m_len boot_len (pa_cons (pv 3) pa_nil))) (fun _ _ => rfl)) pa_nil))))) pss_nil)
      (pss_cons (ps_set (i := 4) nd rfl (.inl rfl) (pe_op o_div (pe_callTy b_int (by rfl) T.m_int boot_int (pa_cons (pv 1) pa_nil)) pe_int))
      (pss_cons (ps_if (pt_cmpR op_eq (pv 0) pe_str (nomark _)) (pss_one (ps_ret (pe_tup (pa_cons pe_str (pa_cons (pe_cmpR op_eq (pe_op o_mod (pv 4) pe_int) pe_int (nomark _)) pa_nil))))) pss_nil)
      (pss_cons (ps_if (pt_cmpR op_eq (pv 0) pe_str (nomark _)) (pss_one (ps_ret (pe_tup (pa_cons pe_str (pa_cons (pe_ix ix_seq (pe_lst (pa_cons (pe_op o_sub (pe_op o_mod (pv 4) pe_int) pe_int) (pa_cons (pe_op o_sub (pe_op o_mod (pv 4) pe_int) pe_int) pa_nil))) (pe_op o_div (pe_op o_mod (pe_op o_div (pe_callTy b_int (by rfl) T.m_int boot_int (pa_cons (pv 1) pa_nil)) pe_int) pe_int) pe_int) (fun _ _ => rfl)) pa_nil))))) pss_nil)
      (pss_cons (ps_if (pt_cmpR op_eq (pv 0) pe_str (nomark _)) (pss_one (ps_ret (pe_tup (pa_cons pe_str (pa_cons (C8.pe_c (show C8.Cal P w K mg base 1 "_law_text" spTx [] from c__law_text T) hr (by decide) (by rfl) (pa_cons (pv 4) (pa_cons (pe_op o_mod (pv 4) pe_int) pa_nil))) pa_nil))))) pss_nil)
      (pss_cons (ps_if (pt_cmpR op_eq (pv 0) pe_str (nomark _)) (pss_one (ps_ret (pe_tup (pa_cons pe_str (pa_cons pe_str (pa_cons (pe_tup (pa_cons pe_str (pa_cons (pe_op o_sub (pe_op o_mod (pv 4) pe_int) pe_int) pa_nil))) pa_nil)))))) pss_nil)
      (pss_one (ps_ret (pe_tup (pa_cons pe_str (pa_cons pe_str (pa_cons (pe_tup (pa_cons pe_str (pa_cons (pe_op o_sub (pe_op o_mod (pv 4) pe_int) pe_int) pa_nil))) pa_nil))))))))))))), ?hb⟩)
  case hb =>
    obtain ⟨k, n, cs, y, rfl, hy, hcs, hQ⟩ := h
    refine q_asgL (xs := given cs.length (fun i => decide ((cs[i]?).map (·.1) = some k)) (fun i => .int (i : Int))) ?found (fun l H1 hl e1 h1 => ?_)
    case found =>
      refine el_lcR1 (n := (cs.length : Int)) _ _ (ea_cons (ev_is (ev_lenD (K := K) (ed_var rfl hy)) (by rw [List.length_map])) ea_nil) (by omega) (fun _ => rfl) (fun i H1 e1 hi => ?_) (fun i H1 e1 hi _ => ev_var rfl)
      have hg : cs[i]? = some cs[i] := List.getElem?_eq_getElem (by omega)
      refine et_is (et_test (ev_op (ev_k0 (c := cs[i]) (ed_ixL (ed_var rfl (dp_ex e1 _ _ hy)) (ev_var rfl) (L2.atI_nat (by rw [List.getElem?_map, hg]; rfl)))) (ev_var rfl) rv_eqSS)) ?_
      rw [kd_dec, hg]
      by_cases hz : cs[i].1 = k
      · simp [hz]
      · simp [hz]
    generalize hL : given cs.length (fun i => decide ((cs[i]?).map (·.1) = some k)) (fun i => V.int (i : Int)) = L at *
    have hLm : ∀ x ∈ L, ∃ (i : Nat) (b : Bool), x = .int (i : Int) ∧ cs[i]? = some (k, b) := fun x hx => by
      rw [← hL] at hx
      obtain ⟨i, hi, hf, rfl⟩ := given_mem hx
      have hg : cs[i]? = some cs[i] := List.getElem?_eq_getElem hi
      have hf := of_decide_eq_true hf
      rw [hg] at hf
      exact ⟨i, cs[i].2, rfl, by rw [hg]; exact congrArg some (Prod.ext (Option.some.inj hf) rfl)⟩
    have sl := sq_of (K := K) h1
    refine q_when (et_and (et_test (ev_op (ev_cb (ea_cons (ev_var rfl) ea_nil) (rc_lenL sl)) ev_c rv_gtI)) (fun _ => et_test (ev_op (ev_op (ev_cb (ea_cons (ev_var rfl) ea_nil) rc_intI) ev_c (rv_modI (by omega))) ev_c rv_gtI))) (fun hb H2 e2 => ?_) (fun _ H2 e2 => ?_)
    · rw [Bool.and_eq_true] at hb
      have hpos := of_decide_eq_true hb.1
      have hm1 := Int.emod_nonneg (n / 3) (by omega : (L.length : Int) ≠ 0)
      have hm2 := Int.emod_lt_of_pos (n / 3) (by omega : (0 : Int) < L.length)
      have hat := atI_get (xs := L) hm1 hm2 .non
      have hmem : L.getD ((n / 3) % (L.length : Int)).toNat .non ∈ L := by
        rw [List.getD_eq_getElem?_getD, List.getElem?_eq_getElem (by omega)]
        exact List.getElem_mem _
      obtain ⟨i, b, hi, hc⟩ := hLm _ hmem
      rw [hi] at hat
      refine s_retD (K := K) (d := enc (.col i)) (ed_tup (ead_cons (ed_ev ev_c (.str _)) (ead_cons (ed_ev (ev_op (ev_var rfl) (ev_op (ev_op (ev_cb (ea_cons (ev_var rfl) ea_nil) rc_intI) ev_c (rv_divI (by omega) (by omega))) (ev_cb (ea_cons (ev_var rfl) ea_nil) (rc_lenL (ex_l e2 sl))) (rv_modI (by omega))) (rv_ixuL (ex_l e2 sl) hat)) (.int _)) ead_nil)) (Nat.le_of_ble_eq_true rfl)) ((hQ (.col i) ⟨trivial, Nat.zero_le _, b, hc⟩).go (e1.trans e2))
    · refine q_asg (ev_op (ev_cb (ea_cons (ev_var rfl) ea_nil) rc_intI) ev_c (rv_divI (by omega) (by omega))) (fun H9 e9 => ?_)
      have e129 := (e1.trans e2).trans e9
      generalize hr : n / 9 = r
      cases k with
      | bool =>
        refine q_when (b := true) (et_eqS rfl (by decide +kernel)) (fun _ H3 e3 => ?_) (fun z => nomatch z)
        exact s_retD (K := K) (d := enc (.const (.bl (decide (r % 2 = 0))))) (ed_tup (ead_cons (ed_ev ev_c (.str _)) (ead_cons (ed_ev (ev_op (ev_op (ev_var rfl) ev_c (rv_modI (by omega))) ev_c rv_eqII) (.bl _)) ead_nil)) (Nat.le_of_ble_eq_true rfl)) ((hQ _ (gen_const ⟨_, rfl⟩ (.inl rfl))).go (e129.trans e3))
      | int =>
        refine q_when (b := false) (et_eqS rfl (by decide +kernel)) (fun z => nomatch z) (fun _ H3 e3 => ?_)
        refine q_when (b := true) (et_eqS rfl (by decide +kernel)) (fun _ H4 e4 => ?_) (fun z => nomatch z)
        have hix : n / 3 % 3 / 2 = 0 ∨ n / 3 % 3 / 2 = 1 := by omega
        have iv : ∀ {z : Int}, n / 3 % 3 / 2 = z → Ev (tOp rDivI (tOp rModI (tOp rDivI (tCB rIntU (tCons (tVar 1) tNil)) (tC (.int 3))) (tC (.int 3))) (tC (.int 2))) [some (.str Kd.int.name), some (.int n), some y, some (.ref l), some (.int r), none] H4 (.int z) := fun hz => ev_is (ev_op (ev_op (ev_op (ev_cb (ea_cons (ev_var rfl) ea_nil) rc_intI) ev_c (rv_divI (by omega) (by omega))) ev_c (rv_modI (by omega))) ev_c (rv_divI (by omega) (by omega))) (congrArg V.int hz)
        have lv : EvL (tLst (tCons (tOp rSubI (tOp rModI (tVar 4) (tC (.int 21))) (tC (.int 10))) (tCons (tOp rSubI (tOp rModI (tVar 4) (tC (.int 2000000000000001))) (tC (.int 1000000000000000))) tNil))) [some (.str Kd.int.name), some (.int n), some y, some (.ref l), some (.int r), none] H4 [.int (r % 21 - 10), .int (r % 2000000000000001 - 1000000000000000)] := el_lst (ea_cons (ev_op (ev_op (ev_var rfl) ev_c (rv_modI (by omega))) ev_c rv_subI) (ea_cons (ev_op (ev_op (ev_var rfl) ev_c (rv_modI (by omega))) ev_c rv_subI) ea_nil)) (Nat.le_of_ble_eq_true rfl)
        rcases hix with hix | hix
        · exact s_retD (K := K) (d := enc (.const (.int (r % 21 - 10)))) (ed_tup (ead_cons (ed_ev ev_c (.str _)) (ead_cons (ed_ev (ev_ixL1 lv (iv hix) rfl) (.int _)) ead_nil)) (Nat.le_of_ble_eq_true rfl)) ((hQ _ (gen_const ⟨_, rfl, by omega, by omega⟩ (.inr (.inl rfl)))).go (e129.trans (e3.trans e4)))
        · exact s_retD (K := K) (d := enc (.const (.int (r % 2000000000000001 - 1000000000000000)))) (ed_tup (ead_cons (ed_ev ev_c (.str _)) (ead_cons (ed_ev (ev_ixL1 lv (iv hix) rfl) (.int _)) ead_nil)) (Nat.le_of_ble_eq_true rfl)) ((hQ _ (gen_const ⟨_, rfl, by omega, by omega⟩ (.inr (.inl rfl)))).go (e129.trans (e3.trans e4)))
      | text =>
        refine q_when (b := false) (et_eqS rfl (by decide +kernel)) (fun z => nomatch z) (fun _ H3 e3 => ?_)
        refine q_when (b := false) (et_eqS rfl (by decide +kernel)) (fun z => nomatch z) (fun _ H4 e4 => ?_)
        refine q_when (b := true) (et_eqS rfl (by decide +kernel)) (fun _ H5 e5 => ?_) (fun z => nomatch z)
        refine s_retP (K := K) (Pd := fun d => ∃ s, d = enc (.const (.str s)) ∧ OkS s) (ep_tup (eap_cons (ep_ed (Pd := fun d => d = .str "constant") (ed_ev ev_c (.str _)) rfl) (eap_cons (ep_text (n := r) (z := r % 5) (ea_cons (ev_var rfl) (ea_cons (ev_op (ev_var rfl) ev_c (rv_modI (by omega))) ea_nil)) (by omega) (by omega)) eap_nil)) ?_) (fun d hd => ?_)
        · rintro ds ⟨d1, r1, rfl, rfl, d2, r2, rfl, ⟨s, rfl, hs⟩, rfl⟩
          exact ⟨Nat.le_of_ble_eq_true rfl, s, rfl, hs⟩
        · obtain ⟨s, rfl, hs⟩ := hd
          exact (hQ _ (gen_const ⟨s, rfl, hs⟩ (.inr (.inr rfl)))).go (e129.trans ((e3.trans e4).trans e5))
      | date =>
        refine q_when (b := false) (et_eqS rfl (by decide +kernel)) (fun z => nomatch z) (fun _ H3 e3 => ?_)
        refine q_when (b := false) (et_eqS rfl (by decide +kernel)) (fun z => nomatch z) (fun _ H4 e4 => ?_)
        refine q_when (b := false) (et_eqS rfl (by decide +kernel)) (fun z => nomatch z) (fun _ H5 e5 => ?_)
        refine q_when (b := true) (et_eqS rfl (by decide +kernel)) (fun _ H6 e6 => ?_) (fun z => nomatch z)
        exact s_retD (K := K) (d := enc (.un .as_date (.const (.int (r % 3652059 - 719162))))) (ed_tup (ead_cons (ed_ev ev_c (.str _)) (ead_cons (ed_ev ev_c (.str _)) (ead_cons (ed_tup (ead_cons (ed_ev ev_c (.str _)) (ead_cons (ed_ev (ev_op (ev_op (ev_var rfl) ev_c (rv_modI (by omega))) ev_c rv_subI) (.int _)) ead_nil)) (Nat.le_of_ble_eq_true rfl)) ead_nil))) (Nat.le_of_ble_eq_true rfl)) ((hQ (.un .as_date (.const (.int (r % 3652059 - 719162)))) ⟨Or.inr ⟨.int, _, rfl, by omega, by omega⟩, Nat.le_refl _, true, rfl⟩).go (e129.trans (((e3.trans e4).trans e5).trans e6)))
      | dec =>
        refine q_when (b := false) (et_eqS rfl (by decide +kernel)) (fun z => nomatch z) (fun _ H3 e3 => ?_)
        refine q_when (b := false) (et_eqS rfl (by decide +kernel)) (fun z => nomatch z) (fun _ H4 e4 => ?_)
        refine q_when (b := false) (et_eqS rfl (by decide +kernel)) (fun z => nomatch z) (fun _ H5 e5 => ?_)
        refine q_when (b := false) (et_eqS rfl (by decide +kernel)) (fun z => nomatch z) (fun _ H6 e6 => ?_)
        exact s_retD (K := K) (d := enc (.un .as_decimal (.const (.int (r % 400001 - 200000))))) (ed_tup (ead_cons (ed_ev ev_c (.str _)) (ead_cons (ed_ev ev_c (.str _)) (ead_cons (ed_tup (ead_cons (ed_ev ev_c (.str _)) (ead_cons (ed_ev (ev_op (ev_op (ev_var rfl) ev_c (rv_modI (by omega))) ev_c rv_subI) (.int _)) ead_nil)) (Nat.le_of_ble_eq_true rfl)) ead_nil))) (Nat.le_of_ble_eq_true rfl)) ((hQ (.un .as_decimal (.const (.int (r % 400001 - 200000)))) ⟨Or.inr ⟨.int, _, rfl, by omega, by omega⟩, Nat.le_refl _, false, rfl⟩).go (e129.trans (((e3.trans e4).trans e5).trans e6)))



def kdAt (z : Int) : Kd := if z = 0 then .bool else if z = 1 then .int else if z = 2 then .text else if z = 3 then .date else .dec
theorem kd_at {z : Int} (h0 : 0 ≤ z) (h1 : z < 5) : atI [V.str "bool", V.str "int", V.str "text", V.str "date", V.str "decimal"] z = some (.str (kdAt z).name) := by
  have h : z = 0 ∨ z = 1 ∨ z = 2 ∨ z = 3 ∨ z = 4 := by omega
  rcases h with rfl | rfl | rfl | rfl | rfl <;> rfl
def colAt (ns : List Int) (i : Nat) : Kd × Bool := (kdAt (ns.getD i 0 % 5), decide (ns.getD i 0 / 5 % 2 = 0))
theorem lf_cols : ∀ (l : List (Kd × Bool)), lfAll (l.map encC) = true
  | [] => rfl
  | c :: l => by
    simp only [List.map_cons, lfAll, Bool.and_eq_true]
    exact ⟨rfl, lf_cols l⟩
theorem num_at {ns : List Int} {i : Int} (h0 : 0 ≤ i) (h1 : i < ns.length) : atI (ns.map V.int) i = some (.int (ns.getD i.toNat 0)) := by
  rw [atI_get h0 (by rw [List.length_map]; exact h1) (.int 0), List.getD_eq_getElem?_getD, List.getElem?_map, List.getD_eq_getElem?_getD]
  cases ns[i.toNat]? <;> rfl

theorem c__law_columns_of (T : Tx w K mg) : C8.Cal P w K mg base 1 "_law_columns_of" ((fun vs H Q _ => ∃ (a : Addr) (ns : List Int), vs = [.ref a, .int 0, .int 5] ∧ SqL K H a (ns.map V.int) ∧ ns.length = 30 ∧ ∀ cs : Cols, cs.length = 5 → RetD K (.list (cs.map encC)) H Q)) [] := by
  refine mk_cal T (x := "_law_columns_of") (i := 130) (j := 101) (N := ["_law_numbers_here", "_law_at", "_law_count", "_law_kinds", "_law_k"]) (ps := ["_law_numbers_here", "_law_at", "_law_count"]) rfl rfl (by decide +kernel) (fun _ _ _ _ _ _ us hl => match us, hl with | [_, _, _], _ => rfl) (fun vs H Q E h => by obtain ⟨_, _, rfl, _⟩ := h; rfl) (fun cdv A outer s H vs Q E nd hr h => ⟨_, (pss_cons (ps_set (i := 3) nd rfl (.inr rfl) (pe_lst (pa_cons pe_str (pa_cons pe_str (pa_cons pe_str (pa_cons pe_str (pa_cons pe_str pa_nil)))))))
      (pss_one (ps_ret (pe_lc (own := [("_law_k", 4)]) (g := gName 4) (by rfl) nd (pi_range1 (by rfl) T.m_range (pa_cons (pv 2) pa_nil)) (blkOk_by (own := [("_law_k", 4)]) (N := ["_law_numbers_here", "_law_at", "_law_count", "_law_kinds", "_law_k"]) (sc := C8.fnScope (top 130)) (by decide +kernel)) (fun _ _ _ _ _ => pg_name (i := 4) nd rfl (.inl rfl)) (fun _ _ _ _ _ => pts_nil) (fun _ _ _ _ _ => (pe_tup (pa_cons (pe_ix (ix_seqK (K := K) rfl) (pv 3) (pe_op o_mod (pe_callTy b_int (by rfl) T.m_int boot_int (pa_cons (pe_ix (ix_seqK (K := K) rfl) (pv 0) (pe_op o_add (pv 1) (pv 4)) (fun _ _ => rfl)) pa_nil)) pe_int) (fun _ _ => rfl)) (pa_cons (pe_cmpR op_eq (pe_op o_mod (pe_op o_div (pe_callTy b_int (by rfl) T.m_int boot_int (pa_cons (pe_ix (ix_seqK (K := K) rfl) (pv 0) (pe_op o_add (pv 1) (pv 4)) (fun _ _ => rfl)) pa_nil)) pe_int) pe_int) pe_int (nomark _)) pa_nil)))))))), ?hb⟩)
  case hb =>
    obtain ⟨a, ns, rfl, hx, hn, hQ⟩ := h
    refine q_asgL (el_lst (ea_cons ev_c (ea_cons ev_c (ea_cons ev_c (ea_cons ev_c (ea_cons ev_c ea_nil))))) (Nat.le_of_ble_eq_true rfl)) (fun l H1 hl e1 h1 => ?_)
    have sl := sq_of (K := K) h1
    have hx1 := ex_l e1 hx
    refine s_retD (K := K) (d := .list (((List.range 5).map (colAt ns)).map encC)) (ed_lcRD (n := 5) (ea_cons (ev_var rfl) ea_nil) (by omega) rfl (lf_cols _) (fun _ => rfl) (fun i d H2 e2 hi => ?_)) ((hQ _ rfl).go e1)
    have hi5 : i < 5 := by
      have := (List.getElem?_eq_some_iff.mp hi).1
      simpa using this
    rw [List.getElem?_map, List.getElem?_map, List.getElem?_range hi5] at hi
    cases hi
    have nv : Ev (tCB rIntU (tCons (tOp (rIx K) (tVar 0) (tOp rAddU (tVar 1) (tVar 4))) tNil)) [some (.ref a), some (.int 0), some (.int 5), some (.ref l), some (.int (i : Int))] H2 (.int (ns.getD i 0)) := by
      have hat := num_at (ns := ns) (i := (0 : Int) + (i : Int)) (by omega) (by omega)
      have e0 : ((0 : Int) + (i : Int)).toNat = i := by omega
      rw [e0] at hat
      exact ev_cb (ea_cons (ev_op (ev_var rfl) (ev_op (ev_var rfl) (ev_var rfl) rv_addI) (rv_ixuL (ex_l e2 hx1) hat)) ea_nil) rc_intI
    exact ed_tup (ead_cons (ed_ev (ev_op (ev_var rfl) (ev_op nv ev_c (rv_modI (by omega))) (rv_ixuL (ex_l e2 sl) (kd_at (by omega) (by omega)))) (.str _)) (ead_cons (ed_ev (ev_op (ev_op (ev_op nv ev_c (rv_divI (by omega) (by omega))) ev_c (rv_modI (by omega))) ev_c rv_eqII) (.bl _)) ead_nil)) (Nat.le_of_ble_eq_true rfl)


def spCell : Sp := fun vs H Q _ => ∃ (k : Kd) (b : Bool) (n : Int), vs = [.str k.name, .bl b, .int n] ∧ ∀ v, FitN (k, b) v → RetV v H Q


theorem s_ret0 {σ : L2.St} {H : Hp} {te : TE} {D : Ends} (h : EvP K te σ H (fun d => ∃ s, d = .str s ∧ OkS s)) (k : ∀ s, OkS s → ∀ H1, Ex H H1 → D.rt (.str s) H1) : tRet te D σ H := h H (Ex.refl H) _ fun d v H1 hd e hv => by
  obtain ⟨s, rfl, hs⟩ := hd
  cases hv
  exact k s hs H1 e

theorem c__law_cell (T : Tx w K mg) : C8.Cal P w K mg base 2 "_law_cell" (spCell) [] := by
  refine mk_cal T (x := "_law_cell") (i := 131) (j := 102) (N := ["_law_kind", "_law_nullable", "_law_number", "_law_rest"]) (ps := ["_law_kind", "_law_nullable", "_law_number"]) rfl rfl (by decide +kernel) (fun _ _ _ _ _ _ us hl => match us, hl with | [_, _, _], _ => rfl) (fun vs H Q E h => by obtain ⟨_, _, _, rfl, _⟩ := h; rfl) (fun cdv A outer s H vs Q E nd hr h => ⟨_, (pss_cons (ps_if (PW.pt (pw_and (pt_val (pv 1)) (pw_and1 (pt_cmpR op_eq (pe_op o_mod (pe_callTy b_int (by rfl) T.m_int boot_int (pa_cons (pv 2) pa_nil)) pe_int) pe_int (nomark _))))) (pss_one (ps_ret pe_non)) pss_nil)
      (pss_cons (ps_set (i := 3) nd rfl (.inl rfl) (pe_op o_div (pe_callTy b_int (by rfl) T.m_int boot_int (pa_cons (pv 2) pa_nil)) pe_int))
      (pss_cons (ps_if (pt_cmpR op_eq (pv 0) pe_str (nomark _)) (pss_one (ps_ret (pe_cmpR op_eq (pe_op o_mod (pv 3) pe_int) pe_int (nomark _)))) pss_nil)
      (pss_cons (ps_if (pt_cmpR op_eq (pv 0) pe_str (nomark _)) (pss_one (ps_ret (C8.pe_c (show C8.Cal P w K mg base 1 "_law_text" spTx [] from c__law_text T) hr (by decide) (by rfl) (pa_cons (pe_op o_div (pv 3) pe_int) (pa_cons (pe_op o_mod (pv 3) pe_int) pa_nil))))) pss_nil)
      (pss_cons (ps_if (pt_cmpR op_eq (pv 0) pe_str (nomark _)) (pss_one (ps_ret (pe_ix ix_seq (pe_lst (pa_cons (pe_op o_sub (pe_op o_mod (pv 3) pe_int) pe_int) (pa_cons (pe_op o_mod (pv 3) pe_int) pa_nil))) (pe_op o_div (pe_op o_mod (pv 3) pe_int) pe_int) (fun _ _ => rfl)))) pss_nil)
      (pss_one (ps_ret (pe_ix ix_seq (pe_lst (pa_cons (pe_op o_sub (pe_op o_mod (pv 3) pe_int) pe_int) (pa_cons (pe_op o_sub (pe_op o_mod (pv 3) pe_int) pe_int) (pa_cons (pe_op o_mod (pv 3) pe_int) pa_nil)))) (pe_op o_div (pe_op o_mod (pv 3) pe_int) pe_int) (fun _ _ => rfl))))))))), ?hb⟩)
  case hb =>
    obtain ⟨k, b, n, rfl, hQ⟩ := h
    refine q_when (b := b && decide (n % 4 = 0)) (et_and (et_B (ev_var rfl)) (fun _ => et_test (ev_op (ev_op (ev_cb (ea_cons (ev_var rfl) ea_nil) rc_intI) ev_c (rv_modI (by omega))) ev_c rv_eqII))) (fun hb H1 e1 => ?_) (fun _ H1 e1 => ?_)
    · rw [Bool.and_eq_true] at hb
      exact s_ret ev_c (fun H2 e2 => fin (hQ _ (.inl ⟨rfl, hb.1⟩)) (e1.trans e2) rfl)
    · refine q_asg (ev_op (ev_cb (ea_cons (ev_var rfl) ea_nil) rc_intI) ev_c (rv_divI (by omega) (by omega))) (fun H2 e2 => ?_)
      have e12 := e1.trans e2
      generalize hr : n / 4 = r
      cases k with
      | bool =>
        refine q_when (b := true) (et_eqS rfl (by decide +kernel)) (fun _ H3 e3 => ?_) (fun z => nomatch z)
        exact s_ret (ev_op (ev_op (ev_var rfl) ev_c (rv_modI (by omega))) ev_c rv_eqII) (fun H9 e9 => fin (hQ _ (.inr ⟨_, rfl⟩)) ((e12.trans e3).trans e9) rfl)
      | int =>
        refine q_when (b := false) (et_eqS rfl (by decide +kernel)) (fun z => nomatch z) (fun _ H3 e3 => ?_)
        refine q_when (b := false) (et_eqS rfl (by decide +kernel)) (fun z => nomatch z) (fun _ H4 e4 => ?_)
        refine q_when (b := false) (et_eqS rfl (by decide +kernel)) (fun z => nomatch z) (fun _ H5 e5 => ?_)
        have hix : r % 5 / 2 = 0 ∨ r % 5 / 2 = 1 ∨ r % 5 / 2 = 2 := by omega
        have iv : ∀ {z : Int}, r % 5 / 2 = z → Ev (tOp rDivI (tOp rModI (tVar 3) (tC (.int 5))) (tC (.int 2))) [some (.str Kd.int.name), some (.bl b), some (.int n), some (.int r)] H5 (.int z) := fun hz => ev_is (ev_op (ev_op (ev_var rfl) ev_c (rv_modI (by omega))) ev_c (rv_divI (by omega) (by omega))) (congrArg V.int hz)
        have lv : EvL (tLst (tCons (tOp rSubI (tOp rModI (tVar 3) (tC (.int 15))) (tC (.int 7))) (tCons (tOp rSubI (tOp rModI (tVar 3) (tC (.int 2000000000000001))) (tC (.int 1000000000000000))) (tCons (tOp rModI (tVar 3) (tC (.int 100001))) tNil)))) [some (.str Kd.int.name), some (.bl b), some (.int n), some (.int r)] H5 [.int (r % 15 - 7), .int (r % 2000000000000001 - 1000000000000000), .int (r % 100001)] := el_lst (ea_cons (ev_op (ev_op (ev_var rfl) ev_c (rv_modI (by omega))) ev_c rv_subI) (ea_cons (ev_op (ev_op (ev_var rfl) ev_c (rv_modI (by omega))) ev_c rv_subI) (ea_cons (ev_op (ev_var rfl) ev_c (rv_modI (by omega))) ea_nil))) (Nat.le_of_ble_eq_true rfl)
        rcases hix with hix | hix | hix
        · exact s_ret (ev_ixL1 lv (iv hix) rfl) (fun H9 e9 => fin (hQ _ (.inr ⟨_, rfl, by omega, by omega⟩)) ((e12.trans ((e3.trans e4).trans e5)).trans e9) rfl)
        · exact s_ret (ev_ixL1 lv (iv hix) rfl) (fun H9 e9 => fin (hQ _ (.inr ⟨_, rfl, by omega, by omega⟩)) ((e12.trans ((e3.trans e4).trans e5)).trans e9) rfl)
        · exact s_ret (ev_ixL1 lv (iv hix) rfl) (fun H9 e9 => fin (hQ _ (.inr ⟨_, rfl, by omega, by omega⟩)) ((e12.trans ((e3.trans e4).trans e5)).trans e9) rfl)
      | text =>
        refine q_when (b := false) (et_eqS rfl (by decide +kernel)) (fun z => nomatch z) (fun _ H3 e3 => ?_)
        refine q_when (b := true) (et_eqS rfl (by decide +kernel)) (fun _ H4 e4 => ?_) (fun z => nomatch z)
        exact s_ret0 (ep_text (K := K) (n := r / 7) (z := r % 7) (ea_cons (ev_op (ev_var rfl) ev_c (rv_divI (by omega) (by omega))) (ea_cons (ev_op (ev_var rfl) ev_c (rv_modI (by omega))) ea_nil)) (by omega) (by omega)) (fun s hs H9 e9 => fin (hQ _ (.inr ⟨s, rfl, hs⟩)) ((e12.trans (e3.trans e4)).trans e9) rfl)
      | date =>
        refine q_when (b := false) (et_eqS rfl (by decide +kernel)) (fun z => nomatch z) (fun _ H3 e3 => ?_)
        refine q_when (b := false) (et_eqS rfl (by decide +kernel)) (fun z => nomatch z) (fun _ H4 e4 => ?_)
        refine q_when (b := true) (et_eqS rfl (by decide +kernel)) (fun _ H5 e5 => ?_) (fun z => nomatch z)
        have hix : r % 3 / 2 = 0 ∨ r % 3 / 2 = 1 := by omega
        have iv : ∀ {z : Int}, r % 3 / 2 = z → Ev (tOp rDivI (tOp rModI (tVar 3) (tC (.int 3))) (tC (.int 2))) [some (.str Kd.date.name), some (.bl b), some (.int n), some (.int r)] H5 (.int z) := fun hz => ev_is (ev_op (ev_op (ev_var rfl) ev_c (rv_modI (by omega))) ev_c (rv_divI (by omega) (by omega))) (congrArg V.int hz)
        have lv : EvL (tLst (tCons (tOp rSubI (tOp rModI (tVar 3) (tC (.int 3652059))) (tC (.int 719162))) (tCons (tOp rModI (tVar 3) (tC (.int 800))) tNil))) [some (.str Kd.date.name), some (.bl b), some (.int n), some (.int r)] H5 [.int (r % 3652059 - 719162), .int (r % 800)] := el_lst (ea_cons (ev_op (ev_op (ev_var rfl) ev_c (rv_modI (by omega))) ev_c rv_subI) (ea_cons (ev_op (ev_var rfl) ev_c (rv_modI (by omega))) ea_nil)) (Nat.le_of_ble_eq_true rfl)
        rcases hix with hix | hix
        · exact s_ret (ev_ixL1 lv (iv hix) rfl) (fun H9 e9 => fin (hQ _ (.inr ⟨_, rfl, by omega, by omega⟩)) ((e12.trans ((e3.trans e4).trans e5)).trans e9) rfl)
        · exact s_ret (ev_ixL1 lv (iv hix) rfl) (fun H9 e9 => fin (hQ _ (.inr ⟨_, rfl, by omega, by omega⟩)) ((e12.trans ((e3.trans e4).trans e5)).trans e9) rfl)
      | dec =>
        refine q_when (b := false) (et_eqS rfl (by decide +kernel)) (fun z => nomatch z) (fun _ H3 e3 => ?_)
        refine q_when (b := false) (et_eqS rfl (by decide +kernel)) (fun z => nomatch z) (fun _ H4 e4 => ?_)
        refine q_when (b := false) (et_eqS rfl (by decide +kernel)) (fun z => nomatch z) (fun _ H5 e5 => ?_)
        have hix : r % 5 / 2 = 0 ∨ r % 5 / 2 = 1 ∨ r % 5 / 2 = 2 := by omega
        have iv : ∀ {z : Int}, r % 5 / 2 = z → Ev (tOp rDivI (tOp rModI (tVar 3) (tC (.int 5))) (tC (.int 2))) [some (.str Kd.dec.name), some (.bl b), some (.int n), some (.int r)] H5 (.int z) := fun hz => ev_is (ev_op (ev_op (ev_var rfl) ev_c (rv_modI (by omega))) ev_c (rv_divI (by omega) (by omega))) (congrArg V.int hz)
        have lv : EvL (tLst (tCons (tOp rSubI (tOp rModI (tVar 3) (tC (.int 15))) (tC (.int 7))) (tCons (tOp rSubI (tOp rModI (tVar 3) (tC (.int 2000000000000001))) (tC (.int 1000000000000000))) (tCons (tOp rModI (tVar 3) (tC (.int 100001))) tNil)))) [some (.str Kd.dec.name), some (.bl b), some (.int n), some (.int r)] H5 [.int (r % 15 - 7), .int (r % 2000000000000001 - 1000000000000000), .int (r % 100001)] := el_lst (ea_cons (ev_op (ev_op (ev_var rfl) ev_c (rv_modI (by omega))) ev_c rv_subI) (ea_cons (ev_op (ev_op (ev_var rfl) ev_c (rv_modI (by omega))) ev_c rv_subI) (ea_cons (ev_op (ev_var rfl) ev_c (rv_modI (by omega))) ea_nil))) (Nat.le_of_ble_eq_true rfl)
        rcases hix with hix | hix | hix
        · exact s_ret (ev_ixL1 lv (iv hix) rfl) (fun H9 e9 => fin (hQ _ (.inr ⟨_, rfl, by omega, by omega⟩)) ((e12.trans ((e3.trans e4).trans e5)).trans e9) rfl)
        · exact s_ret (ev_ixL1 lv (iv hix) rfl) (fun H9 e9 => fin (hQ _ (.inr ⟨_, rfl, by omega, by omega⟩)) ((e12.trans ((e3.trans e4).trans e5)).trans e9) rfl)
        · exact s_ret (ev_ixL1 lv (iv hix) rfl) (fun H9 e9 => fin (hQ _ (.inr ⟨_, rfl, by omega, by omega⟩)) ((e12.trans ((e3.trans e4).trans e5)).trans e9) rfl)



theorem fit_is {k : Kd} {v : V} (h : FitK k v) : fitB v k.name = true := by
  cases k with
  | bool => obtain ⟨b, rfl⟩ := h; rfl
  | int =>
    obtain ⟨i, rfl, h1, h2⟩ := h
    show (decide (-1000000000000000 ≤ i) && decide (i ≤ 1000000000000000)) = true
    rw [decide_eq_true h1, decide_eq_true h2]
    rfl
  | text =>
    obtain ⟨s, rfl, h1⟩ := h
    show decide (s.length ≤ 10000) = true
    exact decide_eq_true h1.1
  | date =>
    obtain ⟨i, rfl, h1, h2⟩ := h
    show (decide (-719162 ≤ i) && decide (i ≤ 2932896)) = true
    rw [decide_eq_true h1, decide_eq_true h2]
    rfl
  | dec =>
    obtain ⟨i, rfl, h1, h2⟩ := h
    show (decide (-1000000000000000 ≤ i) && decide (i ≤ 1000000000000000)) = true
    rw [decide_eq_true h1, decide_eq_true h2]
    rfl
theorem ec_fit {σ : L2.St} {H : Hp} {tA : TA} {E : XK} {v : V} {z : Str} (h : EvA tA σ H [v, .str z]) (c : Sc2 v) : Ev (tCall (spVV (fun v k => Sc2 v ∧ ∃ z, k = .str z) fitF) [] E tA) σ H (.bl (fitB v z)) := ec_VV h ⟨c, z, rfl⟩
theorem fit_nn {k : Kd} {v : V} (h : FitK k v) : decide (v = .non) = false := by
  cases k with
  | bool => obtain ⟨b, rfl⟩ := h; rfl
  | int => obtain ⟨b, rfl, _⟩ := h; rfl
  | text => obtain ⟨b, rfl, _⟩ := h; rfl
  | date => obtain ⟨b, rfl, _⟩ := h; rfl
  | dec => obtain ⟨b, rfl, _⟩ := h; rfl
def spSo (K : PySem.W.Frag) : Sp := fun vs H Q _ => ∃ (c : Kd × Bool) (v y : V), vs = [v, y] ∧ Dp K H y (encC c) ∧ FitN c v ∧ RetV (.bl true) H Q

theorem c__law_sound (T : Tx w K mg) : C8.Cal P w K mg base 4 "_law_sound" (spSo K) [] := by
  refine mk_cal T (x := "_law_sound") (i := 133) (j := 104) (N := ["_law_value", "_law_told"]) (ps := ["_law_value", "_law_told"]) rfl rfl (by decide +kernel) (fun _ _ _ _ _ _ us hl => match us, hl with | [_, _], _ => rfl) (fun vs H Q E h => by obtain ⟨_, _, _, rfl, _⟩ := h; rfl) (fun cdv A outer s H vs Q E nd hr h => ⟨_, (pss_cons (ps_if (pt_cmpR o_isN (pv 0) pe_non (nomark _)) (pss_one (ps_ret (pe_cmpR o_isU (pe_ix ix_seq (pv 1) pe_int (fun _ _ => rfl)) pe_bl (nomark _)))) pss_nil)
      (pss_one (ps_ret (pe_and (C8.pe_c (c__law_fits T) hr (by decide) (by rfl) (pa_cons (pv 0) (pa_cons (pe_ix ix_seq (pv 1) pe_int (fun _ _ => rfl)) pa_nil))) (pe_one (pe_cmpR o_isU (C8.pe_c (c_fits T) hr (by decide) (by rfl) (pa_cons (pv 0) (pa_cons (pe_ix ix_seq (pv 1) pe_int (fun _ _ => rfl)) pa_nil))) pe_bl (nomark _))))))), ?hb⟩)
  case hb =>
    obtain ⟨c, v, y, rfl, hy, hf, hQ⟩ := h
    rcases hf with ⟨rfl, hc⟩ | hf
    · refine q_when (b := true) (et_test (ev_op (ev_var rfl) ev_c rv_isNd)) (fun _ H1 e1 => ?_) (fun z => nomatch z)
      refine s_ret (ev_op (ev_k1 (ed_var rfl (dp_ex e1 _ _ hy))) ev_c rv_isBB) (fun H2 e2 => fin hQ (e1.trans e2) ?_)
      rw [hc]
      rfl
    · refine q_when (b := false) (et_is (et_test (ev_op (ev_var rfl) ev_c rv_isNd)) (fit_nn hf)) (fun z => nomatch z) (fun _ H1 e1 => ?_)
      have hy1 := dp_ex e1 _ _ hy
      have fv : ∀ {E : XK}, Ev (tCall (spVV (fun v k => Sc2 v ∧ ∃ z, k = .str z) fitF) [] E (tCons (tVar 0) (tCons (tOp (rIx K) (tVar 1) (tC (.int 0))) tNil))) [some v, some y] H1 (.bl true) := ev_is (ec_fit (ea_cons (ev_var rfl) (ea_cons (ev_k0 (ed_var rfl hy1)) ea_nil)) hf.ok.sc2) (congrArg V.bl (fit_is hf))
      exact s_ret (ev_and1 fv (ev_op fv ev_c rv_isBB)) (fun H2 e2 => fin hQ (e1.trans e2) rfl)

end

section
variable {P : Program} {w : World} {K : PySem.W.Frag} {mg : Str → Option Value} {base : Heap}

/-! ### the maker of expressions -/
theorem pe_c0 {X : Cx} {k j : Nat} {x : Str} {sp : Sp} {p pos : Pos} (c : C8.Cal X.prog X.w X.K X.mg X.base k x sp []) (hr : Room j X.A) (hk : k ≤ j) (hg : Gl X x) (hdb : (x == ("__debug__" : Str)) = false := by decide) : PE X (.Call (.Name x p) [] [] pos) (tCall sp [] C8.E0 tNil) := by
  obtain ⟨f, fd, ps, ds, F, hm, kp, b, d⟩ := c.ex
  exact pe_call0 F (hr.mono hk) hg hm kp b d C8.pass0 hdb
section
variable {σ : L2.St} {H H' : Hp} {ta tb te tx tl : TE} {tA tr : TA} {E : XK} {D : Ends} {tz tu : TS} {t : TT} {d : PyData} {ds es : List PyData} {v : V} {Pd Pe : PyData → Prop}
theorem er_cat2 {l : Addr} {ys : List V} (h : EvR K ta σ H ds) (h2 : Ev tb σ H (.ref l)) (hl : H l = some (.lst ys)) (hx : DpAll K H ys es) (hz : ds.length + es.length ≤ 100000) : EvR K (tOp rCat ta tb) σ H (ds ++ es) := fun H1 e Q q =>
  h H1 e _ fun a H2 xs _ e2 ha hxs => h2 H2 (e.trans e2) _ fun H3 e3 => ⟨a, l, xs, ys, rfl, rfl, e3 a _ ha, ((e.trans e2).trans e3) l _ hl, sz_of (by rw [dpa_len hx, dpa_len hxs]; exact hz), fun p hp => q p _ _ (fresh_back (e2.trans e3) hp) ((e2.trans e3).trans (Ex.new hp)) upd_same (dpa_ex (Ex.new hp) _ _ (dpa_app (dpa_ex e3 _ _ hxs) (dpa_ex ((e.trans e2).trans e3) _ _ hx)))⟩
theorem s_appP {l : Addr} {xs : List V} (hl : H l = some (.lst xs)) (ha : Ev ta σ H (.ref l)) (h : EvP K te σ H Pd) (hz : xs.length < 100000) (hx : DpAll K H xs ds) (hf : lfAll ds = true) (hd : ∀ d, Pd d → lf d = true)
    (k : ∀ d H1 ys, Pd d → Ex H H1 → ys.length = xs.length + 1 → DpAll K (upd H1 l (.lst ys)) ys (ds ++ [d]) → D.nx σ (upd H1 l (.lst ys))) : tDrop (tBM K "list" rAppend ta (tCons te tNil)) D σ H := ha H (Ex.refl H) _ fun H1 e1 =>
  ⟨Or.inl ⟨rfl, xs, sq_of (e1 l _ hl)⟩, h H1 e1 _ fun d v H2 hp e2 hv => ⟨l, xs, v, rfl, rfl, e2 l _ (e1 l _ hl), sz_lt hz, k d H2 (xs ++ [v]) hp (e1.trans e2) (by simp) (dpa_mut (e2 l _ (e1 l _ hl)) _ _ (lf_app hf (hd d hp)) (dpa_app (dpa_ex (e1.trans e2) _ _ hx) (.cons hv .nil)))⟩⟩
/-- [x for x in l if t]: the items as they are -/
def kept (es : List PyData) (f : Nat → Bool) (i : Nat) : List PyData := ((List.range i).filter f).map fun j => es.getD j .none
theorem er_lcF {j : Nat} {vs : List Nat} {f : Nat → Bool} (h : EvD K tl σ H (.list es)) (hz : es.length ≤ 40000) (hj : j < σ.length) (hvs : vs = [j])
    (ht : ∀ (i : Nat) x e H1, Ex H H1 → es[i]? = some e → Dp K H1 x e → EvT t ((σ.set j none).set j (some x)) H1 (f i)) : EvR K (tLc (iList K tl) (gName j) t (tVar j) vs) σ H (kept es f es.length) := fun H0 e Q q => h H0 e _ fun v H1 e1 hv => by
  subst hvs
  have hw : ∀ x, wipe ((wipe σ [j]).set j (some x)) [j] = wipe σ [j] := fun x => by
    show (((σ.set j none).set j (some x)).set j none) = σ.set j none
    rw [List.set_set, List.set_set]
  cases hv with
  | lst hq hx =>
    rename_i a xs
    have ln := dpa_len hx
    refine ⟨a, rfl, ⟨xs, hq⟩, fun Dl hD => lc_list (xs := xs) (fun i H' => H1 Dl = none ∧ Ex H1 H' ∧ ∃ acc, H' Dl = some (.lst acc) ∧ DpAll K H1 acc (kept es f i)) ⟨hD, Ex.new hD, [], upd_same, .nil⟩ (fun i H' _ p => ex_l p.2.1 hq) (fun i x H' hi p => ?_) (fun H' p => ?_)⟩
    · obtain ⟨p1, p2, acc, p3, p4⟩ := p
      obtain ⟨e0, he1, he2⟩ := dpa_get' hx hi
      have hlt : i < es.length := (List.getElem?_eq_some_iff.mp he1).1
      have ge : es.getD i .none = e0 := by rw [List.getD_eq_getElem?_getD, he1]; rfl
      have accl : acc.length ≤ i := by
        rw [dpa_len p4]
        unfold kept
        rw [List.length_map]
        have := List.length_filter_le f (List.range i)
        rw [List.length_range] at this
        exact this
      refine ⟨hw x, ?_⟩
      refine ht i x e0 H' ((e.trans e1).trans p2) he1 (dp_ex p2 _ _ he2) H' (Ex.refl H') _ fun H3 e3 => ?_
      cases hf : f i with
      | true =>
        show (tVar j) ((wipe σ [j]).set j (some x)) H3 fun y H4 => ∃ acc, H4 Dl = some (.lst acc) ∧ acc.length < sizeLine ∧ (H1 Dl = none ∧ Ex H1 (upd H4 Dl (.lst (acc ++ [y]))) ∧ ∃ acc2, (upd H4 Dl (.lst (acc ++ [y]))) Dl = some (.lst acc2) ∧ DpAll K H1 acc2 (kept es f (i + 1)))
        refine (ev_var (v := x) (i := j) (by
          show ((σ.set j none).set j (some x))[j]? = _
          rw [List.set_set, List.getElem?_set_self hj])) H3 (Ex.refl H3) _ fun H4 e4 => ⟨acc, e4 Dl _ (e3 Dl _ p3), sz_lt (by omega), p1, Ex.mut ((p2.trans e3).trans e4) p1, _, upd_same, ?_⟩
        unfold kept at p4 ⊢
        rw [List.range_succ, List.filter_append, List.map_append, List.filter_cons, if_pos hf]
        refine dpa_app p4 (.cons ?_ .nil)
        show Dp K H1 x (es.getD i .none)
        rw [ge]
        exact he2
      | false =>
        show H1 Dl = none ∧ Ex H1 H3 ∧ ∃ acc, H3 Dl = some (.lst acc) ∧ DpAll K H1 acc (kept es f (i + 1))
        refine ⟨p1, p2.trans e3, acc, e3 Dl _ p3, ?_⟩
        unfold kept at p4 ⊢
        rw [List.range_succ, List.filter_append, List.map_append, List.filter_cons, if_neg (by rw [hf]; exact Bool.false_ne_true)]
        show DpAll K H1 acc (_ ++ [])
        rw [List.append_nil]
        exact p4
    · obtain ⟨p1, p2, acc, p3, p4⟩ := p
      rw [ln] at p4
      exact q Dl H' acc (fresh_back e1 p1) (e1.trans p2) p3 (dpa_ex p2 _ _ p4)
theorem kept_mem {es : List PyData} {f : Nat → Bool} {n : Nat} {d : PyData} (h : d ∈ kept es f n) : ∃ i, i < n ∧ f i = true ∧ d = es.getD i .none := by
  unfold kept at h
  obtain ⟨i, hi, rfl⟩ := List.mem_map.mp h
  rw [List.mem_filter, List.mem_range] at hi
  exact ⟨i, hi.1, hi.2, rfl⟩
end
def spKn (K : PySem.W.Frag) (d : Nat) : Sp := fun vs H Q _ => ∃ (k : Kd) (n : Int) (p : Nat) (cs : Cols) (y : V), vs = [.str k.name, .int n, .int (p : Int), y] ∧ p < d ∧ Dp K H y (.list (cs.map encC)) ∧ cs.length ≤ 100 ∧ ∀ e, Gen cs k (p + 1) e → RetD K (enc e) H Q
theorem ep_kn {σ : L2.St} {H : Hp} {tA : TA} {E : XK} {d : Nat} {k : Kd} {n : Int} {p : Nat} {cs : Cols} {y : V} (h : EvA tA σ H [.str k.name, .int n, .int (p : Int), y]) (hp : p < d) (hy : Dp K H y (.list (cs.map encC))) (hc : cs.length ≤ 100) : EvP K (tCall (spKn K d) [] E tA) σ H (fun d => ∃ e, d = enc e ∧ Gen cs k (p + 1) e) := fun H1 e1 Q q =>
  h H1 e1 _ fun H2 e2 => ⟨k, n, p, cs, y, rfl, hp, dp_ex (e1.trans e2) _ _ hy, hc, fun e he v H3 e3 hv => q (enc e) v H3 ⟨e, rfl, he⟩ (e2.trans e3) hv⟩
theorem ep_lf {σ : L2.St} {H : Hp} {tA : TA} {E : XK} {k : Kd} {n : Int} {cs : Cols} {y : V} (h : EvA tA σ H [.str k.name, .int n, y]) (hy : Dp K H y (.list (cs.map encC))) (hc : cs.length ≤ 100) : EvP K (tCall (spLf K) [] E tA) σ H (fun d => ∃ e, d = enc e ∧ Gen cs k 1 e) := fun H1 e1 Q q =>
  h H1 e1 _ fun H2 e2 => ⟨k, n, cs, y, rfl, dp_ex (e1.trans e2) _ _ hy, hc, fun e he v H3 e3 hv => q (enc e) v H3 ⟨e, rfl, he⟩ (e2.trans e3) hv⟩
theorem kd_any (k : Kd) : decide (k.name = "any") = false := by cases k <;> rfl
theorem gen_ch {cs : Cols} {k : Kd} {p : Nat} {a b c : Xp} (ha : Gen cs .bool p a) (hb : Gen cs k p b) (hc : Gen cs k p c ∨ c = .const .non) : Gen cs k (p + 1) (.ch a b c) := by
  obtain ⟨a1, a2, ba, a3⟩ := ha
  obtain ⟨b1, b2, bb, b3⟩ := hb
  rcases hc with ⟨c1, c2, bc, c3⟩ | rfl
  · refine ⟨⟨a1, b1, c1⟩, ?_, bb || bc, ?_⟩
    · show max (dpx a) (max (dpx b) (dpx c)) + 1 ≤ p + 1
      omega
    · simp [kdX, a3, b3, c3]
  · refine ⟨⟨a1, b1, .inl rfl⟩, ?_, true, ?_⟩
    · show max (dpx a) (max (dpx b) 0) + 1 ≤ p + 1
      omega
    · simp [kdX, a3, b3, ckX, isNull]
theorem gen_b3 {cs : Cols} {k : Kd} {p : Nat} {a b : Xp} {u : B} (hu : u = .coalesce ∨ u = .least ∨ u = .greatest) (ha : Gen cs k p a) (hb : Gen cs k p b) : Gen cs k (p + 1) (.bin u a b) := by
  obtain ⟨a1, a2, ba, a3⟩ := ha
  obtain ⟨b1, b2, bb, b3⟩ := hb
  refine ⟨⟨a1, b1⟩, ?_, ?_⟩
  · show max (dpx a) (dpx b) + 1 ≤ p + 1
    omega
  · rw [kd_bin, a3, b3]
    rcases hu with rfl | rfl | rfl
    · exact ⟨_, if_pos rfl⟩
    · exact ⟨_, if_pos rfl⟩
    · exact ⟨_, if_pos rfl⟩
def kinds5 : List Kd := [.bool, .int, .text, .date, .dec]
theorem mem5 (k : Kd) : k ∈ kinds5 := by cases k <;> decide
def mOk (m : Mr) : Bool := match m.op, m.ks with
  | .mu u, [x] => kinds5.all fun o => [true, false].all fun b => decide ((kdU u (x.getD o, b)).map (·.1) = some m.r)
  | .mb u, [x, y] => kinds5.all fun o => [true, false].all fun b => [true, false].all fun c => decide ((kdB u (x.getD o, b) (y.getD o, c)).map (·.1) = some m.r)
  | .mt u, [x, y, z] => kinds5.all fun o => decide ((x.getD o, y.getD o, z.getD o) = tK u) && decide (m.r = .text)
  | _, _ => false
theorem makers_ok : makers.all mOk = true := by decide +kernel
theorem makers_ks : makers.all (fun m => decide (m.ks.length ≤ 3)) = true := by decide +kernel
theorem mem2 (b : Bool) : b ∈ [true, false] := by cases b <;> decide
theorem opt_kind {c : Option (Kd × Bool)} {k : Kd} (h : c.map (·.1) = some k) : ∃ b, c = some (k, b) := by
  cases c with
  | none => cases h
  | some c =>
    obtain ⟨x, y⟩ := c
    cases h
    exact ⟨y, rfl⟩
theorem build {cs : Cols} {m : Mr} {o : Kd} {p : Nat} {es : List Xp} (hm : mOk m = true) (hl : es.length = m.ks.length) (hg : ∀ (j : Nat) e x, es[j]? = some e → m.ks[j]? = some x → Gen cs (x.getD o) p e) : ∃ e, enc e = .tuple ([.str m.op.form, .str m.op.name] ++ es.map enc) ∧ Gen cs m.r (p + 1) e := by
  obtain ⟨op, ks, r⟩ := m
  cases op with
  | mu u =>
    match ks, hm, hl, hg with
    | [x], hm, hl, hg =>
      obtain ⟨a, rfl⟩ := len1 hl
      obtain ⟨a1, a2, ba, a3⟩ := hg 0 a x rfl rfl
      have hk := List.all_eq_true.mp (List.all_eq_true.mp hm o (mem5 o)) ba (mem2 ba)
      obtain ⟨b, hb⟩ := opt_kind (of_decide_eq_true hk)
      refine ⟨.un u a, rfl, a1, Nat.succ_le_succ a2, b, ?_⟩
      rw [kd_un, a3]
      exact hb
    | [], hm, _, _ => cases hm
    | _ :: _ :: _, hm, _, _ => cases hm
  | mb u =>
    match ks, hm, hl, hg with
    | [x, y], hm, hl, hg =>
      obtain ⟨a, c, rfl⟩ := len2 hl
      obtain ⟨a1, a2, ba, a3⟩ := hg 0 a x rfl rfl
      obtain ⟨c1, c2, bc, c3⟩ := hg 1 c y rfl rfl
      have hk := List.all_eq_true.mp (List.all_eq_true.mp (List.all_eq_true.mp hm o (mem5 o)) ba (mem2 ba)) bc (mem2 bc)
      obtain ⟨b, hb⟩ := opt_kind (of_decide_eq_true hk)
      refine ⟨.bin u a c, rfl, ⟨a1, c1⟩, ?_, b, ?_⟩
      · show max (dpx a) (dpx c) + 1 ≤ p + 1
        omega
      · rw [kd_bin, a3, c3]
        exact hb
    | [], hm, _, _ => cases hm
    | [_], hm, _, _ => cases hm
    | _ :: _ :: _ :: _, hm, _, _ => cases hm
  | mt u =>
    match ks, hm, hl, hg with
    | [x, y, z], hm, hl, hg =>
      obtain ⟨a, c, d, rfl⟩ := len3 hl
      obtain ⟨a1, a2, ba, a3⟩ := hg 0 a x rfl rfl
      obtain ⟨c1, c2, bc, c3⟩ := hg 1 c y rfl rfl
      obtain ⟨d1, d2, bd, d3⟩ := hg 2 d z rfl rfl
      have hk := List.all_eq_true.mp hm o (mem5 o)
      rw [Bool.and_eq_true] at hk
      have h1 := of_decide_eq_true hk.1
      have h2 : r = .text := of_decide_eq_true hk.2
      subst h2
      refine ⟨.ter u a c d, rfl, ⟨a1, c1, d1⟩, ?_, true, ?_⟩
      · show max (dpx a) (max (dpx c) (dpx d)) + 1 ≤ p + 1
        omega
      · rw [kd_ter, a3, c3, d3]
        exact if_pos h1
    | [], hm, _, _ => cases hm
    | [_], hm, _, _ => cases hm
    | [_, _], hm, _, _ => cases hm
    | _ :: _ :: _ :: _ :: _, hm, _, _ => cases hm
def ofKind (k : Kd) (i : Nat) : Bool := decide ((makers[i]?).map (·.r) = some k)
def rowsK (k : Kd) : List PyData := kept (makers.map mrD) (ofKind k) makers.length
theorem rowsK_len (k : Kd) : 0 < (rowsK k).length ∧ (rowsK k).length ≤ 100 := by
  unfold rowsK kept
  rw [List.length_map]
  cases k <;> decide +kernel
theorem rowsK_mem {k : Kd} {d : PyData} (h : d ∈ rowsK k) : ∃ m, m ∈ makers ∧ m.r = k ∧ d = mrD m := by
  obtain ⟨i, hi, hf, rfl⟩ := kept_mem h
  have hg : makers[i]? = some makers[i] := List.getElem?_eq_getElem hi
  have hf := of_decide_eq_true hf
  rw [hg] at hf
  refine ⟨makers[i], List.getElem_mem _, Option.some.inj hf, ?_⟩
  rw [List.getD_eq_getElem?_getD, List.getElem?_map, hg]
  rfl
theorem atI_3 {z : Int} (h : z = 0 ∨ z = 1 ∨ z = 2) {α : Type} {a b c : α} : ∃ x, atI [a, b, c] z = some x ∧ (x = a ∨ x = b ∨ x = c) := by
  rcases h with rfl | rfl | rfl
  · exact ⟨a, rfl, .inl rfl⟩
  · exact ⟨b, rfl, .inr (.inl rfl)⟩
  · exact ⟨c, rfl, .inr (.inr rfl)⟩
theorem wid_3 {z : Int} (h : z = 0 ∨ z = 1 ∨ z = 2) : ∃ x : Int, atI [V.int 16, V.int 512, V.int 16384] z = some (.int x) ∧ 0 < x ∧ x ≤ 16384 := by
  rcases h with rfl | rfl | rfl
  · exact ⟨16, rfl, by omega, by omega⟩
  · exact ⟨512, rfl, by omega, by omega⟩
  · exact ⟨16384, rfl, by omega, by omega⟩
theorem ev_int {σ : L2.St} {H : Hp} {te : TE} {a b : Int} (h : Ev te σ H (.int a)) (e : a = b) : Ev te σ H (.int b) := e ▸ h
theorem spMk {H : Hp} {σ : L2.St} {E : XK} {sp : Sp} {d : PyData} (h : ∀ H1, Ex H H1 → ∀ Q, RetD K d H1 Q → sp [] H1 Q E) : EvD K (tCall sp [] E tNil) σ H d := fun H1 e1 Q q => h H1 e1 Q fun v H2 e2 hv => q v H2 e2 hv

theorem cz__law_kinded (T : Tx w K mg) : C8.Cal P w K mg base 1 "_law_kinded" (fun _ _ _ _ => False) [] :=
  mk_cal T (x := "_law_kinded") (i := 128) (j := 99) (N := ["_law_kind", "_law_number", "_law_depth", "_law_columns", "_law_rest", "_law_rows", "_law_row", "_law_other", "_law_parts", "_law_k", "_law_first", "_law_last", "_law_name", "_law_wanted"]) (ps := ["_law_kind", "_law_number", "_law_depth", "_law_columns"]) rfl rfl (by decide +kernel) (fun _ _ _ _ _ _ us hl => match us, hl with | [_, _, _, _], _ => rfl) (fun _ _ _ _ h => h.elim) (fun _ _ _ _ _ _ _ _ _ _ h => h.elim)

theorem cs__law_kinded {d : Nat} (ih : C8.Cal P w K mg base (3 + d) "_law_kinded" (spKn K d) []) (T : Tx w K mg) : C8.Cal P w K mg base (3 + d + 1) "_law_kinded" (spKn K (d + 1)) [] := by
  refine mk_cal T (x := "_law_kinded") (i := 128) (j := 99) (N := ["_law_kind", "_law_number", "_law_depth", "_law_columns", "_law_rest", "_law_rows", "_law_row", "_law_other", "_law_parts", "_law_k", "_law_first", "_law_last", "_law_name", "_law_wanted"]) (ps := ["_law_kind", "_law_number", "_law_depth", "_law_columns"]) rfl rfl (by decide +kernel) (fun _ _ _ _ _ _ us hl => match us, hl with | [_, _, _, _], _ => rfl) (fun vs H Q E h => by obtain ⟨_, _, _, _, _, rfl, _⟩ := h; rfl) (fun cdv A outer s H vs Q E nd hr h => ⟨_, (pss_cons (ps_set (i := 4) nd rfl (.inl rfl) (pe_op o_div (pe_callTy b_int (by rfl) T.m_int boot_int (pa_cons (pv 1) pa_nil)) pe_int))
      (pss_cons (ps_if (PW.pt (pw_or (pt_cmpR op_eq (pv 2) pe_int (nomark _)) (pw_or1 (pt_cmpR o_lt (pe_op o_mod (pe_callTy b_int (by rfl) T.m_int boot_int (pa_cons (pv 1) pa_nil)) pe_int) pe_int (nomark _))))) (pss_one (ps_ret (C8.pe_c (c__law_leaf T) hr (by omega) (by rfl) (pa_cons (pv 0) (pa_cons (pv 4) (pa_cons (pv 3) pa_nil)))))) pss_nil)
      (pss_cons (ps_if (pt_cmpR op_eq (pe_op o_mod (pe_callTy b_int (by rfl) T.m_int boot_int (pa_cons (pv 1) pa_nil)) pe_int) pe_int (nomark _)) (pss_cons (ps_set (i := 10) nd rfl (.inl rfl) (C8.pe_c ih hr (Nat.le_refl _) (by rfl) (pa_cons pe_str (pa_cons (pe_op o_add (pe_op o_div (pv 4) pe_int) pe_int) (pa_cons (pe_op o_sub (pv 2) pe_int) (pa_cons (pv 3) pa_nil))))))
      (pss_cons (ps_set (i := 11) nd rfl (.inl rfl) (C8.pe_c ih hr (Nat.le_refl _) (by rfl) (pa_cons (pv 0) (pa_cons (pe_op o_add (pe_op o_div (pv 4) pe_int) pe_int) (pa_cons (pe_op o_sub (pv 2) pe_int) (pa_cons (pv 3) pa_nil))))))
      (pss_cons (ps_if (pt_cmpR op_eq (pe_op o_mod (pv 4) pe_int) pe_int (nomark _)) (pss_one (ps_set (i := 11) nd rfl (.inl rfl) (pe_tup (pa_cons pe_str (pa_cons pe_non pa_nil))))) pss_nil)
      (pss_one (ps_ret (pe_tup (pa_cons pe_str (pa_cons (pv 10) (pa_cons (C8.pe_c ih hr (Nat.le_refl _) (by rfl) (pa_cons (pv 0) (pa_cons (pe_op o_add (pe_op o_div (pv 4) pe_int) pe_int) (pa_cons (pe_op o_sub (pv 2) pe_int) (pa_cons (pv 3) pa_nil))))) (pa_cons (pv 11) pa_nil)))))))))) pss_nil)
      (pss_cons (ps_if (pt_cmpR op_eq (pe_op o_mod (pe_callTy b_int (by rfl) T.m_int boot_int (pa_cons (pv 1) pa_nil)) pe_int) pe_int (nomark _)) (pss_cons (ps_set (i := 12) nd rfl (.inl rfl) (pe_ix ix_seq (pe_lst (pa_cons pe_str (pa_cons pe_str (pa_cons pe_str pa_nil)))) (pe_op o_mod (pv 4) pe_int) (fun _ _ => rfl)))
      (pss_one (ps_ret (pe_tup (pa_cons pe_str (pa_cons (pv 12) (pa_cons (C8.pe_c ih hr (Nat.le_refl _) (by rfl) (pa_cons (pv 0) (pa_cons (pe_op o_add (pe_op o_div (pv 4) pe_int) pe_int) (pa_cons (pe_op o_sub (pv 2) pe_int) (pa_cons (pv 3) pa_nil))))) (pa_cons (C8.pe_c ih hr (Nat.le_refl _) (by rfl) (pa_cons (pv 0) (pa_cons (pe_op o_add (pe_op o_div (pv 4) pe_int) pe_int) (pa_cons (pe_op o_sub (pv 2) pe_int) (pa_cons (pv 3) pa_nil))))) pa_nil)))))))) pss_nil)
      (pss_cons (ps_setLc (i := 5) (own := [("_law_row", 6)]) (g := gName 6) (by rfl) nd rfl rfl (sw_true rfl rfl rfl (by decide +kernel)) (pi_list (pe_c0 (c__law_makers T) hr (by omega) (by rfl))) (blkOk_by (own := [("_law_row", 6)]) (N := ["_law_kind", "_law_number", "_law_depth", "_law_columns", "_law_rest", "_law_rows", "_law_row", "_law_other", "_law_parts", "_law_k", "_law_first", "_law_last", "_law_name", "_law_wanted"]) (sc := C8.fnScope (top 128)) (by decide +kernel)) (fun _ _ _ _ _ => pg_name (i := 6) nd rfl (.inl rfl)) (fun _ _ _ _ _ => (pts_one (pt_cmpR op_eq (pe_ix (ix_seqK (K := K) rfl) (pv 6) pe_int (fun _ _ => rfl)) (pv 0) (nomark _)))) (fun _ _ _ _ _ => (pv 6)))
      (pss_cons (ps_set (i := 6) nd rfl (.inl rfl) (pe_ix ix_seq (pv 5) (pe_op o_mod (pe_op o_div (pe_callTy b_int (by rfl) T.m_int boot_int (pa_cons (pv 1) pa_nil)) pe_int) (pe_callB b_len (by rfl) T.m_len boot_len (pa_cons (pv 5) pa_nil))) (fun _ _ => rfl)))
      (pss_cons (ps_set (i := 7) nd rfl (.inl rfl) (pe_ix ix_seq (pe_lst (pa_cons pe_str (pa_cons pe_str (pa_cons pe_str (pa_cons pe_str (pa_cons pe_str pa_nil)))))) (pe_op o_mod (pe_op o_div (pv 4) pe_int) pe_int) (fun _ _ => rfl)))
      (pss_cons (ps_set (i := 8) nd rfl (.inl rfl) (pe_lst pa_nil))
      (pss_cons (ps_for PassesOwn.never rfl (pi_range1 (by rfl) T.m_range (pa_cons (pe_callB b_len (by rfl) T.m_len boot_len (pa_cons (pe_ix ix_seq (pv 6) pe_int (fun _ _ => rfl)) pa_nil)) pa_nil)) (pg_name (i := 9) nd rfl (.inl rfl)) (pss_cons (ps_set (i := 13) nd rfl (.inl rfl) (pe_ix ix_seq (pe_ix ix_seq (pv 6) pe_int (fun _ _ => rfl)) (pv 9) (fun _ _ => rfl)))
      (pss_cons (ps_if (pt_cmpR op_eq (pv 13) pe_str (nomark _)) (pss_one (ps_set (i := 13) nd rfl (.inl rfl) (pv 7))) pss_nil)
      (pss_one (ps_expr (pe_bm PySem.F.plainAttrs_list PySem.F.slot_list_append PySem.F.type_list_append mt_append (pv 8) (pa_cons (C8.pe_c ih hr (Nat.le_refl _) (by rfl) (pa_cons (pv 13) (pa_cons (pe_op o_add (pe_op o_add (pe_op o_div (pv 4) (pe_ix ix_seq (pe_lst (pa_cons pe_int (pa_cons pe_int (pa_cons pe_int pa_nil)))) (pv 9) (fun _ _ => rfl))) (pe_op o_mul pe_int (pv 9))) pe_int) (pa_cons (pe_op o_sub (pv 2) pe_int) (pa_cons (pv 3) pa_nil))))) pa_nil)))))))
      (pss_one (ps_ret (pe_callTy b_tuple (by rfl) T.m_tuple boot_tuple (pa_cons (pe_op op_cat (pe_lst (pa_cons (pe_ix ix_seq (pv 6) pe_int (fun _ _ => rfl)) (pa_cons (pe_ix ix_seq (pv 6) pe_int (fun _ _ => rfl)) pa_nil))) (pv 8)) pa_nil))))))))))))), ?hb⟩)
  case hb =>
    obtain ⟨k, n, p, cs, y, rfl, hp, hy, hcs, hQ⟩ := h
    refine q_asg (v := .int (n / 12)) (ev_op (ev_cb (ea_cons (ev_var rfl) ea_nil) rc_intI) ev_c (rv_divI (by omega) (by omega))) (fun H1 e1 => ?_)
    generalize n / 12 = r at *
    have hy1 := dp_ex e1 _ _ hy
    refine q_when (et_or (et_test (ev_op (ev_var rfl) ev_c rv_eqII)) (fun _ => et_test (ev_op (ev_op (ev_cb (ea_cons (ev_var rfl) ea_nil) rc_intI) ev_c (rv_modI (by omega))) ev_c rv_ltI))) (fun hb H2 e2 => ?_) (fun hb H2 e2 => ?_)
    · refine s_retP (K := K) (ep_lf (k := k) (n := r) (ea_cons (ev_var rfl) (ea_cons (ev_var rfl) (ea_cons (ev_var rfl) ea_nil))) (dp_ex e2 _ _ hy1) hcs) (fun d hd => ?_)
      obtain ⟨e, rfl, hg⟩ := hd
      exact (hQ e (hg.mono (by omega))).go (e1.trans e2)
    · rw [Bool.or_eq_false_iff] at hb
      have hp0 : ¬ (p : Int) = 0 := of_decide_eq_false hb.1
      have hp1 : (p : Int) - 1 = ((p - 1 : Nat) : Int) := by omega
      have hpp : p - 1 + 1 = p := by omega
      have hy2 := dp_ex e2 _ _ hy1
      have e12 := e1.trans e2
      refine q_when (et_test (ev_op (ev_op (ev_cb (ea_cons (ev_var rfl) ea_nil) rc_intI) ev_c (rv_modI (by omega))) ev_c rv_eqII)) (fun _ H3 e3 => ?_) (fun _ H3 e3 => ?_)
      · -- a choice
        have hy3 := dp_ex e3 _ _ hy2
        refine q_asgP (ep_kn (k := .bool) (p := p - 1) (ea_cons ev_c (ea_cons (ev_op (ev_op (ev_var rfl) ev_c (rv_divI (by omega) (by omega))) ev_c rv_addI) (ea_cons (ev_int (ev_op (ev_var rfl) ev_c rv_subI) hp1) (ea_cons (ev_var rfl) ea_nil)))) (by omega) hy3 hcs) (fun d1 v1 H4 hd1 e4 hv1 => ?_)
        have hy4 := dp_ex e4 _ _ hy3
        refine q_asgP (ep_kn (k := k) (p := p - 1) (ea_cons (ev_var rfl) (ea_cons (ev_op (ev_op (ev_var rfl) ev_c (rv_divI (by omega) (by omega))) ev_c rv_addI) (ea_cons (ev_int (ev_op (ev_var rfl) ev_c rv_subI) hp1) (ea_cons (ev_var rfl) ea_nil)))) (by omega) hy4 hcs) (fun d2 v2 H5 hd2 e5 hv2 => ?_)
        obtain ⟨a, rfl, ga⟩ := hd1
        obtain ⟨c, rfl, gc⟩ := hd2
        rw [hpp] at ga gc
        have hy5 := dp_ex e5 _ _ hy4
        have hv1 := dp_ex e5 _ _ hv1
        have last : ∀ (D : Ends) (H6 : Hp) (v3 : V) (c : Xp), D.rt = Q → Ex H5 H6 → Dp K H6 v3 (enc c) → (Gen cs k p c ∨ c = .const .non) → tRet (tTup (tCons (tC (.str "choice")) (tCons (tVar 10) (tCons (tCall (spKn K d) [] C8.E0 (tCons (tVar 0) (tCons (tOp rAddU (tOp rDivI (tVar 4) (tC (.int 256))) (tC (.int 7))) (tCons (tOp rSubI (tVar 2) (tC (.int 1))) (tCons (tVar 3) tNil))))) (tCons (tVar 11) tNil))))) D [some (.str k.name), some (.int n), some (.int p), some y, some (.int r), none, none, none, none, none, some v1, some v3, none, none] H6 := by
          intro D H6 v3 c hD e6 hv3 hc
          refine s_retP (K := K) (Pd := fun d => ∃ e, d = enc e ∧ Gen cs k (p + 1) e) (ep_tup (eap_cons (ep_ed (Pd := fun d => d = .str "choice") (ed_ev ev_c (.str _)) rfl) (eap_cons (ep_ed (Pd := fun d => d = enc a) (ed_var rfl (dp_ex e6 _ _ hv1)) rfl) (eap_cons (ep_kn (k := k) (p := p - 1) (ea_cons (ev_var rfl) (ea_cons (ev_op (ev_op (ev_var rfl) ev_c (rv_divI (by omega) (by omega))) ev_c rv_addI) (ea_cons (ev_int (ev_op (ev_var rfl) ev_c rv_subI) hp1) (ea_cons (ev_var rfl) ea_nil)))) (by omega) (dp_ex e6 _ _ hy5) hcs) (eap_cons (ep_ed (Pd := fun d => d = enc c) (ed_var rfl hv3) rfl) eap_nil)))) ?_) (fun d hd => ?_)
          · rintro ds ⟨d1, r1, rfl, rfl, d2, r2, rfl, rfl, d3, r3, rfl, ⟨b, rfl, gb⟩, d4, r4, rfl, rfl, rfl⟩
            rw [hpp] at gb
            exact ⟨Nat.le_of_ble_eq_true rfl, .ch a b c, rfl, gen_ch ga gb hc⟩
          · obtain ⟨e, rfl, hg⟩ := hd
            rw [hD]
            exact (hQ e hg).go (((e12.trans e3).trans e4).trans (e5.trans e6))
        refine q_when (et_test (ev_op (ev_op (ev_var rfl) ev_c (rv_modI (by omega))) ev_c rv_eqII)) (fun _ H6 e6 => ?_) (fun _ H6 e6 => last _ H6 v2 c rfl e6 (dp_ex e6 _ _ hv2) (.inl gc))
        exact s_asgD (K := K) (d := enc (.const .non)) (ed_tup (ead_cons (ed_ev ev_c (.str _)) (ead_cons (ed_ev ev_c .non) ead_nil)) (Nat.le_of_ble_eq_true rfl)) (fun v3 H7 e7 hv3 => last _ H7 v3 (.const .non) rfl (e6.trans e7) hv3 (.inr rfl))
      · have hy3 := dp_ex e3 _ _ hy2
        refine q_when (et_test (ev_op (ev_op (ev_cb (ea_cons (ev_var rfl) ea_nil) rc_intI) ev_c (rv_modI (by omega))) ev_c rv_eqII)) (fun _ H4 e4 => ?_) (fun _ H4 e4 => ?_)
        · -- coalesce, least, greatest
          have hy4 := dp_ex e4 _ _ hy3
          obtain ⟨nm, hat, hnm⟩ := atI_3 (z := r % 3) (by omega) (a := V.str "coalesce") (b := V.str "least") (c := V.str "greatest")
          have hu : ∃ u : B, nm = .str u.name ∧ (u = .coalesce ∨ u = .least ∨ u = .greatest) := by
            rcases hnm with rfl | rfl | rfl
            · exact ⟨.coalesce, rfl, .inl rfl⟩
            · exact ⟨.least, rfl, .inr (.inl rfl)⟩
            · exact ⟨.greatest, rfl, .inr (.inr rfl)⟩
          obtain ⟨u, rfl, hu⟩ := hu
          refine q_asg (ev_ixL1 (el_lst (ea_cons ev_c (ea_cons ev_c (ea_cons ev_c ea_nil))) (Nat.le_of_ble_eq_true rfl)) (ev_op (ev_var rfl) ev_c (rv_modI (by omega))) hat) (fun H5 e5 => ?_)
          have hy5 := dp_ex e5 _ _ hy4
          refine s_retP (K := K) (Pd := fun d => ∃ e, d = enc e ∧ Gen cs k (p + 1) e) (ep_tup (eap_cons (ep_ed (Pd := fun d => d = .str "binary") (ed_ev ev_c (.str _)) rfl) (eap_cons (ep_ed (Pd := fun d => d = .str u.name) (ed_var rfl (.str _)) rfl) (eap_cons (ep_kn (k := k) (p := p - 1) (ea_cons (ev_var rfl) (ea_cons (ev_op (ev_op (ev_var rfl) ev_c (rv_divI (by omega) (by omega))) ev_c rv_addI) (ea_cons (ev_int (ev_op (ev_var rfl) ev_c rv_subI) hp1) (ea_cons (ev_var rfl) ea_nil)))) (by omega) hy5 hcs) (eap_cons (ep_kn (k := k) (p := p - 1) (ea_cons (ev_var rfl) (ea_cons (ev_op (ev_op (ev_var rfl) ev_c (rv_divI (by omega) (by omega))) ev_c rv_addI) (ea_cons (ev_int (ev_op (ev_var rfl) ev_c rv_subI) hp1) (ea_cons (ev_var rfl) ea_nil)))) (by omega) hy5 hcs) eap_nil)))) ?_) (fun d hd => ?_)
          · rintro ds ⟨d1, r1, rfl, rfl, d2, r2, rfl, rfl, d3, r3, rfl, ⟨a, rfl, ga⟩, d4, r4, rfl, ⟨b, rfl, gb⟩, rfl⟩
            rw [hpp] at ga gb
            exact ⟨Nat.le_of_ble_eq_true rfl, .bin u a b, rfl, gen_b3 hu ga gb⟩
          · obtain ⟨e, rfl, hg⟩ := hd
            exact (hQ e hg).go ((e12.trans e3).trans (e4.trans e5))
        · -- a row of the makers
          have hy4 := dp_ex e4 _ _ hy3
          have e14 := (e12.trans e3).trans e4
          refine q_asgR (K := K) (ds := rowsK k) ?rows (fun l5 H5 xs5 _ e5 hl5 hx5 => ?_)
          case rows =>
            have hsrc : EvD K (tCall (fun vs H Q _ => vs = [] ∧ RetD K (.list (makers.map mrD)) H Q) [] C8.E0 tNil) [some (.str k.name), some (.int n), some (.int p), some y, some (.int r), none, none, none, none, none, none, none, none, none] H4 (.list (makers.map mrD)) := spMk fun H1 _ Q q => ⟨rfl, q⟩
            have hr := er_lcF (K := K) (f := ofKind k) (t := tTest (tOp rEq (tOp (rIx K) (tVar 6) (tC (.int 3))) (tVar 0))) (j := 6) (vs := [6]) hsrc (by rw [List.length_map]; decide +kernel) (Nat.le_of_ble_eq_true rfl) rfl (fun i x e H1 f1 hi hx => ?_)
            · rw [List.length_map] at hr
              exact hr
            · rw [List.getElem?_map] at hi
              cases hm : makers[i]? with
              | none => rw [hm] at hi; cases hi
              | some m =>
                rw [hm] at hi
                cases hi
                refine et_is (et_test (ev_op (ev_dS (ed_ixT (ds := [.str m.op.form, .str m.op.name, .list ((m.ks.map knm).map .str), .str m.r.name]) (ed_var rfl hx) ev_c rfl)) (ev_var rfl) rv_eqSS)) ?_
                rw [kd_dec]
                unfold ofKind
                rw [hm]
                by_cases hz : m.r = k
                · simp [hz]
                · simp [hz]
          obtain ⟨len0, len1⟩ := rowsK_len k
          have hxl : xs5.length = (rowsK k).length := dpa_len hx5
          have hrows : Dp K H5 (.ref l5) (.list (rowsK k)) := .lst (sq_of hl5) hx5
          have hm1 := Int.emod_nonneg (n / 12) (by omega : ((rowsK k).length : Int) ≠ 0)
          have hm2 := Int.emod_lt_of_pos (n / 12) (by omega : (0 : Int) < (rowsK k).length)
          have hat := atI_get (xs := rowsK k) hm1 hm2 .none
          have hmem : (rowsK k).getD ((n / 12) % ((rowsK k).length : Int)).toNat .none ∈ rowsK k := by
            rw [List.getD_eq_getElem?_getD, List.getElem?_eq_getElem (by omega)]
            exact List.getElem_mem _
          obtain ⟨m, hmm, hmr, hmd⟩ := rowsK_mem hmem
          rw [hmd] at hat
          refine q_asgD (d := mrD m) (ed_ixL (ed_var rfl hrows) (ev_op (ev_op (ev_cb (ea_cons (ev_var rfl) ea_nil) rc_intI) ev_c (rv_divI (by omega) (by omega))) (ev_lenD (ed_var rfl hrows)) (rv_modI (by omega))) hat) (fun rv H6 e6 hrv => ?_)
          have hrv : Dp K H6 rv (.tuple [.str m.op.form, .str m.op.name, .list ((m.ks.map knm).map .str), .str m.r.name]) := hrv
          refine q_asg (ev_ixL1 (el_lst (ea_cons ev_c (ea_cons ev_c (ea_cons ev_c (ea_cons ev_c (ea_cons ev_c ea_nil))))) (Nat.le_of_ble_eq_true rfl)) (ev_op (ev_op (ev_var rfl) ev_c (rv_divI (by omega) (by omega))) ev_c (rv_modI (by omega))) (kd_at (z := r / 64 % 5) (by omega) (by omega))) (fun H7 e7 => ?_)
          generalize kdAt (r / 64 % 5) = o
          have mok : mOk m = true := List.all_eq_true.mp makers_ok m hmm
          have mks : m.ks.length ≤ 3 := of_decide_eq_true (List.all_eq_true.mp makers_ks m hmm)
          have hrv7 := dp_ex e7 _ _ hrv
          have hy7 := dp_ex ((e5.trans e6).trans e7) _ _ hy4
          have e17 := ((e14.trans e5).trans e6).trans e7
          refine q_asgL (xs := []) (el_lst ea_nil (Nat.zero_le _)) (fun l H8 hl e8 h8 => ?_)
          refine q_forR1 (n := (m.ks.length : Int)) (ea_cons (ev_is (ev_lenD (ed_ixT (ed_var rfl (dp_ex e8 _ _ hrv7)) ev_c rfl)) (by simp)) ea_nil) (by omega) (fun i σ' H' => ∃ (s9 s13 : Option V) (xs : List V) (es : List Xp), σ' = [some (.str k.name), some (.int n), some (.int p), some y, some (.int r), some (.ref l5), some rv, some (.str o.name), some (.ref l), s9, none, none, none, s13] ∧ Ex H7 H' ∧ H' l = some (.lst xs) ∧ DpAll K H' xs (es.map enc) ∧ es.length = i ∧ ∀ (j : Nat) e x, es[j]? = some e → m.ks[j]? = some x → Gen cs (x.getD o) p e) (fun H9 e9 => ⟨none, none, [], [], rfl, e8.trans e9, e9 l _ h8, .nil, rfl, fun j e x hj => by simp at hj⟩) (fun i σ' H' hi q => ?_) (fun σ' H' q => ?_)
          · obtain ⟨s9, s13, xs, es, rfl, qe, ql, qx, qn, qg⟩ := q
            have hi : i < m.ks.length := by omega
            obtain ⟨x, hx⟩ : ∃ x, m.ks[i]? = some x := ⟨_, List.getElem?_eq_getElem hi⟩
            have hrv9 := dp_ex qe _ _ hrv7
            have hy9 := dp_ex qe _ _ hy7
            have hxl : xs.length = i := by
              have := dpa_len qx
              rw [List.length_map] at this
              omega
            have lfe : lfAll (es.map enc) = true := lf_encs fun a ha => by
              obtain ⟨j, hj⟩ := List.getElem?_of_mem ha
              have hj2 := (List.getElem?_eq_some_iff.mp hj).1
              exact (qg j a _ hj (List.getElem?_eq_getElem (by omega))).1.ok
            refine q_asg (v := .str (knm x)) (ev_dS (ed_ixL (ed_ixT (ed_var rfl hrv9) ev_c rfl) (ev_var rfl) (L2.atI_nat (by rw [List.getElem?_map, List.getElem?_map, hx]; rfl)))) (fun H9 e9 => ?_)
            have add : ∀ (D : Ends) (H10 : Hp), D.nx = (fun σ' H' => ∃ (s9 s13 : Option V) (xs : List V) (es : List Xp), σ' = [some (.str k.name), some (.int n), some (.int p), some y, some (.int r), some (.ref l5), some rv, some (.str o.name), some (.ref l), s9, none, none, none, s13] ∧ Ex H7 H' ∧ H' l = some (.lst xs) ∧ DpAll K H' xs (es.map enc) ∧ es.length = i + 1 ∧ ∀ (j : Nat) e x, es[j]? = some e → m.ks[j]? = some x → Gen cs (x.getD o) p e) → Ex H' H10 → tDrop (tBM K "list" rAppend (tVar 8) (tCons (tCall (spKn K d) [] C8.E0 (tCons (tVar 13) (tCons (tOp rAddU (tOp rAddU (tOp rDivI (tVar 4) (tOp (rIx K) (tLst (tCons (tC (.int 16)) (tCons (tC (.int 512)) (tCons (tC (.int 16384)) tNil)))) (tVar 9))) (tOp rMulI (tC (.int 5)) (tVar 9))) (tC (.int 1))) (tCons (tOp rSubI (tVar 2) (tC (.int 1))) (tCons (tVar 3) tNil))))) tNil)) D [some (.str k.name), some (.int n), some (.int p), some y, some (.int r), some (.ref l5), some rv, some (.str o.name), some (.ref l), some (.int i), none, none, none, some (.str (x.getD o).name)] H10 := by
              intro D H10 hD e10
              obtain ⟨wd, hwd, hw0, hw1⟩ := wid_3 (z := (i : Int)) (by omega)
              refine s_appP (e10 l _ ql) (ev_var rfl) (ep_kn (k := x.getD o) (p := p - 1) (ea_cons (ev_var rfl) (ea_cons (ev_op (ev_op (ev_op (ev_var rfl) (ev_ixL1 (el_lst (ea_cons ev_c (ea_cons ev_c (ea_cons ev_c ea_nil))) (Nat.le_of_ble_eq_true rfl)) (ev_var rfl) hwd) (rv_divI hw0 (by omega))) (ev_op ev_c (ev_var rfl) (rv_mulL (by omega) (by omega))) rv_addI) ev_c rv_addI) (ea_cons (ev_int (ev_op (ev_var rfl) ev_c rv_subI) hp1) (ea_cons (ev_var rfl) ea_nil)))) (by omega) (dp_ex e10 _ _ hy9) hcs) (by omega) (dpa_ex e10 _ _ qx) lfe (fun d hd => ?_) (fun d H11 ys hd e11 yl hys => ?_)
              · obtain ⟨e, rfl, hg⟩ := hd
                exact lf_enc hg.1.ok
              · obtain ⟨e, rfl, hg⟩ := hd
                rw [hpp] at hg
                rw [hD]
                refine ⟨_, _, ys, es ++ [e], rfl, Ex.mut ((qe.trans e10).trans e11) hl, upd_same, by rw [List.map_append]; exact hys, by simp [qn], fun j e2 x2 hj hx2 => ?_⟩
                by_cases hji : j < es.length
                · rw [List.getElem?_append_left hji] at hj
                  exact qg j e2 x2 hj hx2
                · have hj2 : j = i := by
                    have := (List.getElem?_eq_some_iff.mp hj).1
                    rw [List.length_append, List.length_singleton] at this
                    omega
                  subst hj2
                  rw [List.getElem?_append_right (by omega), qn] at hj
                  simp at hj
                  subst hj
                  rw [hx] at hx2
                  cases hx2
                  exact hg
            cases x with
            | none =>
              refine q_when (b := true) (et_eqS rfl (by rfl)) (fun _ H10 e10 => ?_) (fun z => nomatch z)
              exact s_asg (ev_var rfl) (fun H11 e11 => add _ H11 rfl ((e9.trans e10).trans e11))
            | some k2 =>
              refine q_when (b := false) (et_eqS rfl (kd_any k2)) (fun z => nomatch z) (fun _ H10 e10 => add _ H10 rfl (e9.trans e10))
          · obtain ⟨s9, s13, xs, es, rfl, qe, ql, qx, qn, qg⟩ := q
            have qn : es.length = m.ks.length := by omega
            obtain ⟨e, he, hg⟩ := build mok qn qg
            rw [hmr] at hg
            have hrv9 := dp_ex qe _ _ hrv7
            refine s_retD (K := K) (d := enc e) (ed_is (ed_tupL (ed_R (er_cat2 (er_lst (ead_cons (ed_ixT (ed_var rfl hrv9) ev_c rfl) (ead_cons (ed_ixT (ed_var rfl hrv9) ev_c rfl) ead_nil)) (Nat.le_of_ble_eq_true rfl)) (ev_var rfl) ql qx (by rw [List.length_map]; show 2 + es.length ≤ 100000; omega)))) he.symm) ((hQ e hg).go (e17.trans qe))


theorem c__law_kinded (T : Tx w K mg) : ∀ d : Nat, C8.Cal P w K mg base (3 + d) "_law_kinded" (spKn K d) []
  | 0 => cal_up (cal_imp (cz__law_kinded T) fun vs H Q E h => by
    obtain ⟨k, n, p, cs, y, _, hp, _⟩ := h
    exact absurd hp (Nat.not_lt_zero _)) (by decide)
  | d + 1 => cs__law_kinded (c__law_kinded T d) T

end

section
variable {P : Program} {w : World} {K : PySem.W.Frag} {mg : Str → Option Value} {base : Heap}
/-! ### the plain law: kinds are kept -/
def RowFit (cs : Cols) (row : List V) : Prop := ∀ (j : Nat) c, cs[j]? = some c → ∃ v, row[j]? = some v ∧ FitN c v
theorem limF_fit (i : Int) : limF i = .non ∨ FitK .int (limF i) := by
  unfold limF
  split
  · rename_i h
    exact .inr ⟨i, rfl, h.1, h.2⟩
  · exact .inl rfl
theorem dayOfF_fit (y m d : Int) : dayOfF y m d = .non ∨ FitK .date (dayOfF y m d) := by
  unfold dayOfF
  split
  · rename_i h
    have := dayOf_bd h.1.1 h.1.2 h.2.1.1 h.2.1.2 h.2.2.1 h.2.2.2
    exact .inr ⟨_, rfl, this.1, this.2⟩
  · exact .inl rfl
theorem dig_cases (t : Str) : digValF t = .non ∨ ∃ n, digValF t = .int n ∧ 0 ≤ n := by
  unfold digValF
  split
  · exact .inl rfl
  · exact .inr ⟨_, rfl, numOf_nn _⟩
theorem finNum_fit (b : Bool) (t : Str) : finNum b (digValF t) = .non ∨ FitK .int (finNum b (digValF t)) := by
  rcases dig_cases t with h | ⟨n, h, h0⟩
  · rw [h]
    exact .inl rfl
  · rw [h]
    show (if 1000000000000000 < n then V.non else if b = true then .int (-n) else .int n) = .non ∨ FitK .int (if 1000000000000000 < n then V.non else if b = true then .int (-n) else .int n)
    split
    · exact .inl rfl
    · split
      · exact .inr ⟨_, rfl, by omega, by omega⟩
      · exact .inr ⟨_, rfl, by omega, by omega⟩
theorem low_ok {s : Str} (h : OkS s) : OkS (lowS s) := ⟨by unfold lowS; rw [ex_len]; exact h.1, ex_asc h.2 (asc_all (by decide +kernel)) rfl⟩
theorem up_ok {s : Str} (h : OkS s) : OkS (upS s) := ⟨by unfold upS; rw [ex_len]; exact h.1, ex_asc h.2 (asc_all (by decide +kernel)) rfl⟩
theorem date_ok {i : Int} (h1 : -719162 ≤ i) (h2 : i ≤ 2932896) : OkS (dateStr i) := by
  have a := year_bd (n := i - -719162) (by omega) (by omega)
  have b := mon_bd (n := i - -719162) (by omega)
  have c := mlen_bd (y := yearOf (i - -719162)) b.1 b.2.1
  have z1 := zpad_ok (w := 4) (i := yearOf (i - -719162)) (by omega) (by omega) (by omega)
  have z2 := zpad_ok (w := 2) (i := monOf (i - -719162)) (by omega) (by omega) (by omega)
  have z3 := zpad_ok (w := 2) (i := domOf (i - -719162)) (by omega) (by omega) (by omega)
  have dash : Asc "-" := asc_all (by decide +kernel)
  have em : Asc Str.empty := fun c hc => by cases (show c ∈ ([] : List Nat) from hc)
  refine ⟨?_, asc_app (asc_app (asc_app (asc_app (asc_app em z1.1) dash) z2.1) dash) z3.1⟩
  unfold dateStr
  rw [len_app, len_app, len_app, len_app, len_app]
  have e1 : ("-" : Str).length = 1 := rfl
  have e2 : Str.empty.length = 0 := rfl
  rw [e1, e2]
  have := z1.2
  have := z2.2
  have := z3.2
  omega
theorem rnd_bd {i : Int} (h : Lim i) : -1000000000000000 ≤ rndI i 10000 ∧ rndI i 10000 ≤ 1000000000000000 := by
  have a := absI_lim h
  have e : absI 10000 = 10000 := rfl
  unfold rndI
  rw [e]
  split <;> omega
theorem optB_of {n : Bool} {v : V} (h : FitN (.bool, n) v) : OptB v := by
  rcases h with ⟨rfl, _⟩ | ⟨b, rfl⟩
  · exact .inl rfl
  · exact .inr ⟨b, rfl⟩
theorem optI_of {n : Bool} {v : V} (h : FitN (.int, n) v) : OptI v := by
  rcases h with ⟨rfl, _⟩ | ⟨b, rfl, h1, h2⟩
  · exact .inl rfl
  · exact .inr ⟨b, rfl, h1, h2⟩
theorem optC_of {n : Bool} {v : V} (h : FitN (.dec, n) v) : OptI v := by
  rcases h with ⟨rfl, _⟩ | ⟨b, rfl, h1, h2⟩
  · exact .inl rfl
  · exact .inr ⟨b, rfl, h1, h2⟩
theorem optS_of {n : Bool} {v : V} (h : FitN (.text, n) v) : OptS v := by
  rcases h with ⟨rfl, _⟩ | ⟨b, rfl, h1⟩
  · exact .inl rfl
  · exact .inr ⟨b, rfl, h1⟩
theorem optD_of {n : Bool} {v : V} (h : FitN (.date, n) v) : OptD v := by
  rcases h with ⟨rfl, _⟩ | ⟨b, rfl, h1, h2⟩
  · exact .inl rfl
  · exact .inr ⟨b, rfl, h1, h2⟩
theorem optDI_of {n : Bool} {v : V} (h : FitN (.date, n) v) : OptI v := by
  rcases h with ⟨rfl, _⟩ | ⟨b, rfl, h1, h2⟩
  · exact .inl rfl
  · exact .inr ⟨b, rfl, by omega, by omega⟩
/-- an answer: it fits, or it is none where none may be -/
def Ans (r : Kd) (op : Bool) (v : V) : Prop := FitK r v ∨ (op = true ∧ v = .non)
theorem ans_of {r : Kd} {v : V} (h : v = .non ∨ FitK r v) : Ans r true v := h.elim (fun e => .inr ⟨rfl, e⟩) .inl
theorem fit_int_dec {v : V} (h : FitK .int v) : FitK .dec v := h
theorem un_fit : ∀ (u : U) (k r : Kd) (v : V), (k, r) ∈ uK u → FitK k v → Ans r u.op (u.fn v)
  | .negated, k, r, v, hm, hf => by
    rcases List.mem_singleton.mp hm with ⟨rfl, rfl⟩
    obtain ⟨b, rfl⟩ := hf
    cases b <;> exact .inl ⟨_, rfl⟩
  | .negate, k, r, v, hm, hf => by
    rcases List.mem_cons.mp hm with h | hm
    · cases h
      obtain ⟨i, rfl, h1, h2⟩ := hf
      exact .inl ⟨-i, rfl, by omega, by omega⟩
    · cases List.mem_singleton.mp hm
      obtain ⟨i, rfl, h1, h2⟩ := hf
      exact .inl ⟨-i, rfl, by omega, by omega⟩
  | .without_sign, k, r, v, hm, hf => by
    rcases List.mem_cons.mp hm with h | hm
    · cases h
      obtain ⟨i, rfl, h1, h2⟩ := hf
      have := absI_lim (n := i) ⟨h1, h2⟩
      exact .inl ⟨absI i, rfl, by omega, by omega⟩
    · cases List.mem_singleton.mp hm
      obtain ⟨i, rfl, h1, h2⟩ := hf
      have := absI_lim (n := i) ⟨h1, h2⟩
      exact .inl ⟨absI i, rfl, by omega, by omega⟩
  | .sign_of, k, r, v, hm, hf => by
    rcases List.mem_cons.mp hm with h | hm
    · cases h
      obtain ⟨i, rfl, h1, h2⟩ := hf
      exact .inl ⟨_, rfl, by split <;> split <;> omega, by split <;> split <;> omega⟩
    · cases List.mem_singleton.mp hm
      obtain ⟨i, rfl, h1, h2⟩ := hf
      exact .inl ⟨_, rfl, by split <;> split <;> omega, by split <;> split <;> omega⟩
  | .lower, k, r, v, hm, hf => by
    cases List.mem_singleton.mp hm
    obtain ⟨s, rfl, h⟩ := hf
    exact .inl ⟨_, rfl, low_ok h⟩
  | .upper, k, r, v, hm, hf => by
    cases List.mem_singleton.mp hm
    obtain ⟨s, rfl, h⟩ := hf
    exact .inl ⟨_, rfl, up_ok h⟩
  | .trim, k, r, v, hm, hf => by
    cases List.mem_singleton.mp hm
    obtain ⟨s, rfl, h⟩ := hf
    have p : Part (Txt.stripChars s " ") s := part_strip _ _ _ _
    exact .inl ⟨_, rfl, p.ok h⟩
  | .length, k, r, v, hm, hf => by
    cases List.mem_singleton.mp hm
    obtain ⟨s, rfl, h⟩ := hf
    have := h.1
    exact .inl ⟨_, rfl, by omega, by omega⟩
  | .year_of, k, r, v, hm, hf => by
    cases List.mem_singleton.mp hm
    obtain ⟨i, rfl, h1, h2⟩ := hf
    have := year_bd (n := i - -719162) (by omega) (by omega)
    exact .inl ⟨_, rfl, by omega, by omega⟩
  | .month_of, k, r, v, hm, hf => by
    cases List.mem_singleton.mp hm
    obtain ⟨i, rfl, h1, h2⟩ := hf
    have := mon_bd (n := i - -719162) (by omega)
    exact .inl ⟨_, rfl, by omega, by omega⟩
  | .day_of_month, k, r, v, hm, hf => by
    cases List.mem_singleton.mp hm
    obtain ⟨i, rfl, h1, h2⟩ := hf
    have := mon_bd (n := i - -719162) (by omega)
    exact .inl ⟨_, rfl, by omega, by omega⟩
  | .weekday, k, r, v, hm, hf => by
    cases List.mem_singleton.mp hm
    obtain ⟨i, rfl, h1, h2⟩ := hf
    exact .inl ⟨_, rfl, by omega, by omega⟩
  | .month_start, k, r, v, hm, hf => by
    cases List.mem_singleton.mp hm
    obtain ⟨i, rfl, h1, h2⟩ := hf
    have := mon_bd (n := i - -719162) (by omega)
    exact .inl ⟨_, rfl, by omega, by omega⟩
  | .year_start, k, r, v, hm, hf => by
    cases List.mem_singleton.mp hm
    obtain ⟨i, rfl, h1, h2⟩ := hf
    have a := year_bd (n := i - -719162) (by omega) (by omega)
    have b := mlen_bd (y := yearOf (i - -719162)) (m := 1) (by omega) (by omega)
    have c := dayOf_bd (m := 1) (d := 1) a.1 a.2 (by omega) (by omega) (by omega) (by omega)
    refine .inl ⟨dayOf (yearOf (i - -719162)) 1 1, ?_, c.1, c.2⟩
    show dayOfF (yearOf (i - -719162)) 1 1 = _
    unfold dayOfF
    rw [if_pos ⟨a, ⟨by omega, by omega⟩, by omega, by omega⟩]
  | .week_start, k, r, v, hm, hf => by
    cases List.mem_singleton.mp hm
    obtain ⟨i, rfl, h1, h2⟩ := hf
    exact .inl ⟨_, rfl, by omega, by omega⟩
  | .as_date, k, r, v, hm, hf => by
    cases List.mem_singleton.mp hm
    obtain ⟨i, rfl, h1, h2⟩ := hf
    refine ans_of ?_
    show (if -719162 ≤ i ∧ i ≤ 2932896 then V.int i else .non) = .non ∨ FitK .date (if -719162 ≤ i ∧ i ≤ 2932896 then V.int i else .non)
    split
    · rename_i h
      exact .inr ⟨i, rfl, h.1, h.2⟩
    · exact .inl rfl
  | .as_decimal, k, r, v, hm, hf => by
    cases List.mem_singleton.mp hm
    obtain ⟨i, rfl, h1, h2⟩ := hf
    exact .inl ⟨i, rfl, h1, h2⟩
  | .to_decimal, k, r, v, hm, hf => by
    cases List.mem_singleton.mp hm
    obtain ⟨i, rfl, h1, h2⟩ := hf
    exact ans_of (limF_fit (10000 * i))
  | .to_int, k, r, v, hm, hf => by
    cases List.mem_singleton.mp hm
    obtain ⟨i, rfl, h1, h2⟩ := hf
    have := rnd_bd (i := i) ⟨h1, h2⟩
    exact .inl ⟨_, rfl, this.1, this.2⟩
  | .int_to_text, k, r, v, hm, hf => by
    cases List.mem_singleton.mp hm
    obtain ⟨i, rfl, h1, h2⟩ := hf
    have := int_txt h1 h2
    exact .inl ⟨intS i, rfl, Nat.le_trans this.2 (by decide), this.1⟩
  | .date_to_text, k, r, v, hm, hf => by
    cases List.mem_singleton.mp hm
    obtain ⟨i, rfl, h1, h2⟩ := hf
    exact .inl ⟨_, rfl, date_ok h1 h2⟩
  | .decimal_to_text, k, r, v, hm, hf => by
    cases List.mem_singleton.mp hm
    obtain ⟨i, rfl, h1, h2⟩ := hf
    have := dec_ok (n := i) ⟨h1, h2⟩
    exact .inl ⟨_, rfl, Nat.le_trans this.2 (by decide), this.1⟩
  | .text_to_int, k, r, v, hm, hf => by
    cases List.mem_singleton.mp hm
    obtain ⟨s, rfl, h⟩ := hf
    refine ans_of ?_
    show readIntF s = .non ∨ FitK .int (readIntF s)
    unfold readIntF
    split
    · exact finNum_fit _ _
    · exact .inl rfl
  | .text_to_date, k, r, v, hm, hf => by
    cases List.mem_singleton.mp hm
    obtain ⟨s, rfl, h⟩ := hf
    refine ans_of ?_
    show readDateS s = .non ∨ FitK .date (readDateS s)
    unfold readDateS
    split
    · exact dayOfF_fit _ _ _
    · exact .inl rfl
  | .text_to_decimal, k, r, v, hm, hf => by
    cases List.mem_singleton.mp hm
    obtain ⟨s, rfl, h⟩ := hf
    refine ans_of ?_
    show readDecF s = .non ∨ FitK .dec (readDecF s)
    unfold readDecF
    split
    · split
      · exact .inl rfl
      · exact finNum_fit _ _
    · exact .inl rfl
  | .is_null, k, r, v, hm, hf => by cases hm
theorem un_dom (u : U) (k r : Kd) (n : Bool) (v : V) (hm : (k, r) ∈ uK u) (hf : FitN (k, n) v) : u.dom v := by
  cases u <;> first
    | (cases hm; done)
    | (cases List.mem_singleton.mp hm; first | exact optB_of hf | exact optI_of hf | exact optC_of hf | exact optS_of hf | exact optD_of hf)
    | (rcases List.mem_cons.mp hm with h | hm
       · cases h
         first | exact optI_of hf | exact optC_of hf
       · cases List.mem_singleton.mp hm
         first | exact optI_of hf | exact optC_of hf)
theorem un_non (u : U) (h : ¬ u = .is_null) : u.fn .non = .non := by
  cases u <;> first | rfl | exact absurd rfl h
theorem un_ok {u : U} {c c' : Kd × Bool} {v : V} (h : kdU u c = some c') (hf : FitN c v) : u.dom v ∧ FitN c' (u.fn v) := by
  obtain ⟨k, n⟩ := c
  by_cases hn : u = .is_null
  · subst hn
    have h : some ((Kd.bool, false) : Kd × Bool) = some c' := h
    cases h
    exact ⟨hf.ok.sc, .inr ⟨_, rfl⟩⟩
  · unfold kdU at h
    rw [if_neg hn] at h
    cases hq : (uK u).find? (fun r => decide (r.1 = k)) with
    | none =>
      have hq2 : (uK u).find? (fun r => decide (r.1 = (k, n).1)) = none := hq
      rw [hq2] at h
      cases h
    | some q =>
      have hq2 : (uK u).find? (fun r => decide (r.1 = (k, n).1)) = some q := hq
      rw [hq2] at h
      cases h
      obtain ⟨k2, r⟩ := q
      have hk : k2 = k := of_decide_eq_true (List.find?_some (p := fun r : Kd × Kd => decide (r.1 = k)) hq)
      subst hk
      have hm := List.mem_of_find?_eq_some hq
      refine ⟨un_dom u _ r n v hm hf, ?_⟩
      rcases hf with ⟨rfl, ht⟩ | hf
      · have ht : n = true := ht
        rw [un_non u hn, ht]
        exact .inl ⟨rfl, rfl⟩
      · rcases un_fit u _ r v hm hf with q | ⟨q1, q2⟩
        · exact .inr q
        · exact .inl ⟨q2, by rw [q1]; exact Bool.or_true _⟩
/-! two operands -/
theorem bool_fit {v : V} (h : OptB v) : v = .non ∨ FitK .bool v := h.elim .inl fun ⟨b, e⟩ => .inr ⟨b, e⟩
theorem bin_fit : ∀ (u : B) (k l r : Kd) (v w : V), (k, l, r) ∈ bK u → FitK k v → FitK l w → Ans r u.op (u.fn v w)
  | .both, k, l, r, v, w, hm, hf, hg => by
    cases List.mem_singleton.mp hm
    obtain ⟨a, rfl⟩ := hf
    obtain ⟨b, rfl⟩ := hg
    cases a <;> cases b <;> exact .inl ⟨_, rfl⟩
  | .either, k, l, r, v, w, hm, hf, hg => by
    cases List.mem_singleton.mp hm
    obtain ⟨a, rfl⟩ := hf
    obtain ⟨b, rfl⟩ := hg
    cases a <;> cases b <;> exact .inl ⟨_, rfl⟩
  | .added, k, l, r, v, w, hm, hf, hg => by
    rcases List.mem_cons.mp hm with h | hm
    · cases h
      obtain ⟨i, rfl, _⟩ := hf
      obtain ⟨j, rfl, _⟩ := hg
      exact ans_of (limF_fit (i + j))
    · cases List.mem_singleton.mp hm
      obtain ⟨i, rfl, _⟩ := hf
      obtain ⟨j, rfl, _⟩ := hg
      exact ans_of (limF_fit (i + j))
  | .rest, k, l, r, v, w, hm, hf, hg => by
    have key : ∀ i j : Int, restF (.int i) (.int j) = .non ∨ FitK .int (restF (.int i) (.int j)) := fun i j => by
      show (if j = 0 then V.non else limF (i - j * quoI i j)) = .non ∨ FitK .int (if j = 0 then V.non else limF (i - j * quoI i j))
      split
      · exact .inl rfl
      · exact limF_fit _
    rcases List.mem_cons.mp hm with h | hm
    · cases h
      obtain ⟨i, rfl, _⟩ := hf
      obtain ⟨j, rfl, _⟩ := hg
      exact ans_of (key i j)
    · cases List.mem_singleton.mp hm
      obtain ⟨i, rfl, _⟩ := hf
      obtain ⟨j, rfl, _⟩ := hg
      exact ans_of (key i j)
  | .subtracted, k, l, r, v, w, hm, hf, hg => by
    rcases List.mem_cons.mp hm with h | hm
    · cases h
      obtain ⟨i, rfl, _⟩ := hf
      obtain ⟨j, rfl, _⟩ := hg
      exact ans_of (limF_fit (i - j))
    · rcases List.mem_cons.mp hm with h | hm
      · cases h
        obtain ⟨i, rfl, _⟩ := hf
        obtain ⟨j, rfl, _⟩ := hg
        exact ans_of (limF_fit (i - j))
      · cases List.mem_singleton.mp hm
        obtain ⟨i, rfl, _⟩ := hf
        obtain ⟨j, rfl, _⟩ := hg
        exact ans_of (limF_fit (i - j))
  | .multiplied, k, l, r, v, w, hm, hf, hg => by
    cases List.mem_singleton.mp hm
    obtain ⟨i, rfl, _⟩ := hf
    obtain ⟨j, rfl, _⟩ := hg
    exact ans_of (limF_fit (i * j))
  | .divided, k, l, r, v, w, hm, hf, hg => by
    cases List.mem_singleton.mp hm
    obtain ⟨i, rfl, _⟩ := hf
    obtain ⟨j, rfl, _⟩ := hg
    refine ans_of ?_
    show (if j = 0 then V.non else limF (quoI i j)) = .non ∨ FitK .int (if j = 0 then V.non else limF (quoI i j))
    split
    · exact .inl rfl
    · exact limF_fit _
  | .decimals_multiplied, k, l, r, v, w, hm, hf, hg => by
    cases List.mem_singleton.mp hm
    obtain ⟨i, rfl, _⟩ := hf
    obtain ⟨j, rfl, _⟩ := hg
    exact ans_of (limF_fit (rndI (i * j) 10000))
  | .decimals_divided, k, l, r, v, w, hm, hf, hg => by
    cases List.mem_singleton.mp hm
    obtain ⟨i, rfl, _⟩ := hf
    obtain ⟨j, rfl, _⟩ := hg
    refine ans_of ?_
    show (if j = 0 then V.non else limF (rndI (10000 * i) j)) = .non ∨ FitK .int (if j = 0 then V.non else limF (rndI (10000 * i) j))
    split
    · exact .inl rfl
    · exact limF_fit _
  | .joined, k, l, r, v, w, hm, hf, hg => by
    cases List.mem_singleton.mp hm
    obtain ⟨s, rfl, hs⟩ := hf
    obtain ⟨t, rfl, ht⟩ := hg
    refine ans_of ?_
    show (if s.length + t.length ≤ 10000 then V.str (s ++ t) else .non) = .non ∨ FitK .text (if s.length + t.length ≤ 10000 then V.str (s ++ t) else .non)
    split
    · rename_i h
      exact .inr ⟨_, rfl, by rw [len_app]; exact h, asc_app hs.2 ht.2⟩
    · exact .inl rfl
  | .like, k, l, r, v, w, hm, hf, hg => by
    cases List.mem_singleton.mp hm
    obtain ⟨s, rfl, hs⟩ := hf
    obtain ⟨t, rfl, ht⟩ := hg
    exact .inl ⟨_, rfl⟩
  | .position, k, l, r, v, w, hm, hf, hg => by
    cases List.mem_singleton.mp hm
    obtain ⟨s, rfl, hs⟩ := hf
    obtain ⟨t, rfl, ht⟩ := hg
    have h := fact_find s t
    have h2 := hs.1
    exact .inl ⟨_, rfl, by omega, by omega⟩
  | .days_added, k, l, r, v, w, hm, hf, hg => by
    cases List.mem_singleton.mp hm
    obtain ⟨i, rfl, _⟩ := hf
    obtain ⟨j, rfl, _⟩ := hg
    refine ans_of ?_
    show (if -719162 ≤ i + j ∧ i + j ≤ 2932896 then V.int (i + j) else .non) = .non ∨ FitK .date (if -719162 ≤ i + j ∧ i + j ≤ 2932896 then V.int (i + j) else .non)
    split
    · rename_i h
      exact .inr ⟨_, rfl, h.1, h.2⟩
    · exact .inl rfl
  | .months_added, k, l, r, v, w, hm, hf, hg => by
    cases List.mem_singleton.mp hm
    obtain ⟨i, rfl, _⟩ := hf
    obtain ⟨j, rfl, _⟩ := hg
    refine ans_of ?_
    show monthsAddF (.int i) (.int j) = .non ∨ FitK .date (monthsAddF (.int i) (.int j))
    unfold monthsAddF
    show (if _ then dayOfF _ _ _ else V.non) = .non ∨ FitK .date (if _ then dayOfF _ _ _ else V.non)
    split
    · exact dayOfF_fit _ _ _
    · exact .inl rfl
  | .equal, k, l, r, v, w, hm, hf, hg => by cases hm
  | .less, k, l, r, v, w, hm, hf, hg => by cases hm
  | .at_most, k, l, r, v, w, hm, hf, hg => by cases hm
  | .same, k, l, r, v, w, hm, hf, hg => by cases hm
  | .least, k, l, r, v, w, hm, hf, hg => by cases hm
  | .greatest, k, l, r, v, w, hm, hf, hg => by cases hm
  | .coalesce, k, l, r, v, w, hm, hf, hg => by cases hm
theorem bin_dom (u : B) (k l r : Kd) (n m : Bool) (v w : V) (hm : (k, l, r) ∈ bK u) (hf : FitN (k, n) v) (hg : FitN (l, m) w) : u.dom v w := by
  cases u <;> first
    | (cases hm; done)
    | (cases List.mem_singleton.mp hm; first | exact ⟨optB_of hf, optB_of hg⟩ | exact ⟨optI_of hf, optI_of hg⟩ | exact ⟨optC_of hf, optC_of hg⟩ | exact ⟨optS_of hf, optS_of hg⟩ | exact ⟨optD_of hf, optI_of hg⟩)
    | (rcases List.mem_cons.mp hm with h | hm
       · cases h
         first | exact ⟨optI_of hf, optI_of hg⟩ | exact ⟨optC_of hf, optC_of hg⟩
       · first
          | (cases List.mem_singleton.mp hm
             first | exact ⟨optI_of hf, optI_of hg⟩ | exact ⟨optC_of hf, optC_of hg⟩)
          | (rcases List.mem_cons.mp hm with h | hm
             · cases h
               first | exact ⟨optI_of hf, optI_of hg⟩ | exact ⟨optC_of hf, optC_of hg⟩
             · cases List.mem_singleton.mp hm
               exact ⟨optDI_of hf, optDI_of hg⟩))
/-- where an operand is none -/
theorem bin_non (u : B) (k l r : Kd) (n m : Bool) (v w : V) (hm : (k, l, r) ∈ bK u) (hf : FitN (k, n) v) (hg : FitN (l, m) w) (h : v = .non ∨ w = .non) : u.fn v w = .non ∨ FitK r (u.fn v w) := by
  have hd := bin_dom u k l r n m v w hm hf hg
  cases u <;> first
    | (cases hm; done)
    | (cases List.mem_singleton.mp hm
       rcases hd with ⟨h1, h2⟩
       rcases h1 with rfl | ⟨a, rfl⟩ <;> rcases h2 with rfl | ⟨b, rfl⟩ <;> (try cases a) <;> (try cases b) <;> first | exact .inl rfl | exact .inr ⟨_, rfl⟩ | (rcases h with h | h <;> cases h))
    | (left
       rcases h with rfl | rfl
       · rfl
       · cases v <;> rfl)
theorem bin_ok1 {u : B} {k l : Kd × Bool} {c' : Kd × Bool} {v w : V} (hs : u.sp = false) (h : kdB u k l = some c') (hf : FitN k v) (hg : FitN l w) : u.dom v w ∧ FitN c' (u.fn v w) := by
  have hkd : kdB u k l = ((bK u).find? fun r => decide (r.1 = k.1) && decide (r.2.1 = l.1)).map fun r => (r.2.2, (k.2 || l.2) || u.op) := by
    cases u <;> first | rfl | cases hs
  rw [hkd] at h
  obtain ⟨k, n⟩ := k
  obtain ⟨l, m⟩ := l
  cases hq : (bK u).find? (fun r => decide (r.1 = k) && decide (r.2.1 = l)) with
  | none =>
    have hq2 : (bK u).find? (fun r => decide (r.1 = (k, n).1) && decide (r.2.1 = (l, m).1)) = none := hq
    rw [hq2] at h
    cases h
  | some q =>
    have hq2 : (bK u).find? (fun r => decide (r.1 = (k, n).1) && decide (r.2.1 = (l, m).1)) = some q := hq
    rw [hq2] at h
    cases h
    obtain ⟨k2, l2, r⟩ := q
    have hk := List.find?_some (p := fun r : Kd × Kd × Kd => decide (r.1 = k) && decide (r.2.1 = l)) hq
    rw [Bool.and_eq_true] at hk
    have e1 : k2 = k := of_decide_eq_true hk.1
    have e2 : l2 = l := of_decide_eq_true hk.2
    subst e1 e2
    have hm := List.mem_of_find?_eq_some hq
    refine ⟨bin_dom u _ _ r n m v w hm hf hg, ?_⟩
    have nul : (v = .non ∨ w = .non) → (n || m) = true → FitN (r, (n || m) || u.op) (u.fn v w) := fun hn ht => by
      rcases bin_non u _ _ r n m v w hm hf hg hn with q | q
      · exact .inl ⟨q, by rw [ht]; rfl⟩
      · exact .inr q
    rcases hf with ⟨hv, ht⟩ | hf'
    · have ht : n = true := ht
      exact nul (.inl hv) (by rw [ht]; rfl)
    · rcases hg with ⟨hw, ht⟩ | hg'
      · have ht : m = true := ht
        exact nul (.inr hw) (by rw [ht]; exact Bool.or_true _)
      · rcases bin_fit u _ _ r v w hm hf' hg' with q | ⟨q1, q2⟩
        · exact .inr q
        · exact .inl ⟨q2, by rw [q1]; exact Bool.or_true _⟩
theorem kr_fit {k : Kd} {v w : V} (h1 : FitK k v) (h2 : FitK k w) : krV v = krV w := by
  cases k with
  | bool => obtain ⟨b, rfl⟩ := h1; obtain ⟨c, rfl⟩ := h2; rfl
  | int => obtain ⟨b, rfl, _⟩ := h1; obtain ⟨c, rfl, _⟩ := h2; rfl
  | text => obtain ⟨b, rfl, _⟩ := h1; obtain ⟨c, rfl, _⟩ := h2; rfl
  | date => obtain ⟨b, rfl, _⟩ := h1; obtain ⟨c, rfl, _⟩ := h2; rfl
  | dec => obtain ⟨b, rfl, _⟩ := h1; obtain ⟨c, rfl, _⟩ := h2; rfl
theorem kr_non {k : Kd} {v : V} (h1 : FitK k v) : ¬ krV v = krV .non := by
  cases k with
  | bool => obtain ⟨b, rfl⟩ := h1; simp [krV]
  | int => obtain ⟨b, rfl, _⟩ := h1; simp [krV]
  | text => obtain ⟨b, rfl, _⟩ := h1; simp [krV]
  | date => obtain ⟨b, rfl, _⟩ := h1; simp [krV]
  | dec => obtain ⟨b, rfl, _⟩ := h1; simp [krV]
theorem cmp_fit {k : Kd} {n m : Bool} {v w : V} (h1 : FitN (k, n) v) (h2 : FitN (k, m) w) : (cmpB v w = true ∧ FitK k v ∧ FitK k w) ∨ (cmpB v w = false ∧ (n || m) = true) := by
  rcases h1 with ⟨rfl, ht⟩ | h1
  · refine .inr ⟨by simp [cmpB], ?_⟩
    have ht : n = true := ht
    rw [ht]
    rfl
  · rcases h2 with ⟨rfl, ht⟩ | h2
    · refine .inr ⟨?_, ?_⟩
      · unfold cmpB
        rw [decide_eq_false (kr_non h1)]
        rfl
      · have ht : m = true := ht
        rw [ht]
        exact Bool.or_true _
    · refine .inl ⟨?_, h1, h2⟩
      unfold cmpB
      rw [decide_eq_true (kr_fit h1 h2), fit_nn h1]
      rfl
theorem bin_ok2 {u : B} {k l : Kd × Bool} {c' : Kd × Bool} {v w : V} (hs : u.sp = true) (h : kdB u k l = some c') (hf : FitN k v) (hg : FitN l w) : u.dom v w ∧ FitN c' (u.fn v w) := by
  obtain ⟨k, n⟩ := k
  obtain ⟨l, m⟩ := l
  have hkl : k = l := by
    by_cases e : k = l
    · exact e
    · have hz : kdB u (k, n) (l, m) = none := by
        cases u <;> first | exact if_neg e | cases hs
      rw [hz] at h
      cases h
  subst hkl
  rw [kdB_sp (c := (k, n)) (l := (k, m)) hs rfl] at h
  cases h
  have c1 := cmp_fit hf hg
  cases u <;> first
    | (cases hs; done)
    | (refine ⟨⟨hf.ok, hg.ok⟩, ?_⟩
       first
         | exact .inr ⟨_, rfl⟩
         | (rcases c1 with ⟨e, f1, f2⟩ | ⟨e, ht⟩
            · first
               | (show FitN (.bool, n || m) (if cmpB v w = true then _ else _)
                  rw [if_pos e]
                  exact .inr ⟨_, rfl⟩)
               | (show FitN (k, n || m) (if cmpB v w = true then (if _ then w else v) else _)
                  rw [if_pos e]
                  split
                  · exact .inr f2
                  · exact .inr f1)
            · first
               | (show FitN (.bool, n || m) (if cmpB v w = true then _ else _)
                  rw [if_neg (by rw [e]; exact Bool.false_ne_true)]
                  exact .inl ⟨rfl, ht⟩)
               | (show FitN (k, n || m) (if cmpB v w = true then (if _ then w else v) else _)
                  rw [if_neg (by rw [e]; exact Bool.false_ne_true)]
                  exact .inl ⟨rfl, ht⟩)))
    | (refine ⟨⟨hf.ok.sc, hg.ok.sc⟩, ?_⟩
       show FitN (k, n && m) (coalF v w)
       rcases hf with ⟨rfl, ht⟩ | hf
       · have ht : n = true := ht
         subst ht
         exact hg
       · have hz : coalF v w = v := by
           have := fit_nn hf
           cases v <;> first | rfl | cases this
         rw [hz]
         exact .inr hf)
theorem bin_ok {u : B} {k l : Kd × Bool} {c' : Kd × Bool} {v w : V} (h : kdB u k l = some c') (hf : FitN k v) (hg : FitN l w) : u.dom v w ∧ FitN c' (u.fn v w) := by
  by_cases hs : u.sp = true
  · exact bin_ok2 hs h hf hg
  · exact bin_ok1 (by simpa using hs) h hf hg
/-! three operands -/
theorem ter_ok {u : W3} {a b c : Kd × Bool} {v w z : V} (h : (a.1, b.1, c.1) = tK u) (h1 : FitN a v) (h2 : FitN b w) (h3 : FitN c z) : u.dom v w z ∧ FitN (.text, true) (u.fn v w z) := by
  obtain ⟨a, na⟩ := a
  obtain ⟨b, nb⟩ := b
  obtain ⟨c, nc⟩ := c
  have res : ∀ {x : V}, x = .non ∨ FitK .text x → FitN (.text, true) x := fun h => h.elim (fun e => .inl ⟨e, rfl⟩) .inr
  cases u with
  | part_of =>
    cases h
    have d1 := optS_of h1
    have d2 := optI_of h2
    have d3 := optI_of h3
    refine ⟨⟨d1, d2, d3⟩, res ?_⟩
    rcases d1 with rfl | ⟨s, rfl, hs⟩
    · exact .inl rfl
    · rcases d2 with rfl | ⟨i, rfl, _⟩
      · exact .inl rfl
      · rcases d3 with rfl | ⟨j, rfl, _⟩
        · exact .inl rfl
        · show (if j < 0 then V.non else .str (cutS s (some (mxI (i - 1))) (some (mxI (i + j - 1))))) = .non ∨ FitK .text (if j < 0 then V.non else .str (cutS s (some (mxI (i - 1))) (some (mxI (i + j - 1)))))
          split
          · exact .inl rfl
          · exact .inr ⟨_, rfl, (part_cutS s _ _).ok hs⟩
  | split =>
    cases h
    have d1 := optS_of h1
    have d2 := optS_of h2
    have d3 := optI_of h3
    refine ⟨⟨d1, d2, d3⟩, res ?_⟩
    rcases d1 with rfl | ⟨s, rfl, hs⟩
    · exact .inl rfl
    · rcases d2 with rfl | ⟨p, rfl, hp⟩
      · exact .inl rfl
      · rcases d3 with rfl | ⟨n, rfl, _⟩
        · exact .inl rfl
        · show (if 1 ≤ n ∧ n ≤ (piecesS s p).length then V.str ((piecesS s p).getD (n - 1).toNat "") else .non) = .non ∨ FitK .text (if 1 ≤ n ∧ n ≤ (piecesS s p).length then V.str ((piecesS s p).getD (n - 1).toNat "") else .non)
          split
          · rename_i hn
            refine .inr ⟨_, rfl, (pieces_part hp.2 _ ?_).ok hs⟩
            rw [List.getD_eq_getElem?_getD, List.getElem?_eq_getElem (by omega)]
            exact List.getElem_mem _
          · exact .inl rfl
  | replaced_in =>
    cases h
    have d1 := optS_of h1
    have d2 := optS_of h2
    have d3 := optS_of h3
    refine ⟨⟨d1, d2, d3⟩, res ?_⟩
    rcases d1 with rfl | ⟨s, rfl, hs⟩
    · exact .inl rfl
    · rcases d2 with rfl | ⟨p, rfl, hp⟩
      · exact .inl rfl
      · rcases d3 with rfl | ⟨n, rfl, hn⟩
        · exact .inl rfl
        · show (if 10000 < (sumLen (piecesS s p) : Int) + n.length * ((piecesS s p).length - 1 : Int) then V.non else .str (Txt.join n (piecesS s p))) = .non ∨ FitK .text (if 10000 < (sumLen (piecesS s p) : Int) + n.length * ((piecesS s p).length - 1 : Int) then V.non else .str (Txt.join n (piecesS s p)))
          split
          · exact .inl rfl
          · rename_i hb
            refine .inr ⟨_, rfl, ?_, join_asc hn.2 fun q hq => (pieces_part hp.2 q hq).asc hs.2⟩
            have pl := pieces_len (s := s) hp.2
            have h3 : (n.length : Int) * ((piecesS s p).length - 1 : Int) = ((n.length * ((piecesS s p).length - 1) : Nat) : Int) := by
              rw [Int.natCast_mul]
              congr 1
              omega
            rw [h3] at hb
            rw [join_len]
            have e : ((piecesS s p).map (·.length)).sum = sumLen (piecesS s p) := rfl
            rw [e]
            omega
  | pad =>
    cases h
    have d1 := optS_of h1
    have d2 := optS_of h2
    have d3 := optI_of h3
    refine ⟨⟨d1, d2, d3⟩, res ?_⟩
    rcases d1 with rfl | ⟨s, rfl, hs⟩
    · exact .inl rfl
    · rcases d2 with rfl | ⟨p, rfl, hp⟩
      · exact .inl rfl
      · rcases d3 with rfl | ⟨n, rfl, _⟩
        · exact .inl rfl
        · show (if n ≤ s.length ∨ p = "" then V.str s else if 10000 < n then .non else .str (Txt.mul ⟨#[(TL.tl p).headD 0]⟩ (n - s.length) ++ s)) = .non ∨ FitK .text (if n ≤ s.length ∨ p = "" then V.str s else if 10000 < n then .non else .str (Txt.mul ⟨#[(TL.tl p).headD 0]⟩ (n - s.length) ++ s))
          split
          · exact .inr ⟨_, rfl, hs⟩
          · rename_i hb
            split
            · exact .inl rfl
            · rename_i hc
              have hne := ne_tl (fun z => hb (.inr z))
              refine .inr ⟨_, rfl, ?_, asc_app (fun c hcm => ?_) hs.2⟩
              · rw [len_app, mul_len (by omega)]
                have e : (⟨#[(TL.tl p).headD 0]⟩ : Str).length = 1 := rfl
                rw [e]
                omega
              · have hm : c ∈ [(TL.tl p).headD 0] := mul_mem c hcm
                rw [List.mem_singleton] at hm
                subst hm
                refine hp.2 _ ?_
                cases hq : TL.tl p with
                | nil => exact absurd hq hne
                | cons d r => exact List.mem_cons_self ..
/-! ### an expression's value is of its kind -/
theorem const_fit {v : V} {c : Kd × Bool} (h : v = .non ∨ ∃ k, FitK k v) (hc : ckX v = some c) : OkV v ∧ FitN c v := by
  rcases h with rfl | ⟨k, h⟩
  · cases hc
  · refine ⟨h.ok, .inr ?_⟩
    cases k with
    | bool => obtain ⟨b, rfl⟩ := h; cases hc; exact ⟨b, rfl⟩
    | int => obtain ⟨b, rfl, h1, h2⟩ := h; cases hc; exact ⟨b, rfl, h1, h2⟩
    | text => obtain ⟨b, rfl, h1⟩ := h; cases hc; exact ⟨b, rfl, h1⟩
    | date => obtain ⟨b, rfl, h1, h2⟩ := h; cases hc; exact ⟨b, rfl, by omega, by omega⟩
    | dec => obtain ⟨b, rfl, h1, h2⟩ := h; cases hc; exact ⟨b, rfl, h1, h2⟩
theorem null_is {e : Xp} (h : isNull e = true) : e = .const .non := by
  cases e with
  | const v => cases v <;> first | rfl | cases h
  | _ => cases h
theorem sound {cs : Cols} {row : List V} (hr : RowFit cs row) : ∀ (e : Xp) (c : Kd × Bool), Lx e → kdX cs e = some c → Dm row e ∧ FitN c (evX row e)
  | .const v, c, hl, h => const_fit hl h
  | .col n, c, _, h => by
    obtain ⟨v, h1, h2⟩ := hr n c h
    refine ⟨trivial, ?_⟩
    show FitN c ((row[n]?).getD .non)
    rw [h1]
    exact h2
  | .un u a, c, hl, h => by
    rw [kd_un] at h
    cases ha : kdX cs a with
    | none => rw [ha] at h; cases h
    | some k =>
      rw [ha] at h
      obtain ⟨m, f⟩ := sound hr a k hl ha
      have := un_ok h f
      exact ⟨⟨m, this.1⟩, this.2⟩
  | .bin u a b, c, hl, h => by
    rw [kd_bin] at h
    cases ha : kdX cs a with
    | none => rw [ha] at h; cases h
    | some k =>
      cases hb : kdX cs b with
      | none => rw [ha, hb] at h; cases h
      | some l =>
        rw [ha, hb] at h
        obtain ⟨m, f⟩ := sound hr a k hl.1 ha
        obtain ⟨m2, f2⟩ := sound hr b l hl.2 hb
        have := bin_ok h f f2
        exact ⟨⟨⟨m, m2⟩, this.1⟩, this.2⟩
  | .ter u a b d, c, hl, h => by
    rw [kd_ter] at h
    cases ha : kdX cs a with
    | none => rw [ha] at h; cases h
    | some k =>
      cases hb : kdX cs b with
      | none => rw [ha, hb] at h; cases h
      | some l =>
        cases hd : kdX cs d with
        | none => rw [ha, hb, hd] at h; cases h
        | some m =>
          rw [ha, hb, hd] at h
          have h : (if (k.1, l.1, m.1) = tK u then some ((Kd.text, true) : Kd × Bool) else none) = some c := h
          by_cases ht : (k.1, l.1, m.1) = tK u
          · rw [if_pos ht] at h
            cases h
            obtain ⟨m1, f⟩ := sound hr a k hl.1 ha
            obtain ⟨m2, f2⟩ := sound hr b l hl.2.1 hb
            obtain ⟨m3, f3⟩ := sound hr d m hl.2.2 hd
            have := ter_ok ht f f2 f3
            exact ⟨⟨⟨m1, m2, m3⟩, this.1⟩, this.2⟩
          · rw [if_neg ht] at h
            cases h
  | .ch a b d, c, hl, h => by
    have h : (match kdX cs a with
      | some (.bool, _) => match kdX cs b, kdX cs d with
        | some k, some l => if k.1 = l.1 then some (k.1, k.2 || l.2) else none
        | none, some l => if isNull b = true then some (l.1, true) else none
        | some k, none => if isNull d = true then some (k.1, true) else none
        | none, none => none
      | _ => none) = some c := h
    cases ha : kdX cs a with
    | none => rw [ha] at h; cases h
    | some k =>
      rw [ha] at h
      obtain ⟨k, n⟩ := k
      cases k with
      | bool =>
        obtain ⟨m1, f1⟩ := sound hr a _ hl.1 ha
        have fin : (Dm row b ∧ FitN c (evX row b)) → (Dm row d ∧ FitN c (evX row d)) → Dm row (.ch a b d) ∧ FitN c (evX row (.ch a b d)) := fun hb hd => by
          refine ⟨⟨⟨m1, f1.ok.sc⟩, fun _ => hb.1, fun _ => hd.1⟩, ?_⟩
          show FitN c (if evX row a = .bl true then evX row b else evX row d)
          split
          · exact hb.2
          · exact hd.2
        have weak : ∀ {k : Kd} {n m : Bool} {v : V}, (n = true → m = true) → FitN (k, n) v → FitN (k, m) v := fun hnm hf => hf.elim (fun q => .inl ⟨q.1, hnm q.2⟩) .inr
        cases hb : kdX cs b with
        | some kb =>
          cases hd : kdX cs d with
          | some kd =>
            rw [hb, hd] at h
            have h : (if kb.1 = kd.1 then some (kb.1, kb.2 || kd.2) else none) = some c := h
            obtain ⟨k1, n1⟩ := kb
            obtain ⟨k2, n2⟩ := kd
            by_cases e : k1 = k2
            · subst e
              have h : (if k1 = k1 then some (k1, n1 || n2) else none) = some c := h
              rw [if_pos rfl] at h
              cases h
              obtain ⟨mb, fb⟩ := sound hr b _ hl.2.1 hb
              obtain ⟨md, fd⟩ := sound hr d _ hl.2.2 hd
              exact fin ⟨mb, weak (fun z => by rw [z]; rfl) fb⟩ ⟨md, weak (fun z => by rw [z]; exact Bool.or_true _) fd⟩
            · have h : (if k1 = k2 then some (k1, n1 || n2) else none) = some c := h
              rw [if_neg e] at h
              cases h
          | none =>
            rw [hb, hd] at h
            have h : (if isNull d = true then some (kb.1, true) else none) = some c := h
            by_cases e : isNull d = true
            · rw [if_pos e] at h
              cases h
              have hd0 := null_is e
              subst hd0
              obtain ⟨mb, fb⟩ := sound hr b _ hl.2.1 hb
              exact fin ⟨mb, weak (fun _ => rfl) fb⟩ ⟨trivial, .inl ⟨rfl, rfl⟩⟩
            · rw [if_neg e] at h
              cases h
        | none =>
          cases hd : kdX cs d with
          | some kd =>
            rw [hb, hd] at h
            have h : (if isNull b = true then some (kd.1, true) else none) = some c := h
            by_cases e : isNull b = true
            · rw [if_pos e] at h
              cases h
              have hb0 := null_is e
              subst hb0
              obtain ⟨md, fd⟩ := sound hr d _ hl.2.2 hd
              exact fin ⟨trivial, .inl ⟨rfl, rfl⟩⟩ ⟨md, weak (fun _ => rfl) fd⟩
            · rw [if_neg e] at h
              cases h
          | none =>
            rw [hb, hd] at h
            cases h
      | int => cases h
      | text => cases h
      | date => cases h
      | dec => cases h
/-! ### folding keeps values -/
def dflt : Kd → V
  | .bool => .bl true
  | .int => .int 0
  | .text => .str ""
  | .date => .int 0
  | .dec => .int 0
theorem dflt_fit (k : Kd) : FitK k (dflt k) := by
  cases k with
  | bool => exact ⟨true, rfl⟩
  | int => exact ⟨0, rfl, by omega, by omega⟩
  | text => exact ⟨"", rfl, by decide +kernel, fun c hc => by cases (show c ∈ ([] : List Nat) from hc)⟩
  | date => exact ⟨0, rfl, by omega, by omega⟩
  | dec => exact ⟨0, rfl, by omega, by omega⟩
theorem some_row (cs : Cols) : RowFit cs (cs.map fun c => dflt c.1) := fun j c h => ⟨dflt c.1, by rw [List.getElem?_map, h]; rfl, .inr (dflt_fit c.1)⟩
/-- an operation whose parts are constants is alike on every row -/
theorem const_row {e : Xp} (hl : isLeaf e = false ∧ frm e ≠ "choice") (h : (prt e).all isC = true) (row : List V) : evX [] e = evX row e ∧ (Dm row e → Dm [] e) := by
  cases e with
  | const v => exact absurd hl.1 (by simp [isLeaf])
  | col n => exact absurd hl.1 (by simp [isLeaf])
  | ch a b c => exact absurd rfl hl.2
  | un u a =>
    have h : (isC a && true) = true := h
    rw [Bool.and_true] at h
    rw [isC_cv h]
    exact ⟨rfl, fun z => z⟩
  | bin u a b =>
    have h : (isC a && (isC b && true)) = true := h
    rw [Bool.and_true, Bool.and_eq_true] at h
    rw [isC_cv h.1, isC_cv h.2]
    exact ⟨rfl, fun z => z⟩
  | ter u a b c =>
    have h : (isC a && (isC b && (isC c && true))) = true := h
    rw [Bool.and_true, Bool.and_eq_true, Bool.and_eq_true] at h
    rw [isC_cv h.1, isC_cv h.2.1, isC_cv h.2.2]
    exact ⟨rfl, fun z => z⟩
theorem foldOp_row {e : Xp} (hl : isLeaf e = false ∧ frm e ≠ "choice") {row : List V} (hm : Dm row e) (hv : OkV (evX row e)) : Dm row (foldOp e) ∧ evX row (foldOp e) = evX row e := by
  by_cases hall : (prt e).all isC = true
  · rw [fold_all hl hall]
    have h := (const_row hl hall row).1
    refine ⟨?_, h⟩
    show OkV (evX [] e)
    rw [h]
    exact hv
  · have hall : (prt e).all isC = false := by simpa using hall
    by_cases h1 : nmx e = "and"
    · obtain ⟨a, b, rfl⟩ := nm_and hl h1
      rw [fold_and hall]
      split
      · rename_i hs
        refine ⟨trivial, ?_⟩
        show V.bl false = andV (evX row a) (evX row b)
        have hz : evX row a = .bl false ∨ evX row b = .bl false := by
          have e : shrt false (.bin .both a b) = ((isC a && decide (cv a = .bl false)) || ((isC b && decide (cv b = .bl false)) || false)) := rfl
          rw [e, Bool.or_false, Bool.or_eq_true, Bool.and_eq_true, Bool.and_eq_true] at hs
          rcases hs with ⟨q1, q2⟩ | ⟨q1, q2⟩
          · left
            rw [isC_cv q1]
            exact of_decide_eq_true q2
          · right
            rw [isC_cv q1]
            exact of_decide_eq_true q2
        unfold andV
        rw [if_pos hz]
      · exact ⟨hm, rfl⟩
    · by_cases h2 : nmx e = "or"
      · obtain ⟨a, b, rfl⟩ := nm_or hl h2
        rw [fold_or hall]
        split
        · rename_i hs
          refine ⟨trivial, ?_⟩
          show V.bl true = orV (evX row a) (evX row b)
          have hz : evX row a = .bl true ∨ evX row b = .bl true := by
            have e : shrt true (.bin .either a b) = ((isC a && decide (cv a = .bl true)) || ((isC b && decide (cv b = .bl true)) || false)) := rfl
            rw [e, Bool.or_false, Bool.or_eq_true, Bool.and_eq_true, Bool.and_eq_true] at hs
            rcases hs with ⟨q1, q2⟩ | ⟨q1, q2⟩
            · left
              rw [isC_cv q1]
              exact of_decide_eq_true q2
            · right
              rw [isC_cv q1]
              exact of_decide_eq_true q2
          unfold orV
          rw [if_pos hz]
        · exact ⟨hm, rfl⟩
      · by_cases h3 : nmx e = "coalesce"
        · obtain ⟨a, b, rfl⟩ := nm_coal hl h3
          rw [fold_coal hall]
          split
          · rename_i hc
            have ea : evX row a = cv a := by
              rw [isC_cv hc]
              rfl
            split
            · rename_i hz
              refine ⟨hm.1.2, ?_⟩
              show evX row b = coalF (evX row a) (evX row b)
              rw [ea, hz]
              rfl
            · rename_i hz
              refine ⟨hm.1.1, ?_⟩
              show evX row a = coalF (evX row a) (evX row b)
              rw [ea]
              cases hq : cv a <;> first | rfl | exact absurd hq hz
          · exact ⟨hm, rfl⟩
        · rw [fold_else hall h1 h2 h3]
          exact ⟨hm, rfl⟩
theorem fold_row {cs : Cols} : ∀ (e : Xp), Lx e → ((∃ c, kdX cs e = some c) ∨ e = .const .non) → FD e ∧ ∀ row, RowFit cs row → Dm row (foldX e) ∧ evX row (foldX e) = evX row e
  | .const v, hl, _ => ⟨trivial, fun row _ => ⟨(show Lx (.const v) from hl).ok, rfl⟩⟩
  | .col n, _, _ => ⟨trivial, fun _ _ => ⟨trivial, rfl⟩⟩
  | .un u a, hl, hk => by
    obtain ⟨c, hk⟩ := hk.resolve_right (fun z => nomatch z)
    have hk0 := hk
    rw [kd_un] at hk
    cases ha : kdX cs a with
    | none => rw [ha] at hk; cases hk
    | some k =>
      obtain ⟨fa, ga⟩ := fold_row (cs := cs) a hl (.inl ⟨k, ha⟩)
      have here : ∀ row, RowFit cs row → Dm row (.un u (foldX a)) ∧ evX row (.un u (foldX a)) = evX row (.un u a) ∧ OkV (evX row (.un u (foldX a))) := fun row hr => by
        obtain ⟨g1, g2⟩ := ga row hr
        have s := sound hr (.un u a) c hl hk0
        have e : evX row (.un u (foldX a)) = evX row (.un u a) := by
          show u.fn (evX row (foldX a)) = u.fn (evX row a)
          rw [g2]
        refine ⟨⟨g1, ?_⟩, e, by rw [e]; exact s.2.ok⟩
        rw [g2]
        exact s.1.2
      have lf : isLeaf (.un u (foldX a)) = false ∧ frm (.un u (foldX a)) ≠ "choice" := ⟨rfl, of_decide_eq_false rfl⟩
      refine ⟨⟨fa, fun hall => ?_⟩, fun row hr => ?_⟩
      · have h := here _ (some_row cs)
        have q := const_row lf hall (cs.map fun c => dflt c.1)
        exact ⟨q.2 h.1, by rw [q.1]; exact h.2.2⟩
      · obtain ⟨h1, h2, h3⟩ := here row hr
        have q := foldOp_row lf h1 h3
        exact ⟨q.1, q.2.trans h2⟩
  | .bin u a b, hl, hk => by
    obtain ⟨c, hk⟩ := hk.resolve_right (fun z => nomatch z)
    have hk0 := hk
    rw [kd_bin] at hk
    cases ha : kdX cs a with
    | none => rw [ha] at hk; cases hk
    | some k =>
      cases hb : kdX cs b with
      | none => rw [ha, hb] at hk; cases hk
      | some l =>
        obtain ⟨fa, ga⟩ := fold_row (cs := cs) a hl.1 (.inl ⟨k, ha⟩)
        obtain ⟨fb, gb⟩ := fold_row (cs := cs) b hl.2 (.inl ⟨l, hb⟩)
        have here : ∀ row, RowFit cs row → Dm row (.bin u (foldX a) (foldX b)) ∧ evX row (.bin u (foldX a) (foldX b)) = evX row (.bin u a b) ∧ OkV (evX row (.bin u (foldX a) (foldX b))) := fun row hr => by
          obtain ⟨g1, g2⟩ := ga row hr
          obtain ⟨g3, g4⟩ := gb row hr
          have s := sound hr (.bin u a b) c hl hk0
          have e : evX row (.bin u (foldX a) (foldX b)) = evX row (.bin u a b) := by
            show u.fn (evX row (foldX a)) (evX row (foldX b)) = u.fn (evX row a) (evX row b)
            rw [g2, g4]
          refine ⟨⟨⟨g1, g3⟩, ?_⟩, e, by rw [e]; exact s.2.ok⟩
          rw [g2, g4]
          exact s.1.2
        have lf : isLeaf (.bin u (foldX a) (foldX b)) = false ∧ frm (.bin u (foldX a) (foldX b)) ≠ "choice" := ⟨rfl, of_decide_eq_false rfl⟩
        refine ⟨⟨⟨fa, fb⟩, fun hall => ?_⟩, fun row hr => ?_⟩
        · have h := here _ (some_row cs)
          have q := const_row lf hall (cs.map fun c => dflt c.1)
          exact ⟨q.2 h.1, by rw [q.1]; exact h.2.2⟩
        · obtain ⟨h1, h2, h3⟩ := here row hr
          have q := foldOp_row lf h1 h3
          exact ⟨q.1, q.2.trans h2⟩
  | .ter u a b d, hl, hk => by
    obtain ⟨c, hk⟩ := hk.resolve_right (fun z => nomatch z)
    have hk0 := hk
    rw [kd_ter] at hk
    cases ha : kdX cs a with
    | none => rw [ha] at hk; cases hk
    | some k =>
      cases hb : kdX cs b with
      | none => rw [ha, hb] at hk; cases hk
      | some l =>
        cases hd : kdX cs d with
        | none => rw [ha, hb, hd] at hk; cases hk
        | some m =>
          obtain ⟨fa, ga⟩ := fold_row (cs := cs) a hl.1 (.inl ⟨k, ha⟩)
          obtain ⟨fb, gb⟩ := fold_row (cs := cs) b hl.2.1 (.inl ⟨l, hb⟩)
          obtain ⟨fd, gd⟩ := fold_row (cs := cs) d hl.2.2 (.inl ⟨m, hd⟩)
          have here : ∀ row, RowFit cs row → Dm row (.ter u (foldX a) (foldX b) (foldX d)) ∧ evX row (.ter u (foldX a) (foldX b) (foldX d)) = evX row (.ter u a b d) ∧ OkV (evX row (.ter u (foldX a) (foldX b) (foldX d))) := fun row hr => by
            obtain ⟨g1, g2⟩ := ga row hr
            obtain ⟨g3, g4⟩ := gb row hr
            obtain ⟨g5, g6⟩ := gd row hr
            have s := sound hr (.ter u a b d) c hl hk0
            have e : evX row (.ter u (foldX a) (foldX b) (foldX d)) = evX row (.ter u a b d) := by
              show u.fn (evX row (foldX a)) (evX row (foldX b)) (evX row (foldX d)) = u.fn (evX row a) (evX row b) (evX row d)
              rw [g2, g4, g6]
            refine ⟨⟨⟨g1, g3, g5⟩, ?_⟩, e, by rw [e]; exact s.2.ok⟩
            rw [g2, g4, g6]
            exact s.1.2
          have lf : isLeaf (.ter u (foldX a) (foldX b) (foldX d)) = false ∧ frm (.ter u (foldX a) (foldX b) (foldX d)) ≠ "choice" := ⟨rfl, of_decide_eq_false rfl⟩
          refine ⟨⟨⟨fa, fb, fd⟩, fun hall => ?_⟩, fun row hr => ?_⟩
          · have h := here _ (some_row cs)
            have q := const_row lf hall (cs.map fun c => dflt c.1)
            exact ⟨q.2 h.1, by rw [q.1]; exact h.2.2⟩
          · obtain ⟨h1, h2, h3⟩ := here row hr
            have q := foldOp_row lf h1 h3
            exact ⟨q.1, q.2.trans h2⟩
  | .ch a b d, hl, hk => by
    obtain ⟨c, hk⟩ := hk.resolve_right (fun z => nomatch z)
    have kin : (∃ k, kdX cs a = some k) ∧ ((∃ k, kdX cs b = some k) ∨ b = .const .non) ∧ ((∃ k, kdX cs d = some k) ∨ d = .const .non) := by
      have h : (match kdX cs a with
        | some (.bool, _) => match kdX cs b, kdX cs d with
          | some k, some l => if k.1 = l.1 then some (k.1, k.2 || l.2) else none
          | none, some l => if isNull b = true then some (l.1, true) else none
          | some k, none => if isNull d = true then some (k.1, true) else none
          | none, none => none
        | _ => none) = some c := hk
      cases ha : kdX cs a with
      | none => rw [ha] at h; cases h
      | some k =>
        rw [ha] at h
        refine ⟨⟨k, rfl⟩, ?_⟩
        obtain ⟨k, n⟩ := k
        cases k with
        | bool =>
          cases hb : kdX cs b with
          | some kb =>
            refine ⟨.inl ⟨kb, rfl⟩, ?_⟩
            cases hd : kdX cs d with
            | some kd => exact .inl ⟨kd, rfl⟩
            | none =>
              rw [hb, hd] at h
              have h : (if isNull d = true then some (kb.1, true) else none) = some c := h
              by_cases e : isNull d = true
              · exact .inr (null_is e)
              · rw [if_neg e] at h
                cases h
          | none =>
            cases hd : kdX cs d with
            | some kd =>
              refine ⟨?_, .inl ⟨kd, rfl⟩⟩
              rw [hb, hd] at h
              have h : (if isNull b = true then some (kd.1, true) else none) = some c := h
              by_cases e : isNull b = true
              · exact .inr (null_is e)
              · rw [if_neg e] at h
                cases h
            | none =>
              rw [hb, hd] at h
              cases h
        | int => cases h
        | text => cases h
        | date => cases h
        | dec => cases h
    obtain ⟨fa, ga⟩ := fold_row (cs := cs) a hl.1 (.inl kin.1)
    obtain ⟨fb, gb⟩ := fold_row (cs := cs) b hl.2.1 kin.2.1
    obtain ⟨fd, gd⟩ := fold_row (cs := cs) d hl.2.2 kin.2.2
    refine ⟨⟨fa, fb, fd⟩, fun row hr => ?_⟩
    obtain ⟨g1, g2⟩ := ga row hr
    obtain ⟨g3, g4⟩ := gb row hr
    obtain ⟨g5, g6⟩ := gd row hr
    have s := sound hr (.ch a b d) c hl hk
    have e0 : foldX (.ch a b d) = if isC (foldX a) = true then (if cv (foldX a) = .bl true then foldX b else foldX d) else .ch (foldX a) (foldX b) (foldX d) := rfl
    have e1 : evX row (.ch a b d) = if evX row a = .bl true then evX row b else evX row d := rfl
    rw [e0, e1]
    split
    · rename_i hc
      have ea : evX row a = cv (foldX a) := by
        rw [← g2, isC_cv hc]
        rfl
      rw [ea]
      split
      · exact ⟨g3, g4⟩
      · exact ⟨g5, g6⟩
    · refine ⟨⟨⟨g1, ?_⟩, fun _ => g3, fun _ => g5⟩, ?_⟩
      · rw [g2]
        exact s.1.1.2
      · show (if evX row (foldX a) = .bl true then evX row (foldX b) else evX row (foldX d)) = _
        rw [g2, g4, g6]
/-- equal ranks -/
theorem rank_self {v : V} (h : OkV v) : PyData.eqv (rankD v) (rankD v) = true := by
  cases v with
  | non => simp [rankD, PyData.eqv, PyData.eqvAll]
  | bl b => simp [rankD, PyData.eqv, PyData.eqvAll]
  | int i => simp [rankD, PyData.eqv, PyData.eqvAll]
  | str s => simp [rankD, PyData.eqv, PyData.eqvAll]
  | _ => exact False.elim h

end

section
variable {P : Program} {w : World} {K : PySem.W.Frag} {mg : Str → Option Value} {base : Heap}

/-! ### the law -/
section
variable {σ : L2.St} {H H' : Hp} {ta tb te tx tl : TE} {tA tr : TA} {E : XK} {D : Ends} {tz tu : TS} {v : V}
def EvW (te : TE) (σ : L2.St) (H : Hp) (Pv : V → Prop) : Prop := ∀ H1, Ex H H1 → ∀ Q : VK, (∀ v H2, Pv v → Ex H1 H2 → Q v H2) → te σ H1 Q
theorem lcRP {j : Nat} {vs : List Nat} {n : Nat} {Pj : Nat → V → Prop} (h : EvA tA σ H [.int (n : Int)]) (hn : n ≤ 40000) (hw : ∀ x, wipe ((wipe σ vs).set j (some x)) vs = wipe σ vs)
    (he : ∀ (i : Nat) H1, Ex H H1 → i < n → EvW te ((wipe σ vs).set j (some (.int (i : Int)))) H1 (Pj i)) : ∀ H0, Ex H H0 → ∀ Q : VK, (∀ p H2 zs, H0 p = none → Ex H0 H2 → H2 p = some (.lst zs) → zs.length = n → (∀ (m : Nat) v, zs[m]? = some v → Pj m v) → Q (.ref p) H2) → tLc (iRng1 tA) (gName j) tYes te vs σ H0 Q := fun H0 e Q q => h H0 e _ fun H1 e1 => ⟨(n : Int), rfl, by omega, by omega, fun Dl hD =>
  lc_range (lo := 0) (n := (n : Int).toNat) (fun i H' => H1 Dl = none ∧ Ex H1 H' ∧ ∃ zs, H' Dl = some (.lst zs) ∧ zs.length = i ∧ ∀ (m : Nat) v, zs[m]? = some v → Pj m v) ⟨hD, Ex.new hD, [], upd_same, rfl, fun m v hm => by simp at hm⟩ (fun i H' hi p => by
    obtain ⟨p1, p2, zs, p3, p4, p5⟩ := p
    refine ⟨hw _, ?_⟩
    have e0 : (0 : Int) + (i : Int) = (i : Int) := Int.zero_add _
    show te ((wipe σ vs).set j (some (.int ((0 : Int) + (i : Int))))) H' fun y H4 => ∃ acc, H4 Dl = some (.lst acc) ∧ acc.length < sizeLine ∧ (H1 Dl = none ∧ Ex H1 (upd H4 Dl (.lst (acc ++ [y]))) ∧ ∃ zs, (upd H4 Dl (.lst (acc ++ [y]))) Dl = some (.lst zs) ∧ zs.length = i + 1 ∧ ∀ (m : Nat) v, zs[m]? = some v → Pj m v)
    rw [e0]
    refine he i H' ((e.trans e1).trans p2) (by omega) H' (Ex.refl H') _ fun y H4 hy e4 => ⟨zs, e4 Dl _ p3, sz_lt (by omega), p1, Ex.mut (p2.trans e4) p1, zs ++ [y], upd_same, by simp [p4], fun m v hm => ?_⟩
    by_cases hmi : m < zs.length
    · rw [List.getElem?_append_left hmi] at hm
      exact p5 m v hm
    · have hm2 : m = i := by
        have := (List.getElem?_eq_some_iff.mp hm).1
        rw [List.length_append, List.length_singleton] at this
        omega
      subst hm2
      rw [List.getElem?_append_right (by omega), p4] at hm
      simp at hm
      subst hm
      exact hy) (fun H' p => by
    obtain ⟨p1, p2, zs, p3, p4, p5⟩ := p
    exact q Dl H' zs (fresh_back e1 p1) (e1.trans p2) p3 (by omega) p5)⟩
theorem ew_cell {k : Kd} {b : Bool} {n : Int} (h : EvA tA σ H [.str k.name, .bl b, .int n]) : EvW (tCall spCell [] E tA) σ H (FitN (k, b)) := fun H1 e1 Q q =>
  h H1 e1 _ fun H2 e2 => ⟨k, b, n, rfl, fun v hv H3 e3 => q v H3 hv (e2.trans e3)⟩
theorem ec_So {c : Kd × Bool} {v y : V} (h : EvA tA σ H [v, y]) (hy : Dp K H y (encC c)) (hf : FitN c v) : Ev (tCall (spSo K) [] E tA) σ H (.bl true) := ev_call h fun H1 e1 _ q _ => ⟨c, v, y, rfl, dp_ex e1 _ _ hy, hf, q⟩
theorem q_asgW {i : Nat} {Pz : List V → Prop} (h : ∀ Q : VK, (∀ p H2 zs, H p = none → Ex H H2 → H2 p = some (.lst zs) → Pz zs → Q (.ref p) H2) → te σ H Q) (k : ∀ p H1 zs, H p = none → Ex H H1 → H1 p = some (.lst zs) → Pz zs → tz D (σ.set i (some (.ref p))) H1) : tSeq (tAsg te (gName i)) tz D σ H := h _ k
theorem rc_isiH {x : V} {a b : String} {k : Bool} (h : kitB a b = some k) (ty : ∀ H1, Ex H H1 → TyX K H1 x (.type a)) : RC (rIsi K) [x, .ty b] H (.bl k) := fun H1 e _ q => ⟨x, .ty b, .type a, .type b, k, rfl, .ty b, ty H1 e, kit_ty h, q H1 (Ex.refl H1)⟩
theorem ty_tup {x : V} {ds : List PyData} (h : Dp K H x (.tuple ds)) : ∀ H1, Ex H H1 → TyX K H1 x (.type "tuple") := fun H1 e => by
  have h := dp_ex e _ _ h
  cases h with
  | tup hs ha =>
    rcases hs with (hs | ⟨o, hs⟩) | ⟨o, its, n, h1, h2, _⟩
    · exact .base (.tup hs)
    · exact .fTuple hs
    · exact .kTuple h1 h2
end
theorem big_a : ∃ A : Str, Txt.mul "a" 10001 = A ∧ A.length ≤ 100000 := ⟨_, rfl, by
  rw [mul_len (by omega)]
  have e1 : ("a" : Str).length = 1 := rfl
  rw [e1]
  decide⟩
def spLaw (K : PySem.W.Frag) : Sp := fun vs H Q _ => ∃ (a : Addr) (xs : List Int), vs = [.ref a] ∧ SqL K H a (xs.map V.int) ∧ xs.length ≤ 100000 ∧ RetV (.bl true) H Q
def spNum (K : PySem.W.Frag) : Sp := fun vs H Q _ => ∃ (a : Addr) (xs : List Int), vs = [.ref a, .int 30] ∧ SqL K H a (xs.map V.int) ∧ xs.length ≤ 100000 ∧ ∀ ns : List Int, ns.length = 30 → RetD K (.list (ns.map .int)) H Q
def spCol (K : PySem.W.Frag) : Sp := fun vs H Q _ => ∃ (a : Addr) (ns : List Int), vs = [.ref a, .int 0, .int 5] ∧ SqL K H a (ns.map V.int) ∧ ns.length = 30 ∧ ∀ cs : Cols, cs.length = 5 → RetD K (.list (cs.map encC)) H Q
theorem ep_num {σ : L2.St} {H : Hp} {tA : TA} {E : XK} {a : Addr} {xs : List Int} (h : EvA tA σ H [.ref a, .int 30]) (hx : SqL K H a (xs.map V.int)) (hl : xs.length ≤ 100000) : EvP K (tCall (spNum K) [] E tA) σ H (fun d => ∃ ns : List Int, d = .list (ns.map .int) ∧ ns.length = 30) := fun H1 e1 Q q =>
  h H1 e1 _ fun H2 e2 => ⟨a, xs, rfl, ex_l (e1.trans e2) hx, hl, fun ns hn v H3 e3 hv => q _ v H3 ⟨ns, rfl, hn⟩ (e2.trans e3) hv⟩
theorem ep_col {σ : L2.St} {H : Hp} {tA : TA} {E : XK} {a : Addr} {ns : List Int} (h : EvA tA σ H [.ref a, .int 0, .int 5]) (hx : SqL K H a (ns.map V.int)) (hl : ns.length = 30) : EvP K (tCall (spCol K) [] E tA) σ H (fun d => ∃ cs : Cols, d = .list (cs.map encC) ∧ cs.length = 5) := fun H1 e1 Q q =>
  h H1 e1 _ fun H2 e2 => ⟨a, ns, rfl, ex_l (e1.trans e2) hx, hl, fun cs hn v H3 e3 hv => q _ v H3 ⟨cs, rfl, hn⟩ (e2.trans e3) hv⟩
theorem isnot_b {v : V} {k : Str} (b : Bool) : ((b && !decide (b = true)) || (!b && !decide (b = false))) = false := by cases b <;> rfl


theorem mk_fn (T : Tx w K mg) {x : Str} {i : Nat} {N ps : List Str} {k : Nat} {sp : Sp} {fd : FuncData} (F : FunD K x x (C8.fnArgs (top i)) (C8.fnBody (top i)) (C8.fnScope (top i)) [] [] (He.ga K x) fd) (S : C8.scC N ps (C8.fnScope (top i)) = true)
    (len : ∀ vs H Q E, sp vs H Q E → vs.length = ps.length)
    (hbody : ∀ (cdv : Value) (A : Around) (outer : List Env) (s : Shared) (H : Hp) (vs : List V) (Q : VK) (E : XK), N.Nodup → Room k (A.deeper (envOfC x (C8.fnScope (top i)) s.heap.objs.size (He.ga K x) cdv)) → sp vs H Q E →
      ∃ t, PSs (cxOf C8.CX0 P w K mg base N x (C8.fnScope (top i)) (He.ga K x) cdv A outer s H E).nox (C8.fnBody (top i)) t ∧ t { nx := fun _ H' => Q .non H', rt := Q } (start N vs) H) : FnOk P w K mg base C8.CX0 (k + 1) (He.ga K x) fd ps sp := by
  obtain ⟨oc, od, dV, kV, doc, pm, an, cdv, ct, osl, e, lk, hcd, _, _⟩ := F.ex
  have Sc : FnScope N ps (C8.fnScope (top i)) := C8.fnScope_by S
  exact C8.fn0 (st := top i) ⟨⟨oc, od, dV, kV, doc, pm, an, cdv, ct, osl, e, lk, hcd⟩⟩ Sc len fun cdv A outer s H vs Q E hr h => hbody cdv A outer s H vs Q E Sc.nd hr h
theorem f_law (T : Tx w K mg) {fd : FuncData} (F : FunD K "law" "law" (C8.fnArgs (top 134)) (C8.fnBody (top 134)) (C8.fnScope (top 134)) [] [] (He.ga K "law") fd) : FnOk P w K mg base C8.CX0 17 (He.ga K "law") fd ["_law_script"] (spLaw K) := by
  refine mk_fn T (x := "law") (i := 134) (N := ["_law_script", "_law_numbers_here", "_law_columns", "_law_kind", "_law_expression", "_law_told", "_law_other", "_law_k", "_law_value", "_law_row", "_law_one", "_law_j"]) (ps := ["_law_script"]) F (by decide +kernel) (fun vs H Q E h => by obtain ⟨_, _, rfl, _⟩ := h; rfl) (fun cdv A outer s H vs Q E nd hr h => ⟨_, (pss_cons (ps_set (i := 1) nd rfl (.inr rfl) (C8.pe_c (show C8.Cal P w K mg base 1 "_law_numbers" (spNum K) [] from c__law_numbers T) hr (by decide) (by rfl) (pa_cons (pv 0) (pa_cons pe_int pa_nil))))
      (pss_cons (ps_set (i := 2) nd rfl (.inr rfl) (C8.pe_c (show C8.Cal P w K mg base 1 "_law_columns_of" (spCol K) [] from c__law_columns_of T) hr (by decide) (by rfl) (pa_cons (pv 1) (pa_cons pe_int (pa_cons pe_int pa_nil)))))
      (pss_cons (ps_set (i := 3) nd rfl (.inl rfl) (pe_ix ix_seq (pe_lst (pa_cons pe_str (pa_cons pe_str (pa_cons pe_str (pa_cons pe_str (pa_cons pe_str pa_nil)))))) (pe_op o_mod (pe_callTy b_int (by rfl) T.m_int boot_int (pa_cons (pe_ix ix_seq (pv 1) pe_int (fun _ _ => rfl)) pa_nil)) pe_int) (fun _ _ => rfl)))
      (pss_cons (ps_set (i := 4) nd rfl (.inl rfl) (C8.pe_c (c__law_kinded T 5) hr (by decide) (by rfl) (pa_cons (pv 3) (pa_cons (pe_ix ix_seq (pv 1) pe_int (fun _ _ => rfl)) (pa_cons (pe_op o_add pe_int (pe_op o_mod (pe_op o_div (pe_callTy b_int (by rfl) T.m_int boot_int (pa_cons (pe_ix ix_seq (pv 1) pe_int (fun _ _ => rfl)) pa_nil)) pe_int) pe_int)) (pa_cons (pv 2) pa_nil))))))
      (pss_cons (ps_set (i := 5) nd rfl (.inl rfl) (C8.pe_c (c_kind_of T 6 (by decide)) hr (by decide) (by rfl) (pa_cons (pv 4) (pa_cons (pv 2) pa_nil))))
      (pss_cons (ps_if (PW.pt (pw_or (pt_not (pt_val (pe_callB call_isi (by rfl) T.m_isinstance boot_isinstance (pa_cons (pv 5) (pa_cons (pe_bltn (v := .ty "tuple") (by rfl) T.m_tuple boot_tuple rfl) pa_nil))))) (pw_or1 (pt_cmpR op_ne (pe_ix ix_seq (pv 5) pe_int (fun _ _ => rfl)) (pv 3) (nomark _))))) (pss_one (ps_ret pe_bl)) pss_nil)
      (pss_cons (ps_set (i := 6) nd rfl (.inl rfl) (C8.pe_c (c_folded T 6) hr (by decide) (by rfl) (pa_cons (pv 4) pa_nil)))
      (pss_cons (ps_for PassesOwn.never rfl (pi_range1 (by rfl) T.m_range (pa_cons pe_int pa_nil)) (pg_name (i := 7) nd rfl (.inr rfl)) (pss_cons (ps_setLc (i := 9) (own := [("_law_j", 11)]) (g := gName 11) (by rfl) nd rfl rfl (sw_true rfl rfl rfl (by decide +kernel)) (pi_range1 (by rfl) T.m_range (pa_cons pe_int pa_nil)) (blkOk_by (own := [("_law_j", 11)]) (N := ["_law_script", "_law_numbers_here", "_law_columns", "_law_kind", "_law_expression", "_law_told", "_law_other", "_law_k", "_law_value", "_law_row", "_law_one", "_law_j"]) (sc := C8.fnScope (top 134)) (by decide +kernel)) (fun _ _ _ _ _ => pg_name (i := 11) nd rfl (.inl rfl)) (fun _ _ _ _ _ => pts_nil) (fun _ _ _ _ _ => (C8.pe_c (c__law_cell T) hr (by decide) (by rfl) (pa_cons (pe_ix (ix_seqK (K := K) rfl) (pe_ix (ix_seqK (K := K) rfl) (pv 2) (pv 11) (fun _ _ => rfl)) pe_int (fun _ _ => rfl)) (pa_cons (pe_ix (ix_seqK (K := K) rfl) (pe_ix (ix_seqK (K := K) rfl) (pv 2) (pv 11) (fun _ _ => rfl)) pe_int (fun _ _ => rfl)) (pa_cons (pe_ix (ix_seqK (K := K) rfl) (pv 1) (pe_op o_add (pe_op o_add pe_int (pe_op o_mul pe_int (pv 7))) (pv 11)) (fun _ _ => rfl)) pa_nil))))))
      (pss_cons (ps_set (i := 8) nd rfl (.inl rfl) (C8.pe_c (c_evaluate T 6) hr (by decide) (by rfl) (pa_cons (pv 4) (pa_cons (pv 9) pa_nil))))
      (pss_one (ps_if (PW.pt (pw_or (pt_not (pt_val (C8.pe_c (c__law_sound T) hr (by decide) (by rfl) (pa_cons (pv 8) (pa_cons (pv 5) pa_nil))))) (pw_or1 (pt_cmpR (op_neD hr.units) (C8.pe_c (c__law_rank T) hr (by decide) (by rfl) (pa_cons (C8.pe_c (c_evaluate T 6) hr (by decide) (by rfl) (pa_cons (pv 6) (pa_cons (pv 9) pa_nil))) pa_nil)) (C8.pe_c (c__law_rank T) hr (by decide) (by rfl) (pa_cons (pv 8) pa_nil)) (nomark _))))) (pss_one (ps_ret pe_bl)) pss_nil)))))
      (pss_cons (ps_for PassesOwn.never rfl (pi_list (pe_lst (pa_cons pe_non (pa_cons pe_bl (pa_cons pe_int (pa_cons pe_int (pa_cons (pe_un u_neg pe_int) (pa_cons pe_int (pa_cons pe_str (pa_cons (pe_op o_mulS pe_str pe_int) pa_nil)))))))))) (pg_name (i := 8) nd rfl (.inl rfl)) (pss_one (ps_for PassesOwn.never rfl (pi_list (pe_lst (pa_cons pe_str (pa_cons pe_str (pa_cons pe_str (pa_cons pe_str (pa_cons pe_str pa_nil))))))) (pg_name (i := 10) nd rfl (.inl rfl)) (pss_one (ps_if (PW.pt (pw_or (PW.pt (pw_and (pt_val (C8.pe_c (c__law_fits T) hr (by decide) (by rfl) (pa_cons (pv 8) (pa_cons (pv 10) pa_nil)))) (pw_and1 (pt_cmpR o_isnU (C8.pe_c (c_fits T) hr (by decide) (by rfl) (pa_cons (pv 8) (pa_cons (pv 10) pa_nil))) pe_bl (nomark _))))) (pw_or1 (PW.pt (pw_and (pt_not (pt_val (C8.pe_c (c__law_fits T) hr (by decide) (by rfl) (pa_cons (pv 8) (pa_cons (pv 10) pa_nil))))) (pw_and1 (pt_cmpR o_isnU (C8.pe_c (c_fits T) hr (by decide) (by rfl) (pa_cons (pv 8) (pa_cons (pv 10) pa_nil))) pe_bl (nomark _)))))))) (pss_one (ps_ret pe_bl)) pss_nil)))))
      (pss_one (ps_ret pe_bl))))))))))), ?hb⟩)
  case hb =>
    obtain ⟨a, xs, rfl, hx, hxl, hQ⟩ := h
    obtain ⟨bigA, hbig, hbigl⟩ := big_a
    refine q_asgP (ep_num (ea_cons (ev_var rfl) (ea_cons ev_c ea_nil)) hx hxl) (fun d1 v1 H1 hd1 e1 hv1 => ?_)
    obtain ⟨ns, rfl, hn⟩ := hd1
    obtain ⟨l, rfl, hl⟩ : ∃ l, v1 = .ref l ∧ SqL K H1 l (ns.map V.int) := by
      cases hv1 with
      | lst h1 h2 =>
        rw [dpa_ints h2] at h1
        exact ⟨_, rfl, h1⟩
    refine q_asgP (ep_col (ea_cons (ev_var rfl) (ea_cons ev_c (ea_cons ev_c ea_nil))) hl hn) (fun d2 y H2 hd2 e2 hy => ?_)
    obtain ⟨cs, rfl, hcs⟩ := hd2
    have hl2 := ex_l e2 hl
    have num : ∀ {σ : L2.St} {H3 : Hp} {te : TE} {i : Int}, σ[1]? = some (some (.ref l)) → Ex H2 H3 → Ev te σ H3 (.int i) → 0 ≤ i → i < 30 → Ev (tOp (rIx K) (tVar 1) te) σ H3 (.int (ns.getD i.toNat 0)) := fun hσ e hi h0 h1 => ev_op (ev_var hσ) hi (rv_ixuL (ex_l e hl2) (num_at h0 (by omega)))
    generalize hN5 : ns.getD 5 0 = N5
    have n5 : ∀ {σ : L2.St} {H3 : Hp}, σ[1]? = some (some (.ref l)) → Ex H2 H3 → Ev (tCB rIntU (tCons (tOp (rIx K) (tVar 1) (tC (.int 5))) tNil)) σ H3 (.int N5) := fun hσ e => ev_cb (ea_cons (ev_int (num hσ e ev_c (by omega) (by omega)) hN5) ea_nil) rc_intI
    refine q_asg (ev_ixL1 (el_lst (ea_cons ev_c (ea_cons ev_c (ea_cons ev_c (ea_cons ev_c (ea_cons ev_c ea_nil))))) (Nat.le_of_ble_eq_true rfl)) (ev_op (n5 rfl (Ex.refl _)) ev_c (rv_modI (by omega))) (kd_at (z := N5 % 5) (by omega) (by omega))) (fun H3 e3 => ?_)
    generalize kdAt (N5 % 5) = k
    obtain ⟨p, hp⟩ : ∃ p : Nat, (1 : Int) + N5 / 5 % 4 = (p : Int) := ⟨(1 + N5 / 5 % 4).toNat, by omega⟩
    refine q_asgP (ep_kn (k := k) (p := p) (ea_cons (ev_var rfl) (ea_cons (num rfl e3 ev_c (by omega) (by omega)) (ea_cons (ev_int (ev_op ev_c (ev_op (ev_op (n5 rfl e3) ev_c (rv_divI (by omega) (by omega))) ev_c (rv_modI (by omega))) rv_addI) hp) (ea_cons (ev_var rfl) ea_nil)))) (by omega) (dp_ex e3 _ _ hy) (by omega)) (fun d4 x4 H4 hd4 e4 hx4 => ?_)
    obtain ⟨e, rfl, hg⟩ := hd4
    obtain ⟨g1, g2, bn, g3⟩ := hg
    have hok := g1.ok
    have hy4 := dp_ex (e3.trans e4) _ _ hy
    refine q_asgD (d := encC (k, bn)) (ed_is (ed_Kd (e := e) (cs := cs) (ed_var rfl hx4) (ed_var rfl hy4) ⟨by omega, hok⟩) (by rw [g3]; rfl)) (fun x5 H5 e5 hx5 => ?_)
    have hx5t : Dp K H5 x5 (.tuple [.str k.name, .bool bn]) := hx5
    refine q_when (b := false) (et_or0 (et_is (et_not (et_B (ev_cb (ea_cons (ev_var rfl) (ea_cons ev_c ea_nil)) (rc_isiH kb_tt (ty_tup hx5t))))) rfl) (et_is (et_test (ev_op (ev_k0 (c := (k, bn)) (ed_var rfl hx5)) (ev_var rfl) rv_neSS)) (by simp))) (fun z => nomatch z) (fun _ H6 e6 => ?_)
    obtain ⟨fdx, frow⟩ := fold_row (cs := cs) e g1 (.inl ⟨_, g3⟩)
    obtain ⟨fok, fdp⟩ := fold_ok e hok fdx
    have hx6 := dp_ex (e5.trans e6) _ _ hx4
    refine q_asgD (d := enc (foldX e)) (ed_X (f := fun e => enc (foldX e)) (ed_var rfl hx6) ⟨by omega, hok, fdx⟩) (fun x7 H7 e7 hx7 => ?_)
    have E27 := ((((e3.trans e4).trans e5).trans e6).trans e7)
    refine q_forR1 (n := 4) (ea_cons ev_c ea_nil) (by omega) (fun i σ' H' => (∃ s7 s8 s9, σ' = [some (.ref a), some (.ref l), some y, some (.str k.name), some x4, some x5, some x7, s7, s8, s9, none, none]) ∧ Ex H7 H') (fun H8 e8 => ⟨⟨none, none, none, rfl⟩, e8⟩) (fun i σ' H8 hi q => ?_) (fun σ' H8 q => ?_)
    · obtain ⟨⟨s7, s8, s9, rfl⟩, e8⟩ := q
      have E28 := E27.trans e8
      have hy8 := dp_ex E28 _ _ hy
      refine q_asgW (Pz := fun zs => zs.length = 5 ∧ ∀ (m : Nat) v, zs[m]? = some v → ∃ c, cs[m]? = some c ∧ FitN c v) (fun Q0 q0 => lcRP (n := 5) (Pj := fun m v => ∃ c, cs[m]? = some c ∧ FitN c v) (ea_cons ev_c ea_nil) (by omega) (fun _ => rfl) (fun j H9 e9 hj => ?_) H8 (Ex.refl H8) Q0 fun p H9 zs hp e9 h9 hz hP => q0 p H9 zs hp e9 h9 ⟨hz, hP⟩) (fun rl H9 zs _ e9 h9 hz => ?_)
      · have hc : cs[j]? = some cs[j] := List.getElem?_eq_getElem (by omega)
        have hcol : ∀ {σ : L2.St}, σ[2]? = some (some y) → σ[11]? = some (some (.int (j : Int))) → EvD K (tOp (rIx K) (tVar 2) (tVar 11)) σ H9 (encC cs[j]) := fun h1 h2 => ed_ixL (ed_var h1 (dp_ex e9 _ _ hy8)) (ev_var h2) (L2.atI_nat (by rw [List.getElem?_map, hc]; rfl))
        refine fun H10 e10 Q10 q10 => ew_cell (k := cs[j].1) (b := cs[j].2) (ea_cons (ev_k0 (hcol rfl rfl)) (ea_cons (ev_k1 (hcol rfl rfl)) (ea_cons (num rfl (E28.trans e9) (ev_op (ev_op ev_c (ev_op ev_c (ev_var rfl) (rv_mulL (by omega) (by omega))) rv_addI) (ev_var rfl) rv_addI) (by omega) (by omega)) ea_nil))) H10 e10 Q10 fun v H11 hv e11 => q10 v H11 ⟨cs[j], hc, hv⟩ e11
      · obtain ⟨hz5, hzP⟩ := hz
        have hfit : RowFit cs zs := fun m c hc => by
          have hm : m < cs.length := (List.getElem?_eq_some_iff.mp hc).1
          have hg : zs[m]? = some zs[m] := List.getElem?_eq_getElem (by omega)
          obtain ⟨c2, hc2, hf⟩ := hzP m _ hg
          rw [hc] at hc2
          cases hc2
          exact ⟨_, hg, hf⟩
        have snd := sound hfit e (k, bn) g1 g3
        obtain ⟨fm, fe⟩ := frow zs hfit
        have h9 := sq_of (K := K) h9
        have E49 : Ex H4 H9 := (((e5.trans e6).trans e7).trans e8).trans e9
        refine q_asg (v := evX zs e) (ec_E (ea_cons (ev_var rfl) (ea_cons (ev_var rfl) ea_nil)) (dp_ex E49 _ _ hx4) h9 (by omega) hok snd.1) (fun H10 e10 => ?_)
        have rk : ∀ {E0 : XK} {te : TE}, Ev te [some (.ref a), some (.ref l), some y, some (.str k.name), some x4, some x5, some x7, some (.int (i : Int)), some (evX zs e), some (.ref rl), none, none] H10 (evX zs e) → EvD K (tCall (spR K (fun vs => ∃ v, vs = [v] ∧ Sc v) rankR) [] E0 (tCons te tNil)) [some (.ref a), some (.ref l), some y, some (.str k.name), some x4, some x5, some x7, some (.int (i : Int)), some (evX zs e), some (.ref rl), none, none] H10 (rankD (evX zs e)) := fun h => ed_cR (f := rankR) (vs := [evX zs e]) (ea_cons h ea_nil) ⟨_, rfl, snd.2.ok.sc⟩
        refine s_when (b := false) (et_or0 (et_is (et_not (et_B (ec_So (c := (k, bn)) (ea_cons (ev_var rfl) (ea_cons (ev_var rfl) ea_nil)) (dp_ex (((e6.trans e7).trans e8).trans (e9.trans e10)) _ _ hx5) snd.2))) rfl) (et_is (et_test (ev_neD (rk (ev_is (ec_E (e := foldX e) (ea_cons (ev_var rfl) (ea_cons (ev_var rfl) ea_nil)) (dp_ex (e8.trans (e9.trans e10)) _ _ hx7) (ex_l e10 h9) (by omega) fok fm) fe)) (rk (ev_var rfl)) (rank_shaped snd.2.ok) (rank_shaped snd.2.ok))) (by rw [rank_self snd.2.ok]; rfl))) (fun z => nomatch z) (fun _ H11 e11 => ?_)
        exact ⟨⟨_, _, _, rfl⟩, (e8.trans e9).trans (e10.trans e11)⟩
    · obtain ⟨⟨s7, s8, s9, rfl⟩, e8⟩ := q
      have EH8 : Ex H H8 := ((e1.trans e2).trans E27).trans e8
      refine q_forNLn (xs := [.non, .bl true, .int 0, .int 1000000000000001, .int (-1000000000000001), .int 2932897, .str "", .str bigA]) (el_lst (ea_cons ev_c (ea_cons ev_c (ea_cons ev_c (ea_cons ev_c (ea_cons (ev_un ev_c ru_negI) (ea_cons ev_c (ea_cons ev_c (ea_cons (ev_is (ev_op ev_c ev_c (rv_mulS (by decide +kernel) (by omega) (by omega))) (congrArg V.str hbig)) ea_nil)))))))) (Nat.le_of_ble_eq_true rfl)) (fun p i σ' H' => (∃ s8 s10, σ' = [some (.ref a), some (.ref l), some y, some (.str k.name), some x4, some x5, some x7, s7, s8, s9, s10, none]) ∧ Ex H8 H' ∧ H' p = some (.lst [.non, .bl true, .int 0, .int 1000000000000001, .int (-1000000000000001), .int 2932897, .str "", .str bigA])) (fun p H9 _ e9 h9 => ⟨⟨_, _, rfl⟩, e9, h9⟩) (fun p i σ' H' _ q => sq_of q.2.2) (fun p i v σ' H' hi q => ?_) (fun p σ' H' q => ?_)
      · obtain ⟨⟨t8, t10, rfl⟩, q1, q2⟩ := q
        have hv : Sc2 v := by
          have hm := List.mem_of_getElem? hi
          simp only [List.mem_cons, List.not_mem_nil, or_false] at hm
          rcases hm with rfl | rfl | rfl | rfl | rfl | rfl | rfl | rfl
          · exact ⟨trivial, fun s e => nomatch e⟩
          · exact ⟨trivial, fun s e => nomatch e⟩
          · exact ⟨trivial, fun s e => nomatch e⟩
          · exact ⟨trivial, fun s e => nomatch e⟩
          · exact ⟨trivial, fun s e => nomatch e⟩
          · exact ⟨trivial, fun s e => nomatch e⟩
          · exact ⟨trivial, fun s e => by cases e; decide +kernel⟩
          · refine ⟨trivial, fun s e => ?_⟩
            cases e
            exact hbigl
        refine s_forNL (xs := [.str "bool", .str "int", .str "text", .str "date", .str "decimal"]) (el_lst (ea_cons ev_c (ea_cons ev_c (ea_cons ev_c (ea_cons ev_c (ea_cons ev_c ea_nil))))) (Nat.le_of_ble_eq_true rfl)) (fun p2 i σ' H9 => (∃ s10, σ' = [some (.ref a), some (.ref l), some y, some (.str k.name), some x4, some x5, some x7, s7, some v, s9, s10, none]) ∧ Ex H' H9 ∧ H9 p2 = some (.lst [.str "bool", .str "int", .str "text", .str "date", .str "decimal"])) (fun p2 H9 _ e9 h9 => ⟨⟨_, rfl⟩, e9, h9⟩) (fun p2 i σ' H' _ q => sq_of q.2.2) (fun p2 i2 o σ' H9 hi2 q3 => ?_) (fun p2 σ' H9 q3 => ?_)
        · obtain ⟨⟨u10, rfl⟩, q4, q5⟩ := q3
          obtain ⟨z, rfl⟩ : ∃ z, o = .str z := by
            have hm := List.mem_of_getElem? hi2
            simp only [List.mem_cons, List.not_mem_nil, or_false] at hm
            rcases hm with rfl | rfl | rfl | rfl | rfl <;> exact ⟨_, rfl⟩
          have fv : ∀ {E0 : XK}, Ev (tCall (spVV (fun v k => Sc2 v ∧ ∃ z, k = .str z) fitF) [] E0 (tCons (tVar 8) (tCons (tVar 10) tNil))) [some (.ref a), some (.ref l), some y, some (.str k.name), some x4, some x5, some x7, s7, some v, s9, some (.str z), none] H9 (.bl (fitB v z)) := ec_fit (ea_cons (ev_var rfl) (ea_cons (ev_var rfl) ea_nil)) hv
          refine s_when (b := false) (et_is (et_or (et_and (et_B fv) (fun _ => et_test (ev_op fv ev_c rv_isnBB))) (fun _ => et_and (et_not (et_B fv)) (fun _ => et_test (ev_op fv ev_c rv_isnBB)))) (isnot_b (v := v) (k := z) (fitB v z))) (fun z => nomatch z) (fun _ H10 e10 => ?_)
          exact ⟨⟨_, rfl⟩, q4.trans e10, e10 _ _ q5⟩
        · obtain ⟨⟨u10, rfl⟩, q4, q5⟩ := q3
          exact ⟨⟨_, _, rfl⟩, q1.trans q4, q4 _ _ q2⟩
      · obtain ⟨⟨t8, t10, rfl⟩, q1, q2⟩ := q
        exact s_ret ev_c (fun H9 e9 => fin hQ ((EH8.trans q1).trans e9) rfl)

end

end

/-- the law's own function object keeps its promise over every base -/
theorem law_facts {P : Program} {w : World} {K : PySem.W.Frag} {h : Heap} {mg : Str → Option Value} {f : Addr} (X : K.In h) (G : h.Ns mainGlobals mg) (hf : mg ("law" : Str) = some (.ref f)) (S : He.SaysT fa fn ts w K) (M : exB K = true) :
    ∃ fd : FuncData, (∀ (s : Shared) (v : Value), BindsTo s fd ⟨[v], []⟩ [("_law_script", v)]) ∧ ∀ base : Heap, K.In base → base.Ns mainGlobals mg → FnOk P w K mg base C8.CX0 17 f fd ["_law_script"] (spLaw K) := by
  have T : Tx w K mg := ⟨⟨h, X, G⟩, S, M⟩
  obtain ⟨fd, F⟩ := T.says.d.def_ 105 (d := dd "law" 134) rfl
  have F : FunD K "law" "law" (C8.fnArgs (top 134)) (C8.fnBody (top 134)) (C8.fnScope (top 134)) [] [] (He.ga K "law") fd := F
  have e := hf.symm.trans (T.glo_ (j := 105) (x := "law") rfl)
  cases e
  have b := FunD.bindsA (ps := ["_law_script"]) F fun _ _ _ _ _ _ us hl => match us, hl with | [_], _ => rfl
  exact ⟨fd, fun s v => b s [v] rfl, fun base _ _ => f_law T F⟩

end Y
open PySem PySem.W PySem.Calls PyProof.Rows
theorem PySem.Challenge.cw_stylobate_k15_whole_kinds_are_kept_holds : PySem.Challenge.rw_stylobate_k15_whole_kinds_are_kept.Holds := by
  w_on; o_law
  refine HandSHeadRun.head_any (r := OpenLaw.row PySem.Challenge.rw_stylobate_k15_whole_kinds_are_kept) (q := view (OpenLaw.row PySem.Challenge.rw_stylobate_k15_whole_kinds_are_kept).prog [134]) (H := Y.hkY) (ob := Y.obY) (M := 8000) (loose := Y.looseN) (d := HandSHeadRun.topDef (OpenLaw.row PySem.Challenge.rw_stylobate_k15_whole_kinds_are_kept).prog 134) (kwd := []) Y.obY_eq
    (by kernel_rfl) (fun s => by kernel_rfl) Y.run (by kernel_rfl) (by kernel_rfl) (by kernel_rfl) (by rfl) (by first | assumption | decide +kernel) (by decide +kernel) ⟨rfl, rfl, rfl, rfl, rfl, by decide +kernel⟩ ?hw ?hc
  case hw => w_witness2
  case hc =>
    refine L2.walk_ofE (l := PySem.Challenge.rw_stylobate_k15_whole_kinds_are_kept) (n := 63) (k := 17) (x := "_law_script") (CX := C8.CX0) rfl (by decide) (by kernel_rfl) ⟨rfl, by decide, by decide⟩ ?F (fun _ _ _ _ z => z)
    intro w mg fa h Yw G hmg0
    obtain ⟨K, KX, c, m⟩ := Yw
    have hmg : mg ("law" : PySem.Str) = some (.ref fa) := by
      have e : (HandSHeadRun.topDef (OpenLaw.row PySem.Challenge.rw_stylobate_k15_whole_kinds_are_kept).prog 134).name = ("law" : PySem.Str) := by kernel_rfl
      rw [← e]
      exact hmg0
    obtain ⟨fd, hb, hF⟩ := Y.law_facts (P := (PySem.Challenge.rw_stylobate_k15_whole_kinds_are_kept).prog) (w := w) KX G hmg c m
    exact ⟨K, fd, Y.spLaw K, KX, hb, fun H a ns hl _ hS => ⟨a, ns, rfl, hS, Nat.le_trans hl (by decide), fun _ _ => rfl⟩, hF⟩
