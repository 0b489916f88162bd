import PyProof.Rows.All
import Wide.All
import OpenK.AllK
import Wide.FinOn
import KE.KStateDown
import Lean
import HandS.ForMost
import HandS.Defaults
import HandS.Property
import HandS.Head0
import HandS.Head1
import HandS.Head2
import HandS.Head3
import HandS.HeadEnd
import HandS.HeadHook1
import HandS.HeadHook2
import PySem.Challenge.RW_textworths_k09_whole_tables_add_up
import HandS.Walk
import HandS.Gcd
import HandS.WideBits
import HandS.NoneIn
import HandS.Style
import HandS.DictComp
import KE.GoesMore
import HandS.Codes
import HandS.TupLe
import HandS.IsInst
import HandS.Small
import HandS.Flt
set_option Elab.async false
set_option linter.all false
/-! part KHd -/
set_option exponentiation.threshold 256 -- KHd
set_option maxHeartbeats 0 -- KHd
set_option maxRecDepth 100000 -- KHd
namespace KHd
open PySem PySem.Spec PyProof.Rows L2
/-! the text -/
abbrev Pg : Program := PySem.Challenge.pw_textworths_k09_whole_tables_add_up
def top (i : Nat) : Stmt := PySem.Challenge.pw_textworths_k09_whole_tables_add_up.main.body.getD i (.Pass ⟨0, 0, 0, 0⟩)
abbrev s_lowest : Stmt := top 9
abbrev s_is_number : Stmt := top 10
abbrev s_checked : Stmt := top 11
abbrev s_sum_of : Stmt := top 12
abbrev s_product_of : Stmt := top 13
abbrev s_integers_of : Stmt := top 15
abbrev s_numbers_of : Stmt := top 16
abbrev s_dot : Stmt := top 17
abbrev s_divided : Stmt := top 18
abbrev s_checked_signs : Stmt := top 22
abbrev s_checked_sign : Stmt := top 23
abbrev s_order_key : Stmt := top 25
abbrev s_checked_machine : Stmt := top 27
abbrev s_steps_of : Stmt := top 28
abbrev s_integers_behind : Stmt := top 29
abbrev s_stepped : Stmt := top 31
abbrev s_stepped_back : Stmt := top 32
abbrev s_free_columns : Stmt := top 34
abbrev s_form_of : Stmt := top 35
abbrev s_machine_by : Stmt := top 36
abbrev s_is_shaped : Stmt := top 37
abbrev s_are_heads : Stmt := top 38
abbrev s_is_row : Stmt := top 39
abbrev s_checked_form : Stmt := top 40
abbrev s_tariff_of : Stmt := top 42
abbrev s__law_deck : Stmt := top 44
abbrev s__law_draw : Stmt := top 45
abbrev s__law_gcd : Stmt := top 46
abbrev s__law_pair : Stmt := top 47
abbrev s__law_signs : Stmt := top 48
abbrev s__law_number : Stmt := top 49
abbrev s__law_machine : Stmt := top 50
abbrev s__law_some_machine : Stmt := top 51
abbrev s__law_over : Stmt := top 52
abbrev s__law_scaled : Stmt := top 53
abbrev s__law_stepped : Stmt := top 54
abbrev s__law_messages : Stmt := top 55
abbrev s__law_rows : Stmt := top 56
abbrev s__law_columns : Stmt := top 57
abbrev s__law_dot : Stmt := top 58
abbrev s__law_size : Stmt := top 59
abbrev s__law_is_number : Stmt := top 60
abbrev s__law_are_numbers : Stmt := top 61
abbrev s__law_is_shaped : Stmt := top 62
abbrev s__law_powers : Stmt := top 63
abbrev s__law_row_behind : Stmt := top 64
abbrev s__law_adds_up : Stmt := top 65
abbrev s__law_is_told : Stmt := top 66
abbrev s__law_as_machine : Stmt := top 67
abbrev s__law_gives : Stmt := top 68
abbrev s__law_is_right : Stmt := top 69
abbrev s_law : Stmt := top 70
abbrev s_Basis_init : Stmt := inClass (top 19) 0
abbrev s_Basis_left : Stmt := inClass (top 19) 1
abbrev s_Basis_put : Stmt := inClass (top 19) 2
abbrev s_Basis_told : Stmt := inClass (top 19) 3
abbrev s_Machine_init : Stmt := inClass (top 30) 0
abbrev s_Machine_steps : Stmt := inClass (top 30) 5
abbrev s_Tariff_init : Stmt := inClass (top 41) 0
abbrev s_Machine_signs : Stmt := inClass (top 30) 1
abbrev s_Machine_begin : Stmt := inClass (top 30) 2
abbrev s_Machine_end : Stmt := inClass (top 30) 4
abbrev s_Tariff_heads : Stmt := inClass (top 41) 2
abbrev s_Tariff_table : Stmt := inClass (top 41) 3
abbrev s_Tariff_worths : Stmt := inClass (top 41) 4
/-! an own Hook: defs at any reckoned address, any tests of the written part -/
def getterAt (K : PySem.W.Frag) (C f : Str) : Addr := match PySem.W.recIn K (He.ma K (He.ga K C) f) "property" with
  | some (.ref g :: _) => g
  | _ => 0
structure DefX where
  adr : PySem.W.Frag → Addr
  name : Str
  qual : Str
  st : Stmt
abbrev DefX.params (d : DefX) : Arguments := defArgs d.st
abbrev DefX.body (d : DefX) : List Stmt := defBody d.st
abbrev DefX.scope (d : DefX) : Scope := defScope d.st
def fnX (K : PySem.W.Frag) (a : Addr) : He.FnW := match K.lookup a with
  | some ⟨_, _, .func fd, _⟩ => some (fd.name, fd.qualname, fd.params, fd.body, fd.scope, fd.globals, fd.closure, fd.builtins)
  | _ => none
def DefX.val (d : DefX) : He.FnW := some (d.name, d.qual, defArgs d.st, .stmts (defBody d.st), defScope d.st, mainGlobals, [], builtinsNs)
def DefX.ok (K : PySem.W.Frag) (d : DefX) : Bool := PySem.W.keepIn K (.ref (d.adr K)) && (match K.lookup (d.adr K) with
  | some ⟨_, _, .func fd, _⟩ => PySem.W.codeIn K fd.code d.qual && (He.dflB K fd.defaults [] && He.kwdB K fd.kwdefaults [])
  | _ => false)
theorem DefX.funD {K : PySem.W.Frag} {d : DefX} (e : fnX K (d.adr K) = d.val) (c : d.ok K = true) : ∃ fd, FunD K d.name d.qual (defArgs d.st) (defBody d.st) (defScope d.st) [] [] (d.adr K) fd := by
  obtain ⟨kp, c2⟩ := He.ba c
  unfold fnX at e
  cases q : K.lookup (d.adr K) with
  | none =>
    rw [q] at c2
    cases c2
  | some o =>
    obtain ⟨oc, od, dt, osl⟩ := o
    rw [q] at c2 e
    cases dt with
    | func fd =>
      obtain ⟨n1, n2, n3, n4, n5, n6, n7, n8, n9, n10, n11, n12, n13, n14, n15⟩ := fd
      have e2 : (some (n1, n2, n3, n4, n5, n6, n7, n15) : He.FnW) = some (d.name, d.qual, defArgs d.st, .stmts (defBody d.st), defScope d.st, mainGlobals, [], builtinsNs) := e
      simp only [Option.some.injEq, Prod.mk.injEq] at e2
      obtain ⟨h1, h2, h3, h4, h5, h6, h7, h8⟩ := e2
      subst h1 h2 h3 h4 h5 h6 h7 h8
      have c3 : (PySem.W.codeIn K n13 d.qual && (He.dflB K n8 [] && He.kwdB K n9 [])) = true := c2
      obtain ⟨k1, k2⟩ := He.ba c3
      obtain ⟨k3, k4⟩ := He.ba k2
      exact ⟨_, ⟨oc, od, n8, n9, n10, n11, n12, n13, n14, osl, rfl, q, k1, He.dflB_ok k3, He.kwdB_ok k4⟩, kp⟩
    | _ => cases c2
def obsX (fa : List He.Fa) (fb : List (PySem.W.Frag → Bool)) (fn : List DefX) (K : PySem.W.Frag) : He.AlD := (((fa.all fun f => f.ok K) && (fb.all fun f => f K)) && fn.all fun d => d.ok K, fn.map fun d => fnX K (d.adr K))
def valX (fn : List DefX) : He.AlD := (true, fn.map DefX.val)
def SaysX (fa : List He.Fa) (fb : List (PySem.W.Frag → Bool)) (fn : List DefX) (K : PySem.W.Frag) : Prop := obsX fa fb fn K = valX fn
def obsXG (n : Nat) (fa : List He.Fa) (fb : List (PySem.W.Frag → Bool)) (fn : List DefX) (g : Addr → Option Obj) : He.AlD := obsX fa fb fn (He.frG g (He.asD g n))
def hookX (n : Nat) (fa : List He.Fa) (fb : List (PySem.W.Frag → Bool)) (fn : List DefX) : PySem.W.Hook where
  α := He.AlD
  obs := fun s => obsXG n fa fb fn s.heap.get?
  val := fun _ => valX fn
  says := fun _ h => ∃ K : PySem.W.Frag, K.In h ∧ SaysX fa fb fn K
  of := fun _ _ e => ⟨_, He.frG_in, e⟩
  keeps := fun _ _ _ ⟨K, hK, c⟩ k => ⟨K, PySem.W.Frag.In.keeps hK k, c⟩
theorem obsXG_eq {n : Nat} {fa : List He.Fa} {fb : List (PySem.W.Frag → Bool)} {fn : List DefX} {g : Addr → Option Obj} {s : Shared} (h : ∀ a, g a = s.heap.get? a) : obsXG n fa fb fn g = (hookX n fa fb fn).obs s := by
  have e : g = s.heap.get? := funext h
  rw [e] <;> rfl
section
variable {fa : List He.Fa} {fb : List (PySem.W.Frag → Bool)} {fn : List DefX} {K : PySem.W.Frag}
theorem SaysX.fact (c : SaysX fa fb fn K) (i : Nat) {f : He.Fa} (h : fa[i]? = some f := by rfl) : f.ok K = true := by
  have c1 := (He.ba (He.ba (show (((fa.all fun f => f.ok K) && (fb.all fun f => f K)) && fn.all fun d => d.ok K) = true from congrArg (fun z : He.AlD => z.1) c)).1).1
  exact List.all_eq_true.mp c1 f (List.mem_of_getElem? h)
theorem SaysX.factB (c : SaysX fa fb fn K) (i : Nat) {f : PySem.W.Frag → Bool} (h : fb[i]? = some f := by rfl) : f K = true := by
  have c1 := (He.ba (He.ba (show (((fa.all fun f => f.ok K) && (fb.all fun f => f K)) && fn.all fun d => d.ok K) = true from congrArg (fun z : He.AlD => z.1) c)).1).2
  exact List.all_eq_true.mp c1 f (List.mem_of_getElem? h)
theorem SaysX.def_ (c : SaysX fa fb fn K) (i : Nat) {d : DefX} (h : fn[i]? = some d := by rfl) : ∃ fd, FunD K d.name d.qual (defArgs d.st) (defBody d.st) (defScope d.st) [] [] (d.adr K) fd := by
  have c2 := (He.ba (show (((fa.all fun f => f.ok K) && (fb.all fun f => f K)) && fn.all fun d => d.ok K) = true from congrArg (fun z : He.AlD => z.1) c)).2
  have e : fn.map (fun d => fnX K (d.adr K)) = fn.map DefX.val := congrArg (fun z : He.AlD => z.2) c
  have e2 : (fn.map fun d => fnX K (d.adr K))[i]? = (fn.map DefX.val)[i]? := by rw [e]
  rw [List.getElem?_map, List.getElem?_map, h] at e2
  exact DefX.funD (Option.some.inj e2) (List.all_eq_true.mp c2 d (List.mem_of_getElem? h))
end
/-! the defs -/
def d_lowest : DefX := ⟨(fun K => He.ga K "lowest"), "lowest", "lowest", s_lowest⟩
def d_is_number : DefX := ⟨(fun K => He.ga K "is_number"), "is_number", "is_number", s_is_number⟩
def d_checked : DefX := ⟨(fun K => He.ga K "checked"), "checked", "checked", s_checked⟩
def d_sum_of : DefX := ⟨(fun K => He.ga K "sum_of"), "sum_of", "sum_of", s_sum_of⟩
def d_product_of : DefX := ⟨(fun K => He.ga K "product_of"), "product_of", "product_of", s_product_of⟩
def d_integers_of : DefX := ⟨(fun K => He.ga K "integers_of"), "integers_of", "integers_of", s_integers_of⟩
def d_numbers_of : DefX := ⟨(fun K => He.ga K "numbers_of"), "numbers_of", "numbers_of", s_numbers_of⟩
def d_dot : DefX := ⟨(fun K => He.ga K "dot"), "dot", "dot", s_dot⟩
def d_divided : DefX := ⟨(fun K => He.ga K "divided"), "divided", "divided", s_divided⟩
def d_checked_signs : DefX := ⟨(fun K => He.ga K "checked_signs"), "checked_signs", "checked_signs", s_checked_signs⟩
def d_checked_sign : DefX := ⟨(fun K => He.ga K "checked_sign"), "checked_sign", "checked_sign", s_checked_sign⟩
def d_order_key : DefX := ⟨(fun K => He.ga K "order_key"), "order_key", "order_key", s_order_key⟩
def d_checked_machine : DefX := ⟨(fun K => He.ga K "checked_machine"), "checked_machine", "checked_machine", s_checked_machine⟩
def d_steps_of : DefX := ⟨(fun K => He.ga K "steps_of"), "steps_of", "steps_of", s_steps_of⟩
def d_integers_behind : DefX := ⟨(fun K => He.ga K "integers_behind"), "integers_behind", "integers_behind", s_integers_behind⟩
def d_stepped : DefX := ⟨(fun K => He.ga K "stepped"), "stepped", "stepped", s_stepped⟩
def d_stepped_back : DefX := ⟨(fun K => He.ga K "stepped_back"), "stepped_back", "stepped_back", s_stepped_back⟩
def d_free_columns : DefX := ⟨(fun K => He.ga K "free_columns"), "free_columns", "free_columns", s_free_columns⟩
def d_form_of : DefX := ⟨(fun K => He.ga K "form_of"), "form_of", "form_of", s_form_of⟩
def d_machine_by : DefX := ⟨(fun K => He.ga K "machine_by"), "machine_by", "machine_by", s_machine_by⟩
def d_is_shaped : DefX := ⟨(fun K => He.ga K "is_shaped"), "is_shaped", "is_shaped", s_is_shaped⟩
def d_are_heads : DefX := ⟨(fun K => He.ga K "are_heads"), "are_heads", "are_heads", s_are_heads⟩
def d_is_row : DefX := ⟨(fun K => He.ga K "is_row"), "is_row", "is_row", s_is_row⟩
def d_checked_form : DefX := ⟨(fun K => He.ga K "checked_form"), "checked_form", "checked_form", s_checked_form⟩
def d_tariff_of : DefX := ⟨(fun K => He.ga K "tariff_of"), "tariff_of", "tariff_of", s_tariff_of⟩
def d__law_deck : DefX := ⟨(fun K => He.ga K "_law_deck"), "_law_deck", "_law_deck", s__law_deck⟩
def d__law_draw : DefX := ⟨(fun K => He.ga K "_law_draw"), "_law_draw", "_law_draw", s__law_draw⟩
def d__law_gcd : DefX := ⟨(fun K => He.ga K "_law_gcd"), "_law_gcd", "_law_gcd", s__law_gcd⟩
def d__law_pair : DefX := ⟨(fun K => He.ga K "_law_pair"), "_law_pair", "_law_pair", s__law_pair⟩
def d__law_signs : DefX := ⟨(fun K => He.ga K "_law_signs"), "_law_signs", "_law_signs", s__law_signs⟩
def d__law_number : DefX := ⟨(fun K => He.ga K "_law_number"), "_law_number", "_law_number", s__law_number⟩
def d__law_machine : DefX := ⟨(fun K => He.ga K "_law_machine"), "_law_machine", "_law_machine", s__law_machine⟩
def d__law_some_machine : DefX := ⟨(fun K => He.ga K "_law_some_machine"), "_law_some_machine", "_law_some_machine", s__law_some_machine⟩
def d__law_over : DefX := ⟨(fun K => He.ga K "_law_over"), "_law_over", "_law_over", s__law_over⟩
def d__law_scaled : DefX := ⟨(fun K => He.ga K "_law_scaled"), "_law_scaled", "_law_scaled", s__law_scaled⟩
def d__law_stepped : DefX := ⟨(fun K => He.ga K "_law_stepped"), "_law_stepped", "_law_stepped", s__law_stepped⟩
def d__law_messages : DefX := ⟨(fun K => He.ga K "_law_messages"), "_law_messages", "_law_messages", s__law_messages⟩
def d__law_rows : DefX := ⟨(fun K => He.ga K "_law_rows"), "_law_rows", "_law_rows", s__law_rows⟩
def d__law_columns : DefX := ⟨(fun K => He.ga K "_law_columns"), "_law_columns", "_law_columns", s__law_columns⟩
def d__law_dot : DefX := ⟨(fun K => He.ga K "_law_dot"), "_law_dot", "_law_dot", s__law_dot⟩
def d__law_size : DefX := ⟨(fun K => He.ga K "_law_size"), "_law_size", "_law_size", s__law_size⟩
def d__law_is_number : DefX := ⟨(fun K => He.ga K "_law_is_number"), "_law_is_number", "_law_is_number", s__law_is_number⟩
def d__law_are_numbers : DefX := ⟨(fun K => He.ga K "_law_are_numbers"), "_law_are_numbers", "_law_are_numbers", s__law_are_numbers⟩
def d__law_is_shaped : DefX := ⟨(fun K => He.ga K "_law_is_shaped"), "_law_is_shaped", "_law_is_shaped", s__law_is_shaped⟩
def d__law_powers : DefX := ⟨(fun K => He.ga K "_law_powers"), "_law_powers", "_law_powers", s__law_powers⟩
def d__law_row_behind : DefX := ⟨(fun K => He.ga K "_law_row_behind"), "_law_row_behind", "_law_row_behind", s__law_row_behind⟩
def d__law_adds_up : DefX := ⟨(fun K => He.ga K "_law_adds_up"), "_law_adds_up", "_law_adds_up", s__law_adds_up⟩
def d__law_is_told : DefX := ⟨(fun K => He.ga K "_law_is_told"), "_law_is_told", "_law_is_told", s__law_is_told⟩
def d__law_as_machine : DefX := ⟨(fun K => He.ga K "_law_as_machine"), "_law_as_machine", "_law_as_machine", s__law_as_machine⟩
def d__law_gives : DefX := ⟨(fun K => He.ga K "_law_gives"), "_law_gives", "_law_gives", s__law_gives⟩
def d__law_is_right : DefX := ⟨(fun K => He.ga K "_law_is_right"), "_law_is_right", "_law_is_right", s__law_is_right⟩
def d_law : DefX := ⟨(fun K => He.ga K "law"), "law", "law", s_law⟩
def d_Basis_init : DefX := ⟨(fun K => He.ma K (He.ga K "Basis") "__init__"), "__init__", "Basis.__init__", s_Basis_init⟩
def d_Basis_left : DefX := ⟨(fun K => He.ma K (He.ga K "Basis") "left"), "left", "Basis.left", s_Basis_left⟩
def d_Basis_put : DefX := ⟨(fun K => He.ma K (He.ga K "Basis") "put"), "put", "Basis.put", s_Basis_put⟩
def d_Basis_told : DefX := ⟨(fun K => He.ma K (He.ga K "Basis") "told"), "told", "Basis.told", s_Basis_told⟩
def d_Machine_init : DefX := ⟨(fun K => He.ma K (He.ga K "Machine") "__init__"), "__init__", "Machine.__init__", s_Machine_init⟩
def d_Machine_steps : DefX := ⟨(fun K => He.ma K (He.ga K "Machine") "steps"), "steps", "Machine.steps", s_Machine_steps⟩
def d_Tariff_init : DefX := ⟨(fun K => He.ma K (He.ga K "Tariff") "__init__"), "__init__", "Tariff.__init__", s_Tariff_init⟩
def d_Machine_signs : DefX := ⟨(fun K => getterAt K "Machine" "signs"), "signs", "Machine.signs", s_Machine_signs⟩
def d_Machine_begin : DefX := ⟨(fun K => getterAt K "Machine" "begin"), "begin", "Machine.begin", s_Machine_begin⟩
def d_Machine_end : DefX := ⟨(fun K => getterAt K "Machine" "end"), "end", "Machine.end", s_Machine_end⟩
def d_Tariff_heads : DefX := ⟨(fun K => getterAt K "Tariff" "heads"), "heads", "Tariff.heads", s_Tariff_heads⟩
def d_Tariff_table : DefX := ⟨(fun K => getterAt K "Tariff" "table"), "table", "Tariff.table", s_Tariff_table⟩
def d_Tariff_worths : DefX := ⟨(fun K => getterAt K "Tariff" "worths"), "worths", "Tariff.worths", s_Tariff_worths⟩
def fn : List DefX := [d_lowest, d_is_number, d_checked, d_sum_of, d_product_of, d_integers_of, d_numbers_of, d_dot, d_divided, d_checked_signs, d_checked_sign, d_order_key, d_checked_machine, d_steps_of, d_integers_behind, d_stepped, d_stepped_back, d_free_columns, d_form_of, d_machine_by, d_is_shaped, d_are_heads, d_is_row, d_checked_form, d_tariff_of, d__law_deck, d__law_draw, d__law_gcd, d__law_pair, d__law_signs, d__law_number, d__law_machine, d__law_some_machine, d__law_over, d__law_scaled, d__law_stepped, d__law_messages, d__law_rows, d__law_columns, d__law_dot, d__law_size, d__law_is_number, d__law_are_numbers, d__law_is_shaped, d__law_powers, d__law_row_behind, d__law_adds_up, d__law_is_told, d__law_as_machine, d__law_gives, d__law_is_right, d_law, d_Basis_init, d_Basis_left, d_Basis_put, d_Basis_told, d_Machine_init, d_Machine_steps, d_Tariff_init, d_Machine_signs, d_Machine_begin, d_Machine_end, d_Tariff_heads, d_Tariff_table, d_Tariff_worths]
def fa : List He.Fa := [.glo "lowest", .glo "is_number", .glo "checked", .glo "sum_of", .glo "product_of", .glo "integers_of", .glo "numbers_of", .glo "dot", .glo "divided", .glo "checked_signs", .glo "checked_sign", .glo "order_key", .glo "checked_machine", .glo "steps_of", .glo "integers_behind", .glo "stepped", .glo "stepped_back", .glo "free_columns", .glo "form_of", .glo "machine_by", .glo "is_shaped", .glo "are_heads", .glo "is_row", .glo "checked_form", .glo "tariff_of", .glo "_law_deck", .glo "_law_draw", .glo "_law_gcd", .glo "_law_pair", .glo "_law_signs", .glo "_law_number", .glo "_law_machine", .glo "_law_some_machine", .glo "_law_over", .glo "_law_scaled", .glo "_law_stepped", .glo "_law_messages", .glo "_law_rows", .glo "_law_columns", .glo "_law_dot", .glo "_law_size", .glo "_law_is_number", .glo "_law_are_numbers", .glo "_law_is_shaped", .glo "_law_powers", .glo "_law_row_behind", .glo "_law_adds_up", .glo "_law_is_told", .glo "_law_as_machine", .glo "_law_gives", .glo "_law_is_right", .glo "law", .free "len", .free "abs", .free "any", .free "all", .free "sum", .free "sorted", .free "min", .free "max", .free "int", .free "list", .free "isinstance", .free "range", .free "zip", .free "enumerate", .free "tuple", .free "str", .free "bool", .glo "Basis", .cls "Basis", .mkr "Basis", .glo "Machine", .cls "Machine", .mkr "Machine", .glo "Tariff", .cls "Tariff", .mkr "Tariff", .noat "Basis" "_kept", .noat "Machine" "_signs", .noat "Machine" "_begin", .noat "Machine" "_roads", .noat "Machine" "_end", .noat "Machine" "_steps", .noat "Tariff" "_machine", .noat "Tariff" "_signs", .noat "Tariff" "_heads", .noat "Tariff" "_table", .noat "Tariff" "_worths", .meth "Basis" "left", .meth "Basis" "put", .meth "Basis" "told", .meth "Machine" "steps", .str "LETTERS" "abcdefghijklmnopqrstuvwxyz"]
def bltB (x : Str) (id : String) (K : PySem.W.Frag) : Bool := He.eqO (PySem.W.nsIn K mainGlobals x) (some (some (.builtin id)))
def propB (C f : Str) (K : PySem.W.Frag) : Bool := He.eqO (PySem.W.findIn K (.ref (He.ga K C)) f) (some (some (.ref (He.ma K (He.ga K C) f)))) && (He.eqO (PySem.W.specialIn K (.ref (He.ma K (He.ga K C) f)) "__get__") (some (some (.builtin "property.__get__"))) && (decide (PySem.W.takesIn K (.ref (He.ma K (He.ga K C) f)) = some true) && (match PySem.W.recIn K (He.ma K (He.ga K C) f) "property" with
  | some (.ref g :: _) => g == getterAt K C f
  | _ => false)))
theorem propB_ok {C f : Str} {K : PySem.W.Frag} (h : propB C f K = true) : PropOf K (He.ga K C) f (He.ma K (He.ga K C) f) (getterAt K C f) := by
  obtain ⟨h1, h⟩ := He.ba h
  obtain ⟨h2, h⟩ := He.ba h
  obtain ⟨h3, h4⟩ := He.ba h
  refine ⟨He.eqO_ok h1, He.eqO_ok h2, of_decide_eq_true h3, ?_⟩
  cases e : PySem.W.recIn K (He.ma K (He.ga K C) f) "property" with
  | none =>
    rw [e] at h4
    cases h4
  | some l =>
    rw [e] at h4
    cases l with
    | nil => cases h4
    | cons v r =>
      cases v with
      | ref g =>
        have eg : g = getterAt K C f := by
          have h5 : (g == getterAt K C f) = true := h4
          exact eq_of_beq h5
        exact ⟨r, by rw [eg]⟩
      | _ => cases h4
def fb : List (PySem.W.Frag → Bool) := [bltB "gcd" "math.gcd", bltB "lcm" "math.lcm", propB "Machine" "signs", propB "Machine" "begin", propB "Machine" "end", propB "Tariff" "heads", propB "Tariff" "table", propB "Tariff" "worths"]
def loose1 : List Str := ["_wall", "WorthError", "InvalidNumber", "InvalidSigns", "UnknownSign", "InvalidMachine", "lowest", "is_number", "checked", "sum_of", "product_of", "integers_of", "numbers_of", "dot", "divided", "Basis", "LETTERS", "checked_signs", "checked_sign", "known", "order_key", "checked_machine", "steps_of", "integers_behind", "Machine", "stepped", "stepped_back", "free_columns", "form_of", "machine_by", "is_shaped"]
def loose2 : List Str := ["are_heads", "is_row", "checked_form", "Tariff", "tariff_of", "_law_deck", "_law_draw", "_law_gcd", "_law_pair", "_law_signs", "_law_number", "_law_machine", "_law_some_machine", "_law_over", "_law_scaled", "_law_stepped", "_law_messages", "_law_rows", "_law_columns", "_law_dot", "_law_size", "_law_is_number", "_law_are_numbers", "_law_is_shaped", "_law_powers", "_law_row_behind", "_law_adds_up", "_law_is_told", "_law_as_machine", "_law_gives", "_law_is_right"]
def loose : List Str := loose1 ++ loose2
abbrev R : PySem.W.OpenRow := PySem.W.OpenLaw.row PySem.Challenge.rw_textworths_k09_whole_tables_add_up
abbrev qv : Program := PySem.W.view R.prog [0, 70]
/-- all facts -/
structure TX (K : PySem.W.Frag) (mg : Str → Option Value) : Prop where
  ex : ∃ h : Heap, K.In h ∧ h.Ns mainGlobals mg
  says : SaysX fa fb fn K
theorem TX.g_lowest {K mg} (T : TX K mg) : mg ("lowest" : Str) = some (.ref (He.ga K "lowest")) := let ⟨_, X, G⟩ := T.ex; He.glo_ok X G (T.says.fact 0 (f := .glo "lowest") rfl)
theorem TX.g_is_number {K mg} (T : TX K mg) : mg ("is_number" : Str) = some (.ref (He.ga K "is_number")) := let ⟨_, X, G⟩ := T.ex; He.glo_ok X G (T.says.fact 1 (f := .glo "is_number") rfl)
theorem TX.g_checked {K mg} (T : TX K mg) : mg ("checked" : Str) = some (.ref (He.ga K "checked")) := let ⟨_, X, G⟩ := T.ex; He.glo_ok X G (T.says.fact 2 (f := .glo "checked") rfl)
theorem TX.g_sum_of {K mg} (T : TX K mg) : mg ("sum_of" : Str) = some (.ref (He.ga K "sum_of")) := let ⟨_, X, G⟩ := T.ex; He.glo_ok X G (T.says.fact 3 (f := .glo "sum_of") rfl)
theorem TX.g_product_of {K mg} (T : TX K mg) : mg ("product_of" : Str) = some (.ref (He.ga K "product_of")) := let ⟨_, X, G⟩ := T.ex; He.glo_ok X G (T.says.fact 4 (f := .glo "product_of") rfl)
theorem TX.g_integers_of {K mg} (T : TX K mg) : mg ("integers_of" : Str) = some (.ref (He.ga K "integers_of")) := let ⟨_, X, G⟩ := T.ex; He.glo_ok X G (T.says.fact 5 (f := .glo "integers_of") rfl)
theorem TX.g_numbers_of {K mg} (T : TX K mg) : mg ("numbers_of" : Str) = some (.ref (He.ga K "numbers_of")) := let ⟨_, X, G⟩ := T.ex; He.glo_ok X G (T.says.fact 6 (f := .glo "numbers_of") rfl)
theorem TX.g_dot {K mg} (T : TX K mg) : mg ("dot" : Str) = some (.ref (He.ga K "dot")) := let ⟨_, X, G⟩ := T.ex; He.glo_ok X G (T.says.fact 7 (f := .glo "dot") rfl)
theorem TX.g_divided {K mg} (T : TX K mg) : mg ("divided" : Str) = some (.ref (He.ga K "divided")) := let ⟨_, X, G⟩ := T.ex; He.glo_ok X G (T.says.fact 8 (f := .glo "divided") rfl)
theorem TX.g_checked_signs {K mg} (T : TX K mg) : mg ("checked_signs" : Str) = some (.ref (He.ga K "checked_signs")) := let ⟨_, X, G⟩ := T.ex; He.glo_ok X G (T.says.fact 9 (f := .glo "checked_signs") rfl)
theorem TX.g_checked_sign {K mg} (T : TX K mg) : mg ("checked_sign" : Str) = some (.ref (He.ga K "checked_sign")) := let ⟨_, X, G⟩ := T.ex; He.glo_ok X G (T.says.fact 10 (f := .glo "checked_sign") rfl)
theorem TX.g_order_key {K mg} (T : TX K mg) : mg ("order_key" : Str) = some (.ref (He.ga K "order_key")) := let ⟨_, X, G⟩ := T.ex; He.glo_ok X G (T.says.fact 11 (f := .glo "order_key") rfl)
theorem TX.g_checked_machine {K mg} (T : TX K mg) : mg ("checked_machine" : Str) = some (.ref (He.ga K "checked_machine")) := let ⟨_, X, G⟩ := T.ex; He.glo_ok X G (T.says.fact 12 (f := .glo "checked_machine") rfl)
theorem TX.g_steps_of {K mg} (T : TX K mg) : mg ("steps_of" : Str) = some (.ref (He.ga K "steps_of")) := let ⟨_, X, G⟩ := T.ex; He.glo_ok X G (T.says.fact 13 (f := .glo "steps_of") rfl)
theorem TX.g_integers_behind {K mg} (T : TX K mg) : mg ("integers_behind" : Str) = some (.ref (He.ga K "integers_behind")) := let ⟨_, X, G⟩ := T.ex; He.glo_ok X G (T.says.fact 14 (f := .glo "integers_behind") rfl)
theorem TX.g_stepped {K mg} (T : TX K mg) : mg ("stepped" : Str) = some (.ref (He.ga K "stepped")) := let ⟨_, X, G⟩ := T.ex; He.glo_ok X G (T.says.fact 15 (f := .glo "stepped") rfl)
theorem TX.g_stepped_back {K mg} (T : TX K mg) : mg ("stepped_back" : Str) = some (.ref (He.ga K "stepped_back")) := let ⟨_, X, G⟩ := T.ex; He.glo_ok X G (T.says.fact 16 (f := .glo "stepped_back") rfl)
theorem TX.g_free_columns {K mg} (T : TX K mg) : mg ("free_columns" : Str) = some (.ref (He.ga K "free_columns")) := let ⟨_, X, G⟩ := T.ex; He.glo_ok X G (T.says.fact 17 (f := .glo "free_columns") rfl)
theorem TX.g_form_of {K mg} (T : TX K mg) : mg ("form_of" : Str) = some (.ref (He.ga K "form_of")) := let ⟨_, X, G⟩ := T.ex; He.glo_ok X G (T.says.fact 18 (f := .glo "form_of") rfl)
theorem TX.g_machine_by {K mg} (T : TX K mg) : mg ("machine_by" : Str) = some (.ref (He.ga K "machine_by")) := let ⟨_, X, G⟩ := T.ex; He.glo_ok X G (T.says.fact 19 (f := .glo "machine_by") rfl)
theorem TX.g_is_shaped {K mg} (T : TX K mg) : mg ("is_shaped" : Str) = some (.ref (He.ga K "is_shaped")) := let ⟨_, X, G⟩ := T.ex; He.glo_ok X G (T.says.fact 20 (f := .glo "is_shaped") rfl)
theorem TX.g_are_heads {K mg} (T : TX K mg) : mg ("are_heads" : Str) = some (.ref (He.ga K "are_heads")) := let ⟨_, X, G⟩ := T.ex; He.glo_ok X G (T.says.fact 21 (f := .glo "are_heads") rfl)
theorem TX.g_is_row {K mg} (T : TX K mg) : mg ("is_row" : Str) = some (.ref (He.ga K "is_row")) := let ⟨_, X, G⟩ := T.ex; He.glo_ok X G (T.says.fact 22 (f := .glo "is_row") rfl)
theorem TX.g_checked_form {K mg} (T : TX K mg) : mg ("checked_form" : Str) = some (.ref (He.ga K "checked_form")) := let ⟨_, X, G⟩ := T.ex; He.glo_ok X G (T.says.fact 23 (f := .glo "checked_form") rfl)
theorem TX.g_tariff_of {K mg} (T : TX K mg) : mg ("tariff_of" : Str) = some (.ref (He.ga K "tariff_of")) := let ⟨_, X, G⟩ := T.ex; He.glo_ok X G (T.says.fact 24 (f := .glo "tariff_of") rfl)
theorem TX.g__law_deck {K mg} (T : TX K mg) : mg ("_law_deck" : Str) = some (.ref (He.ga K "_law_deck")) := let ⟨_, X, G⟩ := T.ex; He.glo_ok X G (T.says.fact 25 (f := .glo "_law_deck") rfl)
theorem TX.g__law_draw {K mg} (T : TX K mg) : mg ("_law_draw" : Str) = some (.ref (He.ga K "_law_draw")) := let ⟨_, X, G⟩ := T.ex; He.glo_ok X G (T.says.fact 26 (f := .glo "_law_draw") rfl)
theorem TX.g__law_gcd {K mg} (T : TX K mg) : mg ("_law_gcd" : Str) = some (.ref (He.ga K "_law_gcd")) := let ⟨_, X, G⟩ := T.ex; He.glo_ok X G (T.says.fact 27 (f := .glo "_law_gcd") rfl)
theorem TX.g__law_pair {K mg} (T : TX K mg) : mg ("_law_pair" : Str) = some (.ref (He.ga K "_law_pair")) := let ⟨_, X, G⟩ := T.ex; He.glo_ok X G (T.says.fact 28 (f := .glo "_law_pair") rfl)
theorem TX.g__law_signs {K mg} (T : TX K mg) : mg ("_law_signs" : Str) = some (.ref (He.ga K "_law_signs")) := let ⟨_, X, G⟩ := T.ex; He.glo_ok X G (T.says.fact 29 (f := .glo "_law_signs") rfl)
theorem TX.g__law_number {K mg} (T : TX K mg) : mg ("_law_number" : Str) = some (.ref (He.ga K "_law_number")) := let ⟨_, X, G⟩ := T.ex; He.glo_ok X G (T.says.fact 30 (f := .glo "_law_number") rfl)
theorem TX.g__law_machine {K mg} (T : TX K mg) : mg ("_law_machine" : Str) = some (.ref (He.ga K "_law_machine")) := let ⟨_, X, G⟩ := T.ex; He.glo_ok X G (T.says.fact 31 (f := .glo "_law_machine") rfl)
theorem TX.g__law_some_machine {K mg} (T : TX K mg) : mg ("_law_some_machine" : Str) = some (.ref (He.ga K "_law_some_machine")) := let ⟨_, X, G⟩ := T.ex; He.glo_ok X G (T.says.fact 32 (f := .glo "_law_some_machine") rfl)
theorem TX.g__law_over {K mg} (T : TX K mg) : mg ("_law_over" : Str) = some (.ref (He.ga K "_law_over")) := let ⟨_, X, G⟩ := T.ex; He.glo_ok X G (T.says.fact 33 (f := .glo "_law_over") rfl)
theorem TX.g__law_scaled {K mg} (T : TX K mg) : mg ("_law_scaled" : Str) = some (.ref (He.ga K "_law_scaled")) := let ⟨_, X, G⟩ := T.ex; He.glo_ok X G (T.says.fact 34 (f := .glo "_law_scaled") rfl)
theorem TX.g__law_stepped {K mg} (T : TX K mg) : mg ("_law_stepped" : Str) = some (.ref (He.ga K "_law_stepped")) := let ⟨_, X, G⟩ := T.ex; He.glo_ok X G (T.says.fact 35 (f := .glo "_law_stepped") rfl)
theorem TX.g__law_messages {K mg} (T : TX K mg) : mg ("_law_messages" : Str) = some (.ref (He.ga K "_law_messages")) := let ⟨_, X, G⟩ := T.ex; He.glo_ok X G (T.says.fact 36 (f := .glo "_law_messages") rfl)
theorem TX.g__law_rows {K mg} (T : TX K mg) : mg ("_law_rows" : Str) = some (.ref (He.ga K "_law_rows")) := let ⟨_, X, G⟩ := T.ex; He.glo_ok X G (T.says.fact 37 (f := .glo "_law_rows") rfl)
theorem TX.g__law_columns {K mg} (T : TX K mg) : mg ("_law_columns" : Str) = some (.ref (He.ga K "_law_columns")) := let ⟨_, X, G⟩ := T.ex; He.glo_ok X G (T.says.fact 38 (f := .glo "_law_columns") rfl)
theorem TX.g__law_dot {K mg} (T : TX K mg) : mg ("_law_dot" : Str) = some (.ref (He.ga K "_law_dot")) := let ⟨_, X, G⟩ := T.ex; He.glo_ok X G (T.says.fact 39 (f := .glo "_law_dot") rfl)
theorem TX.g__law_size {K mg} (T : TX K mg) : mg ("_law_size" : Str) = some (.ref (He.ga K "_law_size")) := let ⟨_, X, G⟩ := T.ex; He.glo_ok X G (T.says.fact 40 (f := .glo "_law_size") rfl)
theorem TX.g__law_is_number {K mg} (T : TX K mg) : mg ("_law_is_number" : Str) = some (.ref (He.ga K "_law_is_number")) := let ⟨_, X, G⟩ := T.ex; He.glo_ok X G (T.says.fact 41 (f := .glo "_law_is_number") rfl)
theorem TX.g__law_are_numbers {K mg} (T : TX K mg) : mg ("_law_are_numbers" : Str) = some (.ref (He.ga K "_law_are_numbers")) := let ⟨_, X, G⟩ := T.ex; He.glo_ok X G (T.says.fact 42 (f := .glo "_law_are_numbers") rfl)
theorem TX.g__law_is_shaped {K mg} (T : TX K mg) : mg ("_law_is_shaped" : Str) = some (.ref (He.ga K "_law_is_shaped")) := let ⟨_, X, G⟩ := T.ex; He.glo_ok X G (T.says.fact 43 (f := .glo "_law_is_shaped") rfl)
theorem TX.g__law_powers {K mg} (T : TX K mg) : mg ("_law_powers" : Str) = some (.ref (He.ga K "_law_powers")) := let ⟨_, X, G⟩ := T.ex; He.glo_ok X G (T.says.fact 44 (f := .glo "_law_powers") rfl)
theorem TX.g__law_row_behind {K mg} (T : TX K mg) : mg ("_law_row_behind" : Str) = some (.ref (He.ga K "_law_row_behind")) := let ⟨_, X, G⟩ := T.ex; He.glo_ok X G (T.says.fact 45 (f := .glo "_law_row_behind") rfl)
theorem TX.g__law_adds_up {K mg} (T : TX K mg) : mg ("_law_adds_up" : Str) = some (.ref (He.ga K "_law_adds_up")) := let ⟨_, X, G⟩ := T.ex; He.glo_ok X G (T.says.fact 46 (f := .glo "_law_adds_up") rfl)
theorem TX.g__law_is_told {K mg} (T : TX K mg) : mg ("_law_is_told" : Str) = some (.ref (He.ga K "_law_is_told")) := let ⟨_, X, G⟩ := T.ex; He.glo_ok X G (T.says.fact 47 (f := .glo "_law_is_told") rfl)
theorem TX.g__law_as_machine {K mg} (T : TX K mg) : mg ("_law_as_machine" : Str) = some (.ref (He.ga K "_law_as_machine")) := let ⟨_, X, G⟩ := T.ex; He.glo_ok X G (T.says.fact 48 (f := .glo "_law_as_machine") rfl)
theorem TX.g__law_gives {K mg} (T : TX K mg) : mg ("_law_gives" : Str) = some (.ref (He.ga K "_law_gives")) := let ⟨_, X, G⟩ := T.ex; He.glo_ok X G (T.says.fact 49 (f := .glo "_law_gives") rfl)
theorem TX.g__law_is_right {K mg} (T : TX K mg) : mg ("_law_is_right" : Str) = some (.ref (He.ga K "_law_is_right")) := let ⟨_, X, G⟩ := T.ex; He.glo_ok X G (T.says.fact 50 (f := .glo "_law_is_right") rfl)
theorem TX.g_law {K mg} (T : TX K mg) : mg ("law" : Str) = some (.ref (He.ga K "law")) := let ⟨_, X, G⟩ := T.ex; He.glo_ok X G (T.says.fact 51 (f := .glo "law") rfl)
theorem TX.f_len {K mg} (T : TX K mg) : mg ("len" : Str) = none := let ⟨_, X, G⟩ := T.ex; He.free_ok X G (T.says.fact 52 (f := .free "len") rfl)
theorem TX.f_abs {K mg} (T : TX K mg) : mg ("abs" : Str) = none := let ⟨_, X, G⟩ := T.ex; He.free_ok X G (T.says.fact 53 (f := .free "abs") rfl)
theorem TX.f_any {K mg} (T : TX K mg) : mg ("any" : Str) = none := let ⟨_, X, G⟩ := T.ex; He.free_ok X G (T.says.fact 54 (f := .free "any") rfl)
theorem TX.f_all {K mg} (T : TX K mg) : mg ("all" : Str) = none := let ⟨_, X, G⟩ := T.ex; He.free_ok X G (T.says.fact 55 (f := .free "all") rfl)
theorem TX.f_sum {K mg} (T : TX K mg) : mg ("sum" : Str) = none := let ⟨_, X, G⟩ := T.ex; He.free_ok X G (T.says.fact 56 (f := .free "sum") rfl)
theorem TX.f_sorted {K mg} (T : TX K mg) : mg ("sorted" : Str) = none := let ⟨_, X, G⟩ := T.ex; He.free_ok X G (T.says.fact 57 (f := .free "sorted") rfl)
theorem TX.f_min {K mg} (T : TX K mg) : mg ("min" : Str) = none := let ⟨_, X, G⟩ := T.ex; He.free_ok X G (T.says.fact 58 (f := .free "min") rfl)
theorem TX.f_max {K mg} (T : TX K mg) : mg ("max" : Str) = none := let ⟨_, X, G⟩ := T.ex; He.free_ok X G (T.says.fact 59 (f := .free "max") rfl)
theorem TX.f_int {K mg} (T : TX K mg) : mg ("int" : Str) = none := let ⟨_, X, G⟩ := T.ex; He.free_ok X G (T.says.fact 60 (f := .free "int") rfl)
theorem TX.f_list {K mg} (T : TX K mg) : mg ("list" : Str) = none := let ⟨_, X, G⟩ := T.ex; He.free_ok X G (T.says.fact 61 (f := .free "list") rfl)
theorem TX.f_isinstance {K mg} (T : TX K mg) : mg ("isinstance" : Str) = none := let ⟨_, X, G⟩ := T.ex; He.free_ok X G (T.says.fact 62 (f := .free "isinstance") rfl)
theorem TX.f_range {K mg} (T : TX K mg) : mg ("range" : Str) = none := let ⟨_, X, G⟩ := T.ex; He.free_ok X G (T.says.fact 63 (f := .free "range") rfl)
theorem TX.f_zip {K mg} (T : TX K mg) : mg ("zip" : Str) = none := let ⟨_, X, G⟩ := T.ex; He.free_ok X G (T.says.fact 64 (f := .free "zip") rfl)
theorem TX.f_enumerate {K mg} (T : TX K mg) : mg ("enumerate" : Str) = none := let ⟨_, X, G⟩ := T.ex; He.free_ok X G (T.says.fact 65 (f := .free "enumerate") rfl)
theorem TX.f_tuple {K mg} (T : TX K mg) : mg ("tuple" : Str) = none := let ⟨_, X, G⟩ := T.ex; He.free_ok X G (T.says.fact 66 (f := .free "tuple") rfl)
theorem TX.f_str {K mg} (T : TX K mg) : mg ("str" : Str) = none := let ⟨_, X, G⟩ := T.ex; He.free_ok X G (T.says.fact 67 (f := .free "str") rfl)
theorem TX.f_bool {K mg} (T : TX K mg) : mg ("bool" : Str) = none := let ⟨_, X, G⟩ := T.ex; He.free_ok X G (T.says.fact 68 (f := .free "bool") rfl)
theorem TX.g_Basis {K mg} (T : TX K mg) : mg ("Basis" : Str) = some (.ref (He.ga K "Basis")) := let ⟨_, X, G⟩ := T.ex; He.glo_ok X G (T.says.fact 69 (f := .glo "Basis") rfl)
theorem TX.c_Basis {K mg} (T : TX K mg) : Cls K (He.ga K "Basis") := He.cls_ok (T.says.fact 70 (f := .cls "Basis") rfl)
theorem TX.k_Basis {K mg} (T : TX K mg) : Mk K (He.ga K "Basis") (He.ma K (He.ga K "Basis") "__init__") := He.mkr_ok (T.says.fact 71 (f := .mkr "Basis") rfl)
theorem TX.g_Machine {K mg} (T : TX K mg) : mg ("Machine" : Str) = some (.ref (He.ga K "Machine")) := let ⟨_, X, G⟩ := T.ex; He.glo_ok X G (T.says.fact 72 (f := .glo "Machine") rfl)
theorem TX.c_Machine {K mg} (T : TX K mg) : Cls K (He.ga K "Machine") := He.cls_ok (T.says.fact 73 (f := .cls "Machine") rfl)
theorem TX.k_Machine {K mg} (T : TX K mg) : Mk K (He.ga K "Machine") (He.ma K (He.ga K "Machine") "__init__") := He.mkr_ok (T.says.fact 74 (f := .mkr "Machine") rfl)
theorem TX.g_Tariff {K mg} (T : TX K mg) : mg ("Tariff" : Str) = some (.ref (He.ga K "Tariff")) := let ⟨_, X, G⟩ := T.ex; He.glo_ok X G (T.says.fact 75 (f := .glo "Tariff") rfl)
theorem TX.c_Tariff {K mg} (T : TX K mg) : Cls K (He.ga K "Tariff") := He.cls_ok (T.says.fact 76 (f := .cls "Tariff") rfl)
theorem TX.k_Tariff {K mg} (T : TX K mg) : Mk K (He.ga K "Tariff") (He.ma K (He.ga K "Tariff") "__init__") := He.mkr_ok (T.says.fact 77 (f := .mkr "Tariff") rfl)
theorem TX.n_Basis_kept {K mg} (T : TX K mg) : NoAttr K (He.ga K "Basis") "_kept" := He.noat_ok (T.says.fact 78 (f := .noat "Basis" "_kept") rfl)
theorem TX.n_Machine_signs {K mg} (T : TX K mg) : NoAttr K (He.ga K "Machine") "_signs" := He.noat_ok (T.says.fact 79 (f := .noat "Machine" "_signs") rfl)
theorem TX.n_Machine_begin {K mg} (T : TX K mg) : NoAttr K (He.ga K "Machine") "_begin" := He.noat_ok (T.says.fact 80 (f := .noat "Machine" "_begin") rfl)
theorem TX.n_Machine_roads {K mg} (T : TX K mg) : NoAttr K (He.ga K "Machine") "_roads" := He.noat_ok (T.says.fact 81 (f := .noat "Machine" "_roads") rfl)
theorem TX.n_Machine_end {K mg} (T : TX K mg) : NoAttr K (He.ga K "Machine") "_end" := He.noat_ok (T.says.fact 82 (f := .noat "Machine" "_end") rfl)
theorem TX.n_Machine_steps {K mg} (T : TX K mg) : NoAttr K (He.ga K "Machine") "_steps" := He.noat_ok (T.says.fact 83 (f := .noat "Machine" "_steps") rfl)
theorem TX.n_Tariff_machine {K mg} (T : TX K mg) : NoAttr K (He.ga K "Tariff") "_machine" := He.noat_ok (T.says.fact 84 (f := .noat "Tariff" "_machine") rfl)
theorem TX.n_Tariff_signs {K mg} (T : TX K mg) : NoAttr K (He.ga K "Tariff") "_signs" := He.noat_ok (T.says.fact 85 (f := .noat "Tariff" "_signs") rfl)
theorem TX.n_Tariff_heads {K mg} (T : TX K mg) : NoAttr K (He.ga K "Tariff") "_heads" := He.noat_ok (T.says.fact 86 (f := .noat "Tariff" "_heads") rfl)
theorem TX.n_Tariff_table {K mg} (T : TX K mg) : NoAttr K (He.ga K "Tariff") "_table" := He.noat_ok (T.says.fact 87 (f := .noat "Tariff" "_table") rfl)
theorem TX.n_Tariff_worths {K mg} (T : TX K mg) : NoAttr K (He.ga K "Tariff") "_worths" := He.noat_ok (T.says.fact 88 (f := .noat "Tariff" "_worths") rfl)
theorem TX.m_Basis_left {K mg} (T : TX K mg) : Meth K (He.ga K "Basis") "left" (He.ma K (He.ga K "Basis") "left") := He.meth_ok (T.says.fact 89 (f := .meth "Basis" "left") rfl)
theorem TX.m_Basis_put {K mg} (T : TX K mg) : Meth K (He.ga K "Basis") "put" (He.ma K (He.ga K "Basis") "put") := He.meth_ok (T.says.fact 90 (f := .meth "Basis" "put") rfl)
theorem TX.m_Basis_told {K mg} (T : TX K mg) : Meth K (He.ga K "Basis") "told" (He.ma K (He.ga K "Basis") "told") := He.meth_ok (T.says.fact 91 (f := .meth "Basis" "told") rfl)
theorem TX.m_Machine_steps {K mg} (T : TX K mg) : Meth K (He.ga K "Machine") "steps" (He.ma K (He.ga K "Machine") "steps") := He.meth_ok (T.says.fact 92 (f := .meth "Machine" "steps") rfl)
theorem TX.s_LETTERS {K mg} (T : TX K mg) : ∃ t, mg ("LETTERS" : Str) = some (.str "abcdefghijklmnopqrstuvwxyz" t) := let ⟨_, X, G⟩ := T.ex; He.str_ok X G (T.says.fact 93 (f := .str "LETTERS" "abcdefghijklmnopqrstuvwxyz") rfl)
theorem TX.b_gcd {K mg} (T : TX K mg) : mg ("gcd" : Str) = some (.builtin "math.gcd") := let ⟨_, X, G⟩ := T.ex; PySem.W.mg_of X G (He.eqO_ok (T.says.factB 0 (f := bltB "gcd" "math.gcd") rfl))
theorem TX.b_lcm {K mg} (T : TX K mg) : mg ("lcm" : Str) = some (.builtin "math.lcm") := let ⟨_, X, G⟩ := T.ex; PySem.W.mg_of X G (He.eqO_ok (T.says.factB 1 (f := bltB "lcm" "math.lcm") rfl))
theorem TX.p_Machine_signs {K mg} (T : TX K mg) : PropOf K (He.ga K "Machine") "signs" (He.ma K (He.ga K "Machine") "signs") (getterAt K "Machine" "signs") := propB_ok (T.says.factB 2 (f := propB "Machine" "signs") rfl)
theorem TX.p_Machine_begin {K mg} (T : TX K mg) : PropOf K (He.ga K "Machine") "begin" (He.ma K (He.ga K "Machine") "begin") (getterAt K "Machine" "begin") := propB_ok (T.says.factB 3 (f := propB "Machine" "begin") rfl)
theorem TX.p_Machine_end {K mg} (T : TX K mg) : PropOf K (He.ga K "Machine") "end" (He.ma K (He.ga K "Machine") "end") (getterAt K "Machine" "end") := propB_ok (T.says.factB 4 (f := propB "Machine" "end") rfl)
theorem TX.p_Tariff_heads {K mg} (T : TX K mg) : PropOf K (He.ga K "Tariff") "heads" (He.ma K (He.ga K "Tariff") "heads") (getterAt K "Tariff" "heads") := propB_ok (T.says.factB 5 (f := propB "Tariff" "heads") rfl)
theorem TX.p_Tariff_table {K mg} (T : TX K mg) : PropOf K (He.ga K "Tariff") "table" (He.ma K (He.ga K "Tariff") "table") (getterAt K "Tariff" "table") := propB_ok (T.says.factB 6 (f := propB "Tariff" "table") rfl)
theorem TX.p_Tariff_worths {K mg} (T : TX K mg) : PropOf K (He.ga K "Tariff") "worths" (He.ma K (He.ga K "Tariff") "worths") (getterAt K "Tariff" "worths") := propB_ok (T.says.factB 7 (f := propB "Tariff" "worths") rfl)
theorem TX.u_lowest {K mg} (T : TX K mg) : ∃ fd, FunD K "lowest" "lowest" (defArgs s_lowest) (defBody s_lowest) (defScope s_lowest) [] [] (He.ga K "lowest") fd := T.says.def_ 0 (d := d_lowest) rfl
theorem TX.u_is_number {K mg} (T : TX K mg) : ∃ fd, FunD K "is_number" "is_number" (defArgs s_is_number) (defBody s_is_number) (defScope s_is_number) [] [] (He.ga K "is_number") fd := T.says.def_ 1 (d := d_is_number) rfl
theorem TX.u_checked {K mg} (T : TX K mg) : ∃ fd, FunD K "checked" "checked" (defArgs s_checked) (defBody s_checked) (defScope s_checked) [] [] (He.ga K "checked") fd := T.says.def_ 2 (d := d_checked) rfl
theorem TX.u_sum_of {K mg} (T : TX K mg) : ∃ fd, FunD K "sum_of" "sum_of" (defArgs s_sum_of) (defBody s_sum_of) (defScope s_sum_of) [] [] (He.ga K "sum_of") fd := T.says.def_ 3 (d := d_sum_of) rfl
theorem TX.u_product_of {K mg} (T : TX K mg) : ∃ fd, FunD K "product_of" "product_of" (defArgs s_product_of) (defBody s_product_of) (defScope s_product_of) [] [] (He.ga K "product_of") fd := T.says.def_ 4 (d := d_product_of) rfl
theorem TX.u_integers_of {K mg} (T : TX K mg) : ∃ fd, FunD K "integers_of" "integers_of" (defArgs s_integers_of) (defBody s_integers_of) (defScope s_integers_of) [] [] (He.ga K "integers_of") fd := T.says.def_ 5 (d := d_integers_of) rfl
theorem TX.u_numbers_of {K mg} (T : TX K mg) : ∃ fd, FunD K "numbers_of" "numbers_of" (defArgs s_numbers_of) (defBody s_numbers_of) (defScope s_numbers_of) [] [] (He.ga K "numbers_of") fd := T.says.def_ 6 (d := d_numbers_of) rfl
theorem TX.u_dot {K mg} (T : TX K mg) : ∃ fd, FunD K "dot" "dot" (defArgs s_dot) (defBody s_dot) (defScope s_dot) [] [] (He.ga K "dot") fd := T.says.def_ 7 (d := d_dot) rfl
theorem TX.u_divided {K mg} (T : TX K mg) : ∃ fd, FunD K "divided" "divided" (defArgs s_divided) (defBody s_divided) (defScope s_divided) [] [] (He.ga K "divided") fd := T.says.def_ 8 (d := d_divided) rfl
theorem TX.u_checked_signs {K mg} (T : TX K mg) : ∃ fd, FunD K "checked_signs" "checked_signs" (defArgs s_checked_signs) (defBody s_checked_signs) (defScope s_checked_signs) [] [] (He.ga K "checked_signs") fd := T.says.def_ 9 (d := d_checked_signs) rfl
theorem TX.u_checked_sign {K mg} (T : TX K mg) : ∃ fd, FunD K "checked_sign" "checked_sign" (defArgs s_checked_sign) (defBody s_checked_sign) (defScope s_checked_sign) [] [] (He.ga K "checked_sign") fd := T.says.def_ 10 (d := d_checked_sign) rfl
theorem TX.u_order_key {K mg} (T : TX K mg) : ∃ fd, FunD K "order_key" "order_key" (defArgs s_order_key) (defBody s_order_key) (defScope s_order_key) [] [] (He.ga K "order_key") fd := T.says.def_ 11 (d := d_order_key) rfl
theorem TX.u_checked_machine {K mg} (T : TX K mg) : ∃ fd, FunD K "checked_machine" "checked_machine" (defArgs s_checked_machine) (defBody s_checked_machine) (defScope s_checked_machine) [] [] (He.ga K "checked_machine") fd := T.says.def_ 12 (d := d_checked_machine) rfl
theorem TX.u_steps_of {K mg} (T : TX K mg) : ∃ fd, FunD K "steps_of" "steps_of" (defArgs s_steps_of) (defBody s_steps_of) (defScope s_steps_of) [] [] (He.ga K "steps_of") fd := T.says.def_ 13 (d := d_steps_of) rfl
theorem TX.u_integers_behind {K mg} (T : TX K mg) : ∃ fd, FunD K "integers_behind" "integers_behind" (defArgs s_integers_behind) (defBody s_integers_behind) (defScope s_integers_behind) [] [] (He.ga K "integers_behind") fd := T.says.def_ 14 (d := d_integers_behind) rfl
theorem TX.u_stepped {K mg} (T : TX K mg) : ∃ fd, FunD K "stepped" "stepped" (defArgs s_stepped) (defBody s_stepped) (defScope s_stepped) [] [] (He.ga K "stepped") fd := T.says.def_ 15 (d := d_stepped) rfl
theorem TX.u_stepped_back {K mg} (T : TX K mg) : ∃ fd, FunD K "stepped_back" "stepped_back" (defArgs s_stepped_back) (defBody s_stepped_back) (defScope s_stepped_back) [] [] (He.ga K "stepped_back") fd := T.says.def_ 16 (d := d_stepped_back) rfl
theorem TX.u_free_columns {K mg} (T : TX K mg) : ∃ fd, FunD K "free_columns" "free_columns" (defArgs s_free_columns) (defBody s_free_columns) (defScope s_free_columns) [] [] (He.ga K "free_columns") fd := T.says.def_ 17 (d := d_free_columns) rfl
theorem TX.u_form_of {K mg} (T : TX K mg) : ∃ fd, FunD K "form_of" "form_of" (defArgs s_form_of) (defBody s_form_of) (defScope s_form_of) [] [] (He.ga K "form_of") fd := T.says.def_ 18 (d := d_form_of) rfl
theorem TX.u_machine_by {K mg} (T : TX K mg) : ∃ fd, FunD K "machine_by" "machine_by" (defArgs s_machine_by) (defBody s_machine_by) (defScope s_machine_by) [] [] (He.ga K "machine_by") fd := T.says.def_ 19 (d := d_machine_by) rfl
theorem TX.u_is_shaped {K mg} (T : TX K mg) : ∃ fd, FunD K "is_shaped" "is_shaped" (defArgs s_is_shaped) (defBody s_is_shaped) (defScope s_is_shaped) [] [] (He.ga K "is_shaped") fd := T.says.def_ 20 (d := d_is_shaped) rfl
theorem TX.u_are_heads {K mg} (T : TX K mg) : ∃ fd, FunD K "are_heads" "are_heads" (defArgs s_are_heads) (defBody s_are_heads) (defScope s_are_heads) [] [] (He.ga K "are_heads") fd := T.says.def_ 21 (d := d_are_heads) rfl
theorem TX.u_is_row {K mg} (T : TX K mg) : ∃ fd, FunD K "is_row" "is_row" (defArgs s_is_row) (defBody s_is_row) (defScope s_is_row) [] [] (He.ga K "is_row") fd := T.says.def_ 22 (d := d_is_row) rfl
theorem TX.u_checked_form {K mg} (T : TX K mg) : ∃ fd, FunD K "checked_form" "checked_form" (defArgs s_checked_form) (defBody s_checked_form) (defScope s_checked_form) [] [] (He.ga K "checked_form") fd := T.says.def_ 23 (d := d_checked_form) rfl
theorem TX.u_tariff_of {K mg} (T : TX K mg) : ∃ fd, FunD K "tariff_of" "tariff_of" (defArgs s_tariff_of) (defBody s_tariff_of) (defScope s_tariff_of) [] [] (He.ga K "tariff_of") fd := T.says.def_ 24 (d := d_tariff_of) rfl
theorem TX.u__law_deck {K mg} (T : TX K mg) : ∃ fd, FunD K "_law_deck" "_law_deck" (defArgs s__law_deck) (defBody s__law_deck) (defScope s__law_deck) [] [] (He.ga K "_law_deck") fd := T.says.def_ 25 (d := d__law_deck) rfl
theorem TX.u__law_draw {K mg} (T : TX K mg) : ∃ fd, FunD K "_law_draw" "_law_draw" (defArgs s__law_draw) (defBody s__law_draw) (defScope s__law_draw) [] [] (He.ga K "_law_draw") fd := T.says.def_ 26 (d := d__law_draw) rfl
theorem TX.u__law_gcd {K mg} (T : TX K mg) : ∃ fd, FunD K "_law_gcd" "_law_gcd" (defArgs s__law_gcd) (defBody s__law_gcd) (defScope s__law_gcd) [] [] (He.ga K "_law_gcd") fd := T.says.def_ 27 (d := d__law_gcd) rfl
theorem TX.u__law_pair {K mg} (T : TX K mg) : ∃ fd, FunD K "_law_pair" "_law_pair" (defArgs s__law_pair) (defBody s__law_pair) (defScope s__law_pair) [] [] (He.ga K "_law_pair") fd := T.says.def_ 28 (d := d__law_pair) rfl
theorem TX.u__law_signs {K mg} (T : TX K mg) : ∃ fd, FunD K "_law_signs" "_law_signs" (defArgs s__law_signs) (defBody s__law_signs) (defScope s__law_signs) [] [] (He.ga K "_law_signs") fd := T.says.def_ 29 (d := d__law_signs) rfl
theorem TX.u__law_number {K mg} (T : TX K mg) : ∃ fd, FunD K "_law_number" "_law_number" (defArgs s__law_number) (defBody s__law_number) (defScope s__law_number) [] [] (He.ga K "_law_number") fd := T.says.def_ 30 (d := d__law_number) rfl
theorem TX.u__law_machine {K mg} (T : TX K mg) : ∃ fd, FunD K "_law_machine" "_law_machine" (defArgs s__law_machine) (defBody s__law_machine) (defScope s__law_machine) [] [] (He.ga K "_law_machine") fd := T.says.def_ 31 (d := d__law_machine) rfl
theorem TX.u__law_some_machine {K mg} (T : TX K mg) : ∃ fd, FunD K "_law_some_machine" "_law_some_machine" (defArgs s__law_some_machine) (defBody s__law_some_machine) (defScope s__law_some_machine) [] [] (He.ga K "_law_some_machine") fd := T.says.def_ 32 (d := d__law_some_machine) rfl
theorem TX.u__law_over {K mg} (T : TX K mg) : ∃ fd, FunD K "_law_over" "_law_over" (defArgs s__law_over) (defBody s__law_over) (defScope s__law_over) [] [] (He.ga K "_law_over") fd := T.says.def_ 33 (d := d__law_over) rfl
theorem TX.u__law_scaled {K mg} (T : TX K mg) : ∃ fd, FunD K "_law_scaled" "_law_scaled" (defArgs s__law_scaled) (defBody s__law_scaled) (defScope s__law_scaled) [] [] (He.ga K "_law_scaled") fd := T.says.def_ 34 (d := d__law_scaled) rfl
theorem TX.u__law_stepped {K mg} (T : TX K mg) : ∃ fd, FunD K "_law_stepped" "_law_stepped" (defArgs s__law_stepped) (defBody s__law_stepped) (defScope s__law_stepped) [] [] (He.ga K "_law_stepped") fd := T.says.def_ 35 (d := d__law_stepped) rfl
theorem TX.u__law_messages {K mg} (T : TX K mg) : ∃ fd, FunD K "_law_messages" "_law_messages" (defArgs s__law_messages) (defBody s__law_messages) (defScope s__law_messages) [] [] (He.ga K "_law_messages") fd := T.says.def_ 36 (d := d__law_messages) rfl
theorem TX.u__law_rows {K mg} (T : TX K mg) : ∃ fd, FunD K "_law_rows" "_law_rows" (defArgs s__law_rows) (defBody s__law_rows) (defScope s__law_rows) [] [] (He.ga K "_law_rows") fd := T.says.def_ 37 (d := d__law_rows) rfl
theorem TX.u__law_columns {K mg} (T : TX K mg) : ∃ fd, FunD K "_law_columns" "_law_columns" (defArgs s__law_columns) (defBody s__law_columns) (defScope s__law_columns) [] [] (He.ga K "_law_columns") fd := T.says.def_ 38 (d := d__law_columns) rfl
theorem TX.u__law_dot {K mg} (T : TX K mg) : ∃ fd, FunD K "_law_dot" "_law_dot" (defArgs s__law_dot) (defBody s__law_dot) (defScope s__law_dot) [] [] (He.ga K "_law_dot") fd := T.says.def_ 39 (d := d__law_dot) rfl
theorem TX.u__law_size {K mg} (T : TX K mg) : ∃ fd, FunD K "_law_size" "_law_size" (defArgs s__law_size) (defBody s__law_size) (defScope s__law_size) [] [] (He.ga K "_law_size") fd := T.says.def_ 40 (d := d__law_size) rfl
theorem TX.u__law_is_number {K mg} (T : TX K mg) : ∃ fd, FunD K "_law_is_number" "_law_is_number" (defArgs s__law_is_number) (defBody s__law_is_number) (defScope s__law_is_number) [] [] (He.ga K "_law_is_number") fd := T.says.def_ 41 (d := d__law_is_number) rfl
theorem TX.u__law_are_numbers {K mg} (T : TX K mg) : ∃ fd, FunD K "_law_are_numbers" "_law_are_numbers" (defArgs s__law_are_numbers) (defBody s__law_are_numbers) (defScope s__law_are_numbers) [] [] (He.ga K "_law_are_numbers") fd := T.says.def_ 42 (d := d__law_are_numbers) rfl
theorem TX.u__law_is_shaped {K mg} (T : TX K mg) : ∃ fd, FunD K "_law_is_shaped" "_law_is_shaped" (defArgs s__law_is_shaped) (defBody s__law_is_shaped) (defScope s__law_is_shaped) [] [] (He.ga K "_law_is_shaped") fd := T.says.def_ 43 (d := d__law_is_shaped) rfl
theorem TX.u__law_powers {K mg} (T : TX K mg) : ∃ fd, FunD K "_law_powers" "_law_powers" (defArgs s__law_powers) (defBody s__law_powers) (defScope s__law_powers) [] [] (He.ga K "_law_powers") fd := T.says.def_ 44 (d := d__law_powers) rfl
theorem TX.u__law_row_behind {K mg} (T : TX K mg) : ∃ fd, FunD K "_law_row_behind" "_law_row_behind" (defArgs s__law_row_behind) (defBody s__law_row_behind) (defScope s__law_row_behind) [] [] (He.ga K "_law_row_behind") fd := T.says.def_ 45 (d := d__law_row_behind) rfl
theorem TX.u__law_adds_up {K mg} (T : TX K mg) : ∃ fd, FunD K "_law_adds_up" "_law_adds_up" (defArgs s__law_adds_up) (defBody s__law_adds_up) (defScope s__law_adds_up) [] [] (He.ga K "_law_adds_up") fd := T.says.def_ 46 (d := d__law_adds_up) rfl
theorem TX.u__law_is_told {K mg} (T : TX K mg) : ∃ fd, FunD K "_law_is_told" "_law_is_told" (defArgs s__law_is_told) (defBody s__law_is_told) (defScope s__law_is_told) [] [] (He.ga K "_law_is_told") fd := T.says.def_ 47 (d := d__law_is_told) rfl
theorem TX.u__law_as_machine {K mg} (T : TX K mg) : ∃ fd, FunD K "_law_as_machine" "_law_as_machine" (defArgs s__law_as_machine) (defBody s__law_as_machine) (defScope s__law_as_machine) [] [] (He.ga K "_law_as_machine") fd := T.says.def_ 48 (d := d__law_as_machine) rfl
theorem TX.u__law_gives {K mg} (T : TX K mg) : ∃ fd, FunD K "_law_gives" "_law_gives" (defArgs s__law_gives) (defBody s__law_gives) (defScope s__law_gives) [] [] (He.ga K "_law_gives") fd := T.says.def_ 49 (d := d__law_gives) rfl
theorem TX.u__law_is_right {K mg} (T : TX K mg) : ∃ fd, FunD K "_law_is_right" "_law_is_right" (defArgs s__law_is_right) (defBody s__law_is_right) (defScope s__law_is_right) [] [] (He.ga K "_law_is_right") fd := T.says.def_ 50 (d := d__law_is_right) rfl
theorem TX.u_law {K mg} (T : TX K mg) : ∃ fd, FunD K "law" "law" (defArgs s_law) (defBody s_law) (defScope s_law) [] [] (He.ga K "law") fd := T.says.def_ 51 (d := d_law) rfl
theorem TX.u_Basis_init {K mg} (T : TX K mg) : ∃ fd, FunD K "__init__" "Basis.__init__" (defArgs s_Basis_init) (defBody s_Basis_init) (defScope s_Basis_init) [] [] (He.ma K (He.ga K "Basis") "__init__") fd := T.says.def_ 52 (d := d_Basis_init) rfl
theorem TX.u_Basis_left {K mg} (T : TX K mg) : ∃ fd, FunD K "left" "Basis.left" (defArgs s_Basis_left) (defBody s_Basis_left) (defScope s_Basis_left) [] [] (He.ma K (He.ga K "Basis") "left") fd := T.says.def_ 53 (d := d_Basis_left) rfl
theorem TX.u_Basis_put {K mg} (T : TX K mg) : ∃ fd, FunD K "put" "Basis.put" (defArgs s_Basis_put) (defBody s_Basis_put) (defScope s_Basis_put) [] [] (He.ma K (He.ga K "Basis") "put") fd := T.says.def_ 54 (d := d_Basis_put) rfl
theorem TX.u_Basis_told {K mg} (T : TX K mg) : ∃ fd, FunD K "told" "Basis.told" (defArgs s_Basis_told) (defBody s_Basis_told) (defScope s_Basis_told) [] [] (He.ma K (He.ga K "Basis") "told") fd := T.says.def_ 55 (d := d_Basis_told) rfl
theorem TX.u_Machine_init {K mg} (T : TX K mg) : ∃ fd, FunD K "__init__" "Machine.__init__" (defArgs s_Machine_init) (defBody s_Machine_init) (defScope s_Machine_init) [] [] (He.ma K (He.ga K "Machine") "__init__") fd := T.says.def_ 56 (d := d_Machine_init) rfl
theorem TX.u_Machine_steps {K mg} (T : TX K mg) : ∃ fd, FunD K "steps" "Machine.steps" (defArgs s_Machine_steps) (defBody s_Machine_steps) (defScope s_Machine_steps) [] [] (He.ma K (He.ga K "Machine") "steps") fd := T.says.def_ 57 (d := d_Machine_steps) rfl
theorem TX.u_Tariff_init {K mg} (T : TX K mg) : ∃ fd, FunD K "__init__" "Tariff.__init__" (defArgs s_Tariff_init) (defBody s_Tariff_init) (defScope s_Tariff_init) [] [] (He.ma K (He.ga K "Tariff") "__init__") fd := T.says.def_ 58 (d := d_Tariff_init) rfl
theorem TX.u_Machine_signs {K mg} (T : TX K mg) : ∃ fd, FunD K "signs" "Machine.signs" (defArgs s_Machine_signs) (defBody s_Machine_signs) (defScope s_Machine_signs) [] [] (getterAt K "Machine" "signs") fd := T.says.def_ 59 (d := d_Machine_signs) rfl
theorem TX.u_Machine_begin {K mg} (T : TX K mg) : ∃ fd, FunD K "begin" "Machine.begin" (defArgs s_Machine_begin) (defBody s_Machine_begin) (defScope s_Machine_begin) [] [] (getterAt K "Machine" "begin") fd := T.says.def_ 60 (d := d_Machine_begin) rfl
theorem TX.u_Machine_end {K mg} (T : TX K mg) : ∃ fd, FunD K "end" "Machine.end" (defArgs s_Machine_end) (defBody s_Machine_end) (defScope s_Machine_end) [] [] (getterAt K "Machine" "end") fd := T.says.def_ 61 (d := d_Machine_end) rfl
theorem TX.u_Tariff_heads {K mg} (T : TX K mg) : ∃ fd, FunD K "heads" "Tariff.heads" (defArgs s_Tariff_heads) (defBody s_Tariff_heads) (defScope s_Tariff_heads) [] [] (getterAt K "Tariff" "heads") fd := T.says.def_ 62 (d := d_Tariff_heads) rfl
theorem TX.u_Tariff_table {K mg} (T : TX K mg) : ∃ fd, FunD K "table" "Tariff.table" (defArgs s_Tariff_table) (defBody s_Tariff_table) (defScope s_Tariff_table) [] [] (getterAt K "Tariff" "table") fd := T.says.def_ 63 (d := d_Tariff_table) rfl
theorem TX.u_Tariff_worths {K mg} (T : TX K mg) : ∃ fd, FunD K "worths" "Tariff.worths" (defArgs s_Tariff_worths) (defBody s_Tariff_worths) (defScope s_Tariff_worths) [] [] (getterAt K "Tariff" "worths") fd := T.says.def_ 64 (d := d_Tariff_worths) rfl
end KHd

/-! part KRun -/
set_option exponentiation.threshold 256 -- KRun
set_option maxHeartbeats 0 -- KRun
set_option maxRecDepth 100000 -- KRun
namespace KHd
open PySem PySem.Spec PyProof.Rows L2
abbrev hk : PySem.W.Hook := hookX 5 fa fb fn
def ob (s : PySem.W.SharedT) : He.AlD := obsXG 5 fa fb fn (HandSHeadRun.getT s)
theorem ob_eq (s : PySem.W.SharedT) : ob s = hk.obs s.abs := obsXG_eq (HandSHeadRun.getT_eq s)
theorem run (w : World) : HandSHeadRun.RunEqI R qv hk ob 20000 loose w := by
  unfold HandSHeadRun.RunEqI
  kernel_rfl
end KHd

/-! part TL0 -/
set_option exponentiation.threshold 256 -- TL0
set_option maxHeartbeats 200000 -- TL0
set_option maxRecDepth 100000 -- TL0
/-! TL0: worlds, representations, typed slots. -/
namespace TL
open PySem PySem.Spec PyProof.Rows L2

/-! ### growth -/
structure GrS (S : List Addr) (F H F' H' : Hp) : Prop where
  fz : Same F F'
  sub : Same F' H'
  keep : ∀ b o, b ∉ S → H b = some o → H' b = some o
  there : ∀ b, H b ≠ none → H' b ≠ none
  new : ∀ b, F b = none → H b ≠ none → F' b = none
abbrev Gr (F H F' H' : Hp) : Prop := GrS [] F H F' H'
section
variable {S : List Addr} {F H F' H' F1 H1 F2 H2 : Hp} {p b : Addr} {o : HO}
theorem GrS.refl (h : Same F H) : GrS S F H F H := ⟨Same.refl _, h, fun _ _ _ e => e, fun _ e => e, fun _ e _ => e⟩
theorem GrS.trans (a : GrS S F H F1 H1) (c : GrS S F1 H1 F2 H2) : GrS S F H F2 H2 :=
  ⟨a.fz.trans c.fz, c.sub, fun b o hb e => c.keep b o hb (a.keep b o hb e), fun b e => c.there b (a.there b e), fun b e1 e2 => c.new b (a.new b e1 e2) (a.there b e2)⟩
theorem GrS.of (g : Gr F H F' H') : GrS S F H F' H' := ⟨g.fz, g.sub, fun b o _ e => g.keep b o (by simp) e, g.there, g.new⟩
theorem GrS.hp (g : Gr F H F' H') : Same H H' := fun b o e => g.keep b o (by simp) e
theorem ne_none_of (e : H b = some o) : H b ≠ none := fun z => by rw [e] at z; cases z
theorem some_of_ne {H : Hp} {b : Addr} (e : H b ≠ none) : ∃ o, H b = some o := by
  cases h : H b with
  | none => exact absurd h e
  | some o => exact ⟨o, rfl⟩
/-- a new object, frozen at once -/
theorem Gr.alloc (h : Same F H) (hp : H p = none) : Gr F H (upd F p o) (upd H p o) where
  fz := fun b u e => by rw [upd_ne (ne_of_none e (h.free hp))]; exact e
  sub := fun b u e => by
    by_cases hb : b = p
    · subst hb; rw [upd_same] at e ⊢; exact e
    · rw [upd_ne hb] at e ⊢; exact h b u e
  keep := fun b u _ e => by rw [upd_ne (ne_of_none e hp)]; exact e
  there := fun b e => by
    by_cases hb : b = p
    · subst hb; rw [upd_same]; exact fun z => by cases z
    · rw [upd_ne hb]; exact e
  new := fun b e1 e2 => by
    have hb : b ≠ p := fun z => by subst z; exact e2 hp
    rw [upd_ne hb]; exact e1
/-- a new object, not frozen -/
theorem Gr.mut (h : Same F H) (hp : H p = none) : Gr F H F (upd H p o) where
  fz := Same.refl _
  sub := fun b u e => by rw [upd_ne (ne_of_none (h b u e) hp)]; exact h b u e
  keep := fun b u _ e => by rw [upd_ne (ne_of_none e hp)]; exact e
  there := fun b e => by
    by_cases hb : b = p
    · subst hb; rw [upd_same]; exact fun z => by cases z
    · rw [upd_ne hb]; exact e
  new := fun b e1 _ => e1
/-- an unfrozen object that is new (or ours) is written -/
theorem GrS.write (g : GrS S F H F1 H1) (hn : F1 p = none) (hm : p ∈ S ∨ H p = none) : GrS S F H F1 (upd H1 p o) where
  fz := g.fz
  sub := fun b u e => by rw [upd_ne (ne_of_none e hn)]; exact g.sub b u e
  keep := fun b u hb e => by
    have hp : b ≠ p := fun z => by
      subst z
      rcases hm with hm | hm
      · exact hb hm
      · rw [hm] at e; cases e
    rw [upd_ne hp]; exact g.keep b u hb e
  there := fun b e => by
    by_cases hb : b = p
    · subst hb; rw [upd_same]; exact fun z => by cases z
    · rw [upd_ne hb]; exact g.there b e
  new := g.new
/-- an object that was made since is frozen -/
theorem GrS.freeze (g : GrS S F H F1 H1) (hm : H p = none) (e : H1 p = some o) (hn : F1 p = none) : GrS S F H (upd F1 p o) H1 where
  fz := fun b u q => by
    have hp : b ≠ p := fun z => by subst z; rw [g.fz b u q] at hn; cases hn
    rw [upd_ne hp]; exact g.fz b u q
  sub := fun b u q => by
    by_cases hb : b = p
    · subst hb; rw [upd_same] at q; cases q; exact e
    · rw [upd_ne hb] at q; exact g.sub b u q
  keep := g.keep
  there := g.there
  new := fun b e1 e2 => by
    have hp : b ≠ p := fun z => by subst z; exact e2 hm
    rw [upd_ne hp]; exact g.new b e1 e2
end

/-! ### representations -/
structure Rp (α : Type) where
  rel : Hp → V → α → Prop
  mono : ∀ {F F' : Hp} {v : V} {a : α}, Same F F' → rel F v a → rel F' v a
section
variable {α β γ δ ε : Type}
def RInt : Rp Int := ⟨fun _ v i => v = .int i, fun _ h => h⟩
def RBl : Rp Bool := ⟨fun _ v b => v = .bl b, fun _ h => h⟩
def RNon : Rp Unit := ⟨fun _ v _ => v = .non, fun _ h => h⟩
def RTx : Rp (List Nat) := ⟨fun _ v l => v = .str ⟨l.toArray⟩ ∧ l.length ≤ sizeLine, fun _ h => h⟩
def RMap (R : Rp β) (f : α → β) : Rp α := ⟨fun F v a => R.rel F v (f a), fun s h => R.mono s h⟩
def RT2 (R : Rp α) (S : Rp β) : Rp (α × β) :=
  ⟨fun F v p => ∃ a x y, v = .ref a ∧ F a = some (.tup [x, y]) ∧ R.rel F x p.1 ∧ S.rel F y p.2, fun s ⟨a, x, y, e, t, r, q⟩ => ⟨a, x, y, e, s _ _ t, R.mono s r, S.mono s q⟩⟩
def RT3 (R : Rp α) (S : Rp β) (T : Rp γ) : Rp (α × β × γ) :=
  ⟨fun F v p => ∃ a x y z, v = .ref a ∧ F a = some (.tup [x, y, z]) ∧ R.rel F x p.1 ∧ S.rel F y p.2.1 ∧ T.rel F z p.2.2, fun s ⟨a, x, y, z, e, t, r, q, u⟩ => ⟨a, x, y, z, e, s _ _ t, R.mono s r, S.mono s q, T.mono s u⟩⟩
def RT4 (R : Rp α) (S : Rp β) (T : Rp γ) (U : Rp δ) : Rp (α × β × γ × δ) :=
  ⟨fun F v p => ∃ a x y z u, v = .ref a ∧ F a = some (.tup [x, y, z, u]) ∧ R.rel F x p.1 ∧ S.rel F y p.2.1 ∧ T.rel F z p.2.2.1 ∧ U.rel F u p.2.2.2,
   fun s ⟨a, x, y, z, u, e, t, r, q, i, j⟩ => ⟨a, x, y, z, u, e, s _ _ t, R.mono s r, S.mono s q, T.mono s i, U.mono s j⟩⟩
theorem paired_mono {R : Rp α} {F F' : Hp} (s : Same F F') : ∀ {xs : List V} {l : List α}, Paired (R.rel F) xs l → Paired (R.rel F') xs l
  | _, _, .nil => .nil
  | _, _, .cons r t => .cons (R.mono s r) (paired_mono s t)
def RL (R : Rp α) : Rp (List α) :=
  ⟨fun F v l => ∃ a xs, v = .ref a ∧ F a = some (.lst xs) ∧ l.length ≤ sizeLine ∧ Paired (R.rel F) xs l, fun s ⟨a, xs, e, t, z, p⟩ => ⟨a, xs, e, s _ _ t, z, paired_mono s p⟩⟩
def RQ : Rp Rat := RMap (RT2 RInt RInt) fun q => (q.num, (q.den : Int))
def RNat : Rp Nat := RMap RInt fun n => (n : Int)
def RSg : Rp Nat := RMap RTx fun c => [c]
def ROpt (R : Rp α) : Rp (Option α) := ⟨fun F v o => match o with
  | none => v = .non
  | some a => R.rel F v a, fun {F F' v o} s h => by
    cases o with
    | none => exact h
    | some a => exact R.mono s h⟩
end

/-! ### typed slots -/
/-- an object (or some) of one's own, not frozen -/
structure OwnP where
  foot : List Addr
  val : V
  holds : Hp → Hp → Prop
  stable : ∀ {F H F' H' : Hp}, holds F H → Same F F' → (∀ b ∈ foot, H' b = H b) → holds F' H'
  there : ∀ {F H : Hp}, holds F H → ∀ b ∈ foot, H b ≠ none
  nd : foot.Nodup
inductive Sl : Type 1 where
  | any
  | dat {α : Type} (R : Rp α) (a : α)
  | own (P : OwnP)
  /-- lent: to be read alone -/
  | bor (P : OwnP)
def Sl.foot : Sl → List Addr
  | .own P => P.foot
  | .bor P => P.foot
  | _ => []
def SlSat (F H : Hp) : Sl → Option V → Prop
  | .any, _ => True
  | .dat R a, o => ∃ v, o = some v ∧ R.rel F v a
  | .own P, o => o = some P.val ∧ P.holds F H ∧ ∀ b ∈ P.foot, F b = none
  | .bor P, o => o = some P.val ∧ P.holds F H ∧ ∀ b ∈ P.foot, F b = none
def Sat (F H : Hp) : List Sl → List (Option V) → Prop
  | [], [] => True
  | s :: Γ, o :: σ => SlSat F H s o ∧ Sat F H Γ σ
  | _, _ => False
def feet : List Sl → List Addr
  | [] => []
  | s :: Γ => s.foot ++ feet Γ
def Sl.footO : Sl → List Addr
  | .own P => P.foot
  | _ => []
def feetO : List Sl → List Addr
  | [] => []
  | s :: Γ => s.footO ++ feetO Γ
def gtS : List Sl → Nat → Sl
  | [], _ => .any
  | s :: _, 0 => s
  | _ :: Γ, i + 1 => gtS Γ i
def stS : List Sl → Nat → Sl → List Sl
  | [], _, _ => []
  | _ :: Γ, 0, t => t :: Γ
  | s :: Γ, i + 1, t => s :: stS Γ i t
structure Wd (F H : Hp) (Γ : List Sl) (σ : List (Option V)) : Prop where
  sub : Same F H
  sat : Sat F H Γ σ
  nd : (feet Γ).Nodup
section
variable {S : List Addr} {F H F' H' F1 H1 : Hp} {Γ Γ' : List Sl} {σ : List (Option V)} {sl : Sl} {o : Option V} {i : Nat} {v : V}
theorem SlSat.grow (g : GrS S F H F' H') (hd : ∀ b ∈ sl.foot, b ∉ S) (h : SlSat F H sl o) : SlSat F' H' sl o := by
  cases sl with
  | any => exact trivial
  | dat R a =>
    obtain ⟨v, e, r⟩ := h
    exact ⟨v, e, R.mono g.fz r⟩
  | own P =>
    obtain ⟨e, r, n⟩ := h
    have th := P.there r
    refine ⟨e, P.stable r g.fz fun b hb => ?_, fun b hb => g.new b (n b hb) (th b hb)⟩
    obtain ⟨u, hu⟩ := some_of_ne (th b hb)
    rw [hu]
    exact g.keep b u (hd b hb) hu
  | bor P =>
    obtain ⟨e, r, n⟩ := h
    have th := P.there r
    refine ⟨e, P.stable r g.fz fun b hb => ?_, fun b hb => g.new b (n b hb) (th b hb)⟩
    obtain ⟨u, hu⟩ := some_of_ne (th b hb)
    rw [hu]
    exact g.keep b u (hd b hb) hu
theorem Sat.grow (g : GrS S F H F' H') : ∀ {Γ : List Sl} {σ : List (Option V)}, (∀ b ∈ feet Γ, b ∉ S) → Sat F H Γ σ → Sat F' H' Γ σ
  | [], [], _, _ => trivial
  | s :: Γ, o :: σ, hd, ⟨h1, h2⟩ => ⟨h1.grow g fun b hb => hd b (List.mem_append_left _ hb), Sat.grow g (fun b hb => hd b (List.mem_append_right _ hb)) h2⟩
  | [], _ :: _, _, h => h
  | _ :: _, [], _, h => h
theorem Wd.grow (w : Wd F H Γ σ) (g : Gr F H F' H') : Wd F' H' Γ σ := ⟨g.sub, w.sat.grow g fun _ _ => by simp, w.nd⟩
theorem Sat.len : ∀ {Γ : List Sl} {σ : List (Option V)}, Sat F H Γ σ → σ.length = Γ.length
  | [], [], _ => rfl
  | s :: Γ, o :: σ, ⟨_, h2⟩ => by
    show σ.length + 1 = Γ.length + 1
    rw [Sat.len h2]
  | [], _ :: _, h => h.elim
  | _ :: _, [], h => h.elim
theorem Sat.at_ : ∀ {Γ : List Sl} {σ : List (Option V)} {i : Nat} {sl : Sl}, Sat F H Γ σ → gtS Γ i = sl → sl ≠ .any → ∃ o, σ[i]? = some o ∧ SlSat F H sl o
  | [], [], i, sl, _, e, n => absurd e.symm n
  | s :: Γ, o :: σ, 0, sl, ⟨h1, _⟩, e, _ => by
    have e2 : s = sl := e
    subst e2
    exact ⟨o, rfl, h1⟩
  | s :: Γ, o :: σ, i + 1, sl, ⟨_, h2⟩, e, n => by
    obtain ⟨u, q, r⟩ := Sat.at_ (i := i) (sl := sl) h2 e n
    exact ⟨u, by simpa using q, r⟩
  | [], _ :: _, _, _, h, _, _ => h.elim
  | _ :: _, [], _, _, h, _, _ => h.elim
theorem Sat.dat {α : Type} {R : Rp α} {a : α} (h : Sat F H Γ σ) (e : gtS Γ i = .dat R a) : ∃ v, σ[i]? = some (some v) ∧ R.rel F v a := by
  obtain ⟨o, q, v, eo, r⟩ := h.at_ e (fun z => by cases z)
  subst eo
  exact ⟨v, q, r⟩
theorem Sat.own {P : OwnP} (h : Sat F H Γ σ) (e : gtS Γ i = .own P) : σ[i]? = some (some P.val) ∧ P.holds F H ∧ ∀ b ∈ P.foot, F b = none := by
  obtain ⟨o, q, eo, r⟩ := h.at_ e (fun z => by cases z)
  subst eo
  exact ⟨q, r⟩
theorem Sat.set : ∀ {Γ : List Sl} {σ : List (Option V)} {i : Nat}, Sat F H Γ σ → SlSat F H sl o → Sat F H (stS Γ i sl) (σ.set i o)
  | [], [], _, _, _ => trivial
  | s :: Γ, u :: σ, 0, ⟨_, h2⟩, h => ⟨h, h2⟩
  | s :: Γ, u :: σ, i + 1, ⟨h1, h2⟩, h => ⟨h1, Sat.set h2 h⟩
  | [], _ :: _, _, h, _ => h.elim
  | _ :: _, [], _, h, _ => h.elim
theorem feetO_mem {P : OwnP} {b : Addr} : ∀ {Γ : List Sl} {i : Nat}, gtS Γ i = .own P → b ∈ P.foot → b ∈ feetO Γ
  | [], _, e, _ => by cases e
  | s :: Γ, 0, e, hb => by
    have e2 : s = .own P := e
    subst e2
    exact List.mem_append_left _ hb
  | s :: Γ, i + 1, e, hb => List.mem_append_right _ (feetO_mem (Γ := Γ) (i := i) e hb)
theorem feetO_st_sub {b : Addr} : ∀ {Γ : List Sl} {i : Nat}, b ∈ feetO (stS Γ i sl) → b ∈ sl.footO ∨ b ∈ feetO Γ
  | [], _, h => .inr h
  | s :: Γ, 0, h => (List.mem_append.mp h).elim .inl fun q => .inr (List.mem_append_right _ q)
  | s :: Γ, i + 1, h => (List.mem_append.mp h).elim (fun q => .inr (List.mem_append_left _ q)) fun q => (feetO_st_sub (Γ := Γ) (i := i) q).elim .inl fun q => .inr (List.mem_append_right _ q)
theorem footO_sub {b : Addr} : ∀ {sl : Sl}, b ∈ sl.footO → b ∈ sl.foot
  | .own _, h => h
  | .any, h => h
  | .dat _ _, h => h
  | .bor _, h => by cases h
theorem feet_mem_own {P : OwnP} {b : Addr} : ∀ {Γ : List Sl} {i : Nat}, gtS Γ i = .own P → b ∈ P.foot → b ∈ feet Γ
  | [], _, e, _ => by cases e
  | s :: Γ, 0, e, hb => by
    have e2 : s = .own P := e
    subst e2
    exact List.mem_append_left _ hb
  | s :: Γ, i + 1, e, hb => List.mem_append_right _ (feet_mem_own (Γ := Γ) (i := i) e hb)
theorem feet_st_sub {b : Addr} : ∀ {Γ : List Sl} {i : Nat}, b ∈ feet (stS Γ i sl) → b ∈ sl.foot ∨ b ∈ feet Γ
  | [], _, h => .inr h
  | s :: Γ, 0, h => (List.mem_append.mp h).elim .inl fun q => .inr (List.mem_append_right _ q)
  | s :: Γ, i + 1, h => (List.mem_append.mp h).elim (fun q => .inr (List.mem_append_left _ q)) fun q => (feet_st_sub (Γ := Γ) (i := i) q).elim .inl fun q => .inr (List.mem_append_right _ q)
theorem feet_st_nd (hn : sl.foot.Nodup) : ∀ {Γ : List Sl} {i : Nat}, (feet Γ).Nodup → (∀ b ∈ sl.foot, b ∉ feet Γ) → (feet (stS Γ i sl)).Nodup
  | [], _, h, _ => h
  | s :: Γ, 0, h, hd => List.nodup_append.mpr ⟨hn, (List.nodup_append.mp h).2.1, fun a ha b hb e => hd a ha (List.mem_append_right _ (e ▸ hb))⟩
  | s :: Γ, i + 1, h, hd => by
    obtain ⟨h1, h2, h3⟩ := List.nodup_append.mp h
    refine List.nodup_append.mpr ⟨h1, feet_st_nd hn h2 fun b hb q => hd b hb (List.mem_append_right _ q), fun a ha b hb e => ?_⟩
    rcases feet_st_sub hb with q | q
    · exact hd b q (List.mem_append_left _ (e ▸ ha))
    · exact h3 a ha b q e
/-- same footprint at the same place -/
theorem feetO_st_same {P P' : OwnP} (hf : P'.foot = P.foot) : ∀ {Γ : List Sl} {i : Nat}, gtS Γ i = .own P → feetO (stS Γ i (.own P')) = feetO Γ
  | [], _, e => by cases e
  | s :: Γ, 0, e => by
    have e2 : s = .own P := e
    subst e2
    show P'.foot ++ feetO Γ = P.foot ++ feetO Γ
    rw [hf]
  | s :: Γ, i + 1, e => by
    show s.footO ++ feetO (stS Γ i (.own P')) = s.footO ++ feetO Γ
    rw [feetO_st_same hf (Γ := Γ) (i := i) e]
theorem feet_st_same {P P' : OwnP} (hf : P'.foot = P.foot) : ∀ {Γ : List Sl} {i : Nat}, gtS Γ i = .own P → feet (stS Γ i (.own P')) = feet Γ
  | [], _, e => by cases e
  | s :: Γ, 0, e => by
    have e2 : s = .own P := e
    subst e2
    show P'.foot ++ feet Γ = P.foot ++ feet Γ
    rw [hf]
  | s :: Γ, i + 1, e => by
    show s.foot ++ feet (stS Γ i (.own P')) = s.foot ++ feet Γ
    rw [feet_st_same hf (Γ := Γ) (i := i) e]
theorem Sat.there : ∀ {Γ : List Sl} {σ : List (Option V)} {b : Addr}, Sat F H Γ σ → b ∈ feet Γ → H b ≠ none ∧ F b = none
  | [], [], b, _, hb => by simp [feet] at hb
  | s :: Γ, o :: σ, b, ⟨h1, h2⟩, hb => by
    rcases List.mem_append.mp hb with q | q
    · cases s with
      | own P => exact ⟨P.there h1.2.1 b q, h1.2.2 b q⟩
      | bor P => exact ⟨P.there h1.2.1 b q, h1.2.2 b q⟩
      | any => simp [Sl.foot] at q
      | dat R a => simp [Sl.foot] at q
    · exact Sat.there h2 q
  | [], _ :: _, _, h, _ => h.elim
  | _ :: _, [], _, h, _ => h.elim
theorem Wd.set (w : Wd F H Γ σ) (h : SlSat F H sl (some v)) (hn : sl.foot.Nodup) (hd : ∀ b ∈ sl.foot, b ∉ feet Γ) : Wd F H (stS Γ i sl) (σ.set i (some v)) :=
  ⟨w.sub, w.sat.set h, feet_st_nd hn w.nd hd⟩
theorem Wd.setD {α : Type} {R : Rp α} {a : α} (w : Wd F H Γ σ) (h : R.rel F v a) : Wd F H (stS Γ i (.dat R a)) (σ.set i (some v)) :=
  w.set ⟨v, rfl, h⟩ List.nodup_nil fun b hb => by simp [Sl.foot] at hb
/-- the own thing at i changes, all else is kept -/
theorem Sat.chg {P P' : OwnP} (hz : Same F F') (hk : ∀ b, b ∉ P.foot → H b ≠ none → H' b = H b) (hn : ∀ b, F b = none → H b ≠ none → F' b = none) (hv : P'.val = P.val) (hP : P'.holds F' H') (hPf : ∀ b ∈ P'.foot, F' b = none) :
    ∀ {Γ : List Sl} {σ : List (Option V)} {i : Nat}, gtS Γ i = .own P → (feet Γ).Nodup → Sat F H Γ σ → Sat F' H' (stS Γ i (.own P')) σ
  | [], [], _, e, _, _ => by cases e
  | s :: Γ, o :: σ, 0, e, nd, ⟨h1, h2⟩ => by
    have e2 : s = .own P := e
    subst e2
    have hdis := (List.nodup_append.mp nd).2.2
    refine ⟨⟨by rw [hv]; exact h1.1, hP, hPf⟩, ?_⟩
    have key : ∀ {Γ : List Sl} {σ : List (Option V)}, (∀ b ∈ feet Γ, b ∉ P.foot) → Sat F H Γ σ → Sat F' H' Γ σ := by
      intro Γ
      induction Γ with
      | nil => intro σ _ h; cases σ with
        | nil => trivial
        | cons _ _ => exact h.elim
      | cons s Γ ih =>
        intro σ hd h
        cases σ with
        | nil => exact h.elim
        | cons o σ =>
          refine ⟨?_, ih (fun b hb => hd b (List.mem_append_right _ hb)) h.2⟩
          have h1 := h.1
          cases s with
          | any => exact trivial
          | dat R a =>
            obtain ⟨v, ev, r⟩ := h1
            exact ⟨v, ev, R.mono hz r⟩
          | own Q =>
            obtain ⟨ev, r, n⟩ := h1
            have th := Q.there r
            exact ⟨ev, Q.stable r hz fun b hb => hk b (hd b (List.mem_append_left _ hb)) (th b hb), fun b hb => hn b (n b hb) (th b hb)⟩
          | bor Q =>
            obtain ⟨ev, r, n⟩ := h1
            have th := Q.there r
            exact ⟨ev, Q.stable r hz fun b hb => hk b (hd b (List.mem_append_left _ hb)) (th b hb), fun b hb => hn b (n b hb) (th b hb)⟩
    exact key (fun b hb hb2 => hdis b hb2 b hb rfl) h2
  | s :: Γ, o :: σ, i + 1, e, nd, ⟨h1, h2⟩ => by
    obtain ⟨_, n2, hdis⟩ := List.nodup_append.mp nd
    refine ⟨?_, Sat.chg hz hk hn hv hP hPf (Γ := Γ) (i := i) e n2 h2⟩
    cases s with
    | any => exact trivial
    | dat R a =>
      obtain ⟨v, ev, r⟩ := h1
      exact ⟨v, ev, R.mono hz r⟩
    | own Q =>
      obtain ⟨ev, r, n⟩ := h1
      have th := Q.there r
      refine ⟨ev, Q.stable r hz fun b hb => hk b (fun q => hdis b hb b (feet_mem_own e q) rfl) (th b hb), fun b hb => hn b (n b hb) (th b hb)⟩
    | bor Q =>
      obtain ⟨ev, r, n⟩ := h1
      have th := Q.there r
      refine ⟨ev, Q.stable r hz fun b hb => hk b (fun q => hdis b hb b (feet_mem_own e q) rfl) (th b hb), fun b hb => hn b (n b hb) (th b hb)⟩
  | [], _ :: _, _, _, _, h => h.elim
  | _ :: _, [], _, _, _, h => h.elim
/-- weaker slots -/
inductive Wk : List Sl → List Sl → Prop where
  | nil : Wk [] []
  | same {s : Sl} {Γ Γ' : List Sl} : Wk Γ Γ' → Wk (s :: Γ) (s :: Γ')
  | any {s : Sl} {Γ Γ' : List Sl} : Wk Γ Γ' → Wk (s :: Γ) (.any :: Γ')
theorem Wk.refl : ∀ Γ : List Sl, Wk Γ Γ
  | [] => .nil
  | _ :: Γ => .same (Wk.refl Γ)
theorem Wk.feet : ∀ {Γ Γ' : List Sl}, Wk Γ Γ' → (TL.feet Γ').Sublist (TL.feet Γ)
  | _, _, .nil => .slnil
  | _, _, .same (s := s) w => (List.Sublist.refl s.foot).append (Wk.feet w)
  | _, _, .any (s := s) (Γ' := Γ') w => by
    show ([] ++ TL.feet Γ').Sublist _
    exact (List.nil_sublist s.foot).append (Wk.feet w)
theorem Wk.feetO : ∀ {Γ Γ' : List Sl}, Wk Γ Γ' → (TL.feetO Γ').Sublist (TL.feetO Γ)
  | _, _, .nil => .slnil
  | _, _, .same (s := s) w => (List.Sublist.refl s.footO).append (Wk.feetO w)
  | _, _, .any (s := s) (Γ' := Γ') w => by
    show ([] ++ TL.feetO Γ').Sublist _
    exact (List.nil_sublist s.footO).append (Wk.feetO w)
theorem Wk.sat : ∀ {Γ Γ' : List Sl} {σ : List (Option V)}, Wk Γ Γ' → Sat F H Γ σ → Sat F H Γ' σ
  | _, _, [], .nil, h => h
  | _, _, _ :: _, .nil, h => h
  | _, _, _ :: _, .same w, ⟨h1, h2⟩ => ⟨h1, w.sat h2⟩
  | _, _, _ :: _, .any w, ⟨_, h2⟩ => ⟨trivial, w.sat h2⟩
  | _, _, [], .same _, h => h.elim
  | _, _, [], .any _, h => h.elim
theorem Wk.wd (w : Wk Γ Γ') (h : Wd F H Γ σ) : Wd F H Γ' σ := ⟨h.sub, w.sat h.sat, h.nd.sublist w.feet⟩
end
end TL

/-! part TL1 -/
set_option exponentiation.threshold 256 -- TL1
set_option maxHeartbeats 200000 -- TL1
set_option maxRecDepth 100000 -- TL1
/-! TL1: typed expressions. -/
namespace TL
open PySem PySem.Spec L2

def WpE (X : Cx) (e : Expr) : TE := fun σ H Q => ∀ (pins : List (Addr × Obj)) (s : Shared), Inv X pins σ H s → wpAny (model X.prog X.w) X.A (eval e X.env) (EP X pins σ Q) X.xe s
theorem pe_wp {X : Cx} {e : Expr} : PE X e (WpE X e) := ⟨fun pins s σ H Q I h => h pins s I⟩
theorem PE.wp {X : Cx} {e : Expr} {t : TE} (h : PE X e t) {σ : St} {H : Hp} {Q : VK} (q : t σ H Q) : WpE X e σ H Q := fun pins s I => h.run pins s σ H Q I q
def WpT (X : Cx) (e : Expr) : TT := fun σ H Q => ∀ (pins : List (Addr × Obj)) (s : Shared), Inv X pins σ H s → wpAny (model X.prog X.w) X.A (isTrue e X.env (eval e X.env)) (TP X pins σ Q) X.xe s
theorem pt_wp {X : Cx} {e : Expr} : PT X e (WpT X e) := ⟨fun pins s σ H Q I h => h pins s I⟩
theorem PT.wp {X : Cx} {e : Expr} {t : TT} (h : PT X e t) {σ : St} {H : Hp} {Q : Bool → Hp → Prop} (q : t σ H Q) : WpT X e σ H Q := fun pins s I => h.run pins s σ H Q I q
def WpW (X : Cx) (e : Expr) : TT := fun σ H Q => ∀ (whole : Sem Value) (pins : List (Addr × Obj)) (s : Shared), Inv X pins σ H s → wpAny (model X.prog X.w) X.A (isTrue e X.env whole) (TP X pins σ Q) X.xe s
theorem pw_wp {X : Cx} {e : Expr} : PW X e (WpW X e) := ⟨fun whole pins s σ H Q I h => h whole pins s I⟩
theorem PW.wp {X : Cx} {e : Expr} {t : TT} (h : PW X e t) {σ : St} {H : Hp} {Q : Bool → Hp → Prop} (q : t σ H Q) : WpW X e σ H Q := fun whole pins s I => h.run whole pins s σ H Q I q
def WpA (X : Cx) (es : List Expr) : TA := fun σ H Q => ∀ (pos : Pos) (pins : List (Addr × Obj)) (s : Shared), Inv X pins σ H s → wpAny (model X.prog X.w) X.A (spliced (backTo pos (starEach es X.env))) (AP X pins σ Q) X.xe s
theorem pa_wp {X : Cx} {es : List Expr} : PA X es (WpA X es) := ⟨fun pos pins s σ H Q I h => h pos pins s I⟩
theorem PA.wp {X : Cx} {es : List Expr} {t : TA} (h : PA X es t) {σ : St} {H : Hp} {Q : List V → Hp → Prop} (q : t σ H Q) : WpA X es σ H Q := fun pos pins s I => h.run pos pins s σ H Q I q

/-- e gives a value of this slot -/
def EX (X : Cx) (e : Expr) (Γ : List Sl) (sl : Sl) : Prop :=
  ∀ (σ : L2.St) (F H : Hp), Wd F H Γ σ → ∀ Q : VK, (∀ v F' H', Gr F H F' H' → SlSat F' H' sl (some v) → Q v H') → WpE X e σ H Q
/-- e as a test gives b -/
def ET (X : Cx) (e : Expr) (Γ : List Sl) (b : Bool) : Prop :=
  ∀ (σ : L2.St) (F H : Hp), Wd F H Γ σ → ∀ Q : Bool → Hp → Prop, (∀ F' H', Gr F H F' H' → Q b H') → WpT X e σ H Q
def EW (X : Cx) (e : Expr) (Γ : List Sl) (b : Bool) : Prop :=
  ∀ (σ : L2.St) (F H : Hp), Wd F H Γ σ → ∀ Q : Bool → Hp → Prop, (∀ F' H', Gr F H F' H' → Q b H') → WpW X e σ H Q
def EA (X : Cx) (es : List Expr) (Γ : List Sl) (sls : List Sl) : Prop :=
  ∀ (σ : L2.St) (F H : Hp), Wd F H Γ σ → ∀ Q : List V → Hp → Prop, (∀ vs F' H', Gr F H F' H' → Sat F' H' sls (vs.map some) → Q vs H') → WpA X es σ H Q

abbrev sI (i : Int) : Sl := .dat RInt i
abbrev sB (b : Bool) : Sl := .dat RBl b

section
variable {X : Cx} {a b c e : Expr} {es : List Expr} {pos p : Pos} {Γ : List Sl} {α β γ : Type} {R : Rp α} {R' : Rp β} {R'' : Rp γ} {x : α} {y : β} {z : γ} {i j : Int} {k k' : Bool} {F H F' H' : Hp} {v : V} {o : Option V}
theorem sat_dat (h : SlSat F H (.dat R x) (some v)) : R.rel F v x := by
  obtain ⟨u, e, r⟩ := h
  cases e
  exact r
theorem dat_sat (h : R.rel F v x) : SlSat F H (.dat R x) (some v) := ⟨v, rfl, h⟩
theorem sat_up (g : Gr F H F' H') {sl : Sl} (h : SlSat F H sl o) : SlSat F' H' sl o := h.grow g fun _ _ => by simp

theorem ex_var (n : Nat) {nm : Str} {sl : Sl} (h : gtS Γ n = sl) (hne : sl ≠ .any := by intro z; cases z) (hN : X.N[n]? = some nm := by rfl) (hv : Vis X.env.scope nm := by first | exact Or.inl rfl | exact Or.inr (Or.inl rfl) | exact Or.inr (Or.inr rfl)) (hd : (nm == ("__debug__" : Str)) = false := by decide)
    (hcd : (nm == ("__classdict__" : Str)) = false := by decide) : EX X (.Name nm pos) Γ sl := fun σ F H w Q q => by
  obtain ⟨o, e, r⟩ := w.sat.at_ h hne
  have : ∃ v, o = some v := by
    cases sl with
    | any => exact absurd rfl hne
    | dat R a => obtain ⟨v, e, _⟩ := r; exact ⟨v, e⟩
    | own P => exact ⟨_, r.1⟩
    | bor P => exact ⟨_, r.1⟩
  obtain ⟨v, rfl⟩ := this
  exact PE.wp (pe_var (i := n) hN hv hd hcd) ⟨v, e, q v F H (GrS.refl w.sub) r⟩
theorem ex_int {n : Int} {jj} : EX X (.Constant (.int n) jj pos) Γ (sI n) := fun σ F H w Q q => PE.wp pe_int (q _ F H (GrS.refl w.sub) (dat_sat rfl))
theorem ex_bl {n : Bool} {jj} : EX X (.Constant (.bool n) jj pos) Γ (sB n) := fun σ F H w Q q => PE.wp pe_bl (q _ F H (GrS.refl w.sub) (dat_sat rfl))
theorem ex_non {jj} : EX X (.Constant .none jj pos) Γ (.dat RNon ()) := fun σ F H w Q q => PE.wp pe_non (q _ F H (GrS.refl w.sub) (dat_sat rfl))
theorem ex_str {s : Str} {l : List Nat} {jj : Nat} (h : s.cps.toList = l) (hl : l.length ≤ sizeLine := by decide) : EX X (.Constant (.str s) jj pos) Γ (.dat RTx l) := fun σ F H w Q q => PE.wp pe_str (q _ F H (GrS.refl w.sub) (dat_sat ⟨by
  obtain ⟨cps⟩ := s
  subst h
  rfl, hl⟩))
theorem ex_conv (h : EX X e Γ (.dat R x)) (hc : ∀ F v, R.rel F v x → R'.rel F v y) : EX X e Γ (.dat R' y) := fun σ F H w Q q => h σ F H w Q fun v F' H' g r => q v F' H' g (dat_sat (hc F' v (sat_dat r)))
theorem ex_to {sl sl' : Sl} (h : EX X e Γ sl) (hs : sl = sl') : EX X e Γ sl' := hs ▸ h

/-- two-place operations -/
theorem ex_bin {op : Operator} {r : R2} (ho : OpR X (binaryOp op) r) (ha : EX X a Γ (.dat R x)) (hb : EX X b Γ (.dat R' y))
    (h : ∀ F H v u, Same F H → R.rel F v x → R'.rel F u y → ∀ Q : VK, (∀ w F' H', Gr F H F' H' → R''.rel F' w z → Q w H') → r v u H Q) : EX X (.BinOp a op b pos) Γ (.dat R'' z) := fun σ F H w Q q =>
  PE.wp (pe_op ho pe_wp pe_wp) (ha σ F H w _ fun v F1 H1 g1 r1 => hb σ F1 H1 (w.grow g1) _ fun u F2 H2 g2 r2 =>
    h F2 H2 v u g2.sub (R.mono g2.fz (sat_dat r1)) (sat_dat r2) _ fun w' F3 H3 g3 r3 => q w' F3 H3 ((g1.trans g2).trans g3) (dat_sat r3))
theorem ex_add (ha : EX X a Γ (sI i)) (hb : EX X b Γ (sI j)) : EX X (.BinOp a .Add b pos) Γ (sI (i + j)) :=
  ex_bin op_add ha hb fun F H v u s r1 r2 Q q => ⟨i, j, r1, r2, q _ F H (GrS.refl s) rfl⟩
theorem ex_sub (ha : EX X a Γ (sI i)) (hb : EX X b Γ (sI j)) : EX X (.BinOp a .Sub b pos) Γ (sI (i - j)) :=
  ex_bin op_sub ha hb fun F H v u s r1 r2 Q q => ⟨i, j, r1, r2, q _ F H (GrS.refl s) rfl⟩
theorem ex_mul (ha : EX X a Γ (sI i)) (hb : EX X b Γ (sI j)) (hc : CMulX i j) : EX X (.BinOp a .Mult b pos) Γ (sI (i * j)) :=
  ex_bin op_mulX ha hb fun F H v u s r1 r2 Q q => ⟨i, j, r1, r2, hc, q _ F H (GrS.refl s) rfl⟩
/-- // where C does it by itself -/
def CDivX (i j : Int) : Prop := j ≠ 0 ∧ Builtin.divisionGoesByPylong i j = false
theorem op_fdivX : OpR X (binaryOp .FloorDiv) (rI CDivX fun i j => .int (i.fdiv j)) := opI fun _ _ _ _ _ _ _ hc q => PyProof.Rows.floordiv_int hc.1 q (.inl hc.2)
theorem ex_fdiv (ha : EX X a Γ (sI i)) (hb : EX X b Γ (sI j)) (hc : CDivX i j) : EX X (.BinOp a .FloorDiv b pos) Γ (sI (i.fdiv j)) :=
  ex_bin op_fdivX ha hb fun F H v u s r1 r2 Q q => ⟨i, j, r1, r2, hc, q _ F H (GrS.refl s) rfl⟩
theorem ex_mod (ha : EX X a Γ (sI i)) (hb : EX X b Γ (sI j)) (hc : j ≠ 0) : EX X (.BinOp a .Mod b pos) Γ (sI (i.fmod j)) :=
  ex_bin op_modN ha hb fun F H v u s r1 r2 Q q => ⟨i, j, r1, r2, hc, q _ F H (GrS.refl s) rfl⟩
theorem ex_pow (ha : EX X a Γ (sI i)) (hb : EX X b Γ (sI j)) (hc : CPow i j) : EX X (.BinOp a .Pow b pos) Γ (sI (i ^ j.toNat)) :=
  ex_bin op_pow ha hb fun F H v u s r1 r2 Q q => ⟨i, j, r1, r2, hc, q _ F H (GrS.refl s) rfl⟩
theorem ex_neg (ha : EX X a Γ (sI i)) : EX X (.UnaryOp .USub a pos) Γ (sI (-i)) := fun σ F H w Q q =>
  PE.wp (pe_un un_neg pe_wp) (ha σ F H w _ fun v F1 H1 g1 r1 => ⟨i, sat_dat r1, q _ F1 H1 g1 (dat_sat rfl)⟩)

/-- comparisons, as values and as tests -/
theorem ex_cmp {op : CmpOp} {r : R2} (ho : OpR X (compareOp op) r) (ha : EX X a Γ (.dat R x)) (hb : EX X b Γ (.dat R' y)) (hm : behindInMarks op b = false)
    (h : ∀ F H v u, Same F H → R.rel F v x → R'.rel F u y → ∀ Q : VK, (∀ F' H', Gr F H F' H' → Q (.bl k) H') → r v u H Q) : EX X (.Compare a [op] [b] pos) Γ (sB k) := fun σ F H w Q q =>
  PE.wp (pe_cmpR ho pe_wp pe_wp hm) (ha σ F H w _ fun v F1 H1 g1 r1 => hb σ F1 H1 (w.grow g1) _ fun u F2 H2 g2 r2 =>
    h F2 H2 v u g2.sub (R.mono g2.fz (sat_dat r1)) (sat_dat r2) _ fun F3 H3 g3 => q _ F3 H3 ((g1.trans g2).trans g3) (dat_sat rfl))
theorem et_cmp {op : CmpOp} {r : R2} (ho : OpR X (compareOp op) r) (ha : EX X a Γ (.dat R x)) (hb : EX X b Γ (.dat R' y)) (hm : behindInMarks op b = false)
    (h : ∀ F H v u, Same F H → R.rel F v x → R'.rel F u y → ∀ Q : VK, (∀ F' H', Gr F H F' H' → Q (.bl k) H') → r v u H Q) : ET X (.Compare a [op] [b] pos) Γ k := fun σ F H w Q q =>
  PT.wp (pt_cmpR ho pe_wp pe_wp hm) (ha σ F H w _ fun v F1 H1 g1 r1 => hb σ F1 H1 (w.grow g1) _ fun u F2 H2 g2 r2 =>
    h F2 H2 v u g2.sub (R.mono g2.fz (sat_dat r1)) (sat_dat r2) _ fun F3 H3 g3 => ⟨k, rfl, q F3 H3 ((g1.trans g2).trans g3)⟩)
theorem ev_lt {F H : Hp} (s : Same F H) (Q : VK) (q : ∀ F' H', Gr F H F' H' → Q (.bl k) H') : Q (.bl k) H := q F H (GrS.refl s)
theorem r_lt : ∀ F H v u, Same F H → RInt.rel F v i → RInt.rel F u j → ∀ Q : VK, (∀ F' H', Gr F H F' H' → Q (.bl (decide (i < j))) H') → (rI0 fun i j => .bl (decide (i < j))) v u H Q := fun F H v u s r1 r2 Q q => ⟨i, j, r1, r2, q F H (GrS.refl s)⟩
theorem r_le : ∀ F H v u, Same F H → RInt.rel F v i → RInt.rel F u j → ∀ Q : VK, (∀ F' H', Gr F H F' H' → Q (.bl (decide (i ≤ j))) H') → (rI0 fun i j => .bl (decide (i ≤ j))) v u H Q := fun F H v u s r1 r2 Q q => ⟨i, j, r1, r2, q F H (GrS.refl s)⟩
theorem r_gt : ∀ F H v u, Same F H → RInt.rel F v i → RInt.rel F u j → ∀ Q : VK, (∀ F' H', Gr F H F' H' → Q (.bl (decide (j < i))) H') → (rI0 fun i j => .bl (decide (j < i))) v u H Q := fun F H v u s r1 r2 Q q => ⟨i, j, r1, r2, q F H (GrS.refl s)⟩
theorem r_ge : ∀ F H v u, Same F H → RInt.rel F v i → RInt.rel F u j → ∀ Q : VK, (∀ F' H', Gr F H F' H' → Q (.bl (decide (j ≤ i))) H') → (rI0 fun i j => .bl (decide (j ≤ i))) v u H Q := fun F H v u s r1 r2 Q q => ⟨i, j, r1, r2, q F H (GrS.refl s)⟩
theorem dec_vi : decide (V.int i = V.int j) = decide (i = j) := by simp
theorem r_eq : ∀ F H v u, Same F H → RInt.rel F v i → RInt.rel F u j → ∀ Q : VK, (∀ F' H', Gr F H F' H' → Q (.bl (decide (i = j))) H') → rEq v u H Q := fun F H v u s r1 r2 Q q => by
  cases r1
  cases r2
  exact ⟨rfl, by rw [dec_vi]; exact q F H (GrS.refl s)⟩
theorem r_ne : ∀ F H v u, Same F H → RInt.rel F v i → RInt.rel F u j → ∀ Q : VK, (∀ F' H', Gr F H F' H' → Q (.bl (!decide (i = j))) H') → rNe v u H Q := fun F H v u s r1 r2 Q q => by
  cases r1
  cases r2
  exact ⟨rfl, by rw [dec_vi]; exact q F H (GrS.refl s)⟩
theorem et_lt (ha : EX X a Γ (sI i)) (hb : EX X b Γ (sI j)) : ET X (.Compare a [.Lt] [b] pos) Γ (decide (i < j)) := et_cmp op_lt ha hb (nomark _) r_lt
theorem et_le (ha : EX X a Γ (sI i)) (hb : EX X b Γ (sI j)) : ET X (.Compare a [.LtE] [b] pos) Γ (decide (i ≤ j)) := et_cmp op_le ha hb (nomark _) r_le
theorem et_gt (ha : EX X a Γ (sI i)) (hb : EX X b Γ (sI j)) : ET X (.Compare a [.Gt] [b] pos) Γ (decide (j < i)) := et_cmp op_gt ha hb (nomark _) r_gt
theorem et_ge (ha : EX X a Γ (sI i)) (hb : EX X b Γ (sI j)) : ET X (.Compare a [.GtE] [b] pos) Γ (decide (j ≤ i)) := et_cmp op_ge ha hb (nomark _) r_ge
theorem et_eq (ha : EX X a Γ (sI i)) (hb : EX X b Γ (sI j)) : ET X (.Compare a [.Eq] [b] pos) Γ (decide (i = j)) := et_cmp op_eq ha hb (nomark _) r_eq
theorem et_ne (ha : EX X a Γ (sI i)) (hb : EX X b Γ (sI j)) : ET X (.Compare a [.NotEq] [b] pos) Γ (!decide (i = j)) := et_cmp op_ne ha hb (nomark _) r_ne
theorem ex_lt (ha : EX X a Γ (sI i)) (hb : EX X b Γ (sI j)) : EX X (.Compare a [.Lt] [b] pos) Γ (sB (decide (i < j))) := ex_cmp op_lt ha hb (nomark _) r_lt
theorem ex_gt (ha : EX X a Γ (sI i)) (hb : EX X b Γ (sI j)) : EX X (.Compare a [.Gt] [b] pos) Γ (sB (decide (j < i))) := ex_cmp op_gt ha hb (nomark _) r_gt
theorem ex_ge (ha : EX X a Γ (sI i)) (hb : EX X b Γ (sI j)) : EX X (.Compare a [.GtE] [b] pos) Γ (sB (decide (j ≤ i))) := ex_cmp op_ge ha hb (nomark _) r_ge
theorem ex_eq (ha : EX X a Γ (sI i)) (hb : EX X b Γ (sI j)) : EX X (.Compare a [.Eq] [b] pos) Γ (sB (decide (i = j))) := ex_cmp op_eq ha hb (nomark _) r_eq
theorem ex_ne (ha : EX X a Γ (sI i)) (hb : EX X b Γ (sI j)) : EX X (.Compare a [.NotEq] [b] pos) Γ (sB (!decide (i = j))) := ex_cmp op_ne ha hb (nomark _) r_ne
/-- texts -/
theorem dec_vs {l m : List Nat} : decide (V.str ⟨l.toArray⟩ = V.str ⟨m.toArray⟩) = decide (l = m) := by
  by_cases h : l = m
  · subst h; simp
  · have : ¬ (V.str ⟨l.toArray⟩ = V.str ⟨m.toArray⟩) := fun e => h (by injection e with e; injection e with e; injection e)
    rw [decide_eq_false this, decide_eq_false h]
theorem r_eqs {l m : List Nat} : ∀ F H v u, Same F H → RTx.rel F v l → RTx.rel F u m → ∀ Q : VK, (∀ F' H', Gr F H F' H' → Q (.bl (decide (l = m))) H') → rEq v u H Q := fun F H v u s r1 r2 Q q => by
  obtain ⟨rfl, _⟩ := r1
  obtain ⟨rfl, _⟩ := r2
  exact ⟨rfl, by rw [dec_vs]; exact q F H (GrS.refl s)⟩
theorem r_nes {l m : List Nat} : ∀ F H v u, Same F H → RTx.rel F v l → RTx.rel F u m → ∀ Q : VK, (∀ F' H', Gr F H F' H' → Q (.bl (!decide (l = m))) H') → rNe v u H Q := fun F H v u s r1 r2 Q q => by
  obtain ⟨rfl, _⟩ := r1
  obtain ⟨rfl, _⟩ := r2
  exact ⟨rfl, by rw [dec_vs]; exact q F H (GrS.refl s)⟩
theorem et_eqs {l m : List Nat} (ha : EX X a Γ (.dat RTx l)) (hb : EX X b Γ (.dat RTx m)) : ET X (.Compare a [.Eq] [b] pos) Γ (decide (l = m)) := et_cmp op_eq ha hb (nomark _) r_eqs
theorem et_nes {l m : List Nat} (ha : EX X a Γ (.dat RTx l)) (hb : EX X b Γ (.dat RTx m)) : ET X (.Compare a [.NotEq] [b] pos) Γ (!decide (l = m)) := et_cmp op_ne ha hb (nomark _) r_nes
theorem ex_eqs {l m : List Nat} (ha : EX X a Γ (.dat RTx l)) (hb : EX X b Γ (.dat RTx m)) : EX X (.Compare a [.Eq] [b] pos) Γ (sB (decide (l = m))) := ex_cmp op_eq ha hb (nomark _) r_eqs
theorem ex_cat_s {l m : List Nat} (ha : EX X a Γ (.dat RTx l)) (hb : EX X b Γ (.dat RTx m)) (hz : l.length + m.length ≤ sizeLine) : EX X (.BinOp a .Add b pos) Γ (.dat RTx (l ++ m)) :=
  ex_bin op_add_str ha hb fun F H v u s r1 r2 Q q => by
    obtain ⟨rfl, _⟩ := r1
    obtain ⟨rfl, _⟩ := r2
    refine ⟨_, _, rfl, rfl, by simpa [Str.length] using hz, ?_⟩
    refine q _ F H (GrS.refl s) ⟨?_, by rw [List.length_append]; exact hz⟩
    show V.str (⟨l.toArray ++ m.toArray⟩) = V.str ⟨(l ++ m).toArray⟩
    rw [List.append_toArray]
/-- is None -/
theorem et_isN {o' : Option α} {jj p2} (ha : EX X a Γ (.dat (ROpt R) o')) (hR : ∀ F v x, R.rel F v x → v ≠ .non) : ET X (.Compare a [.Is] [.Constant .none jj p2] pos) Γ (o'.isNone) :=
  et_cmp (R' := RNon) (y := ()) op_isN ha ex_non (nomark _) fun F H v u s r1 r2 Q q => by
    refine ⟨r2, ?_⟩
    have : decide (v = .non) = o'.isNone := by
      cases o' with
      | none =>
        have e : v = .non := r1
        rw [decide_eq_true e]
        rfl
      | some x => exact decide_eq_false (hR F v x r1)
    rw [this]
    exact q F H (GrS.refl s)
/-- tests made of tests -/
theorem et_not (h : ET X a Γ k) : ET X (.UnaryOp .Not a pos) Γ (!k) := fun σ F H w Q q => PT.wp (pt_not pt_wp) (h σ F H w _ fun F1 H1 g1 => q F1 H1 g1)
theorem et_val (h : EX X e Γ (sB k)) (he : ∀ whole, isTrue e X.env whole = (do let v ← whole; standAt e.pos; holding [v] (truthy v)) := by intro _; rfl) : ET X e Γ k := fun σ F H w Q q =>
  PT.wp (pt_val pe_wp he) (h σ F H w _ fun v F1 H1 g1 r => ⟨k, sat_dat r, q F1 H1 g1⟩)
theorem ew_and1 (h : ET X a Γ k) : EW X (.BoolOp .And [a] pos) Γ k := fun σ F H w Q q => PW.wp (pw_and1 pt_wp) (h σ F H w _ q)
theorem ew_or1 (h : ET X a Γ k) : EW X (.BoolOp .Or [a] pos) Γ k := fun σ F H w Q q => PW.wp (pw_or1 pt_wp) (h σ F H w _ q)
theorem ew_and {rest : List Expr} (h1 : ET X a Γ k) (h2 : k = true → EW X (.BoolOp .And (b :: rest) pos) Γ k') : EW X (.BoolOp .And (a :: b :: rest) pos) Γ (k && k') := fun σ F H w Q q =>
  PW.wp (pw_and pt_wp pw_wp) (h1 σ F H w _ fun F1 H1 g1 => by
    cases k with
    | true => exact iteT (h2 rfl σ F1 H1 (w.grow g1) _ fun F2 H2 g2 => q F2 H2 (g1.trans g2))
    | false => exact iteF (q F1 H1 g1))
theorem ew_or {rest : List Expr} (h1 : ET X a Γ k) (h2 : k = false → EW X (.BoolOp .Or (b :: rest) pos) Γ k') : EW X (.BoolOp .Or (a :: b :: rest) pos) Γ (k || k') := fun σ F H w Q q =>
  PW.wp (pw_or pt_wp pw_wp) (h1 σ F H w _ fun F1 H1 g1 => by
    cases k with
    | true => exact iteT (q F1 H1 g1)
    | false => exact iteF (h2 rfl σ F1 H1 (w.grow g1) _ fun F2 H2 g2 => q F2 H2 (g1.trans g2)))
theorem et_w (h : EW X e Γ k) : ET X e Γ k := fun σ F H w Q q pins s I => h σ F H w Q q _ pins s I
theorem et_and (h1 : ET X a Γ k) (h2 : k = true → ET X b Γ k') : ET X (.BoolOp .And [a, b] pos) Γ (k && k') := et_w (ew_and h1 fun z => ew_and1 (h2 z))
theorem et_or (h1 : ET X a Γ k) (h2 : k = false → ET X b Γ k') : ET X (.BoolOp .Or [a, b] pos) Γ (k || k') := et_w (ew_or h1 fun z => ew_or1 (h2 z))
theorem ex_one {op} (h : EX X a Γ (sB k)) : EX X (.BoolOp op [a] pos) Γ (sB k) := fun σ F H w Q q => PE.wp (pe_one pe_wp) (h σ F H w _ q)
theorem ex_and {rest : List Expr} (h1 : EX X a Γ (sB k)) (h2 : k = true → EX X (.BoolOp .And (b :: rest) pos) Γ (sB k')) : EX X (.BoolOp .And (a :: b :: rest) pos) Γ (sB (k && k')) := fun σ F H w Q q =>
  PE.wp (pe_and pe_wp pe_wp) (h1 σ F H w _ fun v F1 H1 g1 r => ⟨k, sat_dat r, by
    cases k with
    | true => exact iteT (h2 rfl σ F1 H1 (w.grow g1) _ fun v2 F2 H2 g2 r2 => q v2 F2 H2 (g1.trans g2) r2)
    | false => exact iteF (q _ F1 H1 g1 (dat_sat rfl))⟩)
theorem ex_or {rest : List Expr} (h1 : EX X a Γ (sB k)) (h2 : k = false → EX X (.BoolOp .Or (b :: rest) pos) Γ (sB k')) : EX X (.BoolOp .Or (a :: b :: rest) pos) Γ (sB (k || k')) := fun σ F H w Q q =>
  PE.wp (pe_or pe_wp pe_wp) (h1 σ F H w _ fun v F1 H1 g1 r => ⟨k, sat_dat r, by
    cases k with
    | true => exact iteT (q _ F1 H1 g1 (dat_sat rfl))
    | false => exact iteF (h2 rfl σ F1 H1 (w.grow g1) _ fun v2 F2 H2 g2 r2 => q v2 F2 H2 (g1.trans g2) r2)⟩)
theorem ex_and2 (h1 : EX X a Γ (sB k)) (h2 : k = true → EX X b Γ (sB k')) : EX X (.BoolOp .And [a, b] pos) Γ (sB (k && k')) := ex_and h1 fun z => ex_one (h2 z)
theorem ex_or2 (h1 : EX X a Γ (sB k)) (h2 : k = false → EX X b Γ (sB k')) : EX X (.BoolOp .Or [a, b] pos) Γ (sB (k || k')) := ex_or h1 fun z => ex_one (h2 z)
/-- arguments -/
theorem ea_nil : EA X [] Γ [] := fun σ F H w Q q => PA.wp pa_nil (q [] F H (GrS.refl w.sub) trivial)
theorem ea_cons {sl : Sl} {sls : List Sl} (h : EX X e Γ sl) (hr : EA X es Γ sls) (hs : starEach (e :: es) X.env = (false, eval e X.env) :: starEach es X.env := by rfl) : EA X (e :: es) Γ (sl :: sls) := fun σ F H w Q q =>
  PA.wp (pa_cons pe_wp pa_wp hs) (h σ F H w _ fun v F1 H1 g1 r1 => hr σ F1 H1 (w.grow g1) _ fun vs F2 H2 g2 r2 => q (v :: vs) F2 H2 (g1.trans g2) ⟨sat_up g2 r1, r2⟩)
/-- a new object, frozen at once -/
theorem fin_new {Q : VK} {sl : Sl} (w : Same F H) (u : HO) (hs : ∀ p, H p = none → SlSat (upd F p u) (upd H p u) sl (some (.ref p))) (q : ∀ v F' H', Gr F H F' H' → SlSat F' H' sl (some v) → Q v H') : ∀ p, H p = none → Q (.ref p) (upd H p u) :=
  fun p hp => q _ _ _ (Gr.alloc w hp) (hs p hp)
theorem sat1 {s1 : Sl} {vs : List V} (h : Sat F H [s1] (vs.map some)) : ∃ v1, vs = [v1] ∧ SlSat F H s1 (some v1) := by
  cases vs with
  | nil => exact h.elim
  | cons v1 vs =>
    cases vs with
    | nil => exact ⟨v1, rfl, h.1⟩
    | cons _ _ => exact h.2.elim
theorem satC {s1 : Sl} {sl : List Sl} {vs : List V} (h : Sat F H (s1 :: sl) (vs.map some)) : ∃ v1 r, vs = v1 :: r ∧ SlSat F H s1 (some v1) ∧ Sat F H sl (r.map some) := by
  cases vs with
  | nil => exact h.elim
  | cons v1 vs => exact ⟨v1, vs, rfl, h.1, h.2⟩
theorem sat2 {s1 s2 : Sl} {vs : List V} (h : Sat F H [s1, s2] (vs.map some)) : ∃ v1 v2, vs = [v1, v2] ∧ SlSat F H s1 (some v1) ∧ SlSat F H s2 (some v2) := by
  obtain ⟨v1, r, rfl, h1, h2⟩ := satC h
  obtain ⟨v2, rfl, h3⟩ := sat1 h2
  exact ⟨v1, v2, rfl, h1, h3⟩
theorem sat3 {s1 s2 s3 : Sl} {vs : List V} (h : Sat F H [s1, s2, s3] (vs.map some)) : ∃ v1 v2 v3, vs = [v1, v2, v3] ∧ SlSat F H s1 (some v1) ∧ SlSat F H s2 (some v2) ∧ SlSat F H s3 (some v3) := by
  obtain ⟨v1, r, rfl, h1, h2⟩ := satC h
  obtain ⟨v2, v3, rfl, h3⟩ := sat2 h2
  exact ⟨v1, v2, v3, rfl, h1, h3⟩
theorem sat4 {s1 s2 s3 s4 : Sl} {vs : List V} (h : Sat F H [s1, s2, s3, s4] (vs.map some)) : ∃ v1 v2 v3 v4, vs = [v1, v2, v3, v4] ∧ SlSat F H s1 (some v1) ∧ SlSat F H s2 (some v2) ∧ SlSat F H s3 (some v3) ∧ SlSat F H s4 (some v4) := by
  obtain ⟨v1, r, rfl, h1, h2⟩ := satC h
  obtain ⟨v2, v3, v4, rfl, h3⟩ := sat3 h2
  exact ⟨v1, v2, v3, v4, rfl, h1, h3⟩
theorem ex_tup2 {x1 : Nat} (ha : EX X a Γ (.dat R x)) (hb : EX X b Γ (.dat R' y)) (hs1 : starEach [b] X.env = (false, eval b X.env) :: starEach [] X.env := by rfl) (hs : starEach [a, b] X.env = (false, eval a X.env) :: starEach [b] X.env := by rfl) :
    EX X (.Tuple [a, b] x1 pos) Γ (.dat (RT2 R R') (x, y)) := fun σ F H w Q q =>
  PE.wp (pe_tup pa_wp) (ea_cons ha (ea_cons hb ea_nil hs1) hs σ F H w _ fun vs F1 H1 g1 r => by
      obtain ⟨v, u, rfl, r1, r2⟩ := sat2 r
      refine ⟨by show 2 ≤ sizeLine; decide, fun p hp => ?_⟩
      have g2 := Gr.alloc (o := .tup [v, u]) g1.sub hp
      exact q _ _ _ (g1.trans g2) (dat_sat ⟨p, v, u, rfl, upd_same, R.mono g2.fz (sat_dat r1), R'.mono g2.fz (sat_dat r2)⟩))
theorem ex_tup3 {x1 : Nat} (ha : EX X a Γ (.dat R x)) (hb : EX X b Γ (.dat R' y)) (hc : EX X c Γ (.dat R'' z)) (hs2 : starEach [c] X.env = (false, eval c X.env) :: starEach [] X.env := by rfl) (hs1 : starEach [b, c] X.env = (false, eval b X.env) :: starEach [c] X.env := by rfl)
    (hs : starEach [a, b, c] X.env = (false, eval a X.env) :: starEach [b, c] X.env := by rfl) : EX X (.Tuple [a, b, c] x1 pos) Γ (.dat (RT3 R R' R'') (x, y, z)) := fun σ F H w Q q =>
  PE.wp (pe_tup pa_wp) (ea_cons ha (ea_cons hb (ea_cons hc ea_nil hs2) hs1) hs σ F H w _ fun vs F1 H1 g1 r => by
      obtain ⟨v, u, t, rfl, r1, r2, r3⟩ := sat3 r
      refine ⟨by show 3 ≤ sizeLine; decide, fun p hp => ?_⟩
      have g2 := Gr.alloc (o := .tup [v, u, t]) g1.sub hp
      exact q _ _ _ (g1.trans g2) (dat_sat ⟨p, v, u, t, rfl, upd_same, R.mono g2.fz (sat_dat r1), R'.mono g2.fz (sat_dat r2), R''.mono g2.fz (sat_dat r3)⟩))
theorem ex_tup4 {δ : Type} {R3 : Rp δ} {d : Expr} {t0 : δ} {x1 : Nat} (ha : EX X a Γ (.dat R x)) (hb : EX X b Γ (.dat R' y)) (hc : EX X c Γ (.dat R'' z)) (hd : EX X d Γ (.dat R3 t0)) (hs3 : starEach [d] X.env = (false, eval d X.env) :: starEach [] X.env := by rfl) (hs2 : starEach [c, d] X.env = (false, eval c X.env) :: starEach [d] X.env := by rfl)
    (hs1 : starEach [b, c, d] X.env = (false, eval b X.env) :: starEach [c, d] X.env := by rfl) (hs : starEach [a, b, c, d] X.env = (false, eval a X.env) :: starEach [b, c, d] X.env := by rfl) : EX X (.Tuple [a, b, c, d] x1 pos) Γ (.dat (RT4 R R' R'' R3) (x, y, z, t0)) := fun σ F H w Q q =>
  PE.wp (pe_tup pa_wp) (ea_cons ha (ea_cons hb (ea_cons hc (ea_cons hd ea_nil hs3) hs2) hs1) hs σ F H w _ fun vs F1 H1 g1 r => by
      obtain ⟨v, u, t, v4, rfl, r1, r2, r3, r4⟩ := sat4 r
      refine ⟨by show 4 ≤ sizeLine; decide, fun p hp => ?_⟩
      have g2 := Gr.alloc (o := .tup [v, u, t, v4]) g1.sub hp
      exact q _ _ _ (g1.trans g2) (dat_sat ⟨p, v, u, t, v4, rfl, upd_same, R.mono g2.fz (sat_dat r1), R'.mono g2.fz (sat_dat r2), R''.mono g2.fz (sat_dat r3), R3.mono g2.fz (sat_dat r4)⟩))
/-- lists that are written -/
theorem ex_lst0 : EX X (.List [] pos) Γ (.dat (RL R) []) := fun σ F H w Q q =>
  PE.wp (pe_lst pa_nil) ⟨Nat.zero_le _, fun p hp => q _ _ _ (Gr.alloc w.sub hp) (dat_sat ⟨p, [], rfl, upd_same, Nat.zero_le _, .nil⟩)⟩
theorem ex_lst1 (ha : EX X a Γ (.dat R x)) (hs : starEach [a] X.env = (false, eval a X.env) :: starEach [] X.env := by rfl) : EX X (.List [a] pos) Γ (.dat (RL R) [x]) := fun σ F H w Q q =>
  PE.wp (pe_lst pa_wp) (ea_cons ha ea_nil hs σ F H w _ fun vs F1 H1 g1 r => by
      obtain ⟨v, rfl, r1⟩ := sat1 r
      refine ⟨by show 1 ≤ sizeLine; decide, fun p hp => ?_⟩
      have g2 := Gr.alloc (o := .lst [v]) g1.sub hp
      exact q _ _ _ (g1.trans g2) (dat_sat ⟨p, [v], rfl, upd_same, by show 1 ≤ sizeLine; decide, .cons (R.mono g2.fz (sat_dat r1)) .nil⟩))
/-- places -/
theorem paired_at {ρ : Type} {R : V → ρ → Prop} : ∀ {xs : List V} {l : List ρ} {n : Nat} {x : ρ}, Paired R xs l → l[n]? = some x → ∃ v, xs[n]? = some v ∧ R v x
  | _, _, n, x, .nil, e => by simp at e
  | _, _, 0, x, .cons r t, e => ⟨_, rfl, by simp at e; subst e; exact r⟩
  | _, _, n + 1, x, .cons r t, e => by
    obtain ⟨v, q, s⟩ := paired_at (n := n) (x := x) t (by simpa using e)
    exact ⟨v, by simpa using q, s⟩
theorem paired_atI {ρ : Type} {R : V → ρ → Prop} {xs : List V} {l : List ρ} {i : Int} {x : ρ} (p : Paired R xs l) (e : atI l i = some x) : ∃ v, atI xs i = some v ∧ R v x := by
  unfold atI at e ⊢
  rw [Paired.length p]
  cases h : ixN l.length i with
  | none => rw [h] at e; cases e
  | some n =>
    rw [h] at e
    exact paired_at p e
theorem ex_ixL {l : List α} (ha : EX X a Γ (.dat (RL R) l)) (hb : EX X b Γ (sI i)) (h : atI l i = some x) (hs : PlainIx b := by exact fun _ _ => rfl) : EX X (.Subscript a b pos) Γ (.dat R x) := fun σ F H w Q q =>
  PE.wp (pe_ix ix_list pe_wp pe_wp hs) (ha σ F H w _ fun v F1 H1 g1 r1 => hb σ F1 H1 (w.grow g1) _ fun u F2 H2 g2 r2 => by
    obtain ⟨p, xs, rfl, e, z, pr⟩ := (RL R).mono g2.fz (sat_dat r1)
    obtain ⟨v, hv, rv⟩ := paired_atI pr h
    exact ⟨p, xs, i, v, rfl, sat_dat r2, SqL.of (g2.sub _ _ e), hv, q v F2 H2 (g1.trans g2) (dat_sat rv)⟩)
theorem atI_0 {ρ : Type} {u : ρ} {r : List ρ} : atI (u :: r) 0 = some u := atI_nat (j := 0) rfl
theorem atI_1 {ρ : Type} {u u2 : ρ} {r : List ρ} : atI (u :: u2 :: r) 1 = some u2 := atI_nat (j := 1) rfl
theorem atI_2 {ρ : Type} {u u2 u3 : ρ} {r : List ρ} : atI (u :: u2 :: u3 :: r) 2 = some u3 := atI_nat (j := 2) rfl
theorem atI_3 {ρ : Type} {u u2 u3 u4 : ρ} {r : List ρ} : atI (u :: u2 :: u3 :: u4 :: r) 3 = some u4 := atI_nat (j := 3) rfl
theorem ex_ix2a {jj : Nat} {p2 : Pos} (ha : EX X a Γ (.dat (RT2 R R') (x, y))) : EX X (.Subscript a (.Constant (.int 0) jj p2) pos) Γ (.dat R x) := fun σ F H w Q q =>
  PE.wp (pe_ix ix_tup pe_wp pe_int (fun _ _ => rfl)) (ha σ F H w _ fun v F1 H1 g1 r1 => by
    obtain ⟨p, v1, v2, rfl, e, r, s⟩ := sat_dat r1
    exact ⟨p, _, 0, v1, rfl, rfl, SqT.of (g1.sub _ _ e), atI_0, q v1 F1 H1 g1 (dat_sat r)⟩)
theorem ex_ix2b {jj : Nat} {p2 : Pos} (ha : EX X a Γ (.dat (RT2 R R') (x, y))) : EX X (.Subscript a (.Constant (.int 1) jj p2) pos) Γ (.dat R' y) := fun σ F H w Q q =>
  PE.wp (pe_ix ix_tup pe_wp pe_int (fun _ _ => rfl)) (ha σ F H w _ fun v F1 H1 g1 r1 => by
    obtain ⟨p, v1, v2, rfl, e, r, s⟩ := sat_dat r1
    exact ⟨p, _, 1, v2, rfl, rfl, SqT.of (g1.sub _ _ e), atI_1, q v2 F1 H1 g1 (dat_sat s)⟩)
theorem ex_num {q : Rat} {jj : Nat} {p2 : Pos} (ha : EX X a Γ (.dat RQ q)) : EX X (.Subscript a (.Constant (.int 0) jj p2) pos) Γ (sI q.num) := ex_ix2a (R' := RInt) (y := (q.den : Int)) (ex_conv ha fun _ _ h => h)
theorem ex_den {q : Rat} {jj : Nat} {p2 : Pos} (ha : EX X a Γ (.dat RQ q)) : EX X (.Subscript a (.Constant (.int 1) jj p2) pos) Γ (sI q.den) := ex_ix2b (R := RInt) (x := q.num) (ex_conv ha fun _ _ h => h)
end
end TL

/-! part TL2 -/
set_option exponentiation.threshold 256 -- TL2
set_option maxHeartbeats 200000 -- TL2
set_option maxRecDepth 100000 -- TL2
/-! TL2: targets, walks, comprehensions. -/
namespace TL
open PySem PySem.Spec L2

/-! ### targets -/
def WpG (X : Cx) (tg : Expr) : TG := fun v σ H Q => ∀ (pins : List (Addr × Obj)) (s : Shared) (u : Value), Inv X pins σ H s → RelV v u →
  wpAny (model X.prog X.w) X.A (assign tg X.env u) (fun _ s' => ∃ σ' H', Inv X pins σ' H' s' ∧ Q σ' H') X.xe s
theorem pg_wp {X : Cx} {tg : Expr} : PG X tg (WpG X tg) := ⟨fun pins s σ H v u Q I r h => h pins s u I r⟩
theorem PG.wp {X : Cx} {tg : Expr} {t : TG} (h : PG X tg t) {v : V} {σ : L2.St} {H : Hp} {Q : L2.St → Hp → Prop} (q : t v σ H Q) : WpG X tg v σ H Q := fun pins s u I r => h.run pins s σ H v u Q I r q
def WpGs (X : Cx) (ts : List Expr) : TGs := fun vs σ H Q => ∀ (pins : List (Addr × Obj)) (s : Shared) (us : List Value), Inv X pins σ H s → Vals vs us →
  wpAny (model X.prog X.w) X.A (assignInOrder ((assignEach ts X.env).map (·.2)) us) (fun _ s' => ∃ σ' H', Inv X pins σ' H' s' ∧ Q σ' H') X.xe s
theorem pgs_wp {X : Cx} {ts : List Expr} : PGs X ts (WpGs X ts) := ⟨fun pins s σ H vs us Q I r h => h pins s us I r⟩
theorem PGs.wp {X : Cx} {ts : List Expr} {t : TGs} (h : PGs X ts t) {vs : List V} {σ : L2.St} {H : Hp} {Q : L2.St → Hp → Prop} (q : t vs σ H Q) : WpGs X ts vs σ H Q := fun pins s us I r => h.run pins s σ H vs us Q I r q
/-- what a store at these places leaves -/
structure Stored (is : List Nat) (σ σ' : L2.St) : Prop where
  len : σ'.length = σ.length
  out : ∀ i, i ∉ is → σ'[i]? = σ[i]?
/-- the target takes a value of that slot; is: the places stored -/
def GT (X : Cx) (tg : Expr) (is : List Nat) (sl : Sl) (Γ Γ' : List Sl) : Prop :=
  ∀ (σ : L2.St) (F H : Hp) (v : V), Wd F H Γ σ → SlSat F H sl (some v) → ∀ Q : L2.St → Hp → Prop, (∀ σ', Wd F H Γ' σ' → Stored is σ σ' → Q σ' H) → WpG X tg v σ H Q
def GTs (X : Cx) (ts : List Expr) (is : List Nat) (sls : List Sl) (Γ Γ' : List Sl) : Prop :=
  ∀ (σ : L2.St) (F H : Hp) (vs : List V), Wd F H Γ σ → Sat F H sls (vs.map some) → ∀ Q : L2.St → Hp → Prop, (∀ σ', Wd F H Γ' σ' → Stored is σ σ' → Q σ' H) → WpGs X ts vs σ H Q
theorem sat_any_feet {sl : Sl} (h : sl.foot = []) {F H : Hp} {Γ : List Sl} {σ : L2.St} {i : Nat} {v : V} (w : Wd F H Γ σ) (r : SlSat F H sl (some v)) : Wd F H (stS Γ i sl) (σ.set i (some v)) :=
  w.set r (by rw [h]; exact List.nodup_nil) (by rw [h]; intro b hb; cases hb)
section
variable {X : Cx} {tg iter elt e a b : Expr} {es : List Expr} {pos p : Pos} {Γ Γ' Γ1 Γ2 : List Sl} {α β γ δ ε : Type} {R : Rp α} {R' : Rp β} {R'' : Rp γ} {R3 : Rp δ} {x : α} {y : β} {z : γ} {u : δ} {is is' : List Nat} {F H F' H' : Hp}
theorem gt_name (i : Nat) {nm : Str} {sl : Sl} (hf0 : sl.foot = [] := by rfl) (hN : X.N.Nodup := by assumption) (hi : X.N[i]? = some nm := by rfl) (hx : Loc X.env.scope nm := by first | exact Or.inl rfl | exact Or.inr rfl) (hf : X.fn nm = true ∨ X.env.scope.names.lookup nm = some .local := by first | exact .inl rfl | exact .inr rfl | assumption) :
    GT X (.Name nm pos) [i] sl Γ (stS Γ i sl) := fun σ F H v w r Q q =>
  PG.wp (pg_name hN hi hx hf) (q _ (sat_any_feet hf0 w r) ⟨List.length_set, fun j hj => List.getElem?_set_ne (fun z => hj (by simp [z]))⟩)
theorem gts_nil : GTs X [] [] [] Γ Γ := fun σ F H vs w r Q q => PGs.wp pgs_nil ⟨by
  cases vs with
  | nil => rfl
  | cons _ _ => exact r.elim, q σ w ⟨rfl, fun _ _ => rfl⟩⟩
theorem gts_cons {sl : Sl} {sls : List Sl} (h1 : GT X e is sl Γ Γ1) (h2 : GTs X es is' sls Γ1 Γ2) (hs : (assignEach (e :: es) X.env).map (·.2) = (fun v => assign e X.env v) :: (assignEach es X.env).map (·.2) := by rfl) : GTs X (e :: es) (is ++ is') (sl :: sls) Γ Γ2 := fun σ F H vs w r Q q => by
  obtain ⟨v, vr, rfl, r1, r2⟩ := satC r
  refine PGs.wp (pgs_cons pg_wp pgs_wp hs) ⟨v, vr, rfl, h1 σ F H v w r1 _ fun σ1 w1 s1 => ?_⟩
  refine h2 σ1 F H vr w1 r2 _ fun σ2 w2 s2 => q σ2 w2 ⟨s2.len.trans s1.len, fun i hi => ?_⟩
  rw [s2.out i fun z => hi (List.mem_append_right _ z), s1.out i fun z => hi (List.mem_append_left _ z)]
theorem gt_tup2 {kk : Nat} (h : GTs X [a, b] is [.dat R x, .dat R' y] Γ Γ') (hc : X.calm = true := by rfl) (hn : (assignEach [a, b] X.env).length = 2 := by rfl) (hst : (assignEach [a, b] X.env).findIdx? (·.1) = none := by rfl) : GT X (.Tuple [a, b] kk pos) is (.dat (RT2 R R') (x, y)) Γ Γ' := fun σ F H v w r Q q => by
  obtain ⟨p, v1, v2, rfl, e, r1, r2⟩ := sat_dat r
  exact PG.wp (pg_tup hc pgs_wp hn hst) ⟨p, _, rfl, SqT.of (w.sub _ _ e), rfl, h σ F H [v1, v2] w ⟨dat_sat r1, dat_sat r2, trivial⟩ Q q⟩
theorem gt_tup3 {kk : Nat} {c : Expr} (h : GTs X [a, b, c] is [.dat R x, .dat R' y, .dat R'' z] Γ Γ') (hc : X.calm = true := by rfl) (hn : (assignEach [a, b, c] X.env).length = 3 := by rfl) (hst : (assignEach [a, b, c] X.env).findIdx? (·.1) = none := by rfl) : GT X (.Tuple [a, b, c] kk pos) is (.dat (RT3 R R' R'') (x, y, z)) Γ Γ' := fun σ F H v w r Q q => by
  obtain ⟨p, v1, v2, v3, rfl, e, r1, r2, r3⟩ := sat_dat r
  exact PG.wp (pg_tup hc pgs_wp hn hst) ⟨p, _, rfl, SqT.of (w.sub _ _ e), rfl, h σ F H [v1, v2, v3] w ⟨dat_sat r1, dat_sat r2, dat_sat r3, trivial⟩ Q q⟩
theorem gt_tup4 {kk : Nat} {c d : Expr} (h : GTs X [a, b, c, d] is [.dat R x, .dat R' y, .dat R'' z, .dat R3 u] Γ Γ') (hc : X.calm = true := by rfl) (hn : (assignEach [a, b, c, d] X.env).length = 4 := by rfl) (hst : (assignEach [a, b, c, d] X.env).findIdx? (·.1) = none := by rfl) : GT X (.Tuple [a, b, c, d] kk pos) is (.dat (RT4 R R' R'' R3) (x, y, z, u)) Γ Γ' := fun σ F H v w r Q q => by
  obtain ⟨p, v1, v2, v3, v4, rfl, e, r1, r2, r3, r4⟩ := sat_dat r
  exact PG.wp (pg_tup hc pgs_wp hn hst) ⟨p, _, rfl, SqT.of (w.sub _ _ e), rfl, h σ F H [v1, v2, v3, v4] w ⟨dat_sat r1, dat_sat r2, dat_sat r3, dat_sat r4, trivial⟩ Q q⟩
theorem gt_q {kk : Nat} {q0 : Rat} (h : GTs X [a, b] is [sI q0.num, sI q0.den] Γ Γ') (hc : X.calm = true := by rfl) (hn : (assignEach [a, b] X.env).length = 2 := by rfl) (hst : (assignEach [a, b] X.env).findIdx? (·.1) = none := by rfl) : GT X (.Tuple [a, b] kk pos) is (.dat RQ q0) Γ Γ' := fun σ F H v w r Q q =>
  gt_tup2 h hc hn hst σ F H v w (dat_sat (sat_dat (H := H) r)) Q q

/-! ### walks -/
structure WalkT (R : Rp α) (J : It) (F' : Hp) (l : List α) (St : Hp → Prop) (G : Hp → Prop) (Y : Nat → Hp → V → Hp → Prop) : Prop where
  w : Walk J l.length G Y
  g : ∀ F2 H2, Same F' F2 → Same F2 H2 → St H2 → G H2
  y : ∀ i x F2 H2 H3, Same F' F2 → Same F2 H2 → i < l.length → Y i H2 x H3 → ∃ a F3, l[i]? = some a ∧ Gr F2 H2 F3 H3 ∧ R.rel F3 x a
/-- iter yields l, while St holds of the heap -/
def ITs (X : Cx) (tg iter : Expr) (Γ : List Sl) (R : Rp α) (l : List α) (St : Hp → Prop) : Prop :=
  ∃ wi, PI X tg iter wi ∧ ∀ σ F H, Wd F H Γ σ → ∀ P : It → Hp → Prop, (∀ J F' H' G Y, Gr F H F' H' → l.length ≤ sizeLine → WalkT R J F' l St G Y → P J H') → wi σ H P
abbrev IT (X : Cx) (tg iter : Expr) (Γ : List Sl) (R : Rp α) (l : List α) : Prop := ITs X tg iter Γ R l fun _ => True
theorem paired_get {ρ : Type} {R : V → ρ → Prop} : ∀ {xs : List V} {l : List ρ} {n : Nat} {x : V}, Paired R xs l → xs[n]? = some x → ∃ a, l[n]? = some a ∧ R x a
  | _, _, n, x, .nil, e => by simp at e
  | _, _, 0, x, .cons r t, e => ⟨_, rfl, by simp at e; subst e; exact r⟩
  | _, _, n + 1, x, .cons r t, e => by
    obtain ⟨v, q, s⟩ := paired_get (n := n) (x := x) t (by simpa using e)
    exact ⟨v, by simpa using q, s⟩
theorem it_list {l : List α} (h : EX X iter Γ (.dat (RL R) l)) : IT X tg iter Γ R l := by
  refine ⟨_, pi_list pe_wp, fun σ F H w P q => h σ F H w _ fun v F' H' g r => ?_⟩
  obtain ⟨p, xs, rfl, e, z, pr⟩ := sat_dat r
  refine ⟨p, rfl, ⟨xs, SqL.of (g.sub _ _ e)⟩, q (Itl X.K p) F' H' (fun H2 => SqL X.K H2 p xs) (YAt xs) g z ⟨?_, fun F2 H2 s1 s2 _ => SqL.of (s2 _ _ (s1 _ _ e)), fun i x F2 H2 H3 s1 s2 hi y => ?_⟩⟩
  · rw [← Paired.length pr]
    exact walk_list
  · obtain ⟨rfl, hx⟩ := y
    obtain ⟨a, ha, ra⟩ := paired_get pr hx
    exact ⟨a, F2, ha, GrS.refl s2, R.mono s1 ra⟩
theorem it_str {l : List Nat} (h : EX X iter Γ (.dat RTx l)) : IT X tg iter Γ RSg l := by
  refine ⟨_, pi_str pe_wp, fun σ F H w P q => h σ F H w _ fun v F' H' g r => ?_⟩
  obtain ⟨rfl, z⟩ := sat_dat r
  refine ⟨_, rfl, q (Its ⟨l.toArray⟩) F' H' (fun _ => True) (fun i H v H' => H' = H ∧ ∃ c, (⟨l.toArray⟩ : Str).cps[i]? = some c ∧ v = .str ⟨#[c]⟩) g z ⟨?_, fun _ _ _ _ _ => trivial, fun i x F2 H2 H3 s1 s2 hi y => ?_⟩⟩
  · have := walk_str (z := ⟨l.toArray⟩)
    simpa using this
  · obtain ⟨rfl, c, hc, rfl⟩ := y
    exact ⟨c, F2, by simpa using hc, GrS.refl s2, ⟨rfl, by show 1 ≤ sizeLine; decide⟩⟩
/-- range(n) -/
theorem it_range {n : Nat} (h : EX X e Γ (sI (n : Int))) (hz : n ≤ sizeLine) (hg : Gl X "range" := by rfl) (hm : X.mg "range" = none) (hs : starEach [e] X.env = [(false, eval e X.env)] := by rfl) (hs1 : starEach [e] X.env = (false, eval e X.env) :: starEach [] X.env := by rfl) :
    IT X tg (.Call (.Name "range" p) [e] [] pos) Γ RNat (List.range n) := by
  refine ⟨_, pi_range1 hg hm pa_wp hs, fun σ F H w P q => ea_cons h ea_nil hs1 σ F H w _ fun vs F' H' g r => ?_⟩
  obtain ⟨v, rfl, r1⟩ := sat1 r
  have e1 : v = .int n := sat_dat r1
  subst e1
  have hz2 : n ≤ 2 ^ 24 := hz
  refine ⟨n, rfl, by omega, by omega, ?_⟩
  rw [Int.toNat_natCast]
  refine q (Itr 0 n) F' H' (fun _ => True) (YFn fun i => .int (0 + i)) g (by simpa using hz) ⟨?_, fun _ _ _ _ _ => trivial, fun i x F2 H2 H3 s1 s2 hi y => ?_⟩
  · rw [List.length_range]
    exact walk_range
  · obtain ⟨rfl, rfl⟩ := y
    rw [List.length_range] at hi
    refine ⟨i, F2, by simp [hi], GrS.refl s2, ?_⟩
    show V.int (0 + (i : Int)) = V.int (i : Int)
    rw [Int.zero_add]
theorem zip_get {l : List α} {m : List β} {i : Nat} {a : α} {b : β} (h1 : l[i]? = some a) (h2 : m[i]? = some b) : (l.zip m)[i]? = some (a, b) := by
  rw [List.getElem?_zip_eq_some]
  exact ⟨h1, h2⟩
theorem pair_new {T : Addr} {v1 v2 : V} {F2 H2 : Hp} (s2 : Same F2 H2) (hT : H2 T = none) (r1 : R.rel F2 v1 x) (r2 : R'.rel F2 v2 y) : ∃ F3, Gr F2 H2 F3 (upd H2 T (.tup [v1, v2])) ∧ (RT2 R R').rel F3 (.ref T) (x, y) :=
  have g := Gr.alloc (o := .tup [v1, v2]) s2 hT
  ⟨_, g, T, v1, v2, rfl, upd_same, R.mono g.fz r1, R'.mono g.fz r2⟩
/-- zip of two lists -/
theorem it_zip {elts : List Expr} {kk : Nat} {tpos : Pos} {l : List α} {m : List β} (h1 : EX X a Γ (.dat (RL R) l)) (h2 : EX X b Γ (.dat (RL R') m)) (hm : X.mg "zip" = none) (hg : Gl X "zip" := by rfl) (hs1 : starEach [b] X.env = (false, eval b X.env) :: starEach [] X.env := by rfl)
    (hs : starEach [a, b] X.env = (false, eval a X.env) :: starEach [b] X.env := by rfl) (hpl : (backTo pos (starEach [b] X.env)).any (·.1) = false := by rfl) : IT X (.Tuple elts kk tpos) (.Call (.Name "zip" p) [a, b] [] pos) Γ (RT2 R R') (l.zip m) := by
  refine ⟨_, pi_zip hg hm pa_wp hs hpl, fun σ F H w P q => ea_cons h1 (ea_cons h2 ea_nil hs1) hs σ F H w _ fun vs F' H' g r => ?_⟩
  obtain ⟨v1, v2, rfl, r1, r2⟩ := sat2 r
  obtain ⟨p1, xs, rfl, e1, z1, pr1⟩ := sat_dat r1
  obtain ⟨p2, ys, rfl, e2, z2, pr2⟩ := sat_dat r2
  refine ⟨p1, p2, xs, ys, rfl, SqL.of (g.sub _ _ e1), SqL.of (g.sub _ _ e2), q (Itz X.K p1 p2) F' H' (fun H2 => SqL X.K H2 p1 xs ∧ SqL X.K H2 p2 ys) (YPair (fun i => xs[i]?) (fun i => ys[i]?)) g (by rw [List.length_zip]; omega) ⟨?_, fun F2 H2 s1 s2 _ => ⟨SqL.of (s2 _ _ (s1 _ _ e1)), SqL.of (s2 _ _ (s1 _ _ e2))⟩, fun i x F2 H2 H3 s1 s2 hi y => ?_⟩⟩
  · refine walk_zip ?_
    rw [List.length_zip, Paired.length pr1, Paired.length pr2]
  · obtain ⟨T, v1, v2, rfl, hT, rfl, hx, hy⟩ := y
    obtain ⟨a1, ha1, ra1⟩ := paired_get pr1 hx
    obtain ⟨a2, ha2, ra2⟩ := paired_get pr2 hy
    obtain ⟨F3, g3, r3⟩ := pair_new s2 hT (R.mono s1 ra1) (R'.mono s1 ra2)
    exact ⟨(a1, a2), F3, zip_get ha1 ha2, g3, r3⟩
/-- enumerate of a list -/
theorem it_enum {elts : List Expr} {kk : Nat} {tpos : Pos} {l : List α} (h1 : EX X a Γ (.dat (RL R) l)) (hm : X.mg "enumerate" = none) (hg : Gl X "enumerate" := by rfl) (hs : starEach [a] X.env = [(false, eval a X.env)] := by rfl) (hs1 : starEach [a] X.env = (false, eval a X.env) :: starEach [] X.env := by rfl) :
    IT X (.Tuple elts kk tpos) (.Call (.Name "enumerate" p) [a] [] pos) Γ (RT2 RNat R) ((List.range l.length).zip l) := by
  refine ⟨_, pi_enum hg hm pa_wp hs, fun σ F H w P q => ea_cons h1 ea_nil hs1 σ F H w _ fun vs F' H' g r => ?_⟩
  obtain ⟨v1, rfl, r1⟩ := sat1 r
  obtain ⟨p1, xs, rfl, e1, z1, pr1⟩ := sat_dat r1
  have hl : ((List.range l.length).zip l).length = l.length := by rw [List.length_zip, List.length_range, Nat.min_self]
  refine ⟨p1, xs, rfl, SqL.of (g.sub _ _ e1), q (Ite X.K p1) F' H' (fun H2 => SqL X.K H2 p1 xs) (YPair (fun i => some (.int (i : Nat))) (fun i => xs[i]?)) g (by rw [hl]; exact z1) ⟨?_, fun F2 H2 s1 s2 _ => SqL.of (s2 _ _ (s1 _ _ e1)), fun i x F2 H2 H3 s1 s2 hi y => ?_⟩⟩
  · rw [hl, ← Paired.length pr1]
    exact walk_enum
  · rw [hl] at hi
    obtain ⟨T, v1, v2, rfl, hT, rfl, hx, hy⟩ := y
    obtain ⟨a2, ha2, ra2⟩ := paired_get pr1 hy
    cases hx
    obtain ⟨F3, g3, r3⟩ := pair_new (R := RNat) (x := i) s2 hT rfl (R.mono s1 ra2)
    exact ⟨(i, a2), F3, zip_get (by simp [hi]) ha2, g3, r3⟩

/-! ### comprehensions -/
def wpS (Γ : List Sl) : List Nat → List Sl
  | [] => Γ
  | v :: vs => stS (wpS Γ vs) v .any
theorem wd_wipe (w : Wd F H Γ σ) : ∀ vs : List Nat, Wd F H (wpS Γ vs) (wipe σ vs)
  | [] => w
  | v :: vs => by
    have h := wd_wipe w vs
    exact ⟨h.sub, h.sat.set trivial, feet_st_nd (sl := .any) List.nodup_nil h.nd fun b hb => by cases hb⟩
theorem wipe_len (σ : L2.St) : ∀ vs : List Nat, (wipe σ vs).length = σ.length := L2.wipe_length σ
theorem wipe_get (σ : L2.St) : ∀ (vs : List Nat) (i : Nat), (wipe σ vs)[i]? = if i ∈ vs then (if i < σ.length then some none else none) else σ[i]?
  | [], i => by simp [wipe]
  | v :: vs, i => by
    show ((wipe σ vs).set v none)[i]? = _
    by_cases h : i = v
    · subst h
      rw [if_pos List.mem_cons_self]
      by_cases hl : i < σ.length
      · rw [if_pos hl, List.getElem?_set_self (by rw [wipe_len]; exact hl)]
      · rw [if_neg hl]
        exact List.getElem?_eq_none (by rw [List.length_set, wipe_len]; omega)
    · rw [List.getElem?_set_ne (Ne.symm h), wipe_get σ vs i]
      simp [h]
theorem wipe_stored {σ σ' : L2.St} {is vs : List Nat} (s : Stored is (wipe σ vs) σ') (hs : ∀ i ∈ is, i ∈ vs) : wipe σ' vs = wipe σ vs := by
  apply List.ext_getElem?
  intro i
  rw [wipe_get, wipe_get, s.len, wipe_len]
  by_cases h : i ∈ vs
  · rw [if_pos h, if_pos h]
  · rw [if_neg h, if_neg h, s.out i fun z => h (hs i z), wipe_get, if_neg h]
def gAll (X : Cx) (scope : Scope) (tg : Expr) : TG := fun v σ H Q => ∀ (s0 : Shared) (H0 : Hp) (C : Addr) (cl : List (Str × Addr)) (fp : List Addr), WpG (X.blk s0 H0 scope (compEnvC scope cl C X.env) fp) tg v σ H Q
def eAll (X : Cx) (scope : Scope) (e : Expr) : TE := fun σ H Q => ∀ (s0 : Shared) (H0 : Hp) (C : Addr) (cl : List (Str × Addr)) (fp : List Addr), WpE (X.blk s0 H0 scope (compEnvC scope cl C X.env) fp) e σ H Q
def tAll (X : Cx) (scope : Scope) (e : Expr) : TT := fun σ H Q => ∀ (s0 : Shared) (H0 : Hp) (C : Addr) (cl : List (Str × Addr)) (fp : List Addr), WpT (X.blk s0 H0 scope (compEnvC scope cl C X.env) fp) e σ H Q
theorem gAll_pg {X : Cx} {scope : Scope} {tg : Expr} (s0 : Shared) (H0 : Hp) (C : Addr) (cl : List (Str × Addr)) (fp : List Addr) : PG (X.blk s0 H0 scope (compEnvC scope cl C X.env) fp) tg (gAll X scope tg) := ⟨fun pins s σ H v u Q I r h => h s0 H0 C cl fp pins s u I r⟩
theorem eAll_pe {X : Cx} {scope : Scope} {e : Expr} (s0 : Shared) (H0 : Hp) (C : Addr) (cl : List (Str × Addr)) (fp : List Addr) : PE (X.blk s0 H0 scope (compEnvC scope cl C X.env) fp) e (eAll X scope e) := ⟨fun pins s σ H Q I h => h s0 H0 C cl fp pins s I⟩
theorem tAll_pt {X : Cx} {scope : Scope} {e : Expr} (s0 : Shared) (H0 : Hp) (C : Addr) (cl : List (Str × Addr)) (fp : List Addr) : PT (X.blk s0 H0 scope (compEnvC scope cl C X.env) fp) e (tAll X scope e) := ⟨fun pins s σ H Q I h => h s0 H0 C cl fp pins s I⟩
/-- within a comprehension's block, whatever it is -/
abbrev InB (X : Cx) (scope : Scope) (P : Cx → Prop) : Prop := ∀ (s0 : Shared) (H0 : Hp) (C : Addr) (cl : List (Str × Addr)) (fp : List Addr), P (X.blk s0 H0 scope (compEnvC scope cl C X.env) fp)
theorem lc_read {scope : Scope} {vs : List Nat} {wi : TI} {l : List α} {Γi : α → List Sl} {f : α → β} {σ : L2.St}
    (it : ∀ σ F H, Wd F H Γ σ → ∀ P : It → Hp → Prop, (∀ J F' H' G Y, Gr F H F' H' → l.length ≤ sizeLine → WalkT R J F' l (fun _ => True) G Y → P J H') → wi σ H P)
    (hg : ∀ a ∈ l, InB X scope fun X' => GT X' tg is (.dat R a) (wpS Γ vs) (Γi a)) (hs : ∀ i ∈ is, i ∈ vs) (he : ∀ a ∈ l, InB X scope fun X' => EX X' elt (Γi a) (.dat R' (f a)))
    (w0 : Wd F H Γ σ) {Q : VK} (q : ∀ v F' H', Gr F H F' H' → SlSat F' H' (.dat (RL R') (l.map f)) (some v) → Q v H') : tLc wi (gAll X scope tg) tYes (eAll X scope elt) vs σ H Q := by
  refine it σ F H w0 _ fun J F' H' G Y g hz wt D hD => ?_
  refine lc_it wt.w (fun i H2 => ∃ F2 acc, Gr F' H' F2 H2 ∧ F2 D = none ∧ H2 D = some (.lst acc) ∧ Paired (R'.rel F2) acc ((l.take i).map f)) ?_ ?_ ?_ ?_
  · exact ⟨F', [], Gr.mut g.sub hD, g.sub.free hD, upd_same, by rw [List.take_zero]; exact .nil⟩
  · rintro i H2 _ ⟨F2, acc, g2, _, _, _⟩
    exact wt.g F2 H2 g2.fz g2.sub trivial
  · rintro i x H2 H3 hi ⟨F2, acc, g2, hn, hd, pr⟩ hy
    obtain ⟨a, F3, ha, g3, ra⟩ := wt.y i x F2 H2 H3 g2.fz g2.sub hi hy
    have hm : a ∈ l := List.mem_of_getElem? ha
    have gT : Gr F H F3 H3 := (g.trans g2).trans g3
    intro s0 H0 C cl fp
    refine hg a hm s0 H0 C cl fp (wipe σ vs) F3 H3 x (wd_wipe (w0.grow gT) vs) (dat_sat ra) _ fun σ2 w2 st => ?_
    refine ⟨wipe_stored st hs, ?_⟩
    unfold tYes
    dsimp only
    rw [if_pos rfl]
    intro s0 H0 C cl fp
    refine he a hm s0 H0 C cl fp σ2 F3 H3 w2 _ fun v F4 H4 g4 r4 => ?_
    have g34 : Gr F2 H2 F4 H4 := g3.trans g4
    have hD4 : H4 D = some (.lst acc) := g34.hp D _ hd
    have hl : acc.length = i := by
      rw [Paired.length pr, List.length_map, List.length_take]
      omega
    refine ⟨acc, hD4, by omega, F4, acc ++ [v], (g2.trans g34).write (g34.new D hn (ne_none_of hd)) (.inr hD), g34.new D hn (ne_none_of hd), upd_same, ?_⟩
    rw [List.take_add_one, ha, List.map_append]
    exact Paired.snoc (paired_mono g34.fz pr) (sat_dat r4)
  · rintro H2 ⟨F2, acc, g2, hn, hd, pr⟩
    have g3 := g2.freeze hD hd hn
    have s23 : Same F2 (upd F2 D (.lst acc)) := fun b u e => by rw [upd_ne (ne_of_none e hn)]; exact e
    rw [List.take_length] at pr
    refine q _ _ _ (g.trans g3) (dat_sat ⟨D, acc, rfl, upd_same, by simpa using hz, paired_mono s23 pr⟩)
theorem ex_lc {scope : Scope} (own : List (Str × Nat)) {l : List α} {Γi : α → List Sl} {f : α → β} (it : IT X tg iter Γ R l) (ok : BlkOk X.N X.env.scope scope own)
    (hg : ∀ a ∈ l, InB X scope fun X' => GT X' tg is (.dat R a) (wpS Γ (own.map (·.2))) (Γi a)) (he : ∀ a ∈ l, InB X scope fun X' => EX X' elt (Γi a) (.dat R' (f a))) (hs : ∀ i ∈ is, i ∈ own.map (·.2) := by decide) (hN : X.N.Nodup := by assumption) (hc : X.calm = true := by rfl) (hs : ∀ x, foldedSetIterable iter X.env x = pure x := by intro _; rfl) :
    EX X (.ListComp elt [⟨tg, iter, [], 0⟩] scope pos) Γ (.dat (RL R') (l.map f)) := fun σ F H w Q q => by
  obtain ⟨wi, hi, hr⟩ := it
  exact PE.wp (pe_lc hc hN hi ok gAll_pg (fun _ _ _ _ _ => pts_nil) eAll_pe hs)
    (lc_read hr hg (by assumption) he w q)
end
end TL

/-! part TL3 -/
set_option exponentiation.threshold 256 -- TL3
set_option maxHeartbeats 200000 -- TL3
set_option maxRecDepth 100000 -- TL3
/-! TL3: typed statements, defs, calls. -/
namespace TL
open PySem PySem.Spec L2

/-- live: the world since the entry -/
structure Lv (S : List Addr) (F0 H0 F H : Hp) (Γ : List Sl) (σ : L2.St) : Prop where
  gr : GrS S F0 H0 F H
  wd : Wd F H Γ σ
  mine : ∀ b ∈ feetO Γ, b ∈ S ∨ H0 b = none
structure TK where
  nx : List Sl → Prop
  rt : Sl → List Sl → Prop
  bk : List Sl → Prop := fun _ => False
  ct : List Sl → Prop := fun _ => False
def TK.ends (T : TK) (S : List Addr) (F0 H0 : Hp) : Ends where
  nx := fun σ H => ∃ F Γ, Lv S F0 H0 F H Γ σ ∧ T.nx Γ
  rt := fun v H => ∃ F Γ σ sl, Lv S F0 H0 F H Γ σ ∧ SlSat F H sl (some v) ∧ (∀ b ∈ sl.foot, b ∈ S ∨ H0 b = none) ∧ T.rt sl Γ
  bk := fun σ H => ∃ F Γ, Lv S F0 H0 F H Γ σ ∧ T.bk Γ
  ct := fun σ H => ∃ F Γ, Lv S F0 H0 F H Γ σ ∧ T.ct Γ
def WpS (X : Cx) (st : Stmt) : TS := fun D σ H => ∀ (pins : List (Addr × Obj)) (s : Shared), Inv X pins σ H s → wpAny (model X.prog X.w) X.A (exec st X.env) (SP X pins D) X.xe s
def WpSs (X : Cx) (sts : List Stmt) : TS := fun D σ H => ∀ (pins : List (Addr × Obj)) (s : Shared), Inv X pins σ H s → wpAny (model X.prog X.w) X.A (execs sts X.env) (SP X pins D) X.xe s
theorem ps_wp {X : Cx} {st : Stmt} : PS X st (WpS X st) := ⟨fun pins s σ H D I h => h pins s I⟩
theorem pss_wp {X : Cx} {sts : List Stmt} : PSs X sts (WpSs X sts) := ⟨fun pins s σ H D I h => h pins s I⟩
theorem PS.wp {X : Cx} {st : Stmt} {t : TS} (h : PS X st t) {D : Ends} {σ : L2.St} {H : Hp} (q : t D σ H) : WpS X st D σ H := fun pins s I => h.run pins s σ H D I q
theorem PSs.wp {X : Cx} {sts : List Stmt} {t : TS} (h : PSs X sts t) {D : Ends} {σ : L2.St} {H : Hp} (q : t D σ H) : WpSs X sts D σ H := fun pins s I => h.run pins s σ H D I q
/-- one statement; a block -/
def R1 (X : Cx) (S : List Addr) (H0 : Hp) (st : Stmt) (Γ : List Sl) (T : TK) : Prop := ∀ F0 σ F H, Lv S F0 H0 F H Γ σ → WpS X st (T.ends S F0 H0) σ H
def RS (X : Cx) (S : List Addr) (H0 : Hp) (sts : List Stmt) (Γ : List Sl) (T : TK) : Prop := ∀ F0 σ F H, Lv S F0 H0 F H Γ σ → WpSs X sts (T.ends S F0 H0) σ H
/-- a value of a new thing of one's own, or data -/
def EN (X : Cx) (e : Expr) (Γ : List Sl) (P : Sl → Prop) : Prop :=
  ∀ (σ : L2.St) (F H : Hp), Wd F H Γ σ → ∀ Q : VK, (∀ v F' H' sl, Gr F H F' H' → SlSat F' H' sl (some v) → (∀ b ∈ sl.foot, H b = none) → P sl → Q v H') → WpE X e σ H Q

section
variable {X : Cx} {S : List Addr} {F0 H0 F H F' H' F1 H1 : Hp} {st : Stmt} {sts : List Stmt} {Γ Γ' : List Sl} {T T' : TK} {σ : L2.St} {e a b c tg iter : Expr} {pos p : Pos} {sl : Sl} {α β γ : Type} {R : Rp α} {R' : Rp β} {R'' : Rp γ} {x : α} {y : β} {is : List Nat}
theorem Lv.grow (l : Lv S F0 H0 F H Γ σ) (g : Gr F H F' H') : Lv S F0 H0 F' H' Γ σ := ⟨l.gr.trans g.of, l.wd.grow g, l.mine⟩
theorem Lv.wk (l : Lv S F0 H0 F H Γ σ) (w : Wk Γ Γ') : Lv S F0 H0 F H Γ' σ := ⟨l.gr, w.wd l.wd, fun b hb => l.mine b (w.feetO.subset hb)⟩
theorem Lv.base (l : Lv S F0 H0 F H Γ σ) : Lv S F H0 F H Γ σ := ⟨⟨Same.refl _, l.gr.sub, l.gr.keep, l.gr.there, fun _ e _ => e⟩, l.wd, l.mine⟩
theorem Lv.rebase {Γ1 : List Sl} {σ1 : L2.St} (l1 : Lv S F0 H0 F1 H1 Γ1 σ1) (l : Lv S F1 H0 F H Γ σ) : Lv S F0 H0 F H Γ σ := ⟨⟨l1.gr.fz.trans l.gr.fz, l.gr.sub, l.gr.keep, l.gr.there, fun b e1 e2 => l.gr.new b (l1.gr.new b e1 e2) e2⟩, l.wd, l.mine⟩
theorem foot_dat {x : α} : (Sl.dat R x).foot = [] := rfl
theorem Sl.foot_nd : ∀ sl : Sl, sl.foot.Nodup
  | .any => List.nodup_nil
  | .dat _ _ => List.nodup_nil
  | .own P => P.nd
  | .bor P => P.nd
theorem fresh_back (l : Lv S F0 H0 F H Γ σ) {b : Addr} (h : H b = none) : H0 b = none := by
  cases e : H0 b with
  | none => rfl
  | some o => exact absurd h (l.gr.there b (ne_none_of e))
/-- a new value is stored -/
theorem Lv.setN (l : Lv S F0 H0 F H Γ σ) (g : Gr F H F' H') {v : V} (r : SlSat F' H' sl (some v)) (hf : ∀ b ∈ sl.foot, H b = none) (i : Nat) : Lv S F0 H0 F' H' (stS Γ i sl) (σ.set i (some v)) where
  gr := l.gr.trans g.of
  wd := (l.wd.grow g).set r sl.foot_nd fun b hb z => (l.wd.sat.there z).1 (hf b hb)
  mine := fun b hb => by
    rcases feetO_st_sub hb with z | z
    · exact .inr (fresh_back l (hf b (footO_sub z)))
    · exact l.mine b z
theorem rs_nil (h : T.nx Γ) : RS X S H0 [] Γ T := fun F0 σ F H l => PSs.wp pss_nil ⟨F, Γ, l, h⟩
theorem rs_cons (h : R1 X S H0 st Γ { T with nx := fun Γ' => RS X S H0 sts Γ' T }) : RS X S H0 (st :: sts) Γ T := fun F0 σ F H l => by
  refine PSs.wp (pss_cons ps_wp pss_wp) ?_
  intro pins s I
  refine wpAny_mono (h F0 σ F H l pins s I) (fun f s' q => ?_) fun _ _ z => z
  cases f with
  | next =>
    obtain ⟨σ', H', I', F', Γ', l', q'⟩ := q
    exact ⟨σ', H', I', q' F0 σ' F' H' l'⟩
  | brk => exact q
  | cont => exact q
  | ret u => exact q
theorem rs_one (h : R1 X S H0 st Γ T) : RS X S H0 [st] Γ T := fun F0 σ F H l => PSs.wp (pss_one ps_wp) (h F0 σ F H l)
theorem rs_wk (w : Wk Γ Γ') (h : RS X S H0 sts Γ' T) : RS X S H0 sts Γ T := fun F0 σ F H l => h F0 σ F H ⟨l.gr, w.wd l.wd, fun b hb => l.mine b (w.feetO.subset hb)⟩
/-- a stronger end -/
theorem rs_imp (h : RS X S H0 sts Γ T) (hn : ∀ Γ, T.nx Γ → T'.nx Γ) (hr : ∀ s Γ, T.rt s Γ → T'.rt s Γ) (hb : ∀ Γ, T.bk Γ → T'.bk Γ) (hc : ∀ Γ, T.ct Γ → T'.ct Γ) : RS X S H0 sts Γ T' := fun F0 σ F H l pins s I =>
  wpAny_mono (h F0 σ F H l pins s I) (fun f s' q => by
    cases f with
    | next => obtain ⟨σ', H', I', F', Γ', l', q'⟩ := q; exact ⟨σ', H', I', F', Γ', l', hn _ q'⟩
    | brk => obtain ⟨σ', H', I', F', Γ', l', q'⟩ := q; exact ⟨σ', H', I', F', Γ', l', hb _ q'⟩
    | cont => obtain ⟨σ', H', I', F', Γ', l', q'⟩ := q; exact ⟨σ', H', I', F', Γ', l', hc _ q'⟩
    | ret u => obtain ⟨v, σ', H', I', rv, F', Γ', σ2, sl, l', r, hf, q'⟩ := q; exact ⟨v, σ', H', I', rv, F', Γ', σ2, sl, l', r, hf, hr _ _ q'⟩) fun _ _ z => z
theorem en_ex (h : EX X e Γ sl) (hf : sl.foot = [] := by rfl) : EN X e Γ (fun s => s = sl) := fun σ F H w Q q => h σ F H w Q fun v F' H' g r => q v F' H' sl g r (by rw [hf]; intro b hb; cases hb) rfl
theorem en_imp {P P' : Sl → Prop} (h : EN X e Γ P) (hp : ∀ s, P s → P' s) : EN X e Γ P' := fun σ F H w Q q => h σ F H w Q fun v F' H' sl g r hf z => q v F' H' sl g r hf (hp _ z)

/-! ### a list of one's own -/
def accO (R : Rp α) (D : Addr) (l : List α) : OwnP where
  foot := [D]
  val := .ref D
  holds := fun F H => l.length ≤ sizeLine ∧ ∃ xs, H D = some (.lst xs) ∧ Paired (R.rel F) xs l
  stable := fun ⟨z, xs, e, p⟩ s h => ⟨z, xs, by rw [h D (by simp)]; exact e, paired_mono s p⟩
  there := fun ⟨_, xs, e, _⟩ b hb => by
    have : b = D := by simpa using hb
    subst this
    exact ne_none_of e
  nd := by simp
abbrev sO (R : Rp α) (D : Addr) (l : List α) : Sl := .own (accO R D l)
abbrev sL (R : Rp α) (l : List α) : Sl := .dat (RL R) l
theorem en_lst0 : EN X (.List [] pos) Γ (fun s => ∃ D, s = sO R D []) := fun σ F H w Q q =>
  PE.wp (pe_lst pa_nil) ⟨Nat.zero_le _, fun p hp => q (.ref p) F (upd H p (.lst [])) (sO R p []) (Gr.mut w.sub hp) ⟨rfl, ⟨Nat.zero_le _, [], upd_same, .nil⟩, fun b hb => by
    have : b = p := by simpa [accO] using hb
    subst this
    exact w.sub.free hp⟩ (fun b hb => by
    have : b = p := by simpa [Sl.foot, accO] using hb
    subst this
    exact hp) ⟨p, rfl⟩⟩
/-- what is a list to be read: data, or one's own -/
inductive IsL : Sl → Rp α → List α → Prop where
  | dat {R : Rp α} {l : List α} : IsL (sL R l) R l
  | own {R : Rp α} {D : Addr} {l : List α} : IsL (sO R D l) R l
theorem IsL.get {l : List α} {v : V} (h : IsL sl R l) (s : Same F H) (r : SlSat F H sl (some v)) : ∃ p xs, v = .ref p ∧ H p = some (.lst xs) ∧ l.length ≤ sizeLine ∧ Paired (R.rel F) xs l := by
  cases h with
  | dat =>
    obtain ⟨p, xs, e, t, z, pr⟩ := sat_dat r
    exact ⟨p, xs, e, s _ _ t, z, pr⟩
  | own =>
    obtain ⟨e, ⟨z, xs, t, pr⟩, _⟩ := r
    exact ⟨_, xs, Option.some.inj e, t, z, pr⟩
theorem ex_ixS {i : Int} {l : List α} (ha : EX X a Γ sl) (hl : IsL sl R l) (hb : EX X b Γ (sI i)) (h : atI l i = some x) (hs : PlainIx b := by exact fun _ _ => rfl) : EX X (.Subscript a b pos) Γ (.dat R x) := fun σ F H w Q q =>
  PE.wp (pe_ix ix_list pe_wp pe_wp hs) (ha σ F H w _ fun v F1 H1 g1 r1 => hb σ F1 H1 (w.grow g1) _ fun u F2 H2 g2 r2 => by
    obtain ⟨p, xs, rfl, e, z, pr⟩ := hl.get g2.sub (sat_up g2 r1)
    obtain ⟨v, hv, rv⟩ := paired_atI pr h
    exact ⟨p, xs, i, v, rfl, sat_dat r2, SqL.of e, hv, q v F2 H2 (g1.trans g2) (dat_sat rv)⟩)

/-! ### statements -/
theorem r1_set (i : Nat) {nm : Str} {p' : Pos} (he : EX X e Γ sl) (h : T.nx (stS Γ i sl)) (hf0 : sl.foot = [] := by rfl) (hN : X.N.Nodup := by assumption) (hi : X.N[i]? = some nm := by rfl) (hx : Loc X.env.scope nm := by first | exact Or.inl rfl | exact Or.inr rfl)
    (hs : swapsWith e (some (.Name nm p')) pos.line X.env = pure false := by rfl) (hf : X.fn nm = true ∨ X.env.scope.names.lookup nm = some .local := by first | exact .inl rfl | exact .inr rfl | assumption) : R1 X S H0 (.Assign [.Name nm p'] e pos) Γ T := fun F0 σ F H l =>
  PS.wp (ps_set (i := i) hN hi hx pe_wp hs hf) (he σ F H l.wd _ fun v F1 H1 g1 r1 => ⟨F1, _, l.setN g1 r1 (by rw [hf0]; intro b hb; cases hb) i, h⟩)
theorem r1_setN (i : Nat) {P : Sl → Prop} {nm : Str} {p' : Pos} (he : EN X e Γ P) (h : ∀ sl, P sl → T.nx (stS Γ i sl)) (hN : X.N.Nodup := by assumption) (hi : X.N[i]? = some nm := by rfl) (hx : Loc X.env.scope nm := by first | exact Or.inl rfl | exact Or.inr rfl)
    (hs : swapsWith e (some (.Name nm p')) pos.line X.env = pure false := by rfl) (hf : X.fn nm = true ∨ X.env.scope.names.lookup nm = some .local := by first | exact .inl rfl | exact .inr rfl | assumption) : R1 X S H0 (.Assign [.Name nm p'] e pos) Γ T := fun F0 σ F H l =>
  PS.wp (ps_set (i := i) hN hi hx pe_wp hs hf) (he σ F H l.wd _ fun v F1 H1 sl g1 r1 hf z => ⟨F1, _, l.setN g1 r1 hf i, h sl z⟩)
/-- y = [] -/
theorem r1_new (R : Rp α) (i : Nat) {nm : Str} {p' p2 : Pos} (h : ∀ D, T.nx (stS Γ i (sO R D []))) (hN : X.N.Nodup := by assumption) (hi : X.N[i]? = some nm := by rfl) (hx : Loc X.env.scope nm := by first | exact Or.inl rfl | exact Or.inr rfl)
    (hs : swapsWith (.List [] p2) (some (.Name nm p')) pos.line X.env = pure false := by rfl) (hf : X.fn nm = true ∨ X.env.scope.names.lookup nm = some .local := by first | exact .inl rfl | exact .inr rfl | assumption) : R1 X S H0 (.Assign [.Name nm p'] (.List [] p2) pos) Γ T :=
  r1_setN i (en_lst0 (R := R)) (fun sl ⟨D, e⟩ => e ▸ h D) hN hi hx hs hf
/-- y = [.. for ..] on one line, y a plain local -/
theorem r1_setLc (i : Nat) {elt : Expr} {scope : Scope} {nm : Str} {py p2 : Pos} (own : List (Str × Nat)) {l : List α} {Γi : α → List Sl} {f : α → β} (it : IT X tg iter Γ R l) (ok : BlkOk X.N X.env.scope scope own)
    (hg : ∀ a ∈ l, InB X scope fun X' => GT X' tg is (.dat R a) (wpS Γ (own.map (·.2))) (Γi a)) (he : ∀ a ∈ l, InB X scope fun X' => EX X' elt (Γi a) (.dat R' (f a))) (h : T.nx (stS Γ i (sL R' (l.map f)))) (hs : ∀ i ∈ is, i ∈ own.map (·.2) := by decide) (hi : X.N[i]? = some nm := by rfl) (hl : X.env.scope.names.lookup nm = some .local := by rfl)
    (hsw : swapsWith (.ListComp elt [⟨tg, iter, [], 0⟩] scope p2) (some (.Name nm py)) pos.line X.env = pure true := by exact sw_true rfl rfl rfl (by decide +kernel)) (hN : X.N.Nodup := by assumption) (hc : X.calm = true := by rfl) (hs2 : ∀ x, foldedSetIterable iter X.env x = pure x := by intro _; rfl) :
    R1 X S H0 (.Assign [.Name nm py] (.ListComp elt [⟨tg, iter, [], 0⟩] scope p2) pos) Γ T := fun F0 σ F H lv => by
  obtain ⟨wi, hpi, hr⟩ := it
  refine PS.wp (ps_setLc hc hN hi hl hsw hpi ok gAll_pg (fun _ _ _ _ _ => pts_nil) eAll_pe hs2) ?_
  exact lc_read hr hg hs he lv.wd fun v F1 H1 g1 r1 => ⟨F1, _, lv.setN g1 r1 (fun b hb => by cases hb) i, h⟩
/-- any targets that take a new value -/
theorem r1_asg (he : EX X e Γ sl) (hg : GT X tg is sl Γ Γ') (h : T.nx Γ') (hf0 : sl.foot = [] := by rfl) (hsub : ∀ b ∈ feetO Γ', b ∈ feetO Γ := by exact fun _ h => h) (hs : swapsWithSole [tg] e pos.line X.env = pure false := by rfl) (hw : swappedStores [tg] e X.env = pure none := by rfl)
    (h1 : (assignEach [tg] X.env).map (·.2) = [assign tg X.env] := by rfl) : R1 X S H0 (.Assign [tg] e pos) Γ T := fun F0 σ F H l =>
  PS.wp (ps_asg pe_wp pg_wp hs hw h1) (he σ F H l.wd _ fun v F1 H1 g1 r1 => hg σ F1 H1 v (l.wd.grow g1) r1 _ fun σ' w' _ => ⟨F1, Γ', ⟨l.gr.trans g1.of, w', fun b hb => l.mine b (hsub b hb)⟩, h⟩)
/-- a, b = x, y -/
theorem r1_par {P P' : Sl → Prop} (i j : Nat) {n1 n2 : Str} {px py pt : Pos} {kt k2 pt2} (ha : EN X a Γ P) (hb : EN X b Γ P') (h : ∀ s1 s2, P s1 → P' s2 → T.nx (stS (stS Γ i s1) j s2)) (hij : i ≠ j := by decide) (hi : X.N[i]? = some n1 := by rfl) (hj : X.N[j]? = some n2 := by rfl) (hN : X.N.Nodup := by assumption)
    (hx : X.env.scope.names.lookup n1 = some .local := by rfl) (hy : X.env.scope.names.lookup n2 = some .local := by rfl) (hw : swappedStores [.Tuple [.Name n1 px, .Name n2 py] kt pt] (.Tuple [a, b] k2 pt2) X.env = pure (some [n1, n2]) := by rfl)
    (hs : swapsWithSole [.Tuple [.Name n1 px, .Name n2 py] kt pt] (.Tuple [a, b] k2 pt2) pos.line X.env = pure false := by rfl) (hc : X.calm = true := by rfl)
    (hs1 : starEach [b] X.env = (false, eval b X.env) :: starEach [] X.env := by rfl) (hs2 : starEach [a, b] X.env = (false, eval a X.env) :: starEach [b] X.env := by rfl) : R1 X S H0 (.Assign [.Tuple [.Name n1 px, .Name n2 py] kt pt] (.Tuple [a, b] k2 pt2) pos) Γ T := fun F0 σ F H l =>
  PS.wp (ps_par hc hN hi hj hij hx hy (pa_cons pe_wp (pa_cons pe_wp pa_nil hs1) hs2) hw hs) (ha σ F H l.wd _ fun v F1 H1 s1 g1 r1 f1 z1 => hb σ F1 H1 (l.wd.grow g1) _ fun u F2 H2 s2 g2 r2 f2 z2 => by
    have l1 := l.setN g1 r1 f1 i
    refine ⟨v, u, rfl, F2, stS (stS Γ i s1) j s2, ?_, h s1 s2 z1 z2⟩
    exact l1.setN g2 r2 f2 j)
theorem r1_par3 {P P' P'' : Sl → Prop} (i j k : Nat) {n1 n2 n3 : Str} {px py pz pt : Pos} {kt k2 pt2} (ha : EN X a Γ P) (hb : EN X b Γ P') (hcc : EN X c Γ P'') (h : ∀ s1 s2 s3, P s1 → P' s2 → P'' s3 → T.nx (stS (stS (stS Γ i s1) j s2) k s3)) (hij : i ≠ j := by decide) (hik : i ≠ k := by decide) (hjk : j ≠ k := by decide)
    (hi : X.N[i]? = some n1 := by rfl) (hj : X.N[j]? = some n2 := by rfl) (hk : X.N[k]? = some n3 := by rfl) (hN : X.N.Nodup := by assumption)
    (hx : X.env.scope.names.lookup n1 = some .local := by rfl) (hy : X.env.scope.names.lookup n2 = some .local := by rfl) (hz : X.env.scope.names.lookup n3 = some .local := by rfl) (hw : swappedStores [.Tuple [.Name n1 px, .Name n2 py, .Name n3 pz] kt pt] (.Tuple [a, b, c] k2 pt2) X.env = pure (some [n1, n2, n3]) := by rfl)
    (hs : swapsWithSole [.Tuple [.Name n1 px, .Name n2 py, .Name n3 pz] kt pt] (.Tuple [a, b, c] k2 pt2) pos.line X.env = pure false := by rfl) (hc : X.calm = true := by rfl)
    (hs0 : starEach [c] X.env = (false, eval c X.env) :: starEach [] X.env := by rfl) (hs1 : starEach [b, c] X.env = (false, eval b X.env) :: starEach [c] X.env := by rfl) (hs2 : starEach [a, b, c] X.env = (false, eval a X.env) :: starEach [b, c] X.env := by rfl) :
    R1 X S H0 (.Assign [.Tuple [.Name n1 px, .Name n2 py, .Name n3 pz] kt pt] (.Tuple [a, b, c] k2 pt2) pos) Γ T := fun F0 σ F H l =>
  PS.wp (ps_par3 hc hN hi hj hk hij hik hjk hx hy hz (pa_cons pe_wp (pa_cons pe_wp (pa_cons pe_wp pa_nil hs0) hs1) hs2) hw hs) (ha σ F H l.wd _ fun v F1 H1 s1 g1 r1 f1 z1 => hb σ F1 H1 (l.wd.grow g1) _ fun u F2 H2 s2 g2 r2 f2 z2 => hcc σ F2 H2 ((l.wd.grow g1).grow g2) _ fun t F3 H3 s3 g3 r3 f3 z3 => by
    have l1 := l.setN g1 r1 f1 i
    have l2 := l1.setN g2 r2 f2 j
    refine ⟨v, u, t, rfl, F3, stS (stS (stS Γ i s1) j s2) k s3, ?_, h s1 s2 s3 z1 z2 z3⟩
    exact l2.setN g3 r3 f3 k)
theorem r1_if {k : Bool} {A B : List Stmt} (hc : ET X c Γ k) (ht : k = true → RS X S H0 A Γ T) (hf : k = false → RS X S H0 B Γ T) : R1 X S H0 (.If c A B pos) Γ T := fun F0 σ F H l =>
  PS.wp (ps_if pt_wp pss_wp pss_wp) (hc σ F H l.wd _ fun F1 H1 g1 => by
    cases k with
    | true => exact iteT (ht rfl F0 σ F1 H1 (l.grow g1))
    | false => exact iteF (hf rfl F0 σ F1 H1 (l.grow g1)))
theorem r1_ret (he : EX X e Γ sl) (h : T.rt sl Γ) (hf0 : sl.foot = [] := by rfl) : R1 X S H0 (.Return (some e) pos) Γ T := fun F0 σ F H l =>
  PS.wp (ps_ret pe_wp) (he σ F H l.wd _ fun v F1 H1 g1 r1 => ⟨F1, Γ, σ, sl, l.grow g1, r1, (by rw [hf0]; intro b hb; cases hb), h⟩)
theorem r1_retN {P : Sl → Prop} (he : EN X e Γ P) (h : ∀ sl, P sl → T.rt sl Γ) : R1 X S H0 (.Return (some e) pos) Γ T := fun F0 σ F H l =>
  PS.wp (ps_ret pe_wp) (he σ F H l.wd _ fun v F1 H1 sl g1 r1 hf z => ⟨F1, Γ, σ, sl, l.grow g1, r1, fun b hb => .inr (fresh_back l (hf b hb)), h sl z⟩)
/-- return a name of one's own -/
theorem r1_retO {P : OwnP} {n : Nat} {nm : Str} {p2 : Pos} (h0 : gtS Γ n = .own P) (he : EX X (.Name nm p2) Γ (.own P)) (h : T.rt (.own P) Γ) : R1 X S H0 (.Return (some (.Name nm p2)) pos) Γ T := fun F0 σ F H l =>
  PS.wp (ps_ret pe_wp) (he σ F H l.wd _ fun v F1 H1 g1 r1 => ⟨F1, Γ, σ, _, l.grow g1, r1, fun b hb => l.mine b (feetO_mem h0 hb), h⟩)
theorem r1_expr (he : EX X e Γ sl) (h : T.nx Γ) (hs : swapsWith e none pos.line X.env = pure false := by rfl) : R1 X S H0 (.Expr e pos) Γ T := fun F0 σ F H l =>
  PS.wp (ps_expr pe_wp hs) (he σ F H l.wd _ fun v F1 H1 g1 r1 => ⟨F1, Γ, l.grow g1, h⟩)
theorem r1_doc {s : Str} {jj p2} (h : T.nx Γ) : R1 X S H0 (.Expr (.Constant (.str s) jj p2) pos) Γ T := fun F0 σ F H l => PS.wp ps_doc ⟨F, Γ, l, h⟩
/-- the own list at i changes -/
theorem Lv.chg {P P' : OwnP} {i : Nat} (l : Lv S F0 H0 F H Γ σ) (hi : gtS Γ i = .own P) {D : Addr} {o : HO} (hD : D ∈ P.foot) (hf : P'.foot = P.foot) (hv : P'.val = P.val) (hP : P'.holds F (upd H D o)) : Lv S F0 H0 F (upd H D o) (stS Γ i (.own P')) σ where
  gr := l.gr.write ((l.wd.sat.own hi).2.2 D hD) (l.mine D (feetO_mem hi hD))
  wd := ⟨fun b u e => by rw [upd_ne (ne_of_none e ((l.wd.sat.own hi).2.2 D hD))]; exact l.wd.sub b u e,
    Sat.chg (Same.refl F) (fun b hb _ => upd_ne fun z => hb (z ▸ hD)) (fun b e _ => e) hv hP (fun b hb => (l.wd.sat.own hi).2.2 b (hf ▸ hb)) hi l.wd.nd l.wd.sat,
    by rw [feet_st_same hf hi]; exact l.wd.nd⟩
  mine := fun b hb => l.mine b (by rw [feetO_st_same hf hi] at hb; exact hb)
/-- x.append(e), x a list of one's own at i -/
theorem r1_app (i : Nat) {D : Addr} {l0 : List α} {nm : Str} {p1 p2 p3 : Pos} (h0 : gtS Γ i = sO R D l0) (he : EX X e Γ (.dat R x)) (hz : l0.length < sizeLine) (h : T.nx (stS Γ i (sO R D (l0 ++ [x])))) (hN : X.N[i]? = some nm := by rfl) (hv : Vis X.env.scope nm := by first | exact Or.inl rfl | exact Or.inr (Or.inl rfl) | exact Or.inr (Or.inr rfl)) (hd : (nm == ("__debug__" : Str)) = false := by decide)
    (hcd : (nm == ("__classdict__" : Str)) = false := by decide) (hbase : attributeBase (.Name nm p1) "append" X.env (eval (.Name nm p1) X.env) = eval (.Name nm p1) X.env := by rfl)
    (hfew : ((backTo p3 (starEach [e] X.env)).all (fun x => !x.1) && (backToKw p3 (keywordEach [] X.env)).all (fun x => x.1.isSome) && decide (([e] : List Expr).length + ([] : List Keyword).length + (if ([] : List Keyword).isEmpty then 0 else 1) < 30)) = true := by rfl)
    (hline : (p2.endLine == p3.line) = true := by rfl) (hs1 : starEach [e] X.env = (false, eval e X.env) :: starEach [] X.env := by rfl) (hpl : (backTo p3 (starEach [] X.env)).any (·.1) = false := by rfl) (hs : swapsWith (.Call (.Attribute (.Name nm p1) "append" p2) [e] [] p3) none pos.line X.env = pure false := by rfl) :
    R1 X S H0 (.Expr (.Call (.Attribute (.Name nm p1) "append" p2) [e] [] p3) pos) Γ T := fun F0 σ F H l => by
  refine PS.wp (ps_expr (pe_bm PySem.F.plainAttrs_list PySem.F.slot_list_append PySem.F.type_list_append mt_append (pe_var (i := i) hN hv hd hcd) (pa_cons pe_wp pa_nil hs1) hbase hfew hline hs1 hpl) hs) ?_
  obtain ⟨e1, ⟨z, xs, hx, pr⟩, hn⟩ := l.wd.sat.own h0
  refine ⟨.ref D, e1, .inl ⟨rfl, xs, SqL.of hx⟩, he σ F H l.wd _ fun v F1 H1 g1 r1 => ?_⟩
  have l1 := l.grow g1
  have hx1 := g1.hp D _ hx
  refine ⟨D, xs, v, rfl, rfl, hx1, by rw [Paired.length pr]; exact hz, F1, _, l1.chg (P' := accO R D (l0 ++ [x])) h0 (by simp [accO]) rfl rfl ?_, h⟩
  exact ⟨by rw [List.length_append]; exact hz, xs ++ [v], upd_same, Paired.snoc (paired_mono g1.fz pr) (sat_dat r1)⟩
theorem Paired.app {ρ : Type} {R : V → ρ → Prop} : ∀ {xs ys : List V} {l m : List ρ}, Paired R xs l → Paired R ys m → Paired R (xs ++ ys) (l ++ m)
  | _, _, _, _, .nil, s => s
  | _, _, _, _, .cons r t, s => .cons r (Paired.app t s)
/-- x.extend(e) -/
theorem r1_ext (i : Nat) {D : Addr} {l0 m : List α} {nm : Str} {p1 p2 p3 : Pos} (h0 : gtS Γ i = sO R D l0) (he : EX X e Γ (sL R m)) (hz : l0.length + m.length ≤ sizeLine) (h : T.nx (stS Γ i (sO R D (l0 ++ m)))) (hN : X.N[i]? = some nm := by rfl) (hv : Vis X.env.scope nm := by first | exact Or.inl rfl | exact Or.inr (Or.inl rfl) | exact Or.inr (Or.inr rfl)) (hd : (nm == ("__debug__" : Str)) = false := by decide)
    (hcd : (nm == ("__classdict__" : Str)) = false := by decide) (hbase : attributeBase (.Name nm p1) "extend" X.env (eval (.Name nm p1) X.env) = eval (.Name nm p1) X.env := by rfl)
    (hfew : ((backTo p3 (starEach [e] X.env)).all (fun x => !x.1) && (backToKw p3 (keywordEach [] X.env)).all (fun x => x.1.isSome) && decide (([e] : List Expr).length + ([] : List Keyword).length + (if ([] : List Keyword).isEmpty then 0 else 1) < 30)) = true := by rfl)
    (hline : (p2.endLine == p3.line) = true := by rfl) (hs1 : starEach [e] X.env = (false, eval e X.env) :: starEach [] X.env := by rfl) (hpl : (backTo p3 (starEach [] X.env)).any (·.1) = false := by rfl) (hs : swapsWith (.Call (.Attribute (.Name nm p1) "extend" p2) [e] [] p3) none pos.line X.env = pure false := by rfl) :
    R1 X S H0 (.Expr (.Call (.Attribute (.Name nm p1) "extend" p2) [e] [] p3) pos) Γ T := fun F0 σ F H l => by
  refine PS.wp (ps_expr (pe_bm PySem.F.plainAttrs_list PySem.F.slot_list_extend PySem.F.type_list_extend mt_extend (pe_var (i := i) hN hv hd hcd) (pa_cons pe_wp pa_nil hs1) hbase hfew hline hs1 hpl) hs) ?_
  obtain ⟨e1, ⟨z, xs, hx, pr⟩, hn⟩ := l.wd.sat.own h0
  refine ⟨.ref D, e1, .inl ⟨rfl, xs, SqL.of hx⟩, he σ F H l.wd _ fun v F1 H1 g1 r1 => ?_⟩
  have l1 := l.grow g1
  have hx1 := g1.hp D _ hx
  obtain ⟨q, ys, rfl, ey, zy, py⟩ := sat_dat r1
  refine ⟨D, q, xs, ys, rfl, rfl, hx1, g1.sub _ _ ey, by rw [Paired.length pr, Paired.length py]; exact hz, F1, _, l1.chg (P' := accO R D (l0 ++ m)) h0 (by simp [accO]) rfl rfl ?_, h⟩
  exact ⟨by rw [List.length_append]; exact hz, xs ++ ys, upd_same, Paired.app (paired_mono g1.fz pr) py⟩
/-- a list of one's own becomes data -/
theorem rs_frz (i : Nat) {D : Addr} {l0 : List α} (h0 : gtS Γ i = sO R D l0) (hm : D ∉ S) (h : RS X S H0 sts (stS Γ i (sL R l0)) T) : RS X S H0 sts Γ T := fun F0 σ F H l => by
  obtain ⟨e1, ⟨z, xs, hx, pr⟩, hn⟩ := l.wd.sat.own h0
  have hD : F D = none := hn D (by simp [accO])
  have hD0 : H0 D = none := (l.mine D (feetO_mem h0 (by simp [accO]))).elim (fun z => absurd z hm) id
  have s1 : Same F (upd F D (.lst xs)) := fun b u e => by rw [upd_ne (ne_of_none e hD)]; exact e
  refine h F0 σ (upd F D (.lst xs)) H ⟨l.gr.freeze hD0 hx hD, ⟨fun b u e => ?_, ?_, ?_⟩, fun b hb => ?_⟩
  · by_cases hb : b = D
    · subst hb; rw [upd_same] at e; cases e; exact hx
    · rw [upd_ne hb] at e; exact l.wd.sub b u e
  · -- slots
    have key : ∀ {Γ : List Sl} {σ : L2.St} {i : Nat}, gtS Γ i = sO R D l0 → (feet Γ).Nodup → Sat F H Γ σ → Sat (upd F D (.lst xs)) H (stS Γ i (sL R l0)) σ := by
      have all : ∀ {Γ : List Sl} {σ : L2.St}, D ∉ feet Γ → Sat F H Γ σ → Sat (upd F D (.lst xs)) H Γ σ := by
        intro Γ
        induction Γ with
        | nil => intro σ _ h; cases σ with
          | nil => trivial
          | cons _ _ => exact h.elim
        | cons s Γ ih =>
          intro σ hd h
          cases σ with
          | nil => exact h.elim
          | cons o σ =>
            refine ⟨?_, ih (fun z => hd (List.mem_append_right _ z)) h.2⟩
            have h1 := h.1
            cases s with
            | any => exact trivial
            | dat R a => obtain ⟨v, ev, r⟩ := h1; exact ⟨v, ev, R.mono s1 r⟩
            | own Q =>
              obtain ⟨ev, r, n⟩ := h1
              exact ⟨ev, Q.stable r s1 fun b _ => rfl, fun b hb => by
                have hne : b ≠ D := fun z => hd (List.mem_append_left _ (by subst z; exact hb))
                rw [upd_ne hne]; exact n b hb⟩
            | bor Q =>
              obtain ⟨ev, r, n⟩ := h1
              exact ⟨ev, Q.stable r s1 fun b _ => rfl, fun b hb => by
                have hne : b ≠ D := fun z => hd (List.mem_append_left _ (by subst z; exact hb))
                rw [upd_ne hne]; exact n b hb⟩
      intro Γ
      induction Γ with
      | nil => intro σ i e; cases e
      | cons s Γ ih =>
        intro σ i e nd h
        cases σ with
        | nil => exact h.elim
        | cons o σ =>
          cases i with
          | zero =>
            have e2 : s = sO R D l0 := e
            subst e2
            refine ⟨?_, all (fun z => (List.nodup_append.mp nd).2.2 D (by simp [Sl.foot, accO]) D z rfl) h.2⟩
            have e3 : o = some (.ref D) := h.1.1
            subst e3
            exact dat_sat (H := H) ⟨D, xs, rfl, upd_same, z, paired_mono s1 pr⟩
          | succ i =>
            obtain ⟨n1, n2, n3⟩ := List.nodup_append.mp nd
            refine ⟨?_, ih e n2 h.2⟩
            have h1 := h.1
            cases s with
            | any => exact trivial
            | dat R a => obtain ⟨v, ev, r⟩ := h1; exact ⟨v, ev, R.mono s1 r⟩
            | own Q =>
              obtain ⟨ev, r, n⟩ := h1
              have hne : ∀ b ∈ Q.foot, b ≠ D := fun b hb z => n3 b hb D (feet_mem_own e (by simp [accO])) z
              exact ⟨ev, Q.stable r s1 fun b _ => rfl, fun b hb => by rw [upd_ne (hne b hb)]; exact n b hb⟩
            | bor Q =>
              obtain ⟨ev, r, n⟩ := h1
              have hne : ∀ b ∈ Q.foot, b ≠ D := fun b hb z => n3 b hb D (feet_mem_own e (by simp [accO])) z
              exact ⟨ev, Q.stable r s1 fun b _ => rfl, fun b hb => by rw [upd_ne (hne b hb)]; exact n b hb⟩
    exact key h0 l.wd.nd l.wd.sat
  · exact feet_st_nd (sl := sL R l0) List.nodup_nil l.wd.nd fun b hb => by cases hb
  · rcases feetO_st_sub hb with z | z
    · cases z
    · exact l.mine b z
/-! ### loops -/
theorem r1_forS {l : List α} {body : List Stmt} {St : Hp → Prop} (it : ITs X tg iter Γ R l St) (Pv : Nat → List Sl → Prop) (h0 : Pv 0 Γ)
    (hb : ∀ i a Γi, l[i]? = some a → Pv i Γi → ∃ is Γ', GT X tg is (.dat R a) Γi Γ' ∧ (∀ b ∈ feetO Γ', b ∈ feetO Γi) ∧ RS X S H0 body Γ' { T with nx := fun Γ2 => ∃ Γ3, Wk Γ2 Γ3 ∧ Pv (i + 1) Γ3, ct := fun Γ2 => ∃ Γ3, Wk Γ2 Γ3 ∧ Pv (i + 1) Γ3, bk := T.nx }) (hd : ∀ Γ, Pv l.length Γ → T.nx Γ) (hst : ∀ i Γi F2 H2 σ2, Pv i Γi → Wd F2 H2 Γi σ2 → St H2)
    (hp : PassesOwn (model X.prog X.w) X.A X.env X.xe := by exact PassesOwn.never) (hc : X.calm = true := by rfl) (hs : ∀ x, foldedSetIterable iter X.env x = pure x := by intro _; rfl) : R1 X S H0 (.For tg iter body [] pos) Γ T := fun F0 σ F H lv => by
  obtain ⟨wi, hi, hr⟩ := it
  refine PS.wp (ps_for hp hc hi pg_wp pss_wp hs) (hr σ F H lv.wd _ fun J F1 H1 G Y g1 hz wt => ?_)
  refine for_it wt.w (fun i σ2 H2 => ∃ F2 Γ2, Same F1 F2 ∧ Lv S F0 H0 F2 H2 Γ2 σ2 ∧ Pv i Γ2) ⟨F1, Γ, Same.refl _, lv.grow g1, h0⟩ ?_ ?_ ?_
  · rintro i σ2 H2 _ ⟨F2, Γ2, s2, l2, p2⟩
    exact wt.g F2 H2 s2 l2.wd.sub (hst i Γ2 F2 H2 σ2 p2 l2.wd)
  · rintro i x σ2 H2 H3 hi ⟨F2, Γ2, s2, l2, p2⟩ hy
    obtain ⟨a, F3, ha, g3, ra⟩ := wt.y i x F2 H2 H3 s2 l2.wd.sub hi hy
    obtain ⟨is, Γ', hg, hsub, hrun⟩ := hb i a Γ2 ha p2
    refine hg σ2 F3 H3 x (l2.wd.grow g3) (dat_sat ra) _ fun σ4 w4 _ => ?_
    have l4 : Lv S F0 H0 F3 H3 Γ' σ4 := ⟨l2.gr.trans g3.of, w4, fun b hb => l2.mine b (hsub b hb)⟩
    have s3 : Same F1 F3 := s2.trans g3.fz
    intro pins s I
    refine wpAny_mono (hrun F3 σ4 F3 H3 l4.base pins s I) (fun f s' q => ?_) fun _ _ z => z
    cases f with
    | next => obtain ⟨σ', H', I', F', Γ', l', Γ3, wk, q'⟩ := q; exact ⟨σ', H', I', F', Γ3, s3.trans l'.gr.fz, (l4.rebase l').wk wk, q'⟩
    | brk => obtain ⟨σ', H', I', F', Γ', l', q'⟩ := q; exact ⟨σ', H', I', F', Γ', l4.rebase l', q'⟩
    | cont => obtain ⟨σ', H', I', F', Γ', l', Γ3, wk, q'⟩ := q; exact ⟨σ', H', I', F', Γ3, s3.trans l'.gr.fz, (l4.rebase l').wk wk, q'⟩
    | ret u => obtain ⟨v, σ', H', I', rv, F', Γ', σ2, sl, l', r, hf, q'⟩ := q; exact ⟨v, σ', H', I', rv, F', Γ', σ2, sl, l4.rebase l', r, hf, q'⟩
  · rintro σ2 H2 ⟨F2, Γ2, s2, l2, p2⟩
    exact ⟨F2, Γ2, l2, hd Γ2 p2⟩
theorem r1_for {l : List α} {body : List Stmt} (it : IT X tg iter Γ R l) (Pv : Nat → List Sl → Prop) (h0 : Pv 0 Γ)
    (hb : ∀ i a Γi, l[i]? = some a → Pv i Γi → ∃ is Γ', GT X tg is (.dat R a) Γi Γ' ∧ (∀ b ∈ feetO Γ', b ∈ feetO Γi) ∧ RS X S H0 body Γ' { T with nx := fun Γ2 => ∃ Γ3, Wk Γ2 Γ3 ∧ Pv (i + 1) Γ3, ct := fun Γ2 => ∃ Γ3, Wk Γ2 Γ3 ∧ Pv (i + 1) Γ3, bk := T.nx }) (hd : ∀ Γ, Pv l.length Γ → T.nx Γ)
    (hp : PassesOwn (model X.prog X.w) X.A X.env X.xe := by exact PassesOwn.never) (hc : X.calm = true := by rfl) (hs : ∀ x, foldedSetIterable iter X.env x = pure x := by intro _; rfl) : R1 X S H0 (.For tg iter body [] pos) Γ T :=
  r1_forS it Pv h0 hb hd (fun _ _ _ _ _ _ _ => trivial) hp hc hs
/-- while: a measure over the slots -/
theorem r1_while {body : List Stmt} (Pv : List Sl → Prop) (μ : List Sl → Nat) (h0 : Pv Γ)
    (hb : ∀ Γi, Pv Γi → ∃ k, ET X c Γi k ∧ (k = true → RS X S H0 body Γi { T with nx := fun Γ2 => ∃ Γ3, Wk Γ2 Γ3 ∧ Pv Γ3 ∧ μ Γ3 < μ Γi, ct := fun Γ2 => ∃ Γ3, Wk Γ2 Γ3 ∧ Pv Γ3 ∧ μ Γ3 < μ Γi, bk := T.nx }) ∧ (k = false → T.nx Γi))
    (hp : PassesOwn (model X.prog X.w) X.A X.env X.xe := by exact PassesOwn.never) : R1 X S H0 (.While c body [] pos) Γ T := fun F0 σ F H lv => by
  refine PS.wp (ps_while hp pt_wp pss_wp) ?_
  refine ⟨fun m σ2 H2 => ∃ F2 Γ2, Lv S F0 H0 F2 H2 Γ2 σ2 ∧ Pv Γ2 ∧ m = μ Γ2, ⟨_, F, Γ, lv, h0, rfl⟩, ?_⟩
  rintro m σ2 H2 ⟨F2, Γ2, l2, p2, rfl⟩
  obtain ⟨k, ht, h1, h2⟩ := hb Γ2 p2
  refine ht σ2 F2 H2 l2.wd _ fun F3 H3 g3 => ?_
  have l3 := l2.grow g3
  cases k with
  | false => exact iteF ⟨F3, Γ2, l3, h2 rfl⟩
  | true =>
    refine iteT ⟨fun σ' H' => ∃ F' Γ', Lv S F0 H0 F' H' Γ' σ' ∧ Pv Γ' ∧ μ Γ' < μ Γ2, ?_, ?_⟩
    · rintro σ' H' ⟨F', Γ', l', p', hm⟩
      exact ⟨μ Γ', hm, F', Γ', l', p', rfl⟩
    · intro pins s I
      refine wpAny_mono (h1 rfl F0 σ2 F3 H3 l3 pins s I) (fun f s' q => ?_) fun _ _ z => z
      cases f with
      | next => obtain ⟨σ', H', I', F', Γ', l', Γ3, wk, q'⟩ := q; exact ⟨σ', H', I', F', Γ3, l'.wk wk, q'⟩
      | brk => exact q
      | cont => obtain ⟨σ', H', I', F', Γ', l', Γ3, wk, q'⟩ := q; exact ⟨σ', H', I', F', Γ3, l'.wk wk, q'⟩
      | ret u => exact q
/-! ### defs and calls -/
/-- a pure def's promise by a table of argument slots and the result's slot -/
def spP (Tab : List Sl → Sl → Prop) : Sp := fun vs H Q _ => ∃ F args res, Tab args res ∧ Wd F H args (vs.map some) ∧ ∀ v F' H', Gr F H F' H' → SlSat F' H' res (some v) → Q v H'
structure Dn (P : Program) (w : World) (K : PySem.W.Frag) (mg : Str → Option Value) (base : Heap) (k : Nat) (x : Str) (ps : List Str) (Tab : List Sl → Sl → Prop) : Prop where
  ex : ∃ f fd, FnOk P w K mg base CX0 k f fd ps (spP Tab) ∧ Binds K fd ps [] ∧ mg x = some (.ref f) ∧ PySem.W.keepIn K (.ref f) = true
theorem Dn.mono {P : Program} {w : World} {K : PySem.W.Frag} {mg : Str → Option Value} {base : Heap} {k k' : Nat} {x : Str} {ps : List Str} {Tab : List Sl → Sl → Prop} (d : Dn P w K mg base k x ps Tab) (h : k ≤ k') : Dn P w K mg base k' x ps Tab :=
  let ⟨f, fd, a, b, c, e⟩ := d.ex
  ⟨f, fd, a.mono h, b, c, e⟩
theorem ex_call {k : Nat} {nm : Str} {ps : List Str} {Tab : List Sl → Sl → Prop} {es : List Expr} {sls : List Sl} {res : Sl} (d : Dn X.prog X.w X.K X.mg X.base k nm ps Tab) (hr : Room k X.A) (ha : EA X (e :: es) Γ sls) (ht : Tab sls res) (hnd : (feet sls).Nodup := by exact List.nodup_nil)
    (hg : Gl X nm := by rfl) (hdb : (nm == ("__debug__" : Str)) = false := by decide) (he : starEach (e :: es) X.env = (false, eval e X.env) :: starEach es X.env := by rfl) (hpl : (backTo pos (starEach es X.env)).any (·.1) = false := by rfl) :
    EX X (.Call (.Name nm p) (e :: es) [] pos) Γ res := fun σ F H w Q q => by
  obtain ⟨f, fd, G, b, hm, hk⟩ := d.ex
  refine PE.wp (pe_call G hr hg hm hk b .nil pass0 pa_wp hdb he hpl) (ha σ F H w _ fun vs F1 H1 g1 r1 => ?_)
  rw [List.append_nil]
  exact ⟨F1, sls, res, ht, ⟨g1.sub, r1, hnd⟩, fun v F' H' g2 r2 => q v F' H' (g1.trans g2) r2⟩
theorem sat_any (F H : Hp) : ∀ n : Nat, Sat F H (List.replicate n .any) (List.replicate n none)
  | 0 => trivial
  | n + 1 => ⟨trivial, sat_any F H n⟩
theorem sat_app {F H : Hp} : ∀ {Γ Γ' : List Sl} {σ σ' : L2.St}, Sat F H Γ σ → Sat F H Γ' σ' → Sat F H (Γ ++ Γ') (σ ++ σ')
  | [], _, [], _, _, h => h
  | _ :: _, _, _ :: _, _, ⟨h1, h2⟩, h => ⟨h1, sat_app h2 h⟩
  | [], _, _ :: _, _, h, _ => h.elim
  | _ :: _, _, [], _, h, _ => h.elim
theorem feet_any : ∀ (Γ : List Sl) (n : Nat), feet (Γ ++ List.replicate n .any) = feet Γ
  | [], 0 => rfl
  | [], n + 1 => feet_any [] n
  | s :: Γ, n => by
    show s.foot ++ feet (Γ ++ List.replicate n .any) = s.foot ++ feet Γ
    rw [feet_any Γ n]
theorem feetO_any : ∀ (Γ : List Sl) (n : Nat), feetO (Γ ++ List.replicate n .any) = feetO Γ
  | [], 0 => rfl
  | [], n + 1 => feetO_any [] n
  | s :: Γ, n => by
    show s.footO ++ feetO (Γ ++ List.replicate n .any) = s.footO ++ feetO Γ
    rw [feetO_any Γ n]
/-- lent out -/
theorem ex_bor {P : OwnP} (h : EX X e Γ (.own P)) : EX X e Γ (.bor P) := fun σ F H w Q q => h σ F H w Q q
abbrev BX (P : Program) (w : World) (K : PySem.W.Frag) (mg : Str → Option Value) (base : Heap) (N : List Str) (qual : Str) (st : Stmt) (f : Addr) (cdv : Value) (A : Around) (outer : List Env) (s : Shared) (H : Hp) (E : XK) : Cx :=
  (cxOf CX0 P w K mg base N qual (defScope st) f cdv A outer s H E).nox
/-- a pure def keeps its promise -/
theorem fn_pure {P : Program} {w : World} {K : PySem.W.Frag} {mg : Str → Option Value} {base : Heap} {k : Nat} {nm qual : Str} {N ps : List Str} {st : Stmt} {f : Addr} {fd : FuncData} {Tab : List Sl → Sl → Prop}
    (F : FunD K nm qual (defArgs st) (defBody st) (defScope st) [] [] f fd) (Sc : FnScope N ps (defScope st)) (hl : ∀ args res, Tab args res → args.length = ps.length ∧ feetO args = [])
    (body : ∀ (cdv : Value) (A : Around) (outer : List Env) (s : Shared) (H : Hp) (E : XK) (args : List Sl) (res : Sl), Room k (BX P w K mg base N qual st f cdv A outer s H E).A → Tab args res →
      RS (BX P w K mg base N qual st f cdv A outer s H E) [] H (defBody st) (args ++ List.replicate (N.length - ps.length) .any) { nx := fun _ => res = .dat RNon (), rt := fun sl _ => sl = res }) : FnOk P w K mg base CX0 (k + 1) f fd ps (spP Tab) := by
  refine F.ok Sc (fun vs H Q E h => ?_) (fun cdv A outer s H vs Q E hr h => ?_)
  · obtain ⟨F', args, res, ht, w', _⟩ := h
    have := w'.sat.len
    rw [List.length_map] at this
    rw [this, (hl args res ht).1]
  · obtain ⟨F', args, res, ht, w', q⟩ := h
    have hlen : vs.length = ps.length := by
      have := w'.sat.len
      rw [List.length_map] at this
      rw [this, (hl args res ht).1]
    refine ⟨_, PSs.nox (pss_wp (X := BX P w K mg base N qual st f cdv A outer s H E)), ?_⟩
    intro pins s' I
    have lv : Lv [] F' H F' H (args ++ List.replicate (N.length - ps.length) .any) (L2.start N vs) := by
      refine ⟨GrS.refl w'.sub, ⟨w'.sub, ?_, by rw [feet_any]; exact w'.nd⟩, fun b hb => ?_⟩
      · unfold L2.start
        rw [hlen]
        exact sat_app w'.sat (sat_any _ _ _)
      · rw [feetO_any, (hl args res ht).2] at hb
        cases hb
    refine wpAny_mono (body cdv A outer s H E args res hr ht F' (L2.start N vs) F' H lv pins s' I) (fun fl s2 z => ?_) fun _ _ z => z
    cases fl with
    | next =>
      obtain ⟨σ2, H2, I2, F2, Γ2, l2, e⟩ := z
      exact ⟨σ2, H2, I2, q .non F2 H2 l2.gr (by rw [e]; exact dat_sat rfl)⟩
    | brk => obtain ⟨σ2, H2, I2, F2, Γ2, l2, e⟩ := z; exact e.elim
    | cont => obtain ⟨σ2, H2, I2, F2, Γ2, l2, e⟩ := z; exact e.elim
    | ret u =>
      obtain ⟨v, σ2, H2, I2, rv, F2, Γ2, σ3, sl, l2, r2, hf, e⟩ := z
      subst e
      exact ⟨v, σ2, H2, I2, rv, q v F2 H2 l2.gr r2⟩
end
end TL

/-! part MA -/
set_option exponentiation.threshold 256 -- MA
set_option maxHeartbeats 200000 -- MA
set_option maxRecDepth 100000 -- MA
/-! MA: numbers. -/
namespace MA
theorem gcd_pos_right (a : Int) {b : Int} (h : b ≠ 0) : 0 < Nat.gcd a.natAbs b.natAbs := Nat.gcd_pos_of_pos_right _ (Int.natAbs_pos.mpr h)
theorem fdiv_of_mul {x y c : Int} (hc : c ≠ 0) (h : x = y * c) : x.fdiv c = y := by
  rw [h, Int.mul_fdiv_cancel _ hc]
/-- the gcd with the sign of b -/
def lowC (a b : Int) : Int := if b < 0 then -((Nat.gcd a.natAbs b.natAbs : Nat) : Int) else ((Nat.gcd a.natAbs b.natAbs : Nat) : Int)
theorem lowC_ne {a b : Int} (h : b ≠ 0) : lowC a b ≠ 0 := by
  have := gcd_pos_right a h
  unfold lowC
  split <;> omega
theorem lowC_dvd_left (a b : Int) : ∃ k, a = k * lowC a b := by
  have hd : ((Nat.gcd a.natAbs b.natAbs : Nat) : Int) ∣ a := Int.natAbs_dvd_natAbs.mp (show a.natAbs.gcd b.natAbs ∣ a.natAbs from Nat.gcd_dvd_left _ _)
  obtain ⟨k, hk⟩ := hd
  unfold lowC
  split
  · exact ⟨-k, by grind⟩
  · exact ⟨k, by grind⟩
theorem lowC_dvd_right (a b : Int) : ∃ k, b = k * lowC a b := by
  have hd : ((Nat.gcd a.natAbs b.natAbs : Nat) : Int) ∣ b := Int.natAbs_dvd_natAbs.mp (show a.natAbs.gcd b.natAbs ∣ b.natAbs from Nat.gcd_dvd_right _ _)
  obtain ⟨k, hk⟩ := hd
  unfold lowC
  split
  · exact ⟨-k, by grind⟩
  · exact ⟨k, by grind⟩
theorem low_num {a b : Int} (h : b ≠ 0) : a.fdiv (lowC a b) = (Rat.divInt a b).num := by
  have hg := gcd_pos_right a h
  have hne := lowC_ne (a := a) h
  obtain ⟨k, hk⟩ := lowC_dvd_left a b
  have e1 : a.fdiv (lowC a b) = k := fdiv_of_mul hne hk
  rw [e1, Rat.num_divInt]
  have e : ((b.gcd a : Nat) : Int) = ((Nat.gcd a.natAbs b.natAbs : Nat) : Int) := by
    show ((Nat.gcd b.natAbs a.natAbs : Nat) : Int) = _
    rw [Nat.gcd_comm]
  rw [e]
  have hne2 : ((Nat.gcd a.natAbs b.natAbs : Nat) : Int) ≠ 0 := by omega
  unfold lowC at hk
  by_cases hb : b < 0
  · rw [if_pos hb] at hk
    rw [Int.sign_eq_neg_one_of_neg hb]
    have : -1 * a = k * ((Nat.gcd a.natAbs b.natAbs : Nat) : Int) := by grind
    rw [this, Int.mul_ediv_cancel _ hne2]
  · rw [if_neg hb] at hk
    rw [Int.sign_eq_one_of_pos (by omega)]
    have : 1 * a = k * ((Nat.gcd a.natAbs b.natAbs : Nat) : Int) := by grind
    rw [this, Int.mul_ediv_cancel _ hne2]
theorem low_den {a b : Int} (h : b ≠ 0) : b.fdiv (lowC a b) = ((Rat.divInt a b).den : Int) := by
  have hg := gcd_pos_right a h
  have hne := lowC_ne (a := a) h
  obtain ⟨k, hk⟩ := lowC_dvd_right a b
  have e1 : b.fdiv (lowC a b) = k := fdiv_of_mul hne hk
  rw [e1, Rat.den_divInt, if_neg h]
  have e : b.gcd a = Nat.gcd a.natAbs b.natAbs := by
    show Nat.gcd b.natAbs a.natAbs = _
    rw [Nat.gcd_comm]
  rw [e]
  unfold lowC at hk
  have hb2 : (b.natAbs : Int) = k * ((Nat.gcd a.natAbs b.natAbs : Nat) : Int) := by
    by_cases hb : b < 0
    · rw [if_pos hb] at hk
      have : (b.natAbs : Int) = -b := by omega
      grind
    · rw [if_neg hb] at hk
      have : (b.natAbs : Int) = b := by omega
      grind
  have hne2 : ((Nat.gcd a.natAbs b.natAbs : Nat) : Int) ≠ 0 := by omega
  rw [Int.natCast_ediv, hb2, Int.mul_ediv_cancel _ hne2]
/-- small enough that no division goes another way -/
def Sm (i : Int) : Prop := i.natAbs < 2 ^ 13500
/-- below 2 ^ a in size -/
def Bt (a : Nat) (i : Int) : Prop := i.natAbs < 2 ^ a
theorem bt_mono {a b : Nat} {i : Int} (h : Bt a i) (hab : a ≤ b) : Bt b i := Nat.lt_of_lt_of_le h (Nat.pow_le_pow_right (by decide) hab)
theorem bt_add {a : Nat} {i j : Int} (h1 : Bt a i) (h2 : Bt a j) : Bt (a + 1) (i + j) := by
  unfold Bt at *
  have := Int.natAbs_add_le i j
  rw [Nat.pow_succ]
  omega
theorem bt_neg {a : Nat} {i : Int} (h : Bt a i) : Bt a (-i) := by
  unfold Bt at *
  rw [Int.natAbs_neg]
  exact h
theorem bt_sub {a : Nat} {i j : Int} (h1 : Bt a i) (h2 : Bt a j) : Bt (a + 1) (i - j) := by
  rw [Int.sub_eq_add_neg]
  exact bt_add h1 (bt_neg h2)
/-- a number whose integers are below 2 ^ a -/
def Bq (a : Nat) (q : Rat) : Prop := Bt a q.num ∧ Bt a (q.den : Int)
end MA

/-! part TL4 -/
set_option exponentiation.threshold 256 -- TL4
set_option maxHeartbeats 200000 -- TL4
set_option maxRecDepth 100000 -- TL4
/-! TL4: sizes, built-ins. -/
namespace TL
open PySem PySem.Spec L2 MA
theorem sm_div {i j : Int} (h : Sm i) (hj : j ≠ 0) : CDivX i j := by
  refine ⟨hj, ?_⟩
  have hl : (if i == 0 then 0 else i.natAbs.log2 / 30 + 1) ≤ 450 := by
    by_cases h0 : (i == 0) = true
    · rw [if_pos h0]; exact Nat.zero_le _
    · rw [if_neg h0]
      have hne : i.natAbs ≠ 0 := fun z => h0 (by simp; omega)
      have := (Nat.log2_lt hne).mpr (show i.natAbs < 2 ^ 13500 from h)
      omega
  show (decide ((if j == 0 then 0 else j.natAbs.log2 / 30 + 1) > 300) && decide ((if i == 0 then 0 else i.natAbs.log2 / 30 + 1) > (if j == 0 then 0 else j.natAbs.log2 / 30 + 1) + 150)) = false
  generalize (if i == 0 then 0 else i.natAbs.log2 / 30 + 1) = x at hl
  generalize (if j == 0 then 0 else j.natAbs.log2 / 30 + 1) = y
  by_cases hy : y > 300
  · rw [decide_eq_true hy, decide_eq_false (by omega)]; rfl
  · rw [decide_eq_false hy]; rfl
theorem bt_mul {i j : Int} {a b : Nat} (ha : Bt a i) (hb : Bt b j) : Bt (a + b) (i * j) := by
  unfold Bt
  rw [Int.natAbs_mul, Nat.pow_add]
  exact Nat.mul_lt_mul'' ha hb
theorem bt_cmul {i j : Int} {a b : Nat} (ha : Bt a i) (hb : Bt b j) (h : a + b ≤ 134217728) : CMulX i j := mulx_ok ha hb h
theorem sm_of {i : Int} {a : Nat} (h : Bt a i) (ha : a ≤ 13500) : Sm i := bt_mono h ha
section
variable {X : Cx} {e a b c : Expr} {es : List Expr} {p pos : Pos} {Γ : List Sl} {i j : Int} {sl : Sl} {α β : Type} {R : Rp α} {R' : Rp β} {x : α}
theorem ex_gcd (hm : X.mg "gcd" = some (.builtin "math.gcd")) (ha : EX X a Γ (sI i)) (hb : EX X b Γ (sI j)) (hg : Gl X "gcd" := by rfl) (hs1 : starEach [b] X.env = (false, eval b X.env) :: starEach [] X.env := by rfl)
    (hs : starEach [a, b] X.env = (false, eval a X.env) :: starEach [b] X.env := by rfl) (hpl : (backTo pos (starEach [b] X.env)).any (·.1) = false := by rfl) : EX X (.Call (.Name "gcd" p) [a, b] [] pos) Γ (sI ((Nat.gcd i.natAbs j.natAbs : Nat) : Int)) := fun σ F H w Q q =>
  PE.wp (pe_callBfun cr_gcd hg hm pa_wp (by decide) hs hpl) (ea_cons ha (ea_cons hb ea_nil hs1) hs σ F H w _ fun vs F1 H1 g1 r => by
    obtain ⟨v, u, rfl, r1, r2⟩ := sat2 r
    exact ⟨i, j, by rw [show v = .int i from sat_dat r1, show u = .int j from sat_dat r2], q _ F1 H1 g1 (dat_sat rfl)⟩)
/-- lcm: both operands below 450 digits of 30 bits -/
theorem cr_lcm : CallR X (.builtin "math.lcm") (fun vs H Q => ∃ a b : Int, vs = [.int a, .int b] ∧ (Sm a ∧ Sm b) ∧ Q (.int ((Nat.lcm a.natAbs b.natAbs : Nat) : Int)) H) := by
  intro pins s σ H vs us Q I r h
  obtain ⟨a, b, rfl, ⟨ha, hb⟩, q⟩ := h
  obtain ⟨u, w', rfl, ⟨t, rfl⟩, ⟨t', rfl⟩⟩ := vals2 r
  have la : ∀ x : Nat, x < 2 ^ 13500 → ¬ x.log2 / 30 + 1 > 450 := fun x hx => by
    by_cases h0 : x = 0
    · subst h0; decide
    · have := (Nat.log2_lt h0).mpr hx; omega
  have hm : 1 < 2 ^ 13500 := Nat.one_lt_two_pow (by decide)
  have e1 : Nat.lcm 1 a.natAbs = a.natAbs := Nat.lcm_one_left _
  have hsz : ((((Nat.lcm 1 a.natAbs).lcm b.natAbs : Nat) : Int)).natAbs.log2 < bitsLine := by
    rw [e1, Int.natAbs_natCast]
    have hle : a.natAbs.lcm b.natAbs ≤ a.natAbs * b.natAbs := Nat.div_le_self _ _
    by_cases h0 : a.natAbs.lcm b.natAbs = 0
    · rw [h0]; decide
    · refine (Nat.log2_lt h0).mpr (Nat.lt_of_le_of_lt hle ?_)
      have : a.natAbs * b.natAbs < 2 ^ 13500 * 2 ^ 13500 := Nat.mul_lt_mul'' ha hb
      rw [← Nat.pow_add] at this
      exact Nat.lt_of_lt_of_le this (Nat.pow_le_pow_right (by decide) (by decide))
  have g := PySem.W.mg_run_lcm a t b t' (la _ (Nat.max_lt.mpr ⟨hm, ha⟩)) (la _ (Nat.max_lt.mpr ⟨ha, hb⟩)) hsz
  rw [e1] at g
  exact call_function_meets PySem.W.MGF.kind_lcm PySem.W.MGF.plain_lcm PySem.W.MGF.entry_lcm (PySem.W.MGF.args_lcm _ _) g.meets ⟨.int _, H, I.tok _, ⟨_, rfl⟩, q⟩
theorem ex_lcm (hm : X.mg "lcm" = some (.builtin "math.lcm")) (ha : EX X a Γ (sI i)) (hb : EX X b Γ (sI j)) (hi : Sm i) (hj : Sm j) (hg : Gl X "lcm" := by rfl) (hs1 : starEach [b] X.env = (false, eval b X.env) :: starEach [] X.env := by rfl)
    (hs : starEach [a, b] X.env = (false, eval a X.env) :: starEach [b] X.env := by rfl) (hpl : (backTo pos (starEach [b] X.env)).any (·.1) = false := by rfl) : EX X (.Call (.Name "lcm" p) [a, b] [] pos) Γ (sI ((Nat.lcm i.natAbs j.natAbs : Nat) : Int)) := fun σ F H w Q q =>
  PE.wp (pe_callBfun cr_lcm hg hm pa_wp (by decide) hs hpl) (ea_cons ha (ea_cons hb ea_nil hs1) hs σ F H w _ fun vs F1 H1 g1 r => by
    obtain ⟨v, u, rfl, r1, r2⟩ := sat2 r
    exact ⟨i, j, by rw [show v = .int i from sat_dat r1, show u = .int j from sat_dat r2], ⟨hi, hj⟩, q _ F1 H1 g1 (dat_sat rfl)⟩)
/-- a built-in of one argument -/
theorem ex_b1 {id : String} {nm : Str} {r : List V → Hp → VK → Prop} {sl' : Sl} (hc : CallR X (.builtin id) r) (hm : X.mg nm = none) (hv : bootBuiltins nm = some (.builtin id)) (ha : EX X e Γ sl)
    (h : ∀ F H v, Same F H → SlSat F H sl (some v) → ∀ Q : VK, (∀ v' F' H', Gr F H F' H' → SlSat F' H' sl' (some v') → Q v' H') → r [v] H Q) (hg : Gl X nm := by rfl) (hn : nm ≠ "__name__" := by decide) (hdb : (nm == ("__debug__" : Str)) = false := by decide)
    (he : starEach [e] X.env = (false, eval e X.env) :: starEach [] X.env := by rfl) (hpl : (backTo pos (starEach [] X.env)).any (·.1) = false := by rfl) : EX X (.Call (.Name nm p) [e] [] pos) Γ sl' := fun σ F H w Q q =>
  PE.wp (pe_callB hc hg hm hv pa_wp hn hdb he hpl) (ea_cons ha ea_nil he σ F H w _ fun vs F1 H1 g1 r1 => by
    obtain ⟨v, rfl, r2⟩ := sat1 r1
    exact h F1 H1 v g1.sub r2 _ fun v' F' H' g2 r3 => q v' F' H' (g1.trans g2) r3)
theorem ex_ty1 {id : String} {nm : Str} {r : List V → Hp → VK → Prop} {sl' : Sl} (hc : CallR X (.type id) r) (hm : X.mg nm = none) (hv : bootBuiltins nm = some (.type id)) (ha : EX X e Γ sl)
    (h : ∀ F H v, Same F H → SlSat F H sl (some v) → ∀ Q : VK, (∀ v' F' H', Gr F H F' H' → SlSat F' H' sl' (some v') → Q v' H') → r [v] H Q) (hg : Gl X nm := by rfl) (hn : nm ≠ "__name__" := by decide) (hdb : (nm == ("__debug__" : Str)) = false := by decide)
    (he : starEach [e] X.env = (false, eval e X.env) :: starEach [] X.env := by rfl) (hpl : (backTo pos (starEach [] X.env)).any (·.1) = false := by rfl) : EX X (.Call (.Name nm p) [e] [] pos) Γ sl' := fun σ F H w Q q =>
  PE.wp (pe_callTy hc hg hm hv pa_wp hn hdb he hpl) (ea_cons ha ea_nil he σ F H w _ fun vs F1 H1 g1 r1 => by
    obtain ⟨v, rfl, r2⟩ := sat1 r1
    exact h F1 H1 v g1.sub r2 _ fun v' F' H' g2 r3 => q v' F' H' (g1.trans g2) r3)
theorem ex_len {l : List α} (hm : X.mg "len" = none) (ha : EX X e Γ sl) (hl : IsL sl R l) (hg : Gl X "len" := by rfl) (he : starEach [e] X.env = (false, eval e X.env) :: starEach [] X.env := by rfl) (hpl : (backTo pos (starEach [] X.env)).any (·.1) = false := by rfl) : EX X (.Call (.Name "len" p) [e] [] pos) Γ (sI (l.length : Int)) :=
  ex_b1 call_len_seq hm PySem.boot_len ha (fun F H v s r Q q => by
    obtain ⟨p, xs, rfl, e, _, pr⟩ := hl.get s r
    exact ⟨p, xs, rfl, .inl (SqL.of e), q _ F H (GrS.refl s) (dat_sat (by rw [Paired.length pr]; rfl))⟩) hg (by decide) (by decide) he hpl
theorem ex_lens {l : List Nat} (hm : X.mg "len" = none) (ha : EX X e Γ (.dat RTx l)) (hg : Gl X "len" := by rfl) (he : starEach [e] X.env = (false, eval e X.env) :: starEach [] X.env := by rfl) (hpl : (backTo pos (starEach [] X.env)).any (·.1) = false := by rfl) : EX X (.Call (.Name "len" p) [e] [] pos) Γ (sI (l.length : Int)) :=
  ex_b1 call_len_str hm PySem.boot_len ha (fun F H v s r Q q => by
    obtain ⟨rfl, z⟩ := sat_dat r
    exact ⟨_, rfl, by simpa [Str.length] using z, q _ F H (GrS.refl s) (dat_sat (by show V.int _ = V.int _; simp [Str.length]))⟩) hg (by decide) (by decide) he hpl
theorem ex_abs (hm : X.mg "abs" = none) (ha : EX X e Γ (sI i)) (hg : Gl X "abs" := by rfl) (he : starEach [e] X.env = (false, eval e X.env) :: starEach [] X.env := by rfl) (hpl : (backTo pos (starEach [] X.env)).any (·.1) = false := by rfl) : EX X (.Call (.Name "abs" p) [e] [] pos) Γ (sI (i.natAbs : Int)) :=
  ex_b1 call_abs hm (by decide +kernel) ha (fun F H v s r Q q => ⟨i, by rw [show v = .int i from sat_dat r], q _ F H (GrS.refl s) (dat_sat (by show V.int _ = V.int _; congr 1; split <;> omega))⟩) hg (by decide) (by decide) he hpl
theorem ex_intI (hm : X.mg "int" = none) (ha : EX X e Γ (sI i)) (hg : Gl X "int" := by rfl) (he : starEach [e] X.env = (false, eval e X.env) :: starEach [] X.env := by rfl) (hpl : (backTo pos (starEach [] X.env)).any (·.1) = false := by rfl) : EX X (.Call (.Name "int" p) [e] [] pos) Γ (sI i) :=
  ex_ty1 call_int1 hm (by decide +kernel) ha (fun F H v s r Q q => .inl ⟨i, by rw [show v = .int i from sat_dat r], q _ F H (GrS.refl s) (dat_sat rfl)⟩) hg (by decide) (by decide) he hpl
theorem ex_intB {k : Bool} (hm : X.mg "int" = none) (ha : EX X e Γ (sB k)) (hg : Gl X "int" := by rfl) (he : starEach [e] X.env = (false, eval e X.env) :: starEach [] X.env := by rfl) (hpl : (backTo pos (starEach [] X.env)).any (·.1) = false := by rfl) : EX X (.Call (.Name "int" p) [e] [] pos) Γ (sI (if k then 1 else 0)) :=
  ex_ty1 call_int1 hm (by decide +kernel) ha (fun F H v s r Q q => .inr ⟨k, by rw [show v = .bl k from sat_dat r], q _ F H (GrS.refl s) (dat_sat rfl)⟩) hg (by decide) (by decide) he hpl
theorem ex_list {l : List α} (hm : X.mg "list" = none) (ha : EX X e Γ sl) (hl : IsL sl R l) (hg : Gl X "list" := by rfl) (he : starEach [e] X.env = (false, eval e X.env) :: starEach [] X.env := by rfl) (hpl : (backTo pos (starEach [] X.env)).any (·.1) = false := by rfl) (hsl : sl = sL R l := by rfl) : EX X (.Call (.Name "list" p) [e] [] pos) Γ (sL R l) :=
  ex_ty1 call_list_of hm (by decide +kernel) ha (fun F H v s r Q q => by
    subst hsl
    obtain ⟨p, xs, rfl, e, z, pr⟩ := sat_dat r
    refine ⟨p, xs, rfl, .inl (SqL.of (s _ _ e)), fun l' hl' => ?_⟩
    have g := Gr.alloc (o := .lst xs) s hl'
    exact q _ _ _ g (dat_sat ⟨l', xs, rfl, upd_same, z, paired_mono g.fz pr⟩)) hg (by decide) (by decide) he hpl
theorem paired_B {F : Hp} : ∀ {xs : List V} {l : List Bool}, Paired (RBl.rel F) xs l → xs = l.map V.bl
  | _, _, .nil => rfl
  | _, _, .cons r t => by
    rw [List.map_cons, ← paired_B t]
    exact congrArg (· :: _) r
theorem paired_I {F : Hp} : ∀ {xs : List V} {l : List Int}, Paired (RInt.rel F) xs l → xs = l.map V.int
  | _, _, .nil => rfl
  | _, _, .cons r t => by
    rw [List.map_cons, ← paired_I t]
    exact congrArg (· :: _) r
theorem ex_any {l : List Bool} (hm : X.mg "any" = none) (ha : EX X e Γ (sL RBl l)) (hc : X.calm = true := by rfl) (hg : Gl X "any" := by rfl) (he : starEach [e] X.env = (false, eval e X.env) :: starEach [] X.env := by rfl) (hpl : (backTo pos (starEach [] X.env)).any (·.1) = false := by rfl) : EX X (.Call (.Name "any" p) [e] [] pos) Γ (sB (l.any id)) :=
  ex_b1 (cr_any hc) hm (by decide +kernel) ha (fun F H v s r Q q => by
    obtain ⟨p, xs, rfl, e, _, pr⟩ := sat_dat r
    have := paired_B pr
    subst this
    exact ⟨p, l, rfl, SqL.of (s _ _ e), q _ F H (GrS.refl s) (dat_sat rfl)⟩) hg (by decide) (by decide) he hpl
theorem ex_all {l : List Bool} (hm : X.mg "all" = none) (ha : EX X e Γ (sL RBl l)) (hc : X.calm = true := by rfl) (hg : Gl X "all" := by rfl) (he : starEach [e] X.env = (false, eval e X.env) :: starEach [] X.env := by rfl) (hpl : (backTo pos (starEach [] X.env)).any (·.1) = false := by rfl) : EX X (.Call (.Name "all" p) [e] [] pos) Γ (sB (l.all id)) :=
  ex_b1 (cr_all hc) hm (by decide +kernel) ha (fun F H v s r Q q => by
    obtain ⟨p, xs, rfl, e, _, pr⟩ := sat_dat r
    have := paired_B pr
    subst this
    exact ⟨p, l, rfl, SqL.of (s _ _ e), q _ F H (GrS.refl s) (dat_sat rfl)⟩) hg (by decide) (by decide) he hpl
theorem ex_sum {l : List Int} (hm : X.mg "sum" = none) (ha : EX X e Γ (sL RInt l)) (hc : X.calm = true := by rfl) (hg : Gl X "sum" := by rfl) (he : starEach [e] X.env = (false, eval e X.env) :: starEach [] X.env := by rfl) (hpl : (backTo pos (starEach [] X.env)).any (·.1) = false := by rfl) : EX X (.Call (.Name "sum" p) [e] [] pos) Γ (sI l.sum) :=
  ex_b1 (cr_sum hc) hm (by decide +kernel) ha (fun F H v s r Q q => by
    obtain ⟨p, xs, rfl, e, _, pr⟩ := sat_dat r
    have := paired_I pr
    subst this
    exact ⟨p, l, rfl, SqL.of (s _ _ e), q _ F H (GrS.refl s) (dat_sat rfl)⟩) hg (by decide) (by decide) he hpl
/-- lists put together, repeated, cut -/
theorem ex_cat {l m : List α} (ha : EX X a Γ (sL R l)) (hb : EX X b Γ (sL R m)) (hz : l.length + m.length ≤ sizeLine) : EX X (.BinOp a .Add b pos) Γ (sL R (l ++ m)) :=
  ex_bin op_cat ha hb fun F H v u s r1 r2 Q q => by
    obtain ⟨p1, xs, rfl, e1, z1, pr1⟩ := r1
    obtain ⟨p2, ys, rfl, e2, z2, pr2⟩ := r2
    refine ⟨p1, p2, xs, ys, rfl, rfl, s _ _ e1, s _ _ e2, by rw [Paired.length pr1, Paired.length pr2]; exact hz, fun p hp => ?_⟩
    have g := Gr.alloc (o := .lst (xs ++ ys)) s hp
    exact q _ _ _ g ⟨p, xs ++ ys, rfl, upd_same, by rw [List.length_append]; exact hz, Paired.app (paired_mono g.fz pr1) (paired_mono g.fz pr2)⟩
theorem rep_paired {F : Hp} {v : V} (h : R.rel F v x) : ∀ n : Nat, Paired (R.rel F) (List.replicate n v) (List.replicate n x)
  | 0 => .nil
  | n + 1 => .cons h (rep_paired h n)
/-- [x] * n -/
theorem ex_rep {n : Int} (ha : EX X a Γ (sL R [x])) (hb : EX X b Γ (sI n)) (hz : n ≤ (sizeLine : Int)) (hz2 : -(2 ^ 63) ≤ n) : EX X (.BinOp a .Mult b pos) Γ (sL R (List.replicate n.toNat x)) :=
  ex_bin op_rep ha hb fun F H v u s r1 r2 Q q => by
    obtain ⟨p1, xs, rfl, e1, z1, pr1⟩ := r1
    cases pr1 with
    | cons h1 h2 =>
      cases h2
      have hs : sizeLine = 2 ^ 24 := rfl
      have hn : n.toNat ≤ sizeLine := by omega
      refine ⟨p1, n, _, rfl, r2, s _ _ e1, by omega, by omega, by simpa using hn, fun p hp => ?_⟩
      have ej : (List.replicate n.toNat [‹V›]).flatten = List.replicate n.toNat ‹V› := by
        generalize n.toNat = m
        induction m with
        | zero => rfl
        | succ m ih => rw [List.replicate_succ, List.flatten_cons, ih]; rfl
      rw [ej]
      have g := Gr.alloc (o := .lst (List.replicate n.toNat ‹V›)) s hp
      exact q _ _ _ g ⟨p, _, rfl, upd_same, by simpa using hn, rep_paired (R.mono g.fz h1) _⟩
end
end TL

/-! part TL5 -/
set_option exponentiation.threshold 256 -- TL5
set_option maxHeartbeats 200000 -- TL5
set_option maxRecDepth 100000 -- TL5
/-! TL5: lent lists, objects, methods, defs with effects. -/
namespace TL
open PySem PySem.Spec L2 MA
/-- a list that stands somewhere, its values told -/
def accV {α : Type} (R : Rp α) (L : Addr) (xs : List V) (l : List α) : OwnP where
  foot := [L]
  val := .ref L
  holds := fun F H => l.length ≤ sizeLine ∧ H L = some (.lst xs) ∧ Paired (R.rel F) xs l
  stable := fun ⟨z, e, p⟩ s h => ⟨z, by rw [h L (by simp)]; exact e, paired_mono s p⟩
  there := fun ⟨_, e, _⟩ b hb => by
    have : b = L := by simpa using hb
    subst this
    exact ne_none_of e
  nd := by simp
section
variable {X : Cx} {S : List Addr} {F0 H0 F H F' H' F1 H1 : Hp} {e o a b c tg iter : Expr} {es : List Expr} {sts : List Stmt} {st : Stmt} {p pos apos : Pos} {Γ Γ' : List Sl} {T T' : TK} {i j : Int} {sl slO res : Sl} {sls : List Sl} {α β : Type} {R : Rp α} {R' : Rp β} {x : α} {l : List α} {L : Addr} {xs : List V}
theorem accV_get (s : SlSat F H (.bor (accV R L xs l)) (some v)) : v = .ref L ∧ l.length ≤ sizeLine ∧ H L = some (.lst xs) ∧ Paired (R.rel F) xs l := ⟨Option.some.inj s.1, s.2.1⟩
theorem ex_lenV (hm : X.mg "len" = none) (ha : EX X e Γ (.bor (accV R L xs l))) (hg : Gl X "len" := by rfl) (he : starEach [e] X.env = (false, eval e X.env) :: starEach [] X.env := by rfl) (hpl : (backTo pos (starEach [] X.env)).any (·.1) = false := by rfl) : EX X (.Call (.Name "len" p) [e] [] pos) Γ (sI (l.length : Int)) :=
  ex_b1 call_len_seq hm PySem.boot_len ha (fun F H v s r Q q => by
    obtain ⟨rfl, _, e, pr⟩ := accV_get r
    exact ⟨L, xs, rfl, .inl (SqL.of e), q _ F H (GrS.refl s) (dat_sat (by rw [Paired.length pr]; rfl))⟩) hg (by decide) (by decide) he hpl
theorem it_bor (h : EX X iter Γ (.bor (accV R L xs l))) : ITs X tg iter Γ R l (fun H2 => H2 L = some (.lst xs)) := by
  refine ⟨_, pi_list pe_wp, fun σ F H w P q => h σ F H w _ fun v F' H' g r => ?_⟩
  obtain ⟨rfl, z, e, pr⟩ := accV_get r
  refine ⟨L, rfl, ⟨xs, SqL.of e⟩, q (Itl X.K L) F' H' (fun H2 => SqL X.K H2 L xs) (YAt xs) g z ⟨?_, fun F2 H2 s1 s2 st => SqL.of st, fun i x F2 H2 H3 s1 s2 hi y => ?_⟩⟩
  · rw [← Paired.length pr]
    exact walk_list
  · obtain ⟨rfl, hx⟩ := y
    obtain ⟨a, ha, ra⟩ := paired_get pr hx
    exact ⟨a, F2, ha, GrS.refl s2, R.mono s1 ra⟩
/-- an attribute of an object -/
theorem ex_fld {f : Str} {sl' : Sl} (ho : EX X o Γ slO) (h : ∀ F H v, Same F H → SlSat F H slO (some v) → ∃ a C dx fs u, v = .ref a ∧ H a = some (.ins C dx fs) ∧ Cls X.K C ∧ NoAttr X.K C f ∧ fs.lookup f = some u ∧ SlSat F H sl' (some u)) (hb : attributeBase o f X.env (eval o X.env) = eval o X.env := by rfl) :
    EX X (.Attribute o f pos) Γ sl' := fun σ F H w Q q => PE.wp (pe_fld pe_wp hb) (ho σ F H w _ fun v F1 H1 g1 r1 => by
    obtain ⟨a, C, dx, fs, u, e1, e2, c, n, e3, r⟩ := h F1 H1 v g1.sub r1
    exact ⟨a, C, dx, fs, u, e1, e2, c, n, e3, q u F1 H1 g1 r⟩)
/-! ### methods -/
structure Dm (P : Program) (w : World) (K : PySem.W.Frag) (mg : Str → Option Value) (base : Heap) (k : Nat) (f : Addr) (ps : List Str) (Tab : List Sl → Sl → Prop) : Prop where
  ex : ∃ fd, FnOk P w K mg base CX0 k f fd ps (spP Tab) ∧ Binds K fd ps []
theorem Dm.mono {P : Program} {w : World} {K : PySem.W.Frag} {mg : Str → Option Value} {base : Heap} {k k' : Nat} {f : Addr} {ps : List Str} {Tab : List Sl → Sl → Prop} (d : Dm P w K mg base k f ps Tab) (h : k ≤ k') : Dm P w K mg base k' f ps Tab :=
  let ⟨fd, a, b⟩ := d.ex
  ⟨fd, a.mono h, b⟩
/-- what is an instance of C without an attribute m -/
def IsIns (C : Addr) (m : Str) (sl : Sl) : Prop := ∀ F H v, Same F H → SlSat F H sl (some v) → ∃ a dx fs, v = .ref a ∧ H a = some (.ins C dx fs) ∧ fs.lookup m = none
theorem ex_meth {k : Nat} {C f : Addr} {m : Str} {ps : List Str} {Tab : List Sl → Sl → Prop} {pl : Sem Bool} (c : Cls X.K C) (M : Meth X.K C m f) (d : Dm X.prog X.w X.K X.mg X.base k f ps Tab) (hr : Room k X.A) (ho : EX X o Γ slO) (hi : IsIns C m slO) (ha : EA X (e :: es) Γ sls) (ht : Tab (slO :: sls) res)
    (hnd : (feet (slO :: sls)).Nodup) (hst : starEach (e :: es) X.env = (false, eval e X.env) :: starEach es X.env := by rfl) (hpl : (backTo pos (starEach es X.env)).any (·.1) = false := by rfl)
    (htt : eval (.Call (.Attribute o m apos) (e :: es) [] pos) X.env = (do
      let ov ← eval o X.env
      standAt apos.atName
      let (f, first) ← holding [ov] (getMethod ov m pl)
      callWith pos f first (backTo pos (starEach (e :: es) X.env)) (backToKw pos (keywordEach [] X.env))) := by rfl) : EX X (.Call (.Attribute o m apos) (e :: es) [] pos) Γ res := fun σ F H w Q q => by
  obtain ⟨fd, G, b⟩ := d.ex
  refine PE.wp (pe_meth (pl := pl) pe_wp c M G hr b .nil pass0 pa_wp hst hpl htt) (ho σ F H w _ fun v F1 H1 g1 r1 => ?_)
  obtain ⟨a, dx, fs, rfl, ea, hl⟩ := hi F1 H1 v g1.sub r1
  refine ⟨a, dx, fs, rfl, ea, hl, ha σ F1 H1 (w.grow g1) _ fun vs F2 H2 g2 r2 => ?_⟩
  rw [List.append_nil]
  exact ⟨F2, slO :: sls, res, ht, ⟨g2.sub, ⟨sat_up g2 r1, r2⟩, hnd⟩, fun v F' H' g3 r3 => q v F' H' ((g1.trans g2).trans g3) r3⟩
theorem ex_prop {k : Nat} {C pp f : Addr} {m : Str} {ps : List Str} {Tab : List Sl → Sl → Prop} (c : Cls X.K C) (hp : PropOf X.K C m pp f) (d : Dm X.prog X.w X.K X.mg X.base k f ps Tab) (hr : Room (k + 1) X.A) (ho : EX X o Γ slO) (hi : ∀ F H v, Same F H → SlSat F H slO (some v) → ∃ a dx fs, v = .ref a ∧ H a = some (.ins C dx fs)) (ht : Tab [slO] res)
    (hnd : (feet [slO]).Nodup := by exact List.nodup_nil) (hab : attributeBase o m X.env (eval o X.env) = eval o X.env := by rfl) : EX X (.Attribute o m pos) Γ res := fun σ F H w Q q => by
  obtain ⟨fd, G, b⟩ := d.ex
  refine PE.wp (pe_prop (X := X) pe_wp c hp G hr b .nil pass0 hab) (ho σ F H w _ fun v F1 H1 g1 r1 => ?_)
  obtain ⟨a, dx, fs, rfl, ea⟩ := hi F1 H1 v g1.sub r1
  exact ⟨a, dx, fs, rfl, ea, F1, [slO], res, ht, ⟨g1.sub, ⟨r1, trivial⟩, hnd⟩, fun v F' H' g3 r3 => q v F' H' (g1.trans g3) r3⟩
/-! ### defs with effects on what is handed in -/
def spG (Tab : List Sl → (Sl → List Sl → Prop) → Prop) : Sp := fun vs H Q _ => ∃ F args post, Tab args post ∧ Wd F H args (vs.map some) ∧
  ∀ v F' H' sl Γ' σ', GrS (feetO args) F H F' H' → Wd F' H' Γ' σ' → SlSat F' H' sl (some v) → (∀ b ∈ sl.foot, b ∈ feetO args ∨ H b = none) → post sl Γ' → Q v H'
theorem fn_eff {P : Program} {w : World} {K : PySem.W.Frag} {mg : Str → Option Value} {base : Heap} {k : Nat} {nm qual : Str} {N ps : List Str} {st : Stmt} {f : Addr} {fd : FuncData} {Tab : List Sl → (Sl → List Sl → Prop) → Prop}
    (F : FunD K nm qual (defArgs st) (defBody st) (defScope st) [] [] f fd) (Sc : FnScope N ps (defScope st)) (hl : ∀ args post, Tab args post → args.length = ps.length)
    (body : ∀ (cdv : Value) (A : Around) (outer : List Env) (s : Shared) (H : Hp) (E : XK) (args : List Sl) (post : Sl → List Sl → Prop), Room k (BX P w K mg base N qual st f cdv A outer s H E).A → Tab args post →
      RS (BX P w K mg base N qual st f cdv A outer s H E) (feetO args) H (defBody st) (args ++ List.replicate (N.length - ps.length) .any) { nx := fun Γ => post (.dat RNon ()) Γ, rt := post }) : FnOk P w K mg base CX0 (k + 1) f fd ps (spG Tab) := by
  refine F.ok Sc (fun vs H Q E h => ?_) (fun cdv A outer s H vs Q E hr h => ?_)
  · obtain ⟨F', args, res, ht, w', _⟩ := h
    have := w'.sat.len
    rw [List.length_map] at this
    rw [this, hl args res ht]
  · obtain ⟨F', args, post, ht, w', q⟩ := h
    have hlen : vs.length = ps.length := by
      have := w'.sat.len
      rw [List.length_map] at this
      rw [this, hl args post ht]
    refine ⟨_, PSs.nox (pss_wp (X := BX P w K mg base N qual st f cdv A outer s H E)), ?_⟩
    intro pins s' I
    have lv : Lv (feetO args) F' H F' H (args ++ List.replicate (N.length - ps.length) .any) (L2.start N vs) := by
      refine ⟨GrS.refl w'.sub, ⟨w'.sub, ?_, by rw [feet_any]; exact w'.nd⟩, fun b hb => ?_⟩
      · unfold L2.start
        rw [hlen]
        exact sat_app w'.sat (sat_any _ _ _)
      · rw [feetO_any] at hb
        exact .inl hb
    refine wpAny_mono (body cdv A outer s H E args post hr ht F' (L2.start N vs) F' H lv pins s' I) (fun fl s2 z => ?_) fun _ _ z => z
    cases fl with
    | next =>
      obtain ⟨σ2, H2, I2, F2, Γ2, l2, e⟩ := z
      exact ⟨σ2, H2, I2, q .non F2 H2 (.dat RNon ()) Γ2 σ2 l2.gr l2.wd (dat_sat rfl) (fun b hb => by cases hb) e⟩
    | brk => obtain ⟨σ2, H2, I2, F2, Γ2, l2, e⟩ := z; exact e.elim
    | cont => obtain ⟨σ2, H2, I2, F2, Γ2, l2, e⟩ := z; exact e.elim
    | ret u =>
      obtain ⟨v, σ2, H2, I2, rv, F2, Γ2, σ3, sl, l2, r2, hf, e⟩ := z
      exact ⟨v, σ2, H2, I2, rv, q v F2 H2 sl Γ2 σ3 l2.gr l2.wd r2 hf e⟩
/-- an expression with effects on what is one's own -/
def EG (X : Cx) (S : List Addr) (H0 : Hp) (e : Expr) (Γ : List Sl) (P : Sl → List Sl → Prop) : Prop :=
  ∀ (F0 : Hp) (σ : L2.St) (F H : Hp), Lv S F0 H0 F H Γ σ → ∀ Q : VK, (∀ v F' H' sl Γ', Lv S F0 H0 F' H' Γ' σ → SlSat F' H' sl (some v) → (∀ b ∈ sl.foot, H b = none) → P sl Γ' → Q v H') → WpE X e σ H Q
theorem eg_ex (h : EX X e Γ sl) (hf : sl.foot = [] := by rfl) : EG X S H0 e Γ (fun s Γ' => s = sl ∧ Γ' = Γ) := fun F0 σ F H l Q q => h σ F H l.wd Q fun v F' H' g r => q v F' H' sl Γ (l.grow g) r (by rw [hf]; intro b hb; cases hb) ⟨rfl, rfl⟩
theorem eg_imp {P P' : Sl → List Sl → Prop} (h : EG X S H0 e Γ P) (hp : ∀ s Γ', P s Γ' → P' s Γ') : EG X S H0 e Γ P' := fun F0 σ F H l Q q => h F0 σ F H l Q fun v F' H' sl Γ' l' r hf z => q v F' H' sl Γ' l' r hf (hp _ _ z)
/-- behind an effect: one own thing at n turned -/
theorem Lv.eff {P P' : OwnP} {n : Nat} {σ : L2.St} (l : Lv S F0 H0 F H Γ σ) (hn : gtS Γ n = .own P) (hf : P'.foot = P.foot) (hv : P'.val = P.val) (g : GrS P.foot F H F' H') (hP : P'.holds F' H') (hPf : ∀ b ∈ P'.foot, F' b = none) : Lv S F0 H0 F' H' (stS Γ n (.own P')) σ where
  gr := ⟨l.gr.fz.trans g.fz, g.sub, fun b o hb e => g.keep b o (fun hb2 => (l.mine b (feetO_mem hn hb2)).elim (fun z => hb z) fun z => by rw [z] at e; cases e) (l.gr.keep b o hb e), fun b e => g.there b (l.gr.there b e),
    fun b e1 e2 => g.new b (l.gr.new b e1 e2) (l.gr.there b e2)⟩
  wd := ⟨g.sub, Sat.chg g.fz (fun b hb e => by
      obtain ⟨u, hu⟩ := some_of_ne e
      rw [hu]; exact g.keep b u hb hu) g.new hv hP hPf hn l.wd.nd l.wd.sat, by rw [feet_st_same hf hn]; exact l.wd.nd⟩
  mine := fun b hb => l.mine b (by rw [feetO_st_same hf hn] at hb; exact hb)
/-- a def's promise with effects, at a name, at an address -/
structure Gn (P : Program) (w : World) (K : PySem.W.Frag) (mg : Str → Option Value) (base : Heap) (k : Nat) (x : Str) (ps : List Str) (Tab : List Sl → (Sl → List Sl → Prop) → Prop) : Prop where
  ex : ∃ f fd, FnOk P w K mg base CX0 k f fd ps (spG Tab) ∧ Binds K fd ps [] ∧ mg x = some (.ref f) ∧ PySem.W.keepIn K (.ref f) = true
theorem Gn.mono {P : Program} {w : World} {K : PySem.W.Frag} {mg : Str → Option Value} {base : Heap} {k k' : Nat} {x : Str} {ps : List Str} {Tab : List Sl → (Sl → List Sl → Prop) → Prop} (d : Gn P w K mg base k x ps Tab) (h : k ≤ k') : Gn P w K mg base k' x ps Tab :=
  let ⟨f, fd, a, b, c, e⟩ := d.ex
  ⟨f, fd, a.mono h, b, c, e⟩
structure Gm (P : Program) (w : World) (K : PySem.W.Frag) (mg : Str → Option Value) (base : Heap) (k : Nat) (f : Addr) (ps : List Str) (Tab : List Sl → (Sl → List Sl → Prop) → Prop) : Prop where
  ex : ∃ fd, FnOk P w K mg base CX0 k f fd ps (spG Tab) ∧ Binds K fd ps []
theorem Gm.mono {P : Program} {w : World} {K : PySem.W.Frag} {mg : Str → Option Value} {base : Heap} {k k' : Nat} {f : Addr} {ps : List Str} {Tab : List Sl → (Sl → List Sl → Prop) → Prop} (d : Gm P w K mg base k f ps Tab) (h : k ≤ k') : Gm P w K mg base k' f ps Tab :=
  let ⟨fd, a, b⟩ := d.ex
  ⟨fd, a.mono h, b⟩
/-- o.m(e, ..) that changes o, one's own thing at n -/
theorem eg_meth {k n : Nat} {C f : Addr} {m nm : Str} {ps : List Str} {Tab : List Sl → (Sl → List Sl → Prop) → Prop} {pl : Sem Bool} {P0 : OwnP} {p1 : Pos} {post Q0 : Sl → List Sl → Prop} (c : Cls X.K C) (M : Meth X.K C m f) (d : Gm X.prog X.w X.K X.mg X.base k f ps Tab) (hr : Room k X.A) (hn : gtS Γ n = .own P0)
    (ho : EX X (.Name nm p1) Γ (.own P0)) (hi : IsIns C m (.own P0)) (ha : EA X (e :: es) Γ sls) (ht : Tab (.own P0 :: sls) post) (hfo : feet sls = []) (hpost : ∀ sl Γc, post sl Γc → ∃ P', gtS Γc 0 = .own P' ∧ P'.foot = P0.foot ∧ P'.val = P0.val ∧ sl.foot = [] ∧ Q0 sl (stS Γ n (.own P')))
    (hst : starEach (e :: es) X.env = (false, eval e X.env) :: starEach es X.env := by rfl) (hpl : (backTo pos (starEach es X.env)).any (·.1) = false := by rfl)
    (htt : eval (.Call (.Attribute (.Name nm p1) m apos) (e :: es) [] pos) X.env = (do
      let ov ← eval (.Name nm p1) X.env
      standAt apos.atName
      let (f, first) ← holding [ov] (getMethod ov m pl)
      callWith pos f first (backTo pos (starEach (e :: es) X.env)) (backToKw pos (keywordEach [] X.env))) := by rfl) : EG X S H0 (.Call (.Attribute (.Name nm p1) m apos) (e :: es) [] pos) Γ Q0 := fun F0 σ F H l Q q => by
  obtain ⟨fd, G, b⟩ := d.ex
  refine PE.wp (pe_meth (pl := pl) pe_wp c M G hr b .nil pass0 pa_wp hst hpl htt) (ho σ F H l.wd _ fun v F1 H1 g1 r1 => ?_)
  obtain ⟨a, dx, fs, rfl, ea, hl⟩ := hi F1 H1 v g1.sub r1
  refine ⟨a, dx, fs, rfl, ea, hl, ha σ F1 H1 (l.wd.grow g1) _ fun vs F2 H2 g2 r2 => ?_⟩
  rw [List.append_nil]
  have l2 := (l.grow g1).grow g2
  refine ⟨F2, .own P0 :: sls, post, ht, ⟨g2.sub, ⟨sat_up g2 r1, r2⟩, by show (P0.foot ++ feet sls).Nodup; rw [hfo, List.append_nil]; exact P0.nd⟩, fun v F' H' sl Γc σc g3 wc r3 hf z => ?_⟩
  obtain ⟨P', h0, hfoot, hval, hsf, hq⟩ := hpost sl Γc z
  have g3' : GrS P0.foot F2 H2 F' H' := by
    have : feetO (.own P0 :: sls) = P0.foot := by
      have h1 : feetO sls = [] := by
        have : ∀ Γ : List Sl, feet Γ = [] → feetO Γ = [] := by
          intro Γ
          induction Γ with
          | nil => intro _; rfl
          | cons s Γ ih =>
            intro h
            obtain ⟨h1, h2⟩ := List.append_eq_nil_iff.mp h
            show s.footO ++ feetO Γ = []
            rw [ih h2, List.append_nil]
            cases s with
            | own P => exact h1
            | _ => rfl
        exact this sls hfo
      show P0.foot ++ feetO sls = _
      rw [h1, List.append_nil]
    rw [this] at g3
    exact g3
  have hP := wc.sat.own h0
  exact q v F' H' sl _ (l2.eff hn hfoot hval g3' hP.2.1 hP.2.2) r3 (by rw [hsf]; intro b hb; cases hb) hq
/-! statements with effects -/
theorem r1_ifG {P0 : Sl → List Sl → Prop} {A B : List Stmt} (hc : EG X S H0 c Γ P0) (ht : ∀ sl Γ', P0 sl Γ' → ∃ k, sl = sB k ∧ (k = true → RS X S H0 A Γ' T) ∧ (k = false → RS X S H0 B Γ' T)) (he : ∀ whole, isTrue c X.env whole = (do let v ← whole; standAt c.pos; holding [v] (truthy v)) := by intro _; rfl) : R1 X S H0 (.If c A B pos) Γ T := fun F0 σ F H l =>
  PS.wp (ps_if (pt_val pe_wp he) pss_wp pss_wp) (hc F0 σ F H l _ fun v F1 H1 sl Γ' l1 r1 hf z => by
    obtain ⟨k, rfl, h1, h2⟩ := ht sl Γ' z
    refine ⟨k, sat_dat r1, ?_⟩
    cases k with
    | true => exact iteT (h1 rfl F0 σ F1 H1 l1)
    | false => exact iteF (h2 rfl F0 σ F1 H1 l1))
theorem r1_exprG {P0 : Sl → List Sl → Prop} (he : EG X S H0 e Γ P0) (h : ∀ sl Γ', P0 sl Γ' → T.nx Γ') (hs : swapsWith e none pos.line X.env = pure false := by rfl) : R1 X S H0 (.Expr e pos) Γ T := fun F0 σ F H l =>
  PS.wp (ps_expr pe_wp hs) (he F0 σ F H l _ fun v F1 H1 sl Γ' l1 r1 hf z => ⟨F1, Γ', l1, h sl Γ' z⟩)
theorem Lv.setF {σ : L2.St} {v : V} (l : Lv S F0 H0 F H Γ σ) (r : SlSat F H sl (some v)) (hf : sl.foot = []) (i : Nat) : Lv S F0 H0 F H (stS Γ i sl) (σ.set i (some v)) where
  gr := l.gr
  wd := l.wd.set r (by rw [hf]; exact List.nodup_nil) (by rw [hf]; intro b hb; cases hb)
  mine := fun b hb => by
    rcases feetO_st_sub hb with z | z
    · have := footO_sub z
      rw [hf] at this
      cases this
    · exact l.mine b z
theorem r1_setG (i : Nat) {P0 : Sl → List Sl → Prop} {nm : Str} {p' : Pos} (he : EG X S H0 e Γ P0) (h : ∀ sl Γ', P0 sl Γ' → sl.foot = [] ∧ T.nx (stS Γ' i sl)) (hN : X.N.Nodup := by assumption) (hi : X.N[i]? = some nm := by rfl) (hx : Loc X.env.scope nm := by first | exact Or.inl rfl | exact Or.inr rfl)
    (hs : swapsWith e (some (.Name nm p')) pos.line X.env = pure false := by rfl) (hf : X.fn nm = true ∨ X.env.scope.names.lookup nm = some .local := by first | exact .inl rfl | exact .inr rfl | assumption) : R1 X S H0 (.Assign [.Name nm p'] e pos) Γ T := fun F0 σ F H l =>
  PS.wp (ps_set (i := i) hN hi hx pe_wp hs hf) (he F0 σ F H l _ fun v F1 H1 sl Γ' l1 r1 hf z => by
    obtain ⟨hff, hn⟩ := h sl Γ' z
    exact ⟨F1, _, l1.setF r1 hff i, hn⟩)
end
end TL

/-! part TL6 -/
set_option exponentiation.threshold 256 -- TL6
set_option maxHeartbeats 1000000 -- TL6
set_option maxRecDepth 100000 -- TL6
/-! TL6: texts, objects as data, dicts, stores by place. -/
namespace TL
open PySem PySem.Spec L2 MA
section
variable {X : Cx} {S : List Addr} {F0 H0 F H F' H' F1 H1 : Hp} {e o a b c tg iter elt : Expr} {es : List Expr} {sts : List Stmt} {st : Stmt} {p pos apos : Pos} {Γ Γ' : List Sl} {T T' : TK} {i j : Int} {sl slO res : Sl} {sls : List Sl} {α β γ δ : Type} {R : Rp α} {R' : Rp β} {R'' : Rp γ} {R3 : Rp δ} {x : α} {y : β} {z : γ} {u : δ} {l : List α} {is : List Nat}
/-! ### texts -/
theorem ex_sg {n : Nat} (h : EX X e Γ (.dat RSg n)) : EX X e Γ (.dat RTx [n]) := ex_conv h fun _ _ r => r
theorem ex_globS {nm z : Str} {l : List Nat} (hm : ∃ t, X.mg nm = some (.str z t)) (hz : z.cps.toList = l) (hl : l.length ≤ sizeLine := by decide) (hg : Gl X nm := by rfl) (hd : (nm == ("__debug__" : Str)) = false := by decide) : EX X (.Name nm pos) Γ (.dat RTx l) := fun σ F H w Q q => by
  obtain ⟨t, ht⟩ := hm
  refine PE.wp (pe_glob (v := .str z) hg ht ⟨t, rfl⟩ hd) (q _ F H (GrS.refl w.sub) (dat_sat ⟨?_, hl⟩))
  obtain ⟨cps⟩ := z
  subst hz
  rfl
theorem et_inS {n : Nat} {l : List Nat} (ha : EX X a Γ (.dat RSg n)) (hb : EX X b Γ (.dat RTx l)) (hm : behindInMarks .In b = false := by rfl) : ET X (.Compare a [.In] [b] pos) Γ (decide (n ∈ l)) :=
  et_cmp op_in_sign ha hb hm fun F H v u s r1 r2 Q q => by
    obtain ⟨rfl, _⟩ := r1
    obtain ⟨rfl, _⟩ := r2
    exact ⟨n, ⟨l.toArray⟩, rfl, rfl, q F H (GrS.refl s)⟩
theorem et_niS {n : Nat} {l : List Nat} (ha : EX X a Γ (.dat RSg n)) (hb : EX X b Γ (.dat RTx l)) (hm : behindInMarks .NotIn b = false := by rfl) : ET X (.Compare a [.NotIn] [b] pos) Γ (!decide (n ∈ l)) :=
  et_cmp op_notIn_sign ha hb hm fun F H v u s r1 r2 Q q => by
    obtain ⟨rfl, _⟩ := r1
    obtain ⟨rfl, _⟩ := r2
    exact ⟨n, ⟨l.toArray⟩, rfl, rfl, q F H (GrS.refl s)⟩
theorem ex_niS {n : Nat} {l : List Nat} (ha : EX X a Γ (.dat RSg n)) (hb : EX X b Γ (.dat RTx l)) (hm : behindInMarks .NotIn b = false := by rfl) : EX X (.Compare a [.NotIn] [b] pos) Γ (sB (!decide (n ∈ l))) :=
  ex_cmp op_notIn_sign ha hb hm fun F H v u s r1 r2 Q q => by
    obtain ⟨rfl, _⟩ := r1
    obtain ⟨rfl, _⟩ := r2
    exact ⟨n, ⟨l.toArray⟩, rfl, rfl, q F H (GrS.refl s)⟩
theorem et_les {l m : List Nat} (ha : EX X a Γ (.dat RTx l)) (hb : EX X b Γ (.dat RTx m)) : ET X (.Compare a [.LtE] [b] pos) Γ (!decide (m < l)) :=
  et_cmp op_le_str ha hb (nomark _) fun F H v u s r1 r2 Q q => by
    obtain ⟨rfl, _⟩ := r1
    obtain ⟨rfl, _⟩ := r2
    exact ⟨_, _, rfl, rfl, q F H (GrS.refl s)⟩
/-- a ≤ b < c -/
theorem et_chain {i j k : Int} (ha : EX X a Γ (sI i)) (hb : EX X b Γ (sI j)) (hc : EX X c Γ (sI k)) (hm : lastMarks [.LtE, .Lt] [b, c] = false := by with_unfolding_all rfl) : ET X (.Compare a [.LtE, .Lt] [b, c] pos) Γ (decide (i ≤ j) && decide (j < k)) := fun σ F H w Q q =>
  PT.wp (pt_chain op_le op_lt pe_wp pe_wp pe_wp hm) (ha σ F H w _ fun v1 F1 H1 g1 r1 => hb σ F1 H1 (w.grow g1) _ fun v2 F2 H2 g2 r2 => by
    refine ⟨i, j, sat_dat r1, sat_dat r2, decide (i ≤ j), rfl, ?_⟩
    by_cases h : i ≤ j
    · rw [decide_eq_true h]
      refine iteT ?_
      refine hc σ F2 H2 ((w.grow g1).grow g2) _ fun v3 F3 H3 g3 r3 => ⟨j, k, sat_dat r2, sat_dat r3, _, rfl, ?_⟩
      have := q F3 H3 ((g1.trans g2).trans g3)
      rw [decide_eq_true h, Bool.true_and] at this
      exact this
    · rw [decide_eq_false h]
      refine iteF ⟨false, rfl, ?_⟩
      have := q F2 H2 (g1.trans g2)
      rw [decide_eq_false h, Bool.false_and] at this
      exact this)
/-- places of a tuple of four, of three -/
theorem ex_ix4a {jj : Nat} {p2 : Pos} (ha : EX X a Γ (.dat (RT4 R R' R'' R3) (x, y, z, u))) : EX X (.Subscript a (.Constant (.int 0) jj p2) pos) Γ (.dat R x) := fun σ F H w Q q =>
  PE.wp (pe_ix ix_tup pe_wp pe_int (fun _ _ => rfl)) (ha σ F H w _ fun v F1 H1 g1 r1 => by
    obtain ⟨p, v1, v2, v3, v4, rfl, e, r, s, t, u⟩ := sat_dat r1
    exact ⟨p, _, 0, v1, rfl, rfl, SqT.of (g1.sub _ _ e), atI_0, q v1 F1 H1 g1 (dat_sat r)⟩)
theorem ex_ix4b {jj : Nat} {p2 : Pos} (ha : EX X a Γ (.dat (RT4 R R' R'' R3) (x, y, z, u))) : EX X (.Subscript a (.Constant (.int 1) jj p2) pos) Γ (.dat R' y) := fun σ F H w Q q =>
  PE.wp (pe_ix ix_tup pe_wp pe_int (fun _ _ => rfl)) (ha σ F H w _ fun v F1 H1 g1 r1 => by
    obtain ⟨p, v1, v2, v3, v4, rfl, e, r, s, t, u⟩ := sat_dat r1
    exact ⟨p, _, 1, v2, rfl, rfl, SqT.of (g1.sub _ _ e), atI_1, q v2 F1 H1 g1 (dat_sat s)⟩)
theorem ex_ix4c {jj : Nat} {p2 : Pos} (ha : EX X a Γ (.dat (RT4 R R' R'' R3) (x, y, z, u))) : EX X (.Subscript a (.Constant (.int 2) jj p2) pos) Γ (.dat R'' z) := fun σ F H w Q q =>
  PE.wp (pe_ix ix_tup pe_wp pe_int (fun _ _ => rfl)) (ha σ F H w _ fun v F1 H1 g1 r1 => by
    obtain ⟨p, v1, v2, v3, v4, rfl, e, r, s, t, u⟩ := sat_dat r1
    exact ⟨p, _, 2, v3, rfl, rfl, SqT.of (g1.sub _ _ e), atI_2, q v3 F1 H1 g1 (dat_sat t)⟩)
theorem ex_ix4d {jj : Nat} {p2 : Pos} (ha : EX X a Γ (.dat (RT4 R R' R'' R3) (x, y, z, u))) : EX X (.Subscript a (.Constant (.int 3) jj p2) pos) Γ (.dat R3 u) := fun σ F H w Q q =>
  PE.wp (pe_ix ix_tup pe_wp pe_int (fun _ _ => rfl)) (ha σ F H w _ fun v F1 H1 g1 r1 => by
    obtain ⟨p, v1, v2, v3, v4, rfl, e, r, s, t, u⟩ := sat_dat r1
    exact ⟨p, _, 3, v4, rfl, rfl, SqT.of (g1.sub _ _ e), atI_3, q v4 F1 H1 g1 (dat_sat u)⟩)
/-! ### a list of one's own: made by *, stored by place -/
theorem en_rep {n : Int} (ha : EX X a Γ (sL R [x])) (hb : EX X b Γ (sI n)) (hz : n ≤ (sizeLine : Int)) (hz2 : -(2 ^ 63) ≤ n) : EN X (.BinOp a .Mult b pos) Γ (fun s => ∃ D, s = sO R D (List.replicate n.toNat x)) := fun σ F H w Q q =>
  PE.wp (pe_op op_rep pe_wp pe_wp) (ha σ F H w _ fun v F1 H1 g1 r1 => hb σ F1 H1 (w.grow g1) _ fun v2 F2 H2 g2 r2 => by
    obtain ⟨p1, xs, rfl, e1, z1, pr1⟩ := (RL R).mono g2.fz (sat_dat r1)
    cases pr1 with
    | cons h1 h2 =>
      cases h2
      have hs : sizeLine = 2 ^ 24 := rfl
      have hn : n.toNat ≤ sizeLine := by omega
      refine ⟨p1, n, _, rfl, sat_dat r2, g2.sub _ _ e1, by omega, by omega, by simpa using hn, fun p hp => ?_⟩
      have ej : (List.replicate n.toNat [‹V›]).flatten = List.replicate n.toNat ‹V› := by
        generalize n.toNat = m
        induction m with
        | zero => rfl
        | succ m ih => rw [List.replicate_succ, List.flatten_cons, ih]; rfl
      rw [ej]
      have gT := g1.trans g2
      have g := gT.trans (Gr.mut (o := .lst (List.replicate n.toNat ‹V›)) gT.sub hp)
      refine q (.ref p) F2 _ (sO R p (List.replicate n.toNat x)) g ⟨rfl, ⟨by simpa using hn, _, upd_same, rep_paired h1 _⟩, fun b hb => ?_⟩ (fun b hb => ?_) ⟨p, rfl⟩
      · have : b = p := by simpa [accO] using hb
        subst this
        exact gT.sub.free hp
      · have : b = p := by simpa [Sl.foot, accO] using hb
        subst this
        exact gT.hp.free hp)
theorem paired_set {ρ : Type} {R : V → ρ → Prop} {v : V} {x : ρ} (h : R v x) : ∀ {xs : List V} {l : List ρ} (n : Nat), Paired R xs l → Paired R (xs.set n v) (l.set n x)
  | _, _, _, .nil => .nil
  | _, _, 0, .cons _ t => .cons h t
  | _, _, n + 1, .cons r t => .cons r (paired_set h n t)
/-- x[e2] = e, x a list of one's own at k -/
theorem r1_setO (k : Nat) {n : Nat} {D : Addr} {l0 : List α} {nm : Str} {p1 p2 : Pos} (h0 : gtS Γ k = sO R D l0) (he : EX X e Γ (.dat R x)) (hi : EX X b Γ (sI (n : Int))) (hn : n < l0.length) (h : T.nx (stS Γ k (sO R D (l0.set n x)))) (hN : X.N[k]? = some nm := by rfl) (hv : Vis X.env.scope nm := by first | exact Or.inl rfl | exact Or.inr (Or.inl rfl) | exact Or.inr (Or.inr rfl))
    (hd : (nm == ("__debug__" : Str)) = false := by decide) (hcd : (nm == ("__classdict__" : Str)) = false := by decide)
    (has : ∀ v, assign (.Subscript (.Name nm p1) b p2) X.env v = (do
      let ov ← holding [v] (eval (.Name nm p1) X.env)
      let iv ← holding [v, ov] (eval b X.env)
      standAt p2
      holding [v, ov, iv] (setItem ov iv v)
      release [v, ov, iv] []) := by intro _; rfl) (hs : swapsWithSole [.Subscript (.Name nm p1) b p2] e pos.line X.env = pure false := by rfl) (hw : swappedStores [.Subscript (.Name nm p1) b p2] e X.env = pure none := by rfl)
    (h1 : (assignEach [.Subscript (.Name nm p1) b p2] X.env).map (·.2) = [assign (.Subscript (.Name nm p1) b p2) X.env] := by rfl) : R1 X S H0 (.Assign [.Subscript (.Name nm p1) b p2] e pos) Γ T := fun F0 σ F H l => by
  refine PS.wp (ps_asg pe_wp (pg_sub (pe_var (i := k) hN hv hd hcd) pe_wp set_list has) hs hw h1) ?_
  refine he σ F H l.wd _ fun v F1 H1 g1 r1 => ?_
  have l1 := l.grow g1
  obtain ⟨e1, _, _⟩ := l1.wd.sat.own h0
  refine ⟨.ref D, e1, hi σ F1 H1 l1.wd _ fun v2 F2 H2 g2 r2 => ?_⟩
  have l2 := l1.grow g2
  obtain ⟨_, ⟨z, xs, hx, pr⟩, _⟩ := l2.wd.sat.own h0
  have hl : n < xs.length := by rw [Paired.length pr]; exact hn
  refine ⟨D, xs, n, n, rfl, sat_dat r2, hx, ?_, F2, _, l2.chg (P' := accO R D (l0.set n x)) h0 (by simp [accO]) rfl rfl ?_, h⟩
  · unfold ixN
    have : (n : Int) < xs.length := by omega
    simp only [Int.toNat_natCast]
    rw [if_pos (by omega)]
    first
      | rfl
      | (rw [if_pos this])
  · exact ⟨by rw [List.length_set]; exact z, xs.set n v, upd_same, paired_set (R.mono g2.fz (sat_dat r1)) n pr⟩
/-! ### objects as data -/
structure Dt : Type 1 where
  {α : Type}
  R : Rp α
  a : α
def DSat (F : Hp) : List (Str × Dt) → List (Str × V) → Prop
  | [], [] => True
  | d :: ds, f :: fs => d.1 = f.1 ∧ d.2.R.rel F f.2 d.2.a ∧ DSat F ds fs
  | _, _ => False
theorem DSat.mono {F F' : Hp} (s : Same F F') : ∀ {ds : List (Str × Dt)} {fs : List (Str × V)}, DSat F ds fs → DSat F' ds fs
  | [], [], _ => trivial
  | d :: ds, f :: fs, ⟨h1, h2, h3⟩ => ⟨h1, d.2.R.mono s h2, DSat.mono s h3⟩
  | [], _ :: _, h => h.elim
  | _ :: _, [], h => h.elim
theorem DSat.look {F : Hp} {f : Str} {d : Dt} : ∀ {ds : List (Str × Dt)} {fs : List (Str × V)}, DSat F ds fs → ds.lookup f = some d → ∃ v, fs.lookup f = some v ∧ d.R.rel F v d.a
  | [], [], _, h => by cases h
  | (g, e) :: ds, (g2, v) :: fs, ⟨h1, h2, h3⟩, h => by
    have h1' : g = g2 := h1
    subst h1'
    rw [List.lookup_cons] at h ⊢
    cases hb : f == g with
    | true =>
      rw [hb] at h
      cases h
      exact ⟨v, rfl, h2⟩
    | false =>
      rw [hb] at h
      exact DSat.look h3 h
  | [], _ :: _, h, _ => h.elim
  | _ :: _, [], h, _ => h.elim
theorem DSat.len {F : Hp} : ∀ {ds : List (Str × Dt)} {fs : List (Str × V)}, DSat F ds fs → fs.length = ds.length
  | [], [], _ => rfl
  | _ :: ds, _ :: fs, ⟨_, _, h3⟩ => congrArg (· + 1) (DSat.len h3)
  | [], _ :: _, h => h.elim
  | _ :: _, [], h => h.elim
theorem DSat.put {F : Hp} {f : Str} {d : Dt} {v : V} (r : d.R.rel F v d.a) : ∀ {ds : List (Str × Dt)} {fs : List (Str × V)}, DSat F ds fs → (ds.all fun q => !(q.1 == f)) = true → DSat F (ds ++ [(f, d)]) (putF f v fs)
  | [], [], _, _ => ⟨rfl, r, trivial⟩
  | (g, e) :: ds, (g2, u) :: fs, ⟨h1, h2, h3⟩, h => by
    have h1' : g = g2 := h1
    subst h1'
    rw [List.all_cons, Bool.and_eq_true] at h
    have hne : ¬ g = f := fun z => by
      have h4 := h.1
      rw [z] at h4
      simp at h4
    show DSat F ((g, e) :: (ds ++ [(f, d)])) (if g = f then (g, v) :: fs else (g, u) :: putF f v fs)
    rw [if_neg hne]
    exact ⟨rfl, h2, DSat.put r h3 h.2⟩
  | [], _ :: _, h, _ => h.elim
  | _ :: _, [], h, _ => h.elim
/-- an instance, its attributes data -/
def RIns (C : Addr) (fl : α → List (Str × Dt)) : Rp α := ⟨fun F v m => ∃ a dx fs, v = .ref a ∧ F a = some (.ins C dx fs) ∧ F dx = some (.own a) ∧ DSat F (fl m) fs, fun s ⟨a, dx, fs, e, h1, h2, h3⟩ => ⟨a, dx, fs, e, s _ _ h1, s _ _ h2, h3.mono s⟩⟩
theorem ex_fldD {C : Addr} {fl : α → List (Str × Dt)} {f : Str} {d : Dt} (c : Cls X.K C) (n : NoAttr X.K C f) (ho : EX X o Γ (.dat (RIns C fl) x)) (hl : (fl x).lookup f = some d) (hb : attributeBase o f X.env (eval o X.env) = eval o X.env := by rfl) : EX X (.Attribute o f pos) Γ (.dat d.R d.a) :=
  ex_fld ho (fun F H v s r => by
    obtain ⟨a, dx, fs, rfl, h1, h2, h3⟩ := sat_dat r
    obtain ⟨u, e, ru⟩ := h3.look hl
    exact ⟨a, C, dx, fs, u, rfl, s _ _ h1, c, n, e, dat_sat ru⟩) hb
/-- an instance of one's own -/
def insO (C A dx : Addr) (hd : [A, dx].Nodup) (ds : List (Str × Dt)) : OwnP where
  foot := [A, dx]
  val := .ref A
  holds := fun F H => ∃ fs, H A = some (.ins C dx fs) ∧ H dx = some (.own A) ∧ DSat F ds fs
  stable := fun ⟨fs, h1, h2, h3⟩ s h => ⟨fs, by rw [h A (by simp)]; exact h1, by rw [h dx (by simp)]; exact h2, h3.mono s⟩
  there := fun ⟨fs, h1, h2, h3⟩ b hb => by
    rcases List.mem_cons.mp hb with rfl | hb
    · exact ne_none_of h1
    · have : b = dx := by simpa using hb
      subst this
      exact ne_none_of h2
  nd := hd
/-- self.f = e, self one's own at k -/
theorem r1_fld (k : Nat) {C A dx : Addr} {hd : [A, dx].Nodup} {ds : List (Str × Dt)} {f nm : Str} {p1 p2 : Pos} (c : Cls X.K C) (n : NoAttr X.K C f) (h0 : gtS Γ k = .own (insO C A dx hd ds)) (he : EX X e Γ (.dat R x)) (hnew : (ds.all fun q => !(q.1 == f)) = true) (hz : ds.length < 1000) (h : T.nx (stS Γ k (.own (insO C A dx hd (ds ++ [(f, ⟨R, x⟩)])))))
    (hN : X.N[k]? = some nm := by rfl) (hv : Vis X.env.scope nm := by first | exact Or.inl rfl | exact Or.inr (Or.inl rfl) | exact Or.inr (Or.inr rfl)) (hdb : (nm == ("__debug__" : Str)) = false := by decide) (hcd : (nm == ("__classdict__" : Str)) = false := by decide)
    (hs : swapsWith e (some (.Attribute (.Name nm p1) f p2)) pos.line X.env = pure false := by rfl) : R1 X S H0 (.Assign [.Attribute (.Name nm p1) f p2] e pos) Γ T := fun F0 σ F H l => by
  refine PS.wp (ps_fld (pe_var (i := k) hN hv hdb hcd) pe_wp hs) (he σ F H l.wd _ fun v F1 H1 g1 r1 => ?_)
  have l1 := l.grow g1
  obtain ⟨e1, ⟨fs, h1, h2, h3⟩, hn⟩ := l1.wd.sat.own h0
  have hne : dx ≠ A := fun z => by subst z; simp at hd
  refine ⟨.ref A, e1, A, C, dx, fs, rfl, h1, c, n, by rw [h3.len]; exact hz, F1, _, l1.chg (P' := insO C A dx hd (ds ++ [(f, ⟨R, x⟩)])) h0 (by simp [insO]) rfl rfl ?_, h⟩
  exact ⟨_, upd_same, by rw [upd_ne hne]; exact h2, DSat.put (sat_dat r1) h3 hnew⟩
/-! ### dicts with texts for keys -/
def kT (k : List Nat) : Key := .inr ⟨k.toArray⟩
theorem kT_inj {k m : List Nat} (h : kT k = kT m) : k = m := by
  unfold kT at h
  injection h with h
  injection h with h
  injection h
def PD1 (R : Rp α) (F : Hp) (p : Key × V) (q : List Nat × α) : Prop := p.1 = kT q.1 ∧ R.rel F p.2 q.2
theorem pd_mono (s : Same F F') : ∀ {kvs : List (Key × V)} {m : List (List Nat × α)}, Paired (PD1 R F) kvs m → Paired (PD1 R F') kvs m
  | _, _, .nil => .nil
  | _, _, .cons r t => .cons ⟨r.1, R.mono s r.2⟩ (pd_mono s t)
def RD (R : Rp α) : Rp (List (List Nat × α)) := ⟨fun F v m => ∃ d kvs, v = .ref d ∧ F d = some (.dK kvs) ∧ Paired (PD1 R F) kvs m, fun s ⟨d, kvs, e, h, pr⟩ => ⟨d, kvs, e, s _ _ h, pd_mono s pr⟩⟩
theorem pd_some {k : List Nat} : ∀ {kvs : List (Key × V)} {m : List (List Nat × α)}, Paired (PD1 R F) kvs m → m.lookup k = some x → ∃ v, valV kvs (kT k) = some v ∧ R.rel F v x
  | _, _, .nil, h => by cases h
  | (k1, v1) :: kvs, (k2, x2) :: m, .cons r t, h => by
    rw [List.lookup_cons] at h
    have hk : k1 = kT k2 := r.1
    by_cases e : k = k2
    · subst e
      rw [show (k == k) = true from beq_self_eq_true k] at h
      cases h
      exact ⟨v1, valV_pos hk, r.2⟩
    · rw [show (k == k2) = false from beq_eq_false_iff_ne.mpr e] at h
      obtain ⟨v, hv, rv⟩ := pd_some t h
      exact ⟨v, by rw [valV_neg (fun z => e (kT_inj (hk.symm.trans z)).symm)]; exact hv, rv⟩
theorem pd_none {k : List Nat} : ∀ {kvs : List (Key × V)} {m : List (List Nat × α)}, Paired (PD1 R F) kvs m → m.lookup k = none → valV kvs (kT k) = none
  | _, _, .nil, h => valV_nil
  | (k1, v1) :: kvs, (k2, x2) :: m, .cons r t, h => by
    rw [List.lookup_cons] at h
    have hk : k1 = kT k2 := r.1
    by_cases e : k = k2
    · subst e
      rw [show (k == k) = true from beq_self_eq_true k] at h
      cases h
    · rw [show (k == k2) = false from beq_eq_false_iff_ne.mpr e] at h
      rw [valV_neg (fun z => e (kT_inj (hk.symm.trans z)).symm)]
      exact pd_none t h
theorem Paired.snoc' {ρ τ : Type} {P : ρ → τ → Prop} {a : ρ} {b : τ} : ∀ {l : List ρ} {m : List τ}, Paired P l m → P a b → Paired P (l ++ [a]) (m ++ [b])
  | _, _, .nil, h => .cons h .nil
  | _, _, .cons r t, h => .cons r (Paired.snoc' t h)
theorem ex_dget {m : List (List Nat × α)} {k : List Nat} (hu : X.A.units + 1 < cLine) (ho : EX X o Γ (.dat (RD R) m)) (hk : EX X b Γ (.dat RTx k)) (h : m.lookup k = some x) (hs : NoSl b := by exact fun _ _ => rfl) : EX X (.Subscript o b pos) Γ (.dat R x) := fun σ F H w Q q =>
  PE.wp (pe_dget hu pe_wp pe_wp hs) (ho σ F H w _ fun v F1 H1 g1 r1 => hk σ F1 H1 (w.grow g1) _ fun v2 F2 H2 g2 r2 => by
    obtain ⟨d, kvs, rfl, e, pr⟩ := (RD R).mono g2.fz (sat_dat r1)
    obtain ⟨rfl, _⟩ := sat_dat r2
    obtain ⟨u, hu2, ru⟩ := pd_some pr h
    exact ⟨d, u, rfl, by rw [← hu2]; exact DGet.k (k := kT k) (g2.sub _ _ e), q u F2 H2 (g1.trans g2) (dat_sat ru)⟩)
/-- a walk of any kind, a dict made -/
theorem dc_it {J : It} {n : Nat} {G : Hp → Prop} {Y : Nat → Hp → V → Hp → Prop} (w : Walk J n G Y) {g : TG} {tt : TT} {tk tv : TE} {vs : List Nat} {σ : L2.St} {H1 : Hp} {D : Addr} {Qd : Hp → Prop} (Pv : Nat → Hp → Prop) (h0 : Pv 0 (upd H1 D (.dK []))) (hG : ∀ i H, i ≤ n → Pv i H → G H)
    (hs : ∀ i x H H', i < n → Pv i H → Y i H x H' → g x (wipe σ vs) H' fun σ2 H2 => wipe σ2 vs = wipe σ vs ∧ tt σ2 H2 fun b H3 =>
      if b = true then tk σ2 H3 fun y H4 => tv σ2 H4 fun z H5 => ∃ kvs k, y = kV k ∧ H5 D = some (.dK kvs) ∧ kvs.length < sizeLine ∧ Pv (i + 1) (upd H5 D (.dK (putK kvs k z))) else Pv (i + 1) H3) (hd : ∀ H, Pv n H → Qd H) :
    ∃ W : Nat → Nat → Hp → Prop, (∃ m, W 0 m (upd H1 D (.dK []))) ∧ ∀ i m H, W i m H →
      (J.stop i H ∧ Qd H) ∨ (J.go i H ∧ ∃ Nx : Hp → Prop, (∀ H', Nx H' → ∃ m', m' < m ∧ W (i + 1) m' H') ∧ ∀ x H', J.yld i H x H' → g x (wipe σ vs) H' fun σ2 H2 => wipe σ2 vs = wipe σ vs ∧ tt σ2 H2 fun b H3 =>
        if b = true then tk σ2 H3 fun y H4 => tv σ2 H4 fun z H5 => ∃ kvs k, y = kV k ∧ H5 D = some (.dK kvs) ∧ kvs.length < sizeLine ∧ Nx (upd H5 D (.dK (putK kvs k z))) else Nx H3) := by
  refine ⟨fun i m H => m = n - i ∧ i ≤ n ∧ Pv i H, ⟨n, by simp, Nat.zero_le _, h0⟩, ?_⟩
  rintro i m H ⟨rfl, hi, p⟩
  have q := hG i H hi p
  by_cases hlt : i < n
  · refine .inr ⟨w.goes i H hlt q, Pv (i + 1), fun H' p' => ⟨n - (i + 1), by omega, rfl, hlt, p'⟩, fun x H' y => hs i x H H' hlt p (w.yields i H x H' hlt q y)⟩
  · have e : i = n := by omega
    subst e
    exact .inl ⟨w.stops H q, hd H p⟩
theorem lookup_map_none {f : α → List Nat} {g : α → β} {k : List Nat} : ∀ {l : List α}, (∀ a ∈ l, f a ≠ k) → (l.map fun a => (f a, g a)).lookup k = none
  | [], _ => rfl
  | a :: l, h => by
    rw [List.map_cons, List.lookup_cons, show (k == f a) = false from beq_eq_false_iff_ne.mpr (Ne.symm (h a List.mem_cons_self))]
    exact lookup_map_none fun b hb => h b (List.mem_cons_of_mem _ hb)
/-- {k: v for x in ..}, the keys unlike texts -/
theorem ex_dc {scope : Scope} (own : List (Str × Nat)) {kx vx : Expr} {l : List α} {Γi : α → List Sl} {f : α → List Nat} {g0 : α → β} (it : IT X tg iter Γ R l) (ok : BlkOk X.N X.env.scope scope own)
    (hg : ∀ a ∈ l, InB X scope fun X' => GT X' tg is (.dat R a) (wpS Γ (own.map (·.2))) (Γi a)) (hk : ∀ a ∈ l, InB X scope fun X' => EX X' kx (Γi a) (.dat RTx (f a))) (he : ∀ a ∈ l, InB X scope fun X' => EX X' vx (Γi a) (.dat R' (g0 a))) (hnd : (l.map f).Nodup)
    (hs : ∀ i ∈ is, i ∈ own.map (·.2) := by decide) (hN : X.N.Nodup := by assumption) (hc : X.calm = true := by rfl) (hs2 : ∀ x, foldedSetIterable iter X.env x = pure x := by intro _; rfl) :
    EX X (.DictComp kx vx [⟨tg, iter, [], 0⟩] scope pos) Γ (.dat (RD R') (l.map fun a => (f a, g0 a))) := fun σ F H w0 Q q => by
  obtain ⟨wi, hi, hr⟩ := it
  refine PE.wp (pe_dc hc hN hi ok gAll_pg (fun _ _ _ _ _ => pts_nil) eAll_pe eAll_pe hs2) ?_
  refine hr σ F H w0 _ fun J F' H' G Y g hz wt D hD => ?_
  refine dc_it wt.w (fun i H2 => ∃ F2 kvs, Gr F' H' F2 H2 ∧ F2 D = none ∧ H2 D = some (.dK kvs) ∧ Paired (PD1 R' F2) kvs ((l.take i).map fun a => (f a, g0 a))) ?_ ?_ ?_ ?_
  · exact ⟨F', [], Gr.mut g.sub hD, g.sub.free hD, upd_same, by rw [List.take_zero]; exact .nil⟩
  · rintro i H2 _ ⟨F2, acc, g2, _, _, _⟩
    exact wt.g F2 H2 g2.fz g2.sub trivial
  · rintro i x H2 H3 hi ⟨F2, kvs, g2, hn, hd, pr⟩ hy
    obtain ⟨a, F3, ha, g3, ra⟩ := wt.y i x F2 H2 H3 g2.fz g2.sub hi hy
    have hm : a ∈ l := List.mem_of_getElem? ha
    have gT : Gr F H F3 H3 := (g.trans g2).trans g3
    intro s0 H0 C cl fp
    refine hg a hm s0 H0 C cl fp (wipe σ (own.map (·.2))) F3 H3 x (wd_wipe (w0.grow gT) _) (dat_sat ra) _ fun σ2 w2 st => ?_
    refine ⟨wipe_stored st hs, ?_⟩
    unfold tYes
    dsimp only
    rw [if_pos rfl]
    intro s0 H0 C cl fp
    refine hk a hm s0 H0 C cl fp σ2 F3 H3 w2 _ fun v F4 H4 g4 r4 => ?_
    intro s0 H0 C cl fp
    refine he a hm s0 H0 C cl fp σ2 F4 H4 (w2.grow g4) _ fun v5 F5 H5 g5 r5 => ?_
    have g35 : Gr F2 H2 F5 H5 := (g3.trans g4).trans g5
    have hD5 : H5 D = some (.dK kvs) := g35.hp D _ hd
    obtain ⟨rfl, _⟩ := sat_dat r4
    have hl : kvs.length = i := by
      rw [Paired.length pr, List.length_map, List.length_take]
      omega
    have hnone : valV kvs (kT (f a)) = none := by
      refine pd_none pr (lookup_map_none fun a2 ha2 e => ?_)
      obtain ⟨j, hj⟩ := List.getElem?_of_mem ha2
      have hj2 : j < i := by
        have := (List.getElem?_eq_some_iff.mp hj).1
        rw [List.length_take] at this
        omega
      rw [List.getElem?_take_of_lt hj2] at hj
      have e1 : (l.map f)[j]? = some (f a2) := by rw [List.getElem?_map, hj]; rfl
      have e2 : (l.map f)[i]? = some (f a) := by rw [List.getElem?_map, ha]; rfl
      rw [← e] at e2
      have hjl : j < (l.map f).length := (List.getElem?_eq_some_iff.mp e1).1
      obtain ⟨hil, e3⟩ := List.getElem?_eq_some_iff.mp e2
      obtain ⟨_, e4⟩ := List.getElem?_eq_some_iff.mp e1
      exact List.pairwise_iff_getElem.mp hnd j i hjl hil hj2 (e4.trans e3.symm)
    refine ⟨kvs, kT (f a), rfl, hD5, by omega, F5, kvs ++ [(kT (f a), v5)], ?_, g35.new D hn (ne_none_of hd), ?_, ?_⟩
    · exact (g2.trans g35).write (g35.new D hn (ne_none_of hd)) (.inr hD)
    · rw [upd_same, putK_new _ hnone]
    · rw [List.take_add_one, ha, List.map_append]
      exact Paired.snoc' (pd_mono g35.fz pr) ⟨rfl, sat_dat r5⟩
  · rintro H2 ⟨F2, kvs, g2, hn, hd, pr⟩
    have g3 := g2.freeze hD hd hn
    have s23 : Same F2 (upd F2 D (.dK kvs)) := fun b u e => by rw [upd_ne (ne_of_none e hn)]; exact e
    rw [List.take_length] at pr
    exact q _ _ _ (g.trans g3) (dat_sat ⟨D, kvs, rfl, upd_same, pd_mono s23 pr⟩)
end
end TL

/-! part PD1 -/
set_option exponentiation.threshold 256 -- PD1
set_option maxHeartbeats 200000 -- PD1
set_option maxRecDepth 100000 -- PD1
/-! PD1: numbers.py and rows.py. -/
namespace PD
open PySem PySem.Spec L2 TL KHd MA
variable {P : Program} {w : World} {K : PySem.W.Frag} {mg : Str → Option Value} {base : Heap}
/-! ### lowest -/
theorem sc_lowest : FnScope ["above", "below", "common"] ["above", "below"] (defScope s_lowest) := ⟨rfl, rfl, rfl, by decide +kernel, rfl, by decide +kernel, by decide +kernel⟩
def tb_lowest : List Sl → Sl → Prop := fun args res => ∃ a b : Int, args = [sI a, sI b] ∧ b ≠ 0 ∧ Sm a ∧ Sm b ∧ res = .dat RQ (Rat.divInt a b)
theorem ok_lowest (T : TX K mg) : Dn P w K mg base 1 "lowest" ["above", "below"] tb_lowest := by
  obtain ⟨fd, F⟩ := T.u_lowest
  refine ⟨_, fd, fn_pure (N := ["above", "below", "common"]) F sc_lowest ?_ ?_, F.bindsN fun _ _ _ _ _ _ us hl => match us, hl with | [_, _], _ => rfl, T.g_lowest, F.kp⟩
  · rintro args res ⟨a, b, rfl, _⟩
    exact ⟨rfl, rfl⟩
  · rintro cdv A outer s H E args res hr ⟨a, b, rfl, hb, ha, hb2, rfl⟩
    have hN := sc_lowest.nd
    have hne := lowC_ne (a := a) hb
    show RS _ _ _ _ [sI a, sI b, .any] _
    refine rs_cons (r1_set 2 (ex_gcd T.b_gcd (ex_var 0 rfl) (ex_var 1 rfl)) ?_)
    refine rs_cons (r1_if (et_lt (ex_var 1 rfl) ex_int) (fun h => ?_) (fun h => ?_))
    · have e : -((Nat.gcd a.natAbs b.natAbs : Nat) : Int) = lowC a b := (if_pos (of_decide_eq_true h)).symm
      refine rs_one (r1_set 2 (ex_to (ex_neg (ex_var 2 rfl)) (congrArg sI e)) ?_)
      exact rs_one (r1_ret (ex_conv (ex_tup2 (ex_fdiv (ex_var 0 rfl) (ex_var 2 rfl) (sm_div ha hne)) (ex_fdiv (ex_var 1 rfl) (ex_var 2 rfl) (sm_div hb2 hne))) (fun F v r => by rw [low_num hb, low_den hb] at r; exact r)) rfl)
    · have e : ((Nat.gcd a.natAbs b.natAbs : Nat) : Int) = lowC a b := (if_neg (of_decide_eq_false h)).symm
      refine rs_nil ?_
      show RS _ _ _ _ [sI a, sI b, sI ((Nat.gcd a.natAbs b.natAbs : Nat) : Int)] _
      rw [e]
      exact rs_one (r1_ret (ex_conv (ex_tup2 (ex_fdiv (ex_var 0 rfl) (ex_var 2 rfl) (sm_div ha hne)) (ex_fdiv (ex_var 1 rfl) (ex_var 2 rfl) (sm_div hb2 hne))) (fun F v r => by rw [low_num hb, low_den hb] at r; exact r)) rfl)
/-! ### is_number, checked -/
theorem sc_isnum : FnScope ["value", "above", "below"] ["value"] (defScope s_is_number) := ⟨rfl, rfl, rfl, by decide +kernel, rfl, by decide +kernel, by decide +kernel⟩
def tb_isnum : List Sl → Sl → Prop := fun args res => ∃ q : Rat, args = [.dat RQ q] ∧ res = sB true
theorem isnum_true (q : Rat) : (decide ((1 : Int) ≤ (q.den : Int)) && decide (((Nat.gcd q.num.natAbs (q.den : Int).natAbs : Nat) : Int) = 1)) = true := by
  have h1 := q.den_nz
  have h2 : Nat.gcd q.num.natAbs (q.den : Int).natAbs = 1 := by rw [Int.natAbs_natCast]; exact q.reduced
  rw [h2]
  simp
  omega
theorem ok_is_number (T : TX K mg) : Dn P w K mg base 1 "is_number" ["value"] tb_isnum := by
  obtain ⟨fd, F⟩ := T.u_is_number
  refine ⟨_, fd, fn_pure (N := ["value", "above", "below"]) F sc_isnum ?_ ?_, F.bindsN fun _ _ _ _ _ _ us hl => match us, hl with | [_], _ => rfl, T.g_is_number, F.kp⟩
  · rintro args res ⟨a, rfl, _⟩
    exact ⟨rfl, rfl⟩
  · rintro cdv A outer s H E args res hr ⟨q, rfl, rfl⟩
    have hN := sc_isnum.nd
    show RS _ _ _ _ [.dat RQ q, .any, .any] _
    refine rs_cons (r1_asg (ex_var 0 rfl) (gt_q (gts_cons (gt_name 1) (gts_cons (gt_name 2) gts_nil))) ?_)
    exact rs_one (r1_ret (ex_to (ex_and2 (ex_ge (ex_var 2 rfl) ex_int) fun _ => ex_eq (ex_gcd T.b_gcd (ex_var 1 rfl) (ex_var 2 rfl)) ex_int) (congrArg sB (isnum_true q))) rfl)
theorem sc_checked : FnScope ["value"] ["value"] (defScope s_checked) := ⟨rfl, rfl, rfl, by decide +kernel, rfl, by decide +kernel, by decide +kernel⟩
def tb_checked : List Sl → Sl → Prop := fun args res => ∃ q : Rat, args = [.dat RQ q] ∧ res = .dat RQ q
theorem ok_checked (T : TX K mg) : Dn P w K mg base 2 "checked" ["value"] tb_checked := by
  obtain ⟨fd, F⟩ := T.u_checked
  refine ⟨_, fd, fn_pure (N := ["value"]) F sc_checked ?_ ?_, F.bindsN fun _ _ _ _ _ _ us hl => match us, hl with | [_], _ => rfl, T.g_checked, F.kp⟩
  · rintro args res ⟨a, rfl, _⟩
    exact ⟨rfl, rfl⟩
  · rintro cdv A outer s H E args res hr ⟨q, rfl, rfl⟩
    have hN := sc_checked.nd
    show RS _ _ _ _ [.dat RQ q] _
    refine rs_cons (r1_if (et_not (et_val (ex_call (ok_is_number T) hr (ea_cons (ex_var 0 rfl) ea_nil) ⟨q, rfl, rfl⟩))) (fun h => nomatch h) (fun _ => rs_nil ?_))
    exact rs_one (r1_ret (ex_var 0 rfl) rfl)
/-! ### sum_of, product_of -/
theorem sc_sum_of : FnScope ["one", "other"] ["one", "other"] (defScope s_sum_of) := ⟨rfl, rfl, rfl, by decide +kernel, rfl, by decide +kernel, by decide +kernel⟩
theorem sc_product_of : FnScope ["one", "other"] ["one", "other"] (defScope s_product_of) := ⟨rfl, rfl, rfl, by decide +kernel, rfl, by decide +kernel, by decide +kernel⟩
/-- half as small -/
abbrev Hq (q : Rat) : Prop := Bq 6700 q
def tb_sum_of : List Sl → Sl → Prop := fun args res => ∃ q r : Rat, args = [.dat RQ q, .dat RQ r] ∧ Hq q ∧ Hq r ∧ res = .dat RQ (q + r)
def tb_product_of : List Sl → Sl → Prop := fun args res => ∃ q r : Rat, args = [.dat RQ q, .dat RQ r] ∧ Hq q ∧ Hq r ∧ res = .dat RQ (q * r)
theorem den_ne (q : Rat) : (q.den : Int) ≠ 0 := by have := q.den_nz; omega
theorem sum_same {q r : Rat} (h : (q.den : Int) = r.den) : Rat.divInt (q.num + r.num) q.den = q + r := by
  have e : q + r = Rat.divInt q.num q.den + Rat.divInt r.num r.den := by rw [Rat.num_divInt_den, Rat.num_divInt_den]
  rw [e, ← h, Rat.divInt_add_divInt _ _ (den_ne q) (den_ne q), ← Int.add_mul, Rat.divInt_mul_right (den_ne q)]
theorem sum_any (q r : Rat) : Rat.divInt (q.num * r.den + r.num * q.den) (q.den * r.den) = q + r := by
  have e : q + r = Rat.divInt q.num q.den + Rat.divInt r.num r.den := by rw [Rat.num_divInt_den, Rat.num_divInt_den]
  rw [e, Rat.divInt_add_divInt _ _ (den_ne q) (den_ne r)]
theorem prod_any (q r : Rat) : Rat.divInt (q.num * r.num) (q.den * r.den) = q * r := by
  have e : q * r = Rat.divInt q.num q.den * Rat.divInt r.num r.den := by rw [Rat.num_divInt_den, Rat.num_divInt_den]
  rw [e, Rat.divInt_mul_divInt]
theorem ok_sum_of (T : TX K mg) : Dn P w K mg base 2 "sum_of" ["one", "other"] tb_sum_of := by
  obtain ⟨fd, F⟩ := T.u_sum_of
  refine ⟨_, fd, fn_pure (N := ["one", "other"]) F sc_sum_of ?_ ?_, F.bindsN fun _ _ _ _ _ _ us hl => match us, hl with | [_, _], _ => rfl, T.g_sum_of, F.kp⟩
  · rintro args res ⟨a, b, rfl, _⟩
    exact ⟨rfl, rfl⟩
  · rintro cdv A outer s H E args res hr ⟨q, r, rfl, ⟨h1, h2⟩, ⟨h3, h4⟩, rfl⟩
    have hN := sc_sum_of.nd
    show RS _ _ _ _ [.dat RQ q, .dat RQ r] _
    refine rs_cons (r1_if (et_eq (ex_den (ex_var 0 rfl)) (ex_den (ex_var 1 rfl))) (fun h => ?_) (fun h => rs_nil ?_))
    · have e := of_decide_eq_true h
      exact rs_one (r1_ret (ex_to (ex_call (ok_lowest T) hr (ea_cons (ex_add (ex_num (ex_var 0 rfl)) (ex_num (ex_var 1 rfl))) (ea_cons (ex_den (ex_var 0 rfl)) ea_nil)) ⟨_, _, rfl, den_ne q, sm_of (bt_add h1 h3) (by decide), sm_of h2 (by decide), rfl⟩) (congrArg (Sl.dat RQ) (sum_same e))) rfl)
    · exact rs_one (r1_ret (ex_to (ex_call (ok_lowest T) hr (ea_cons (ex_add (ex_mul (ex_num (ex_var 0 rfl)) (ex_den (ex_var 1 rfl)) (bt_cmul h1 h4 (by decide))) (ex_mul (ex_num (ex_var 1 rfl)) (ex_den (ex_var 0 rfl)) (bt_cmul h3 h2 (by decide)))) (ea_cons (ex_mul (ex_den (ex_var 0 rfl)) (ex_den (ex_var 1 rfl)) (bt_cmul h2 h4 (by decide))) ea_nil))
        ⟨_, _, rfl, Int.mul_ne_zero (den_ne q) (den_ne r), sm_of (bt_add (bt_mul h1 h4) (bt_mul h3 h2)) (by decide), sm_of (bt_mul h2 h4) (by decide), rfl⟩) (congrArg (Sl.dat RQ) (sum_any q r))) rfl)
theorem ok_product_of (T : TX K mg) : Dn P w K mg base 2 "product_of" ["one", "other"] tb_product_of := by
  obtain ⟨fd, F⟩ := T.u_product_of
  refine ⟨_, fd, fn_pure (N := ["one", "other"]) F sc_product_of ?_ ?_, F.bindsN fun _ _ _ _ _ _ us hl => match us, hl with | [_, _], _ => rfl, T.g_product_of, F.kp⟩
  · rintro args res ⟨a, b, rfl, _⟩
    exact ⟨rfl, rfl⟩
  · rintro cdv A outer s H E args res hr ⟨q, r, rfl, ⟨h1, h2⟩, ⟨h3, h4⟩, rfl⟩
    have hN := sc_product_of.nd
    show RS _ _ _ _ [.dat RQ q, .dat RQ r] _
    exact rs_one (r1_ret (ex_to (ex_call (ok_lowest T) hr (ea_cons (ex_mul (ex_num (ex_var 0 rfl)) (ex_num (ex_var 1 rfl)) (bt_cmul h1 h3 (by decide))) (ea_cons (ex_mul (ex_den (ex_var 0 rfl)) (ex_den (ex_var 1 rfl)) (bt_cmul h2 h4 (by decide))) ea_nil))
        ⟨_, _, rfl, Int.mul_ne_zero (den_ne q) (den_ne r), sm_of (bt_mul h1 h3) (by decide), sm_of (bt_mul h2 h4) (by decide), rfl⟩) (congrArg (Sl.dat RQ) (prod_any q r))) rfl)
/-! ### integers_of -/
theorem sc_integers_of : FnScope ["row", "below", "number"] ["row"] (defScope s_integers_of) := ⟨rfl, rfl, rfl, by decide +kernel, rfl, by decide +kernel, by decide +kernel⟩
def lcmL (l : List Rat) : Nat := l.foldl (fun b q => Nat.lcm b q.den) 1
def intsL (l : List Rat) : List Int := l.map fun q => q.num * (lcmL l : Int).fdiv q.den
def tb_integers_of : List Sl → Sl → Prop := fun args res => ∃ l : List Rat, args = [sL RQ l] ∧ Sm (lcmL l) ∧ (∀ q ∈ l, Bt 100000 q.num) ∧ res = .dat (RT2 (RL RInt) RInt) (intsL l, (lcmL l : Int))
theorem lcm_dvd_fold : ∀ (l : List Rat) (b : Nat), b ∣ l.foldl (fun b q => Nat.lcm b q.den) b
  | [], b => Nat.dvd_refl b
  | q :: l, b => Nat.dvd_trans (Nat.dvd_lcm_left b q.den) (lcm_dvd_fold l _)
theorem lcm_pos_fold : ∀ (l : List Rat) (b : Nat), 0 < b → 0 < l.foldl (fun b q => Nat.lcm b q.den) b
  | [], b, h => h
  | q :: l, b, h => lcm_pos_fold l _ (Nat.lcm_pos h (Nat.pos_of_ne_zero q.den_nz))
theorem lcmL_pos (l : List Rat) : 0 < lcmL l := lcm_pos_fold l 1 (by decide)
theorem lcmL_take (l : List Rat) (i : Nat) : lcmL (l.take i) ∣ lcmL l := by
  have : lcmL l = (l.drop i).foldl (fun b q => Nat.lcm b q.den) (lcmL (l.take i)) := by
    unfold lcmL
    rw [← List.foldl_append, List.take_append_drop]
  rw [this]
  exact lcm_dvd_fold _ _
theorem lcmL_succ {l : List Rat} {i : Nat} {q : Rat} (h : l[i]? = some q) : lcmL (l.take (i + 1)) = Nat.lcm (lcmL (l.take i)) q.den := by
  rw [List.take_add_one, h]
  unfold lcmL
  rw [List.foldl_append]
  rfl
theorem lcmL_mem {l : List Rat} {q : Rat} (h : q ∈ l) : q.den ∣ lcmL l := by
  obtain ⟨i, hi⟩ := List.getElem?_of_mem h
  refine Nat.dvd_trans ?_ (lcmL_take l (i + 1))
  rw [lcmL_succ hi]
  exact Nat.dvd_lcm_right _ _
theorem sm_le {a b : Nat} (h : Sm (b : Int)) (hab : a ≤ b) : Sm (a : Int) := by
  unfold Sm at *
  rw [Int.natAbs_natCast] at *
  omega
theorem sm_fdiv {a b : Nat} (h : Sm (a : Int)) : Sm ((a : Int).fdiv b) := by
  unfold Sm at *
  rw [Int.fdiv_eq_ediv_of_nonneg _ (by omega), ← Int.natCast_ediv, Int.natAbs_natCast]
  rw [Int.natAbs_natCast] at h
  exact Nat.lt_of_le_of_lt (Nat.div_le_self _ _) h
theorem ok_integers_of (T : TX K mg) : Dn P w K mg base 1 "integers_of" ["row"] tb_integers_of := by
  obtain ⟨fd, F⟩ := T.u_integers_of
  refine ⟨_, fd, fn_pure (N := ["row", "below", "number"]) F sc_integers_of ?_ ?_, F.bindsN fun _ _ _ _ _ _ us hl => match us, hl with | [_], _ => rfl, T.g_integers_of, F.kp⟩
  · rintro args res ⟨a, rfl, _⟩
    exact ⟨rfl, rfl⟩
  · rintro cdv A outer s H E args res hr ⟨l, rfl, hL, hq, rfl⟩
    have hN := sc_integers_of.nd
    show RS _ _ _ _ [sL RQ l, .any, .any] _
    refine rs_cons (r1_set 1 ex_int ?_)
    refine rs_cons (r1_for (it_list (ex_var 0 rfl)) (fun i Γ => Γ = [sL RQ l, sI (lcmL (l.take i)), .any]) rfl ?_ ?_)
    · rintro i q _ hi rfl
      refine ⟨_, _, gt_name 2, fun _ h => h, ?_⟩
      refine rs_one (r1_set 1 (ex_to (ex_lcm T.b_lcm (ex_var 1 rfl) (ex_den (ex_var 2 rfl)) ?_ ?_) (congrArg sI ?_)) ⟨_, .same (.same (.any .nil)), rfl⟩)
      · exact sm_le hL (Nat.le_of_dvd (lcmL_pos l) (lcmL_take l i))
      · exact sm_le hL (Nat.le_of_dvd (lcmL_pos l) (lcmL_mem (List.mem_of_getElem? hi)))
      · rw [lcmL_succ hi, Int.natAbs_natCast, Int.natAbs_natCast]
    · rintro _ rfl
      rw [List.take_length]
      refine rs_one (r1_ret (ex_tup2 (ex_lc [("number", 2)] (it_list (ex_var 0 rfl)) (blkOk_by rfl) (fun q _ _ _ _ _ _ => gt_name 2)
        (fun q hm _ _ _ _ _ => ex_mul (ex_num (ex_var 2 rfl)) (ex_fdiv (ex_var 1 rfl) (ex_den (ex_var 2 rfl)) (sm_div hL (den_ne q))) ?_)) (ex_var 1 rfl)) rfl)
      exact bt_cmul (hq q hm) (sm_fdiv hL) (by decide)
end PD

/-! part PD2 -/
set_option exponentiation.threshold 256 -- PD2
set_option maxHeartbeats 200000 -- PD2
set_option maxRecDepth 100000 -- PD2
/-! PD2: numbers_of, dot, divided. -/
namespace PD
open PySem PySem.Spec L2 TL KHd MA
variable {P : Program} {w : World} {K : PySem.W.Frag} {mg : Str → Option Value} {base : Heap}
/-! ### numbers_of -/
theorem sc_numbers_of : FnScope ["integers", "below", "integer"] ["integers", "below"] (defScope s_numbers_of) := ⟨rfl, rfl, rfl, by decide +kernel, rfl, by decide +kernel, by decide +kernel⟩
def numsL (l : List Int) (b : Int) : List Rat := l.map fun i => Rat.divInt i b
def tb_numbers_of : List Sl → Sl → Prop := fun args res => ∃ (l : List Int) (b : Int), args = [sL RInt l, sI b] ∧ b ≠ 0 ∧ Sm b ∧ (∀ i ∈ l, Sm i) ∧ res = sL RQ (numsL l b)
theorem ok_numbers_of (T : TX K mg) : Dn P w K mg base 2 "numbers_of" ["integers", "below"] tb_numbers_of := by
  obtain ⟨fd, F⟩ := T.u_numbers_of
  refine ⟨_, fd, fn_pure (N := ["integers", "below", "integer"]) F sc_numbers_of ?_ ?_, F.bindsN fun _ _ _ _ _ _ us hl => match us, hl with | [_, _], _ => rfl, T.g_numbers_of, F.kp⟩
  · rintro args res ⟨a, b, rfl, _⟩
    exact ⟨rfl, rfl⟩
  · rintro cdv A outer s H E args res hr ⟨l, b, rfl, hb, hb2, hl, rfl⟩
    have hN := sc_numbers_of.nd
    show RS _ _ _ _ [sL RInt l, sI b, .any] _
    exact rs_one (r1_ret (ex_lc [("integer", 2)] (it_list (ex_var 0 rfl)) (blkOk_by rfl) (fun i _ _ _ _ _ _ => gt_name 2)
      (fun i hm _ _ _ _ _ => ex_call (ok_lowest T) hr (ea_cons (ex_var 2 rfl) (ea_cons (ex_var 1 rfl) ea_nil)) ⟨i, b, rfl, hb, hl i hm, hb2, rfl⟩)) rfl)
/-! ### dot -/
theorem sc_dot : FnScope ["one", "other", "found", "left", "right"] ["one", "other"] (defScope s_dot) := ⟨rfl, rfl, rfl, by decide +kernel, rfl, by decide +kernel, by decide +kernel⟩
def dotP (ps : List (Rat × Rat)) : Rat := ps.foldl (fun a p => a + p.1 * p.2) 0
def dotQ (l m : List Rat) : Rat := dotP (l.zip m)
theorem dotP_succ {ps : List (Rat × Rat)} {i : Nat} {p : Rat × Rat} (h : ps[i]? = some p) : dotP (ps.take (i + 1)) = dotP (ps.take i) + p.1 * p.2 := by
  rw [List.take_add_one, h]
  unfold dotP
  rw [List.foldl_append]
  rfl
def tb_dot : List Sl → Sl → Prop := fun args res => ∃ l m : List Rat, args = [sL RQ l, sL RQ m] ∧ (∀ i, Hq (dotP ((l.zip m).take i))) ∧ (∀ p ∈ l.zip m, Hq p.1 ∧ Hq p.2 ∧ Hq (p.1 * p.2)) ∧ res = .dat RQ (dotQ l m)
theorem num_zero {q : Rat} (h : q.num = 0) : q = 0 := by
  rw [← Rat.num_divInt_den q, h, Rat.zero_divInt]
theorem ok_dot (T : TX K mg) : Dn P w K mg base 3 "dot" ["one", "other"] tb_dot := by
  obtain ⟨fd, F⟩ := T.u_dot
  refine ⟨_, fd, fn_pure (N := ["one", "other", "found", "left", "right"]) F sc_dot ?_ ?_, F.bindsN fun _ _ _ _ _ _ us hl => match us, hl with | [_, _], _ => rfl, T.g_dot, F.kp⟩
  · rintro args res ⟨a, b, rfl, _⟩
    exact ⟨rfl, rfl⟩
  · rintro cdv A outer s H E args res hr ⟨l, m, rfl, hs, hp, rfl⟩
    have hN := sc_dot.nd
    show RS _ _ _ _ [sL RQ l, sL RQ m, .any, .any, .any] _
    refine rs_cons (r1_set (sl := .dat RQ 0) 2 (ex_conv (ex_tup2 ex_int ex_int) fun F v r => r) ?_)
    refine rs_cons (r1_for (it_zip (ex_var 0 rfl) (ex_var 1 rfl) T.f_zip) (fun i Γ => Γ = [sL RQ l, sL RQ m, .dat RQ (dotP ((l.zip m).take i)), .any, .any]) rfl ?_ ?_)
    · rintro i ⟨a, b⟩ _ hi rfl
      refine ⟨_, _, gt_tup2 (gts_cons (gt_name 3) (gts_cons (gt_name 4) gts_nil)), fun _ h => h, ?_⟩
      have hm := hp _ (List.mem_of_getElem? hi)
      refine rs_one (r1_if (et_and (et_ne (ex_num (ex_var 3 rfl)) ex_int) fun _ => et_ne (ex_num (ex_var 4 rfl)) ex_int) (fun h => ?_) (fun h => ?_))
      · exact rs_one (r1_set 2 (ex_call (ok_sum_of T) hr (ea_cons (ex_var 2 rfl) (ea_cons (ex_call (ok_product_of T) hr (ea_cons (ex_var 3 rfl) (ea_cons (ex_var 4 rfl) ea_nil)) ⟨a, b, rfl, hm.1, hm.2.1, rfl⟩) ea_nil)) ⟨_, _, rfl, hs i, hm.2.2, rfl⟩)
          ⟨_, .same (.same (.same (.any (.any .nil)))), by rw [dotP_succ hi]⟩)
      · refine rs_nil ⟨_, .same (.same (.same (.any (.any .nil)))), ?_⟩
        have e : a * b = 0 := by
          by_cases ha : a.num = 0
          · rw [num_zero ha, Rat.zero_mul]
          · by_cases hb : b.num = 0
            · rw [num_zero hb, Rat.mul_zero]
            · rw [decide_eq_false ha, decide_eq_false hb] at h
              cases h
        rw [dotP_succ hi]
        show _ = [sL RQ l, sL RQ m, .dat RQ (dotP ((l.zip m).take i) + a * b), .any, .any]
        rw [e, Rat.add_zero]
    · rintro _ rfl
      rw [List.take_length]
      exact rs_one (r1_ret (ex_var 2 rfl) rfl)
/-! ### divided -/
theorem sc_divided : FnScope ["integers", "own", "shares", "common", "integer", "share"] ["integers", "own", "shares"] (defScope s_divided) := ⟨rfl, rfl, rfl, by decide +kernel, rfl, by decide +kernel, by decide +kernel⟩
def gcdL (a : Nat) (l : List Int) : Nat := l.foldl (fun g x => Nat.gcd g x.natAbs) a
def dvd3 (p : List Int × Int × List Int) : List Int × Int × List Int :=
  (p.1.map fun x => x.fdiv (gcdL p.2.1.natAbs (p.1 ++ p.2.2)), p.2.1.fdiv (gcdL p.2.1.natAbs (p.1 ++ p.2.2)), p.2.2.map fun x => x.fdiv (gcdL p.2.1.natAbs (p.1 ++ p.2.2)))
theorem gcdL_dvd : ∀ (l : List Int) (a : Nat), gcdL a l ∣ a
  | [], a => Nat.dvd_refl a
  | x :: l, a => Nat.dvd_trans (gcdL_dvd l _) (Nat.gcd_dvd_left a x.natAbs)
theorem gcdL_take (a : Nat) (l : List Int) (i : Nat) : gcdL a l ∣ gcdL a (l.take i) := by
  have : gcdL a l = gcdL (gcdL a (l.take i)) (l.drop i) := by
    unfold gcdL
    rw [← List.foldl_append, List.take_append_drop]
  rw [this]
  exact gcdL_dvd _ _
theorem gcdL_succ {a : Nat} {l : List Int} {i : Nat} {x : Int} (h : l[i]? = some x) : gcdL a (l.take (i + 1)) = Nat.gcd (gcdL a (l.take i)) x.natAbs := by
  rw [List.take_add_one, h]
  unfold gcdL
  rw [List.foldl_append]
  rfl
theorem gcdL_pos {a : Nat} (l : List Int) (h : 0 < a) : 0 < gcdL a l := Nat.pos_of_dvd_of_pos (gcdL_dvd l a) h
theorem dvd3_one {p : List Int × Int × List Int} (h : gcdL p.2.1.natAbs (p.1 ++ p.2.2) = 1) : dvd3 p = p := by
  unfold dvd3
  rw [h]
  have e : (fun x : Int => x.fdiv ((1 : Nat) : Int)) = id := funext fun x => Int.fdiv_one x
  rw [e, List.map_id, List.map_id]
  show (_, p.2.1.fdiv ((1 : Nat) : Int), _) = _
  rw [show p.2.1.fdiv ((1 : Nat) : Int) = p.2.1 from Int.fdiv_one _]
abbrev R3 : Rp (List Int × Int × List Int) := RT3 (RL RInt) RInt (RL RInt)
def tb_divided : List Sl → Sl → Prop := fun args res => ∃ (is : List Int) (o : Int) (ss : List Int), args = [sL RInt is, sI o, sL RInt ss] ∧ o ≠ 0 ∧ Sm o ∧ (∀ x ∈ is, Sm x) ∧ (∀ x ∈ ss, Sm x) ∧ is.length + ss.length ≤ sizeLine ∧ res = .dat R3 (dvd3 (is, o, ss))
theorem ok_divided (T : TX K mg) : Dn P w K mg base 1 "divided" ["integers", "own", "shares"] tb_divided := by
  obtain ⟨fd, F⟩ := T.u_divided
  refine ⟨_, fd, fn_pure (N := ["integers", "own", "shares", "common", "integer", "share"]) F sc_divided ?_ ?_, F.bindsN fun _ _ _ _ _ _ us hl => match us, hl with | [_, _, _], _ => rfl, T.g_divided, F.kp⟩
  · rintro args res ⟨_, _, _, rfl, _⟩
    exact ⟨rfl, rfl⟩
  · rintro cdv A outer s H E args res hr ⟨is, o, ss, rfl, ho, ho2, hi, hs, hz, rfl⟩
    have hN := sc_divided.nd
    have hp : 0 < gcdL o.natAbs (is ++ ss) := gcdL_pos _ (Int.natAbs_pos.mpr ho)
    have hne : ((gcdL o.natAbs (is ++ ss) : Nat) : Int) ≠ 0 := by omega
    show RS _ _ _ _ [sL RInt is, sI o, sL RInt ss, .any, .any, .any] _
    refine rs_cons (r1_set 3 (ex_abs T.f_abs (ex_var 1 rfl)) ?_)
    refine rs_cons (r1_for (it_list (ex_cat (ex_var 0 rfl) (ex_var 2 rfl) hz)) (fun i Γ => Γ = [sL RInt is, sI o, sL RInt ss, sI (gcdL o.natAbs ((is ++ ss).take i)), .any, .any]) rfl ?_ ?_)
    · rintro i x _ hx rfl
      refine ⟨_, _, gt_name 4, fun _ h => h, ?_⟩
      refine rs_cons (r1_if (et_eq (ex_var 3 rfl) ex_int) (fun h => ?_) (fun h => rs_nil ?_))
      · have e : gcdL o.natAbs ((is ++ ss).take i) = 1 := Int.ofNat.inj (of_decide_eq_true h)
        have e2 : gcdL o.natAbs (is ++ ss) = 1 := by
          have := gcdL_take o.natAbs (is ++ ss) i
          rw [e] at this
          exact Nat.dvd_one.mp this
        refine rs_one (r1_ret (ex_tup3 (ex_var 0 rfl) (ex_var 1 rfl) (ex_var 2 rfl)) ?_)
        show Sl.dat R3 _ = Sl.dat R3 (dvd3 (is, o, ss))
        rw [dvd3_one (p := (is, o, ss)) e2]
      · refine rs_one (r1_set 3 (ex_gcd T.b_gcd (ex_var 3 rfl) (ex_var 4 rfl)) ⟨_, .same (.same (.same (.same (.any (.any .nil))))), ?_⟩)
        rw [gcdL_succ hx, Int.natAbs_natCast]
    · rintro _ rfl
      rw [List.take_length]
      exact rs_one (r1_ret (ex_tup3
        (ex_lc [("integer", 4)] (it_list (ex_var 0 rfl)) (blkOk_by rfl) (fun _ _ _ _ _ _ _ => gt_name 4) (fun x hm _ _ _ _ _ => ex_fdiv (ex_var 4 rfl) (ex_var 3 rfl) (sm_div (hi x hm) hne)))
        (ex_fdiv (ex_var 1 rfl) (ex_var 3 rfl) (sm_div ho2 hne))
        (ex_lc [("share", 5)] (it_list (ex_var 2 rfl)) (blkOk_by rfl) (fun _ _ _ _ _ _ _ => gt_name 5) (fun x hm _ _ _ _ _ => ex_fdiv (ex_var 5 rfl) (ex_var 3 rfl) (sm_div (hs x hm) hne)))) rfl)
end PD

/-! part PD3 -/
set_option exponentiation.threshold 256 -- PD3
set_option maxHeartbeats 1000000 -- PD3
set_option maxRecDepth 100000 -- PD3
/-! PD3: Basis. -/
namespace PD
open PySem PySem.Spec L2 TL KHd MA
abbrev K3 : Type := Nat × List Int × List Int
abbrev RK : Rp K3 := RT3 RNat (RL RInt) (RL RInt)
abbrev fKept : List (Str × V) → Prop := fun _ => True
def basO (C B dx L : Addr) (hd : [B, dx, L].Nodup) (xs : List V) (kept : List K3) : OwnP where
  foot := [B, dx, L]
  val := .ref B
  holds := fun F H => H B = some (.ins C dx [("_kept", .ref L)]) ∧ H dx = some (.own B) ∧ (accV RK L xs kept).holds F H
  stable := fun {F H F' H'} ⟨h1, h2, h3⟩ s h => ⟨by rw [h B (by simp)]; exact h1, by rw [h dx (by simp)]; exact h2, (accV RK L xs kept).stable h3 s fun b hb => h b (by
    have : b = L := by simpa [accV] using hb
    simp [this])⟩
  there := fun {F H} ⟨h1, h2, h3⟩ b hb => by
    rcases List.mem_cons.mp hb with rfl | hb
    · exact ne_none_of h1
    · rcases List.mem_cons.mp hb with rfl | hb
      · exact ne_none_of h2
      · exact (accV RK L xs kept).there h3 b (by simpa [accV] using hb)
  nd := hd
/-! ### the mirror -/
abbrev S3 : Type := List Int × Int × List Int
def lstep (st : S3) (k : K3) : S3 :=
  if st.1.getD k.1 0 = 0 then st else
    dvd3 ((st.1.zip k.2.1).map (fun p => (k.2.1.getD k.1 0).fdiv ((Nat.gcd (st.1.getD k.1 0).natAbs (k.2.1.getD k.1 0).natAbs : Nat) : Int) * p.1 - (st.1.getD k.1 0).fdiv ((Nat.gcd (st.1.getD k.1 0).natAbs (k.2.1.getD k.1 0).natAbs : Nat) : Int) * p.2),
      st.2.1 * (k.2.1.getD k.1 0).fdiv ((Nat.gcd (st.1.getD k.1 0).natAbs (k.2.1.getD k.1 0).natAbs : Nat) : Int),
      (st.2.2.zip (k.2.2 ++ List.replicate ((st.2.2.length : Int) - (k.2.2.length : Int)).toNat 0)).map (fun p => (k.2.1.getD k.1 0).fdiv ((Nat.gcd (st.1.getD k.1 0).natAbs (k.2.1.getD k.1 0).natAbs : Nat) : Int) * p.1 - (st.1.getD k.1 0).fdiv ((Nat.gcd (st.1.getD k.1 0).natAbs (k.2.1.getD k.1 0).natAbs : Nat) : Int) * p.2))
def stF (kept : List K3) (row : List Rat) (i : Nat) : S3 := (kept.take i).foldl lstep (intsL row, (lcmL row : Int), List.replicate kept.length 0)
def leftF (kept : List K3) (row : List Rat) : S3 := stF kept row kept.length
theorem stF_succ {kept : List K3} {row : List Rat} {i : Nat} {k : K3} (h : kept[i]? = some k) : stF kept row (i + 1) = lstep (stF kept row i) k := by
  unfold stF
  rw [List.take_add_one, h, List.foldl_append]
  rfl
structure LeftOk (kept : List K3) (row : List Rat) : Prop where
  lcm : Sm (lcmL row)
  num : ∀ q ∈ row, Bt 100000 q.num
  len : row.length ≤ 1000
  klen : kept.length ≤ 1000
  st : ∀ i, i ≤ kept.length → (∀ x ∈ (stF kept row i).1, Bt 1900 x) ∧ Bt 1900 (stF kept row i).2.1 ∧ (∀ x ∈ (stF kept row i).2.2, Bt 1900 x) ∧ (stF kept row i).2.1 ≠ 0 ∧ (stF kept row i).1.length = row.length ∧ (stF kept row i).2.2.length = kept.length
  ke : ∀ k ∈ kept, k.1 < row.length ∧ k.2.1.length = row.length ∧ k.2.2.length ≤ kept.length ∧ (∀ x ∈ k.2.1, Bt 1900 x) ∧ (∀ x ∈ k.2.2, Bt 1900 x) ∧ k.2.1.getD k.1 0 ≠ 0
theorem at_getD {l : List Int} {p : Nat} (h : p < l.length) : atI l (p : Int) = some (l.getD p 0) := by
  refine atI_nat ?_
  rw [List.getD_eq_getElem?_getD, List.getElem?_eq_getElem h]
  rfl
theorem bt_getD {a : Nat} {l : List Int} {p : Nat} (h : ∀ x ∈ l, Bt a x) : Bt a (l.getD p 0) := by
  rw [List.getD_eq_getElem?_getD]
  cases e : l[p]? with
  | none =>
    show (0 : Int).natAbs < 2 ^ a
    exact Nat.pow_pos (by decide)
  | some x => exact h x (List.mem_of_getElem? e)
theorem bt_fdiv {a : Nat} {x : Int} {g : Nat} (h : Bt a x) (hd : ((g : Nat) : Int) ∣ x) : Bt a (x.fdiv g) := by
  obtain ⟨k, rfl⟩ := hd
  by_cases hg : g = 0
  · subst hg
    show (Int.fdiv _ _).natAbs < _
    simp
    exact Nat.pow_pos (by decide)
  · have hg2 : (g : Int) ≠ 0 := by omega
    have e : ((g : Int) * k).fdiv g = k := by rw [Int.mul_comm, Int.mul_fdiv_cancel _ hg2]
    rw [e]
    unfold Bt at *
    rw [Int.natAbs_mul, Int.natAbs_natCast] at h
    have : 1 * k.natAbs ≤ g * k.natAbs := Nat.mul_le_mul_right _ (Nat.pos_of_ne_zero hg)
    omega
theorem gcd_dl (a b : Int) : ((Nat.gcd a.natAbs b.natAbs : Nat) : Int) ∣ a := Int.natAbs_dvd_natAbs.mp (show a.natAbs.gcd b.natAbs ∣ a.natAbs from Nat.gcd_dvd_left _ _)
theorem gcd_dr (a b : Int) : ((Nat.gcd a.natAbs b.natAbs : Nat) : Int) ∣ b := Int.natAbs_dvd_natAbs.mp (show a.natAbs.gcd b.natAbs ∣ b.natAbs from Nat.gcd_dvd_right _ _)
theorem fdiv_gcd_ne {a b : Int} (h : b ≠ 0) : b.fdiv ((Nat.gcd a.natAbs b.natAbs : Nat) : Int) ≠ 0 := by
  obtain ⟨k, hk⟩ := gcd_dr a b
  have hg : ((Nat.gcd a.natAbs b.natAbs : Nat) : Int) ≠ 0 := by
    have := gcd_pos_right a h
    omega
  generalize ((Nat.gcd a.natAbs b.natAbs : Nat) : Int) = g at *
  subst hk
  rw [Int.mul_comm, Int.mul_fdiv_cancel _ hg]
  intro z
  subst z
  exact h (Int.mul_zero _)
variable {P : Program} {w : World} {K : PySem.W.Frag} {mg : Str → Option Value} {base : Heap}
theorem ex_nat {X : Cx} {e : Expr} {Γ : List Sl} {n : Nat} (h : EX X e Γ (.dat RNat n)) : EX X e Γ (sI (n : Int)) := ex_conv h fun _ _ r => r
theorem bas_ins {C B dx L : Addr} {hd : [B, dx, L].Nodup} {xs : List V} {kept : List K3} {m : Str} (hm : (m == ("_kept" : Str)) = false) : IsIns C m (.bor (basO C B dx L hd xs kept)) := fun F H v s r => by
  obtain ⟨e, ⟨h1, _⟩, _⟩ := r
  refine ⟨B, dx, _, Option.some.inj e, h1, ?_⟩
  simp only [List.lookup, hm]
theorem bas_insO {C B dx L : Addr} {hd : [B, dx, L].Nodup} {xs : List V} {kept : List K3} {m : Str} (hm : (m == ("_kept" : Str)) = false) : IsIns C m (.own (basO C B dx L hd xs kept)) := fun F H v s r => bas_ins hm F H v s r
theorem ex_kept {X : Cx} {o : Expr} {pos : Pos} {Γ : List Sl} {B dx L : Addr} {hd : [B, dx, L].Nodup} {xs : List V} {kept : List K3} (T : TX X.K X.mg) (ho : EX X o Γ (.bor (basO (He.ga X.K "Basis") B dx L hd xs kept))) (hb : attributeBase o "_kept" X.env (eval o X.env) = eval o X.env := by rfl) :
    EX X (.Attribute o "_kept" pos) Γ (.bor (accV RK L xs kept)) :=
  ex_fld ho (fun F H v s r => by
    obtain ⟨e, ⟨h1, h2, h3⟩, n⟩ := r
    exact ⟨B, _, dx, _, .ref L, Option.some.inj e, h1, T.c_Basis, T.n_Basis_kept, rfl, rfl, h3, fun b hb => n b (by
      have : b = L := by simpa [accV] using hb
      simp [basO, this])⟩) hb
/-! ### left -/
abbrev nLeft : List Str := ["self", "row", "integers", "own", "shares", "pivot", "other", "parts", "common", "scale", "lead", "one", "two", "padded"]
theorem sc_left : FnScope nLeft ["self", "row"] (defScope s_Basis_left) := ⟨rfl, rfl, rfl, by decide +kernel, rfl, by decide +kernel, by decide +kernel⟩
def tb_left (C : Addr) : List Sl → Sl → Prop := fun args res => ∃ (B dx L : Addr) (hd : [B, dx, L].Nodup) (xs : List V) (kept : List K3) (row : List Rat), args = [.bor (basO C B dx L hd xs kept), sL RQ row] ∧ LeftOk kept row ∧ res = .dat R3 (leftF kept row)
theorem ok_left (T : TX K mg) : Dm P w K mg base 2 (He.ma K (He.ga K "Basis") "left") ["self", "row"] (tb_left (He.ga K "Basis")) := by
  obtain ⟨fd, F⟩ := T.u_Basis_left
  refine ⟨fd, fn_pure (N := nLeft) F sc_left ?_ ?_, F.bindsN fun _ _ _ _ _ _ us hl => match us, hl with | [_, _], _ => rfl⟩
  · rintro args res ⟨_, _, _, _, _, _, _, rfl, _⟩
    exact ⟨rfl, rfl⟩
  · rintro cdv A outer s H E args res hr ⟨B, dx, L, hd, xs, kept, row, rfl, ok, rfl⟩
    have hN := sc_left.nd
    have hz : sizeLine = 16777216 := rfl
    generalize hS : (Sl.bor (basO (He.ga K "Basis") B dx L hd xs kept)) = sS
    show RS _ _ _ _ [sS, sL RQ row, .any, .any, .any, .any, .any, .any, .any, .any, .any, .any, .any, .any] _
    refine rs_cons (r1_asg (ex_call (ok_integers_of T) (hr.mono (by decide)) (ea_cons (ex_var 1 rfl) ea_nil) ⟨row, rfl, ok.lcm, ok.num, rfl⟩) (gt_tup2 (gts_cons (gt_name 2) (gts_cons (gt_name 3) gts_nil))) ?_)
    refine rs_cons (r1_set 4 (ex_rep (ex_lst1 ex_int) (ex_lenV T.f_len (ex_kept T (ex_var 0 hS.symm))) (by have := ok.klen; omega) (by omega)) ?_)
    have e0 : List.replicate ((kept.length : Int)).toNat (0 : Int) = List.replicate kept.length 0 := by rw [Int.toNat_natCast]
    refine rs_cons (r1_forS (it_bor (ex_kept T (ex_var 0 hS.symm))) (fun i Γ => Γ = [sS, sL RQ row, sL RInt (stF kept row i).1, sI (stF kept row i).2.1, sL RInt (stF kept row i).2.2, .any, .any, .any, .any, .any, .any, .any, .any, .any]) ?_ ?_ ?_ ?_)
    · show [sS, sL RQ row, sL RInt (intsL row), sI (lcmL row : Int), sL RInt (List.replicate ((kept.length : Int)).toNat (0 : Int)), .any, .any, .any, .any, .any, .any, .any, .any, .any] = _
      rw [e0]
      rfl
    · rintro i ⟨pv, ot, pt⟩ _ hi rfl
      obtain ⟨b1, b2, b3, b4, b5, b6⟩ := ok.st i (Nat.le_of_lt (List.getElem?_eq_some_iff.mp hi).1)
      obtain ⟨k1, k2, k3, k4, k5, k6⟩ := ok.ke _ (List.mem_of_getElem? hi)
      have hst := stF_succ (row := row) hi
      generalize stF kept row i = st at *
      rw [hst]
      obtain ⟨is, o, ss⟩ := st
      dsimp only at b1 b2 b3 b4 b5 b6 k1 k2 k3 k4 k5 k6
      refine ⟨_, _, gt_tup3 (gts_cons (gt_name 5) (gts_cons (gt_name 6) (gts_cons (gt_name 7) gts_nil))), fun _ h => h, ?_⟩
      have hpi : pv < is.length := by rw [b5]; exact k1
      have hpo : pv < ot.length := by rw [k2]; exact k1
      refine rs_one (r1_if (et_ne (ex_ixS (ex_var 2 rfl) .dat (ex_nat (ex_var 5 rfl)) (at_getD hpi)) ex_int) (fun h => ?_) (fun h => rs_nil ?_))
      · have hne : is.getD pv 0 ≠ 0 := by simpa using h
        refine rs_cons (r1_set 8 (ex_gcd T.b_gcd (ex_ixS (ex_var 2 rfl) .dat (ex_nat (ex_var 5 rfl)) (at_getD hpi)) (ex_ixS (ex_var 6 rfl) .dat (ex_nat (ex_var 5 rfl)) (at_getD hpo))) ?_)
        have hg : ((Nat.gcd (is.getD pv 0).natAbs (ot.getD pv 0).natAbs : Nat) : Int) ≠ 0 := by
          have := gcd_pos_right (is.getD pv 0) k6
          omega
        have bi : Bt 1900 (is.getD pv 0) := bt_getD b1
        have bo : Bt 1900 (ot.getD pv 0) := bt_getD k4
        have bs := bt_fdiv (g := Nat.gcd (is.getD pv 0).natAbs (ot.getD pv 0).natAbs) bo (gcd_dr _ _)
        have bl := bt_fdiv (g := Nat.gcd (is.getD pv 0).natAbs (ot.getD pv 0).natAbs) bi (gcd_dl _ _)
        refine rs_cons (r1_asg (ex_tup2 (ex_fdiv (ex_ixS (ex_var 6 rfl) .dat (ex_nat (ex_var 5 rfl)) (at_getD hpo)) (ex_var 8 rfl) (sm_div (sm_of bo (by decide)) hg)) (ex_fdiv (ex_ixS (ex_var 2 rfl) .dat (ex_nat (ex_var 5 rfl)) (at_getD hpi)) (ex_var 8 rfl) (sm_div (sm_of bi (by decide)) hg)))
          (gt_tup2 (gts_cons (gt_name 9) (gts_cons (gt_name 10) gts_nil))) ?_)
        have hd0 : (ot.getD pv 0).fdiv ((Nat.gcd (is.getD pv 0).natAbs (ot.getD pv 0).natAbs : Nat) : Int) ≠ 0 := fdiv_gcd_ne k6
        have hl0 : lstep (is, o, ss) (pv, ot, pt) = dvd3 ((is.zip ot).map (fun p => (ot.getD pv 0).fdiv ((Nat.gcd (is.getD pv 0).natAbs (ot.getD pv 0).natAbs : Nat) : Int) * p.1 - (is.getD pv 0).fdiv ((Nat.gcd (is.getD pv 0).natAbs (ot.getD pv 0).natAbs : Nat) : Int) * p.2),
            o * (ot.getD pv 0).fdiv ((Nat.gcd (is.getD pv 0).natAbs (ot.getD pv 0).natAbs : Nat) : Int),
            (ss.zip (pt ++ List.replicate ((ss.length : Int) - (pt.length : Int)).toNat 0)).map (fun p => (ot.getD pv 0).fdiv ((Nat.gcd (is.getD pv 0).natAbs (ot.getD pv 0).natAbs : Nat) : Int) * p.1 - (is.getD pv 0).fdiv ((Nat.gcd (is.getD pv 0).natAbs (ot.getD pv 0).natAbs : Nat) : Int) * p.2)) := if_neg hne
        rw [hl0]
        generalize (ot.getD pv 0).fdiv ((Nat.gcd (is.getD pv 0).natAbs (ot.getD pv 0).natAbs : Nat) : Int) = sc at *
        generalize (is.getD pv 0).fdiv ((Nat.gcd (is.getD pv 0).natAbs (ot.getD pv 0).natAbs : Nat) : Int) = ld at *
        refine rs_cons (r1_setLc 2 [("one", 11), ("two", 12)] (it_zip (ex_var 2 rfl) (ex_var 6 rfl) T.f_zip) (blkOk_by rfl) (fun p _ _ _ _ _ _ => gt_tup2 (gts_cons (gt_name 11) (gts_cons (gt_name 12) gts_nil)))
          (fun p hm _ _ _ _ _ => ex_sub (ex_mul (ex_var 9 rfl) (ex_var 11 rfl) (bt_cmul bs (b1 _ (List.of_mem_zip hm).1) (by decide))) (ex_mul (ex_var 10 rfl) (ex_var 12 rfl) (bt_cmul bl (k4 _ (List.of_mem_zip hm).2) (by decide)))) ?_)
        have hpad : ((ss.length : Int) - (pt.length : Int)) ≤ (sizeLine : Int) := by
          have := ok.klen
          have b6' : ss.length = kept.length := b6
          omega
        have hpad2 : -(2 ^ 63) ≤ ((ss.length : Int) - (pt.length : Int)) := by
          have := ok.klen
          have k3' : pt.length ≤ kept.length := k3
          omega
        refine rs_cons (r1_set 13 (ex_cat (ex_var 7 rfl) (ex_rep (ex_lst1 ex_int) (ex_sub (ex_len T.f_len (ex_var 4 rfl) .dat) (ex_len T.f_len (ex_var 7 rfl) .dat)) hpad hpad2) ?_) ?_)
        · rw [List.length_replicate]
          show pt.length + ((ss.length : Int) - (pt.length : Int)).toNat ≤ sizeLine
          have := ok.klen
          have k3' : pt.length ≤ kept.length := k3
          have b6' : ss.length = kept.length := b6
          omega
        refine rs_cons (r1_setLc 4 [("one", 11), ("two", 12)] (it_zip (ex_var 4 rfl) (ex_var 13 rfl) T.f_zip) (blkOk_by rfl) (fun p _ _ _ _ _ _ => gt_tup2 (gts_cons (gt_name 11) (gts_cons (gt_name 12) gts_nil)))
          (fun p hm _ _ _ _ _ => ex_sub (ex_mul (ex_var 9 rfl) (ex_var 11 rfl) (bt_cmul bs (b3 _ (List.of_mem_zip hm).1) (by decide))) (ex_mul (ex_var 10 rfl) (ex_var 12 rfl) (bt_cmul (b := 1900) bl ?_ (by decide)))) ?_)
        · rcases List.mem_append.mp (List.of_mem_zip hm).2 with z | z
          · exact k5 _ z
          · rw [(List.mem_replicate.mp z).2]
            exact Nat.pow_pos (by decide)
        refine rs_one (r1_asg (ex_call (ok_divided T) (hr.mono (by decide)) (ea_cons (ex_var 2 rfl) (ea_cons (ex_mul (ex_var 3 rfl) (ex_var 9 rfl) (bt_cmul b2 bs (by decide))) (ea_cons (ex_var 4 rfl) ea_nil))) ⟨_, _, _, rfl, Int.mul_ne_zero b4 hd0, sm_of (bt_mul b2 bs) (by decide), ?_, ?_, ?_, rfl⟩)
          (gt_tup3 (gts_cons (gt_name 2) (gts_cons (gt_name 3) (gts_cons (gt_name 4) gts_nil)))) ⟨_, .same (.same (.same (.same (.same (.any (.any (.any (.any (.any (.any (.any (.any (.any .nil))))))))))))), rfl⟩)
        · intro x hx
          obtain ⟨p, hp, rfl⟩ := List.mem_map.mp hx
          exact sm_of (bt_sub (bt_mul bs (b1 _ (List.of_mem_zip hp).1)) (bt_mul bl (k4 _ (List.of_mem_zip hp).2))) (by decide)
        · intro x hx
          obtain ⟨p, hp, rfl⟩ := List.mem_map.mp hx
          refine sm_of (bt_sub (bt_mul bs (b3 _ (List.of_mem_zip hp).1)) (bt_mul (b := 1900) bl ?_)) (by decide)
          rcases List.mem_append.mp (List.of_mem_zip hp).2 with z | z
          · exact k5 _ z
          · rw [(List.mem_replicate.mp z).2]
            exact Nat.pow_pos (by decide)
        · show ((is.zip ot).map _).length + ((ss.zip _).map _).length ≤ sizeLine
          rw [List.length_map, List.length_map, List.length_zip, List.length_zip]
          have := ok.klen
          have := ok.len
          have b6' : ss.length = kept.length := b6
          have b5' : is.length = row.length := b5
          omega
      · have h0 : is.getD pv 0 = 0 := by simpa using h
        have hl0 : lstep (is, o, ss) (pv, ot, pt) = (is, o, ss) := if_pos h0
        rw [hl0]
        exact ⟨_, .same (.same (.same (.same (.same (.any (.any (.any (.any (.any (.any (.any (.any (.any .nil))))))))))))), rfl⟩
    · rintro _ rfl
      refine rs_one (r1_ret (ex_tup3 (ex_var 2 rfl) (ex_var 3 rfl) (ex_var 4 rfl)) rfl)
    · rintro i _ F2 H2 σ2 rfl w2
      have := w2.sat.at_ (i := 0) hS.symm (fun z => by cases z)
      obtain ⟨o, _, r⟩ := this
      exact r.2.1.2.2.2.1
end PD

/-! part PD4 -/
set_option exponentiation.threshold 256 -- PD4
set_option maxHeartbeats 1000000 -- PD4
set_option maxRecDepth 100000 -- PD4
/-! PD4: Basis, put and told. -/
namespace PD
open PySem PySem.Spec L2 TL KHd MA
variable {P : Program} {w : World} {K : PySem.W.Frag} {mg : Str → Option Value} {base : Heap}
/-! ### __init__ -/
theorem sc_binit : FnScope ["self"] ["self"] (defScope s_Basis_init) := ⟨rfl, rfl, rfl, by decide +kernel, rfl, by decide +kernel, by decide +kernel⟩
def spBInit (C : Addr) : Sp := fun vs H Q _ => ∃ x dx, vs = [.ref x] ∧ H x = some (.ins C dx []) ∧ ∀ L, H L = none → Q .non (upd (upd H L (.lst [])) x (.ins C dx [("_kept", .ref L)]))
theorem ok_binit (T : TX K mg) : ∃ fd, FnOk P w K mg base CX0 1 (He.ma K (He.ga K "Basis") "__init__") fd ["self"] (spBInit (He.ga K "Basis")) ∧ Binds K fd ["self"] [] := by
  obtain ⟨fd, F⟩ := T.u_Basis_init
  refine ⟨fd, F.ok sc_binit (fun vs H Q E h => ?_) (fun cdv A outer s H vs Q E hr h => ?_), F.bindsN fun _ _ _ _ _ _ us hl => match us, hl with | [_], _ => rfl⟩
  · obtain ⟨x, dx, rfl, _⟩ := h
    rfl
  · obtain ⟨x, dx, rfl, hx, q⟩ := h
    refine ⟨_, PSs.nox (pss_one (ps_fld (pv 0) (pe_lst pa_nil) rfl)), ?_⟩
    refine ⟨Nat.zero_le _, fun L hL => ?_⟩
    refine ⟨.ref x, rfl, x, _, dx, [], rfl, ?_, T.c_Basis, T.n_Basis_kept, by decide, ?_⟩
    · rw [upd_ne (ne_of_none hx hL)]
      exact hx
    · exact q L hL
/-- name = Basis() -/
theorem r1_mkB {X : Cx} {S : List Addr} {H0 : Hp} {Γ : List Sl} {T' : TK} {k : Nat} (T : TX X.K X.mg) (hr : Room (k + 2) X.A) (i : Nat) {nm : Str} {p' p2 p3 : Pos} (h : ∀ B dx L hd, T'.nx (stS Γ i (.own (basO (He.ga X.K "Basis") B dx L hd [] []))))
    (hN : X.N.Nodup := by assumption) (hi : X.N[i]? = some nm := by rfl) (hx : Loc X.env.scope nm := by first | exact Or.inl rfl | exact Or.inr rfl) (hg : Gl X "Basis" := by rfl)
    (hs : swapsWith (.Call (.Name "Basis" p2) [] [] p3) (some (.Name nm p')) pos.line X.env = pure false := by rfl) (hf : X.fn nm = true ∨ X.env.scope.names.lookup nm = some .local := by first | exact .inl rfl | exact .inr rfl | assumption) : R1 X S H0 (.Assign [.Name nm p'] (.Call (.Name "Basis" p2) [] [] p3) pos) Γ T' := fun F0 σ F H l => by
  obtain ⟨fd, G, b⟩ := ok_binit (P := X.prog) (w := X.w) (base := X.base) T
  refine PS.wp (ps_set (i := i) hN hi hx (pe_make0 T.k_Basis (G.mono (Nat.le_add_left 1 k)) hr hg T.g_Basis b .nil pass0) hs hf) ?_
  intro x dx hx0 hdx hne
  refine ⟨x, dx, rfl, upd_same, fun L hL => ⟨rfl, ?_⟩⟩
  have e1 : L ≠ x := fun z => by subst z; rw [upd_same] at hL; cases hL
  have e2 : L ≠ dx := fun z => by
    subst z
    rw [upd_ne e1, upd_same] at hL
    cases hL
  have hL0 : H L = none := by rw [upd_ne e1, upd_ne e2] at hL; exact hL
  have hd : [x, dx, L].Nodup := by
    simp only [List.nodup_cons, List.mem_cons, List.not_mem_nil, or_false, not_or, not_false_eq_true, List.nodup_nil, and_true]
    exact ⟨⟨fun z => hne z.symm, fun z => e1 z.symm⟩, fun z => e2 z.symm⟩
  generalize hH : upd (upd (upd (upd H dx (.own x)) x (.ins (He.ga X.K "Basis") dx [])) L (.lst [])) x (.ins (He.ga X.K "Basis") dx [("_kept", .ref L)]) = H'
  have g : Gr F H F H' := by
    have a1 : ∀ b, b ≠ x → b ≠ dx → b ≠ L → H' b = H b := fun b n1 n2 n3 => by
      rw [← hH, upd_ne n1, upd_ne n3, upd_ne n1, upd_ne n2]
    have a2 : ∀ b, H b ≠ none → H' b = H b := fun b e => a1 b (fun z => e (z ▸ hx0)) (fun z => e (z ▸ hdx)) (fun z => e (z ▸ hL0))
    exact ⟨Same.refl _, fun b u e => by
      have := l.wd.sub b u e
      rw [a2 b (ne_none_of this)]; exact this, fun b u _ e => by rw [a2 b (ne_none_of e)]; exact e, fun b e => by rw [a2 b e]; exact e, fun _ e _ => e⟩
  have ef : ∀ b, H b = none → F b = none := fun b e => l.wd.sub.free e
  refine ⟨F, _, l.setN (sl := .own (basO (He.ga X.K "Basis") x dx L hd [] [])) g ⟨rfl, ⟨?_, ?_, ?_, ?_, .nil⟩, ?_⟩ ?_ i, h x dx L hd⟩
  · rw [← hH, upd_same]
  · rw [← hH, upd_ne hne, upd_ne (Ne.symm e2), upd_ne hne, upd_same]
  · exact Nat.zero_le _
  · rw [← hH, upd_ne e1, upd_same]
  · intro b hb
    have : b = x ∨ b = dx ∨ b = L := by simpa [basO] using hb
    rcases this with rfl | rfl | rfl
    · exact ef _ hx0
    · exact ef _ hdx
    · exact ef _ hL0
  · intro b hb
    have : b = x ∨ b = dx ∨ b = L := by simpa [Sl.foot, basO] using hb
    rcases this with rfl | rfl | rfl
    · exact hx0
    · exact hdx
    · exact hL0
/-! ### told -/
abbrev nTold : List Str := ["self", "row", "integers", "own", "shares", "integer", "share"]
theorem sc_told : FnScope nTold ["self", "row"] (defScope s_Basis_told) := ⟨rfl, rfl, rfl, by decide +kernel, rfl, by decide +kernel, by decide +kernel⟩
def toldF (kept : List K3) (row : List Rat) : Option (List Rat) := if ((leftF kept row).1.map fun x => !decide (x = 0)).any id then none else some ((leftF kept row).2.2.map fun s => Rat.divInt (-s) (leftF kept row).2.1)
def tb_told (C : Addr) : List Sl → Sl → Prop := fun args res => ∃ (B dx L : Addr) (hd : [B, dx, L].Nodup) (xs : List V) (kept : List K3) (row : List Rat), args = [.bor (basO C B dx L hd xs kept), sL RQ row] ∧ LeftOk kept row ∧ res = .dat (ROpt (RL RQ)) (toldF kept row)
theorem ok_told (T : TX K mg) : Dm P w K mg base 4 (He.ma K (He.ga K "Basis") "told") ["self", "row"] (tb_told (He.ga K "Basis")) := by
  obtain ⟨fd, F⟩ := T.u_Basis_told
  refine ⟨fd, fn_pure (N := nTold) F sc_told ?_ ?_, F.bindsN fun _ _ _ _ _ _ us hl => match us, hl with | [_, _], _ => rfl⟩
  · rintro args res ⟨_, _, _, _, _, _, _, rfl, _⟩
    exact ⟨rfl, rfl⟩
  · rintro cdv A outer s H E args res hr ⟨B, dx, L, hd, xs, kept, row, rfl, ok, rfl⟩
    have hN := sc_told.nd
    obtain ⟨b1, b2, b3, b4, b5, b6⟩ := ok.st kept.length (Nat.le_refl _)
    have hnd : (feet [Sl.bor (basO (He.ga K "Basis") B dx L hd xs kept), sL RQ row]).Nodup := by
      show ([B, dx, L] ++ ([] ++ [])).Nodup
      simpa using hd
    generalize hS : (Sl.bor (basO (He.ga K "Basis") B dx L hd xs kept)) = sS at hnd
    have hT : toldF kept row = if ((leftF kept row).1.map fun x => !decide (x = 0)).any id then none else some ((leftF kept row).2.2.map fun s => Rat.divInt (-s) (leftF kept row).2.1) := rfl
    change ∀ x ∈ (leftF kept row).1, _ at b1
    change Bt 1900 (leftF kept row).2.1 at b2
    change ∀ x ∈ (leftF kept row).2.2, _ at b3
    change (leftF kept row).2.1 ≠ 0 at b4
    obtain ⟨is, o, ss, hst⟩ : ∃ is o ss, leftF kept row = (is, o, ss) := ⟨_, _, _, rfl⟩
    rw [hst] at hT b1 b2 b3 b4
    dsimp only at hT b1 b2 b3 b4
    show RS _ _ _ _ [sS, sL RQ row, .any, .any, .any, .any, .any] _
    refine rs_cons (r1_asg (sl := .dat R3 (is, o, ss)) (ex_to (ex_meth T.c_Basis T.m_Basis_left (ok_left T) (hr.mono (by decide)) (ex_var 0 hS.symm) (bas_ins (by decide)) (ea_cons (ex_var 1 rfl) ea_nil) ⟨B, dx, L, hd, xs, kept, row, rfl, ok, rfl⟩ (by rw [hS]; exact hnd)) (by rw [hst])) (gt_tup3 (gts_cons (gt_name 2) (gts_cons (gt_name 3) (gts_cons (gt_name 4) gts_nil)))) ?_)
    refine rs_cons (r1_if (et_val (ex_any T.f_any (ex_lc [("integer", 5)] (it_list (ex_var 2 rfl)) (blkOk_by rfl) (fun _ _ _ _ _ _ _ => gt_name 5) (fun x hm _ _ _ _ _ => ex_ne (ex_var 5 rfl) ex_int)))) (fun h => ?_) (fun h => rs_nil ?_))
    · refine rs_one (r1_ret (sl := .dat (ROpt (RL RQ)) none) (ex_conv ex_non fun F v r => r) ?_)
      show Sl.dat (ROpt (RL RQ)) none = Sl.dat (ROpt (RL RQ)) (toldF kept row)
      rw [hT, if_pos h]
    · refine rs_one (r1_ret (sl := .dat (ROpt (RL RQ)) (some _)) (ex_conv (ex_lc [("share", 6)] (it_list (ex_var 4 rfl)) (blkOk_by rfl) (fun _ _ _ _ _ _ _ => gt_name 6)
        (fun x hm _ _ _ _ _ => ex_call (ok_lowest T) (hr.mono (by decide)) (ea_cons (ex_neg (ex_var 6 rfl)) (ea_cons (ex_var 3 rfl) ea_nil)) ⟨_, _, rfl, b4, sm_of (bt_neg (b3 _ hm)) (by decide), sm_of b2 (by decide), rfl⟩)) fun F v r => r) ?_)
      show Sl.dat (ROpt (RL RQ)) (some _) = Sl.dat (ROpt (RL RQ)) (toldF kept row)
      rw [hT, if_neg (by rw [h]; exact Bool.false_ne_true)]
/-! ### put -/
theorem r1_appK {X : Cx} {S : List Addr} {H0 : Hp} {Γ : List Sl} {T' : TK} {e : Expr} {pos : Pos} (T : TX X.K X.mg) {B dx L : Addr} {hd : [B, dx, L].Nodup} {xs : List V} {kept : List K3} {k : K3} {nm : Str} {p1 p2 p3 p4 : Pos} (h0 : gtS Γ 0 = .own (basO (He.ga X.K "Basis") B dx L hd xs kept)) (he : EX X e Γ (.dat RK k)) (hz : kept.length < sizeLine)
    (h : ∀ v, T'.nx (stS Γ 0 (.own (basO (He.ga X.K "Basis") B dx L hd (xs ++ [v]) (kept ++ [k]))))) (hN : X.N[0]? = some nm := by rfl) (hv : Vis X.env.scope nm := by first | exact Or.inl rfl | exact Or.inr (Or.inl rfl) | exact Or.inr (Or.inr rfl)) (hdb : (nm == ("__debug__" : Str)) = false := by decide)
    (hcd : (nm == ("__classdict__" : Str)) = false := by decide) (hab : attributeBase (.Name nm p1) "_kept" X.env (eval (.Name nm p1) X.env) = eval (.Name nm p1) X.env := by rfl)
    (hbase : attributeBase (.Attribute (.Name nm p1) "_kept" p4) "append" X.env (eval (.Attribute (.Name nm p1) "_kept" p4) X.env) = eval (.Attribute (.Name nm p1) "_kept" p4) X.env := by rfl)
    (hfew : ((backTo p3 (starEach [e] X.env)).all (fun x => !x.1) && (backToKw p3 (keywordEach [] X.env)).all (fun x => x.1.isSome) && decide (([e] : List Expr).length + ([] : List Keyword).length + (if ([] : List Keyword).isEmpty then 0 else 1) < 30)) = true := by rfl)
    (hline : (p2.endLine == p3.line) = true := by rfl) (hs1 : starEach [e] X.env = (false, eval e X.env) :: starEach [] X.env := by rfl) (hpl : (backTo p3 (starEach [] X.env)).any (·.1) = false := by rfl) (hs : swapsWith (.Call (.Attribute (.Attribute (.Name nm p1) "_kept" p4) "append" p2) [e] [] p3) none pos.line X.env = pure false := by rfl) :
    R1 X S H0 (.Expr (.Call (.Attribute (.Attribute (.Name nm p1) "_kept" p4) "append" p2) [e] [] p3) pos) Γ T' := fun F0 σ F H l => by
  refine PS.wp (ps_expr (pe_bm PySem.F.plainAttrs_list PySem.F.slot_list_append PySem.F.type_list_append mt_append (pe_fld (pe_var (i := 0) hN hv hdb hcd) hab) (pa_cons pe_wp pa_nil hs1) hbase hfew hline hs1 hpl) hs) ?_
  obtain ⟨e1, ⟨a1, a2, z, hx, pr⟩, hn⟩ := l.wd.sat.own h0
  refine ⟨.ref B, e1, B, _, dx, _, .ref L, rfl, a1, T.c_Basis, T.n_Basis_kept, rfl, .inl ⟨rfl, xs, SqL.of hx⟩, he σ F H l.wd _ fun v F1 H1 g1 r1 => ?_⟩
  have l1 := l.grow g1
  have hx1 := g1.hp L _ hx
  have nL : B ≠ L := fun z => by subst z; rw [a1] at hx; cases hx
  have nd : dx ≠ L := fun z => by subst z; rw [a2] at hx; cases hx
  refine ⟨L, xs, v, rfl, rfl, hx1, by rw [Paired.length pr]; exact hz, F1, _, l1.chg (P' := basO (He.ga X.K "Basis") B dx L hd (xs ++ [v]) (kept ++ [k])) h0 (by simp [basO]) rfl rfl ?_, h v⟩
  refine ⟨by rw [upd_ne nL]; exact g1.hp B _ a1, by rw [upd_ne nd]; exact g1.hp dx _ a2, by rw [List.length_append]; exact hz, upd_same, Paired.snoc (paired_mono g1.fz pr) (sat_dat r1)⟩
abbrev nPut : List Str := ["self", "row", "integers", "own", "shares", "pivot", "integer"]
theorem sc_put : FnScope nPut ["self", "row"] (defScope s_Basis_put) := ⟨rfl, rfl, rfl, by decide +kernel, rfl, by decide +kernel, by decide +kernel⟩
def firstNZ (l : List Int) : Option Nat := l.findIdx? fun x => !decide (x = 0)
def putB (kept : List K3) (row : List Rat) : Bool := (firstNZ (leftF kept row).1).isSome
def putK (kept : List K3) (row : List Rat) : List K3 := match firstNZ (leftF kept row).1 with
  | none => kept
  | some p => kept ++ [(p, (leftF kept row).1, (leftF kept row).2.2 ++ [(leftF kept row).2.1])]
def tb_put (C : Addr) : List Sl → (Sl → List Sl → Prop) → Prop := fun args post => ∃ (B dx L : Addr) (hd : [B, dx, L].Nodup) (xs : List V) (kept : List K3) (row : List Rat), args = [.own (basO C B dx L hd xs kept), sL RQ row] ∧ LeftOk kept row ∧
  post = fun sl Γ => sl = sB (putB kept row) ∧ ∃ xs', gtS Γ 0 = .own (basO C B dx L hd xs' (putK kept row))
theorem ok_put (T : TX K mg) : Gm P w K mg base 4 (He.ma K (He.ga K "Basis") "put") ["self", "row"] (tb_put (He.ga K "Basis")) := by
  obtain ⟨fd, F⟩ := T.u_Basis_put
  refine ⟨fd, fn_eff (N := nPut) F sc_put ?_ ?_, F.bindsN fun _ _ _ _ _ _ us hl => match us, hl with | [_, _], _ => rfl⟩
  · rintro args res ⟨_, _, _, _, _, _, _, rfl, _⟩
    rfl
  · rintro cdv A outer s H E args res hr ⟨B, dx, L, hd, xs, kept, row, rfl, ok, rfl⟩
    have hN := sc_put.nd
    obtain ⟨b1, b2, b3, b4, b5, b6⟩ := ok.st kept.length (Nat.le_refl _)
    have hnd : (feet [Sl.bor (basO (He.ga K "Basis") B dx L hd xs kept), sL RQ row]).Nodup := by
      show ([B, dx, L] ++ ([] ++ [])).Nodup
      simpa using hd
    change (∀ x ∈ (leftF kept row).1, _) at b1
    change Bt 1900 (leftF kept row).2.1 at b2
    change (leftF kept row).2.2.length = _ at b6
    have hpk : ∀ p, firstNZ (leftF kept row).1 = some p → putB kept row = true ∧ putK kept row = kept ++ [(p, (leftF kept row).1, (leftF kept row).2.2 ++ [(leftF kept row).2.1])] := fun p hp => by
      unfold putB putK
      rw [hp]
      exact ⟨rfl, rfl⟩
    have hpn : firstNZ (leftF kept row).1 = none → putB kept row = false ∧ putK kept row = kept := fun hp => by
      unfold putB putK
      rw [hp]
      exact ⟨rfl, rfl⟩
    obtain ⟨is, o, ss, hst⟩ : ∃ is o ss, leftF kept row = (is, o, ss) := ⟨_, _, _, rfl⟩
    rw [hst] at hpk hpn b1 b2 b6
    dsimp only at b1 b2 b6 hpk hpn
    generalize putB kept row = PB at *
    generalize putK kept row = PK at *
    show RS _ _ _ _ [.own (basO (He.ga K "Basis") B dx L hd xs kept), sL RQ row, .any, .any, .any, .any, .any] _
    refine rs_cons (r1_asg (sl := .dat R3 (is, o, ss)) (ex_to (ex_meth T.c_Basis T.m_Basis_left (ok_left T) (hr.mono (by decide)) (ex_bor (ex_var 0 rfl)) (bas_ins (by decide)) (ea_cons (ex_var 1 rfl) ea_nil) ⟨B, dx, L, hd, xs, kept, row, rfl, ok, rfl⟩ hnd) (by rw [hst])) (gt_tup3 (gts_cons (gt_name 2) (gts_cons (gt_name 3) (gts_cons (gt_name 4) gts_nil)))) ?_)
    refine rs_cons (r1_for (it_enum (ex_var 2 rfl) T.f_enumerate) (fun i Γ => Γ = [.own (basO (He.ga K "Basis") B dx L hd xs kept), sL RQ row, sL RInt is, sI o, sL RInt ss, .any, .any] ∧ ∀ j, j < i → is[j]? = some 0 ∨ is.length ≤ j) ⟨rfl, fun j hj => absurd hj (Nat.not_lt_zero _)⟩ ?_ ?_)
    · rintro i ⟨pv, x⟩ _ hi ⟨rfl, hz⟩
      have hi2 := List.getElem?_zip_eq_some.mp hi
      obtain ⟨h1, h2⟩ := hi2
      have hlt : i < is.length := (List.getElem?_eq_some_iff.mp h2).1
      have hpi : pv = i := by
        rw [List.getElem?_range hlt] at h1
        exact (Option.some.inj h1).symm
      subst hpi
      refine ⟨_, _, gt_tup2 (gts_cons (gt_name 5) (gts_cons (gt_name 6) gts_nil)), fun _ h => h, ?_⟩
      refine rs_one (r1_if (et_ne (ex_var 6 rfl) ex_int) (fun h => ?_) (fun h => rs_nil ⟨_, .same (.same (.same (.same (.same (.any (.any .nil)))))), rfl, fun j hj => ?_⟩))
      · have hne : x ≠ 0 := by simpa using h
        have hf : firstNZ is = some pv := by
          unfold firstNZ
          rw [List.findIdx?_eq_some_iff_getElem]
          refine ⟨hlt, ?_, fun j hj => ?_⟩
          · rw [List.getElem?_eq_getElem hlt] at h2
            rw [Option.some.inj h2]
            simpa using hne
          · rcases hz j hj with z | z
            · rw [List.getElem?_eq_getElem (Nat.lt_trans hj hlt)] at z
              rw [Option.some.inj z]
              simp
            · omega
        obtain ⟨e1, e2⟩ := hpk pv hf
        refine rs_cons (r1_appK T rfl (ex_tup3 (ex_var 5 rfl) (ex_var 2 rfl) (ex_cat (ex_var 4 rfl) (ex_lst1 (ex_var 3 rfl)) ?_)) ?_ fun v => ?_)
        · have := ok.klen
          show ss.length + 1 ≤ sizeLine
          rw [b6]
          exact Nat.le_trans (Nat.add_le_add_right this 1) (by decide)
        · exact Nat.lt_of_le_of_lt ok.klen (by decide)
        · exact rs_one (r1_ret ex_bl ⟨by rw [e1], xs ++ [v], by rw [e2]; rfl⟩)
      · have hx0 : x = 0 := by simpa using h
        subst hx0
        by_cases hj2 : j < pv
        · exact hz j hj2
        · have : j = pv := by omega
          subst this
          exact .inl h2
    · rintro _ ⟨rfl, hz⟩
      have hl : ((List.range is.length).zip is).length = is.length := by rw [List.length_zip, List.length_range, Nat.min_self]
      rw [hl] at hz
      have hf : firstNZ is = none := by
        unfold firstNZ
        rw [List.findIdx?_eq_none_iff]
        intro x hx
        obtain ⟨j, hj⟩ := List.getElem?_of_mem hx
        have hlt : j < is.length := (List.getElem?_eq_some_iff.mp hj).1
        rcases hz j hlt with z | z
        · rw [hj] at z
          rw [Option.some.inj z]
          simp
        · omega
      obtain ⟨e1, e2⟩ := hpn hf
      exact rs_one (r1_ret ex_bl ⟨by rw [e1], xs, by rw [e2]; rfl⟩)
end PD

/-! part PD5 -/
set_option exponentiation.threshold 256 -- PD5
set_option maxHeartbeats 1000000 -- PD5
set_option maxRecDepth 100000 -- PD5
/-! PD5: signs.py, machines.py: checks, steps. -/
namespace PD
open PySem PySem.Spec L2 TL KHd MA
variable {P : Program} {w : World} {K : PySem.W.Frag} {mg : Str → Option Value} {base : Heap}
def letters : List Nat := (List.range 26).map (· + 97)
structure GoodSg (l : List Nat) : Prop where
  ne : l ≠ []
  up : l.Pairwise (· < ·)
  le : ∀ c ∈ l, 97 ≤ c ∧ c ≤ 122
  len : l.length ≤ 26
theorem mem_letters {c : Nat} (h : 97 ≤ c ∧ c ≤ 122) : c ∈ letters := by
  unfold letters
  rw [List.mem_map]
  exact ⟨c - 97, List.mem_range.mpr (by omega), by omega⟩
def lastT (l : List Nat) : List Nat := match l.getLast? with
  | none => []
  | some c => [c]
theorem lastT_snoc (l : List Nat) (c : Nat) : lastT (l ++ [c]) = [c] := by
  unfold lastT
  rw [List.getLast?_concat]
theorem lastT_lt {l : List Nat} {c : Nat} (h : ∀ d ∈ l, d < c) : lastT l < [c] := by
  unfold lastT
  cases e : l.getLast? with
  | none => exact List.nil_lt_cons c []
  | some d => exact List.cons_lt_cons_iff.mpr (.inl (h d (List.mem_of_getLast? e)))
theorem up_take {l : List Nat} {i : Nat} {c : Nat} (h : l.Pairwise (· < ·)) (hi : l[i]? = some c) : ∀ d ∈ l.take i, d < c := by
  intro d hd
  obtain ⟨j, hj⟩ := List.getElem?_of_mem hd
  obtain ⟨hil, hic⟩ := List.getElem?_eq_some_iff.mp hi
  obtain ⟨hjl, hjd⟩ := List.getElem?_eq_some_iff.mp hj
  rw [List.length_take] at hjl
  rw [List.getElem_take] at hjd
  rw [← hic, ← hjd]
  exact List.pairwise_iff_getElem.mp h j i (by omega) hil (by omega)
/-! ### checked_signs -/
theorem sc_csigns : FnScope ["signs", "last", "sign"] ["signs"] (defScope s_checked_signs) := ⟨rfl, rfl, rfl, by decide +kernel, rfl, by decide +kernel, by decide +kernel⟩
def tb_csigns : List Sl → Sl → Prop := fun args res => ∃ l : List Nat, args = [.dat RTx l] ∧ GoodSg l ∧ res = .dat RNon ()
theorem ok_checked_signs (T : TX K mg) : Dn P w K mg base 1 "checked_signs" ["signs"] tb_csigns := by
  obtain ⟨fd, F⟩ := T.u_checked_signs
  refine ⟨_, fd, fn_pure (N := ["signs", "last", "sign"]) F sc_csigns ?_ ?_, F.bindsN fun _ _ _ _ _ _ us hl => match us, hl with | [_], _ => rfl, T.g_checked_signs, F.kp⟩
  · rintro args res ⟨a, rfl, _⟩
    exact ⟨rfl, rfl⟩
  · rintro cdv A outer s H E args res hr ⟨l, rfl, hl, rfl⟩
    have hN := sc_csigns.nd
    show RS _ _ _ _ [.dat RTx l, .any, .any] _
    refine rs_cons (r1_set (sl := .dat RTx []) 1 (ex_str (by decide +kernel)) ?_)
    refine rs_cons (r1_for (it_str (ex_var 0 rfl)) (fun i Γ => Γ = [.dat RTx l, .dat RTx (lastT (l.take i)), .any]) rfl ?_ ?_)
    · rintro i c _ hi rfl
      refine ⟨_, _, gt_name 2, fun _ h => h, ?_⟩
      have hm := List.mem_of_getElem? hi
      refine rs_cons (r1_if (et_or (et_niS (ex_var 2 rfl) (ex_globS (l := letters) T.s_LETTERS (by decide +kernel))) fun _ => et_les (ex_sg (ex_var 2 rfl)) (ex_var 1 rfl)) (fun h => ?_) (fun _ => rs_nil ?_))
      · rw [decide_eq_true (mem_letters (hl.le c hm)), decide_eq_true (lastT_lt (up_take hl.up hi))] at h
        cases h
      · refine rs_one (r1_set (sl := .dat RTx [c]) 1 (ex_sg (ex_var 2 rfl)) ⟨_, .same (.same (.any .nil)), ?_⟩)
        rw [List.take_add_one, hi]
        rw [show (l.take i ++ (some c).toList) = l.take i ++ [c] from rfl, lastT_snoc]
    · rintro _ rfl
      refine rs_one (r1_if (et_eqs (ex_var 0 rfl) (ex_str (l := []) (by decide +kernel))) (fun h => ?_) (fun _ => rs_nil rfl))
      exact absurd (of_decide_eq_true h) hl.ne
/-! ### checked_sign -/
theorem sc_csign : FnScope ["sign", "signs"] ["sign", "signs"] (defScope s_checked_sign) := ⟨rfl, rfl, rfl, by decide +kernel, rfl, by decide +kernel, by decide +kernel⟩
def tb_csign : List Sl → Sl → Prop := fun args res => ∃ (c : Nat) (l : List Nat), args = [.dat RSg c, .dat RTx l] ∧ c ∈ l ∧ res = .dat RNon ()
theorem ok_checked_sign (T : TX K mg) : Dn P w K mg base 1 "checked_sign" ["sign", "signs"] tb_csign := by
  obtain ⟨fd, F⟩ := T.u_checked_sign
  refine ⟨_, fd, fn_pure (N := ["sign", "signs"]) F sc_csign ?_ ?_, F.bindsN fun _ _ _ _ _ _ us hl => match us, hl with | [_, _], _ => rfl, T.g_checked_sign, F.kp⟩
  · rintro args res ⟨_, _, rfl, _⟩
    exact ⟨rfl, rfl⟩
  · rintro cdv A outer s H E args res hr ⟨c, l, rfl, hc, rfl⟩
    have hN := sc_csign.nd
    show RS _ _ _ _ [.dat RSg c, .dat RTx l] _
    refine rs_one (r1_if (et_or (et_ne (ex_lens T.f_len (ex_sg (ex_var 0 rfl))) ex_int) fun _ => et_niS (ex_var 0 rfl) (ex_var 1 rfl)) (fun h => ?_) (fun _ => rs_nil rfl))
    rw [decide_eq_true hc] at h
    cases h
/-! ### order_key -/
theorem sc_order_key : FnScope ["message"] ["message"] (defScope s_order_key) := ⟨rfl, rfl, rfl, by decide +kernel, rfl, by decide +kernel, by decide +kernel⟩
def tb_order_key : List Sl → Sl → Prop := fun args res => ∃ l : List Nat, args = [.dat RTx l] ∧ res = .dat (RT2 RInt RTx) ((l.length : Int), l)
theorem ok_order_key (T : TX K mg) : Dn P w K mg base 1 "order_key" ["message"] tb_order_key := by
  obtain ⟨fd, F⟩ := T.u_order_key
  refine ⟨_, fd, fn_pure (N := ["message"]) F sc_order_key ?_ ?_, F.bindsN fun _ _ _ _ _ _ us hl => match us, hl with | [_], _ => rfl, T.g_order_key, F.kp⟩
  · rintro args res ⟨a, rfl, _⟩
    exact ⟨rfl, rfl⟩
  · rintro cdv A outer s H E args res hr ⟨l, rfl, rfl⟩
    have hN := sc_order_key.nd
    show RS _ _ _ _ [.dat RTx l] _
    exact rs_one (r1_ret (ex_tup2 (ex_lens T.f_len (ex_var 0 rfl)) (ex_var 0 rfl)) rfl)
/-! ### checked_machine -/
abbrev Road : Type := Nat × Nat × Nat × Rat
abbrev RRd : Rp Road := RT4 RNat RSg RNat RQ
structure Mach where
  signs : List Nat
  bg : List Rat
  roads : List Road
  fin : List Rat
structure MachOk (m : Mach) : Prop where
  sg : GoodSg m.signs
  rd : ∀ r ∈ m.roads, r.1 < m.bg.length ∧ r.2.1 ∈ m.signs ∧ r.2.2.1 < m.bg.length
  len : m.bg.length = m.fin.length
theorem sc_cmach : FnScope ["signs", "begin", "roads", "end", "number", "road"] ["signs", "begin", "roads", "end"] (defScope s_checked_machine) := ⟨rfl, rfl, rfl, by decide +kernel, rfl, by decide +kernel, by decide +kernel⟩
def tb_cmach : List Sl → Sl → Prop := fun args res => ∃ m : Mach, args = [.dat RTx m.signs, sL RQ m.bg, sL RRd m.roads, sL RQ m.fin] ∧ MachOk m ∧ res = .dat RNon ()
theorem ok_checked_machine (T : TX K mg) : Dn P w K mg base 3 "checked_machine" ["signs", "begin", "roads", "end"] tb_cmach := by
  obtain ⟨fd, F⟩ := T.u_checked_machine
  refine ⟨_, fd, fn_pure (N := ["signs", "begin", "roads", "end", "number", "road"]) F sc_cmach ?_ ?_, F.bindsN fun _ _ _ _ _ _ us hl => match us, hl with | [_, _, _, _], _ => rfl, T.g_checked_machine, F.kp⟩
  · rintro args res ⟨_, rfl, _⟩
    exact ⟨rfl, rfl⟩
  · rintro cdv A outer s H E args res hr ⟨⟨sg, bg, rds, fin⟩, rfl, ⟨hsg, hrd, hlen⟩, rfl⟩
    dsimp only at hsg hrd hlen
    have hN := sc_cmach.nd
    show RS _ _ _ _ [.dat RTx sg, sL RQ bg, sL RRd rds, sL RQ fin, .any, .any] _
    refine rs_cons (r1_expr (ex_call (ok_checked_signs T) (hr.mono (by decide)) (ea_cons (ex_var 0 rfl) ea_nil) ⟨sg, rfl, hsg, rfl⟩) ?_)
    refine rs_cons (r1_for (it_list (ex_var 1 rfl)) (fun i Γ => Γ = [.dat RTx sg, sL RQ bg, sL RRd rds, sL RQ fin, .any, .any]) rfl ?_ ?_)
    · rintro i q _ hi rfl
      refine ⟨_, _, gt_name 4, fun _ h => h, ?_⟩
      exact rs_one (r1_expr (ex_call (ok_checked T) (hr.mono (by decide)) (ea_cons (ex_var 4 rfl) ea_nil) ⟨q, rfl, rfl⟩) ⟨_, .same (.same (.same (.same (.any (.any .nil))))), rfl⟩)
    rintro _ rfl
    refine rs_cons (r1_for (it_list (ex_var 2 rfl)) (fun i Γ => Γ = [.dat RTx sg, sL RQ bg, sL RRd rds, sL RQ fin, .any, .any]) rfl ?_ ?_)
    · rintro i ⟨a, b, c, q⟩ _ hi rfl
      refine ⟨_, _, gt_name 5, fun _ h => h, ?_⟩
      exact rs_one (r1_expr (ex_call (ok_checked T) (hr.mono (by decide)) (ea_cons (ex_ix4d (ex_var 5 rfl)) ea_nil) ⟨q, rfl, rfl⟩) ⟨_, .same (.same (.same (.same (.any (.any .nil))))), rfl⟩)
    rintro _ rfl
    refine rs_cons (r1_for (it_list (ex_var 3 rfl)) (fun i Γ => Γ = [.dat RTx sg, sL RQ bg, sL RRd rds, sL RQ fin, .any, .any]) rfl ?_ ?_)
    · rintro i q _ hi rfl
      refine ⟨_, _, gt_name 4, fun _ h => h, ?_⟩
      exact rs_one (r1_expr (ex_call (ok_checked T) (hr.mono (by decide)) (ea_cons (ex_var 4 rfl) ea_nil) ⟨q, rfl, rfl⟩) ⟨_, .same (.same (.same (.same (.any (.any .nil))))), rfl⟩)
    rintro _ rfl
    refine rs_cons (r1_for (it_list (ex_var 2 rfl)) (fun i Γ => Γ = [.dat RTx sg, sL RQ bg, sL RRd rds, sL RQ fin, .any, .any]) rfl ?_ ?_)
    · rintro i ⟨a, b, c, q⟩ _ hi rfl
      refine ⟨_, _, gt_name 5, fun _ h => h, ?_⟩
      obtain ⟨h1, h2, h3⟩ := hrd _ (List.mem_of_getElem? hi)
      dsimp only at h1 h2 h3
      refine rs_cons (r1_if (et_not (et_chain ex_int (ex_nat (ex_ix4a (ex_var 5 rfl))) (ex_len T.f_len (ex_var 1 rfl) .dat))) (fun h => ?_) (fun _ => rs_nil ?_))
      · rw [decide_eq_true (show (0 : Int) ≤ (a : Int) by omega), decide_eq_true (show (a : Int) < (bg.length : Int) by omega)] at h
        cases h
      refine rs_cons (r1_expr (ex_call (ok_checked_sign T) (hr.mono (by decide)) (ea_cons (ex_ix4b (ex_var 5 rfl)) (ea_cons (ex_var 0 rfl) ea_nil)) ⟨b, sg, rfl, h2, rfl⟩) ?_)
      refine rs_one (r1_if (et_not (et_chain ex_int (ex_nat (ex_ix4c (ex_var 5 rfl))) (ex_len T.f_len (ex_var 1 rfl) .dat))) (fun h => ?_) (fun _ => rs_nil ⟨_, .same (.same (.same (.same (.any (.any .nil))))), rfl⟩))
      rw [decide_eq_true (show (0 : Int) ≤ (c : Int) by omega), decide_eq_true (show (c : Int) < (bg.length : Int) by omega)] at h
      cases h
    rintro _ rfl
    refine rs_one (r1_if (et_ne (ex_len T.f_len (ex_var 1 rfl) .dat) (ex_len T.f_len (ex_var 3 rfl) .dat)) (fun h => ?_) (fun _ => rs_nil rfl))
    rw [hlen] at h
    simp at h
/-! ### steps_of -/
def rqs (roads : List Road) (s : Nat) : List Rat := (roads.filter fun r => decide (r.2.1 = s)).map fun r => r.2.2.2
def lcmS (roads : List Road) (s : Nat) : Nat := lcmL (rqs roads s)
abbrev Step : Type := Nat × Nat × Int
abbrev RSt : Rp Step := RT3 RNat RNat RInt
def stepsF (roads : List Road) (s : Nat) (L : Nat) : List Step := (roads.filter fun r => decide (r.2.1 = s) && !decide (r.2.2.2.num = 0)).map fun r => (r.1, r.2.2.1, r.2.2.2.num * (L : Int).fdiv r.2.2.2.den)
theorem rqs_succ {roads : List Road} {s i : Nat} {r : Road} (h : roads[i]? = some r) : rqs (roads.take (i + 1)) s = rqs (roads.take i) s ++ (if r.2.1 = s then [r.2.2.2] else []) := by
  unfold rqs
  rw [List.take_add_one, h, List.filter_append, List.map_append]
  congr 1
  by_cases e : r.2.1 = s
  · simp [e]
  · simp [e]
theorem lcmL_snoc (l : List Rat) (q : Rat) : lcmL (l ++ [q]) = Nat.lcm (lcmL l) q.den := by
  unfold lcmL
  rw [List.foldl_append]
  rfl
theorem rqs_take (roads : List Road) (s i : Nat) : lcmS (roads.take i) s ∣ lcmS roads s := by
  have : rqs roads s = rqs (roads.take i) s ++ rqs (roads.drop i) s := by
    unfold rqs
    rw [← List.map_append, ← List.filter_append, List.take_append_drop]
  unfold lcmS
  rw [this]
  unfold lcmL
  rw [List.foldl_append]
  exact lcm_dvd_fold _ _
theorem rqs_mem {roads : List Road} {s : Nat} {r : Road} (h : r ∈ roads) (e : r.2.1 = s) : r.2.2.2 ∈ rqs roads s := by
  unfold rqs
  exact List.mem_map.mpr ⟨r, List.mem_filter.mpr ⟨h, by simp [e]⟩, rfl⟩
theorem steps_succ {roads : List Road} {s i L : Nat} {r : Road} (h : roads[i]? = some r) : stepsF (roads.take (i + 1)) s L = stepsF (roads.take i) s L ++ (if (decide (r.2.1 = s) && !decide (r.2.2.2.num = 0)) = true then [(r.1, r.2.2.1, r.2.2.2.num * (L : Int).fdiv r.2.2.2.den)] else []) := by
  unfold stepsF
  rw [List.take_add_one, h, List.filter_append, List.map_append]
  congr 1
  by_cases e : (decide (r.2.1 = s) && !decide (r.2.2.2.num = 0)) = true
  · rw [if_pos e]
    simp only [Option.toList, List.filter_cons, e, if_true, List.filter_nil, List.map_cons, List.map_nil]
  · rw [if_neg e]
    simp only [Option.toList, List.filter_cons, e, if_false, List.filter_nil, List.map_nil]
    rfl
theorem sc_steps_of : FnScope ["roads", "sign", "below", "road", "steps", "state", "other", "behind", "number"] ["roads", "sign"] (defScope s_steps_of) := ⟨rfl, rfl, rfl, by decide +kernel, rfl, by decide +kernel, by decide +kernel⟩
def tb_steps_of : List Sl → Sl → Prop := fun args res => ∃ (roads : List Road) (s : Nat), args = [sL RRd roads, .dat RSg s] ∧ Sm (lcmS roads s) ∧ (∀ r ∈ roads, Bt 100000 r.2.2.2.num) ∧ roads.length ≤ 100000 ∧ res = .dat (RT2 (RL RSt) RInt) (stepsF roads s (lcmS roads s), (lcmS roads s : Int))
theorem dec_sg {a b : Nat} : decide (([a] : List Nat) = [b]) = decide (a = b) := by
  by_cases h : a = b
  · subst h; simp
  · simp [h]
theorem ok_steps_of (T : TX K mg) : Dn P w K mg base 1 "steps_of" ["roads", "sign"] tb_steps_of := by
  obtain ⟨fd, F⟩ := T.u_steps_of
  refine ⟨_, fd, fn_pure (N := ["roads", "sign", "below", "road", "steps", "state", "other", "behind", "number"]) F sc_steps_of ?_ ?_, F.bindsN fun _ _ _ _ _ _ us hl => match us, hl with | [_, _], _ => rfl, T.g_steps_of, F.kp⟩
  · rintro args res ⟨_, _, rfl, _⟩
    exact ⟨rfl, rfl⟩
  · rintro cdv A outer s H E args res hr ⟨rds, sg, rfl, hL, hq, hlen, rfl⟩
    have hN := sc_steps_of.nd
    have hz : sizeLine = 16777216 := rfl
    have hLp : 0 < lcmS rds sg := lcmL_pos _
    show RS _ _ _ _ [sL RRd rds, .dat RSg sg, .any, .any, .any, .any, .any, .any, .any] _
    refine rs_cons (r1_set 2 ex_int ?_)
    refine rs_cons (r1_for (it_list (ex_var 0 rfl)) (fun i Γ => Γ = [sL RRd rds, .dat RSg sg, sI (lcmS (rds.take i) sg), .any, .any, .any, .any, .any, .any]) rfl ?_ ?_)
    · rintro i ⟨a, b, c, q⟩ _ hi rfl
      refine ⟨_, _, gt_name 3, fun _ h => h, ?_⟩
      have hs := rqs_succ (s := sg) hi
      refine rs_one (r1_if (et_eqs (ex_sg (ex_ix4b (ex_var 3 rfl))) (ex_sg (ex_var 1 rfl))) (fun h => ?_) (fun h => rs_nil ⟨_, .same (.same (.same (.any (.any (.any (.any (.any (.any .nil)))))))), ?_⟩))
      · rw [dec_sg] at h
        have e : b = sg := of_decide_eq_true h
        refine rs_one (r1_set 2 (ex_to (ex_lcm T.b_lcm (ex_var 2 rfl) (ex_den (ex_ix4d (ex_var 3 rfl))) ?_ ?_) (congrArg sI ?_)) ⟨_, .same (.same (.same (.any (.any (.any (.any (.any (.any .nil)))))))), rfl⟩)
        · exact sm_le hL (Nat.le_of_dvd hLp (rqs_take rds sg i))
        · exact sm_le hL (Nat.le_of_dvd hLp (lcmL_mem (rqs_mem (List.mem_of_getElem? hi) e)))
        · unfold lcmS
          rw [hs, if_pos e, lcmL_snoc, Int.natAbs_natCast, Int.natAbs_natCast]
      · rw [dec_sg] at h
        have e : ¬ b = sg := of_decide_eq_false h
        have : lcmS (rds.take (i + 1)) sg = lcmS (rds.take i) sg := by
          unfold lcmS
          rw [hs, if_neg e, List.append_nil]
        rw [this]
    rintro _ rfl
    rw [List.take_length]
    refine rs_cons (r1_new RSt 4 fun D => ?_)
    refine rs_cons (r1_for (it_list (ex_var 0 rfl)) (fun i Γ => Γ = [sL RRd rds, .dat RSg sg, sI (lcmS rds sg), .any, sO RSt D (stepsF (rds.take i) sg (lcmS rds sg)), .any, .any, .any, .any] ∧ (stepsF (rds.take i) sg (lcmS rds sg)).length ≤ i) ⟨rfl, Nat.le_refl _⟩ ?_ ?_)
    · rintro i ⟨a, b, c, q⟩ _ hi ⟨rfl, hl⟩
      have hs := steps_succ (s := sg) (L := lcmS rds sg) hi
      have hil : i < rds.length := (List.getElem?_eq_some_iff.mp hi).1
      refine ⟨_, _, gt_tup4 (gts_cons (gt_name 5) (gts_cons (gt_name 6) (gts_cons (gt_name 7) (gts_cons (gt_name 8) gts_nil)))), fun _ h => h, ?_⟩
      refine rs_one (r1_if (et_and (et_eqs (ex_sg (ex_var 6 rfl)) (ex_sg (ex_var 1 rfl))) fun _ => et_ne (ex_num (ex_var 8 rfl)) ex_int) (fun h => ?_) (fun h => rs_nil ⟨_, .same (.same (.same (.same (.same (.any (.any (.any (.any .nil)))))))), ?_⟩))
      · rw [dec_sg] at h
        rw [if_pos h] at hs
        refine rs_one (r1_app 4 rfl (ex_tup3 (ex_var 5 rfl) (ex_var 7 rfl) (ex_mul (ex_num (ex_var 8 rfl)) (ex_fdiv (ex_var 2 rfl) (ex_den (ex_var 8 rfl)) (sm_div hL (den_ne q))) (bt_cmul (hq _ (List.mem_of_getElem? hi)) (sm_fdiv hL) (by decide)))) (by omega) ⟨_, .same (.same (.same (.same (.same (.any (.any (.any (.any .nil)))))))), ?_⟩)
        rw [hs]
        exact ⟨rfl, by rw [List.length_append]; exact Nat.add_le_add_right hl 1⟩
      · rw [dec_sg] at h
        rw [if_neg (by rw [h]; exact Bool.false_ne_true), List.append_nil] at hs
        rw [hs]
        exact ⟨rfl, Nat.le_succ_of_le hl⟩
    · rintro _ ⟨rfl, hl⟩
      rw [List.take_length]
      refine rs_frz 4 rfl (by simp) ?_
      exact rs_one (r1_ret (ex_tup2 (ex_var 4 rfl) (ex_var 2 rfl)) rfl)
end PD

/-! part PD6 -/
set_option exponentiation.threshold 256 -- PD6
set_option maxHeartbeats 1000000 -- PD6
set_option maxRecDepth 100000 -- PD6
/-! PD6: machines.py: Machine, stepped. -/
namespace PD
open PySem PySem.Spec L2 TL KHd MA
variable {P : Program} {w : World} {K : PySem.W.Frag} {mg : Str → Option Value} {base : Heap}
/-! ### integers_behind -/
def bhStep (iv : List Int) (f : List Int) (st : Step) : List Int := f.set st.2.1 (f.getD st.2.1 0 + iv.getD st.1 0 * st.2.2)
def bhF (steps : List Step) (iv : List Int) : List Int := steps.foldl (bhStep iv) (List.replicate iv.length 0)
theorem bhF_succ {steps : List Step} {iv : List Int} {i : Nat} {st : Step} (h : steps[i]? = some st) : bhF (steps.take (i + 1)) iv = bhStep iv (bhF (steps.take i) iv) st := by
  unfold bhF
  rw [List.take_add_one, h, List.foldl_append]
  rfl
theorem bh_len (iv : List Int) : ∀ (steps : List Step) (f : List Int), (steps.foldl (bhStep iv) f).length = f.length
  | [], f => rfl
  | st :: r, f => by
    rw [List.foldl_cons, bh_len iv r]
    unfold bhStep
    rw [List.length_set]
theorem bhF_len (steps : List Step) (iv : List Int) : (bhF steps iv).length = iv.length := by
  unfold bhF
  rw [bh_len, List.length_replicate]
theorem sc_behind : FnScope ["steps", "integers", "found", "state", "behind", "integer"] ["steps", "integers"] (defScope s_integers_behind) := ⟨rfl, rfl, rfl, by decide +kernel, rfl, by decide +kernel, by decide +kernel⟩
def tb_behind : List Sl → Sl → Prop := fun args res => ∃ (steps : List Step) (iv : List Int), args = [sL RSt steps, sL RInt iv] ∧ (∀ st ∈ steps, st.1 < iv.length ∧ st.2.1 < iv.length ∧ Bt 100000 st.2.2) ∧ (∀ x ∈ iv, Bt 100000 x) ∧ iv.length ≤ 1000 ∧ res = sL RInt (bhF steps iv)
theorem ok_integers_behind (T : TX K mg) : Dn P w K mg base 1 "integers_behind" ["steps", "integers"] tb_behind := by
  obtain ⟨fd, F⟩ := T.u_integers_behind
  refine ⟨_, fd, fn_pure (N := ["steps", "integers", "found", "state", "behind", "integer"]) F sc_behind ?_ ?_, F.bindsN fun _ _ _ _ _ _ us hl => match us, hl with | [_, _], _ => rfl, T.g_integers_behind, F.kp⟩
  · rintro args res ⟨_, _, rfl, _⟩
    exact ⟨rfl, rfl⟩
  · rintro cdv A outer s H E args res hr ⟨sts, iv, rfl, hs, hi, hl, rfl⟩
    have hN := sc_behind.nd
    have hz : sizeLine = 16777216 := rfl
    show RS _ _ _ _ [sL RSt sts, sL RInt iv, .any, .any, .any, .any] _
    refine rs_cons (r1_setN 2 (en_rep (ex_lst1 ex_int) (ex_len T.f_len (ex_var 1 rfl) .dat) (by omega) (by omega)) ?_)
    rintro _ ⟨D, rfl⟩
    have e0 : List.replicate ((iv.length : Int)).toNat (0 : Int) = bhF (sts.take 0) iv := by rw [Int.toNat_natCast]; rfl
    show RS _ _ _ _ [sL RSt sts, sL RInt iv, sO RInt D (List.replicate ((iv.length : Int)).toNat 0), .any, .any, .any] _
    rw [e0]
    refine rs_cons (r1_for (it_list (ex_var 0 rfl)) (fun i Γ => Γ = [sL RSt sts, sL RInt iv, sO RInt D (bhF (sts.take i) iv), .any, .any, .any]) rfl ?_ ?_)
    · rintro i ⟨a, b, k⟩ _ hi2 rfl
      obtain ⟨h1, h2, h3⟩ := hs _ (List.mem_of_getElem? hi2)
      dsimp only at h1 h2 h3
      have hsu := bhF_succ (iv := iv) hi2
      have hfl := bhF_len (sts.take i) iv
      generalize bhF (sts.take i) iv = f at *
      rw [hsu]
      refine ⟨_, _, gt_tup3 (gts_cons (gt_name 3) (gts_cons (gt_name 4) (gts_cons (gt_name 5) gts_nil))), fun _ h => h, ?_⟩
      refine rs_one (r1_if (et_ne (ex_ixS (ex_var 1 rfl) .dat (ex_nat (ex_var 3 rfl)) (at_getD h1)) ex_int) (fun h => ?_) (fun h => rs_nil ⟨_, .same (.same (.same (.any (.any (.any .nil))))), ?_⟩))
      · exact rs_one (r1_setO 2 rfl (ex_add (ex_ixS (ex_var 2 rfl) .own (ex_nat (ex_var 4 rfl)) (at_getD (by rw [hfl]; exact h2))) (ex_mul (ex_ixS (ex_var 1 rfl) .dat (ex_nat (ex_var 3 rfl)) (at_getD h1)) (ex_var 5 rfl) (bt_cmul (bt_getD hi) h3 (by decide))))
          (ex_nat (ex_var 4 rfl)) (by rw [hfl]; exact h2) ⟨_, .same (.same (.same (.any (.any (.any .nil))))), rfl⟩)
      · have e : iv.getD a 0 = 0 := by simpa using h
        have : bhStep iv f (a, b, k) = f := by
          unfold bhStep
          dsimp only
          rw [e, Int.zero_mul, Int.add_zero]
          refine List.ext_getElem? fun j => ?_
          by_cases hj : b = j
          · subst hj
            have hb : b < f.length := by rw [hfl]; exact h2
            rw [List.getElem?_set_self hb, List.getElem?_eq_getElem hb, List.getD_eq_getElem?_getD, List.getElem?_eq_getElem hb]
            rfl
          · rw [List.getElem?_set_ne hj]
        rw [this]
    · rintro _ rfl
      rw [List.take_length]
      refine rs_frz 2 rfl (by simp) ?_
      exact rs_one (r1_ret (ex_var 2 rfl) rfl)
/-! ### Machine -/
def stPair (m : Mach) (s : Nat) : List Step × Int := (stepsF m.roads s (lcmS m.roads s), (lcmS m.roads s : Int))
def machFl (m : Mach) : List (Str × Dt) := [("_signs", ⟨RTx, m.signs⟩), ("_begin", ⟨RL RQ, m.bg⟩), ("_roads", ⟨RL RRd, m.roads⟩), ("_end", ⟨RL RQ, m.fin⟩), ("_steps", ⟨RD (RT2 (RL RSt) RInt), m.signs.map fun s => ([s], stPair m s)⟩)]
abbrev RMach (C : Addr) : Rp Mach := RIns C machFl
structure MachSz (m : Mach) : Prop where
  lcm : ∀ s ∈ m.signs, Sm (lcmS m.roads s)
  num : ∀ r ∈ m.roads, Bt 100000 r.2.2.2.num
  len : m.roads.length ≤ 100000
theorem sc_minit : FnScope ["self", "signs", "begin", "roads", "end", "sign"] ["self", "signs", "begin", "roads", "end"] (defScope s_Machine_init) := ⟨rfl, rfl, rfl, by decide +kernel, rfl, by decide +kernel, by decide +kernel⟩
/-- what an __init__ makes of a new instance -/
def tb_init {α : Type} (C : Addr) (ar : α → List Sl) (pre : α → Prop) (fl : α → List (Str × Dt)) : List Sl → (Sl → List Sl → Prop) → Prop := fun args post => ∃ (A dx : Addr) (hd : [A, dx].Nodup) (m : α), args = .own (insO C A dx hd []) :: ar m ∧ pre m ∧ post = fun sl Γ => sl = .dat RNon () ∧ gtS Γ 0 = .own (insO C A dx hd (fl m))
def machAr (m : Mach) : List Sl := [.dat RTx m.signs, sL RQ m.bg, sL RRd m.roads, sL RQ m.fin]
def machPre (m : Mach) : Prop := MachOk m ∧ MachSz m
theorem sg_nodup {m : Mach} (h : GoodSg m.signs) : (m.signs.map fun s => ([s] : List Nat)).Nodup := by
  refine List.pairwise_map.mpr (h.up.imp fun {a b} hab e => ?_)
  have : a = b := by simpa using e
  omega
theorem ok_minit (T : TX K mg) : Gm P w K mg base 4 (He.ma K (He.ga K "Machine") "__init__") ["self", "signs", "begin", "roads", "end"] (tb_init (He.ga K "Machine") machAr machPre machFl) := by
  obtain ⟨fd, F⟩ := T.u_Machine_init
  refine ⟨fd, fn_eff (N := ["self", "signs", "begin", "roads", "end", "sign"]) F sc_minit ?_ ?_, F.bindsN fun _ _ _ _ _ _ us hl => match us, hl with | [_, _, _, _, _], _ => rfl⟩
  · rintro args res ⟨_, _, _, m, rfl, _⟩
    rfl
  · rintro cdv A outer s H E args res hr ⟨B, dx, hd, m, rfl, ⟨hm, hz⟩, rfl⟩
    have hN := sc_minit.nd
    show RS _ _ _ _ [.own (insO (He.ga K "Machine") B dx hd []), .dat RTx m.signs, sL RQ m.bg, sL RRd m.roads, sL RQ m.fin, .any] _
    refine rs_cons (r1_expr (ex_call (ok_checked_machine T) (hr.mono (by decide)) (ea_cons (ex_var 1 rfl) (ea_cons (ex_var 2 rfl) (ea_cons (ex_var 3 rfl) (ea_cons (ex_var 4 rfl) ea_nil)))) ⟨m, rfl, hm, rfl⟩) ?_)
    refine rs_cons (r1_fld 0 T.c_Machine T.n_Machine_signs rfl (ex_var 1 rfl) rfl (by simp) ?_)
    refine rs_cons (r1_fld 0 T.c_Machine T.n_Machine_begin rfl (ex_list T.f_list (ex_var 2 rfl) .dat) rfl (by simp) ?_)
    refine rs_cons (r1_fld 0 T.c_Machine T.n_Machine_roads rfl (ex_list T.f_list (ex_var 3 rfl) .dat) rfl (by simp) ?_)
    refine rs_cons (r1_fld 0 T.c_Machine T.n_Machine_end rfl (ex_list T.f_list (ex_var 4 rfl) .dat) rfl (by simp) ?_)
    refine rs_one (r1_fld 0 T.c_Machine T.n_Machine_steps rfl (ex_dc [("sign", 5)] (it_str (ex_var 1 rfl)) (blkOk_by rfl) (fun c _ _ _ _ _ _ => gt_name 5) (fun c _ _ _ _ _ _ => ex_sg (ex_var 5 rfl))
      (fun c hc _ _ _ _ _ => ex_call (ok_steps_of T) (hr.mono (by decide)) (ea_cons (ex_var 3 rfl) (ea_cons (ex_var 5 rfl) ea_nil)) ⟨m.roads, c, rfl, hz.lcm c hc, hz.num, hz.len, rfl⟩) (sg_nodup hm.sg)) rfl (by simp) ?_)
    exact ⟨rfl, rfl⟩
/-- C(..): a new instance, then data -/
theorem ex_mk {X : Cx} {Γ : List Sl} {α : Type} {C fI : Addr} {ar : α → List Sl} {pre : α → Prop} {fl : α → List (Str × Dt)} {k : Nat} {ps : List Str} {nm : Str} {e : Expr} {es : List Expr} {p pos : Pos} {m : α} (M : Mk X.K C fI) (G : Gm X.prog X.w X.K X.mg X.base k fI ps (tb_init C ar pre fl)) (hr : Room (k + 1) X.A) (hm : X.mg nm = some (.ref C)) (hpre : pre m) (ha : EA X (e :: es) Γ (ar m))
    (hf : feet (ar m) = []) (hg : Gl X nm := by rfl) (hdb : (nm == ("__debug__" : Str)) = false := by decide) (he : starEach (e :: es) X.env = (false, eval e X.env) :: starEach es X.env := by rfl) (hpl : (backTo pos (starEach es X.env)).any (·.1) = false := by rfl) :
    EX X (.Call (.Name nm p) (e :: es) [] pos) Γ (.dat (RIns C fl) m) := fun σ F H w Q q => by
  obtain ⟨fd, G, b⟩ := G.ex
  refine PE.wp (pe_make M G hr hg hm b .nil pass0 pa_wp hdb he hpl) (ha σ F H w _ fun vs F1 H1 g1 r1 => ?_)
  intro x dx hx hdx hne
  rw [List.append_nil]
  have hd : [x, dx].Nodup := by simp; exact fun z => hne z.symm
  have fx : F1 x = none := g1.sub.free hx
  have fdx : F1 dx = none := g1.sub.free hdx
  have ho : ∀ b, b ≠ x → b ≠ dx → (upd (upd H1 dx (.own x)) x (.ins C dx [])) b = H1 b := fun b n1 n2 => by rw [upd_ne n1, upd_ne n2]
  have hs1 : Same H1 (upd (upd H1 dx (.own x)) x (.ins C dx [])) := fun b u z => by rw [ho b (ne_of_none z hx) (ne_of_none z hdx)]; exact z
  refine ⟨F1, .own (insO C x dx hd []) :: ar m, _, ⟨x, dx, hd, m, rfl, hpre, rfl⟩, ⟨g1.sub.trans hs1, ⟨⟨rfl, ⟨[], upd_same, by rw [upd_ne hne, upd_same], trivial⟩, fun b hb => ?_⟩, ?_⟩, ?_⟩, ?_⟩
  · have : b = x ∨ b = dx := by simpa [insO] using hb
    rcases this with rfl | rfl
    · exact fx
    · exact fdx
  · -- the arguments' slots: data, no feet
    have key : ∀ {Γ : List Sl} {σ : L2.St}, feet Γ = [] → Sat F1 H1 Γ σ → Sat F1 (upd (upd H1 dx (.own x)) x (.ins C dx [])) Γ σ := fun {Γ σ} hf h => h.grow (S := [x, dx]) ⟨Same.refl _, g1.sub.trans hs1, fun b o _ e => hs1 b o e, fun b e => by
        obtain ⟨u, hu⟩ := some_of_ne e
        rw [hs1 b u hu]; exact Option.some_ne_none u, fun _ e _ => e⟩ fun b hb => by rw [hf] at hb; cases hb
    exact key hf r1
  · show ([x, dx] ++ feet (ar m)).Nodup
    rw [hf, List.append_nil]
    exact hd
  · rintro v F' H' sl Γ' σ' g2 w2 r2 hfr ⟨rfl, h0⟩
    refine ⟨sat_dat r2, ?_⟩
    obtain ⟨_, ⟨fs, a1, a2, a3⟩, hn⟩ := w2.sat.own h0
    have nx : F' x = none := hn x (by simp [insO])
    have ndx : F' dx = none := hn dx (by simp [insO])
    have keepH : ∀ b o, H1 b = some o → H' b = some o := fun b o e => by
      refine g2.keep b o (fun hb => ?_) (hs1 b o e)
      have hb2 : b ∈ [x, dx] ++ feetO (ar m) := hb
      have hfo : ∀ Γ : List Sl, feet Γ = [] → feetO Γ = [] := by
        intro Γ
        induction Γ with
        | nil => intro _; rfl
        | cons s Γ ih =>
          intro h
          obtain ⟨h1, h2⟩ := List.append_eq_nil_iff.mp h
          show s.footO ++ feetO Γ = []
          rw [ih h2, List.append_nil]
          cases s with
          | own P => exact h1
          | _ => rfl
      rw [hfo _ hf, List.append_nil] at hb2
      have : b = x ∨ b = dx := by simpa using hb2
      rcases this with rfl | rfl
      · rw [hx] at e; cases e
      · rw [hdx] at e; cases e
    have f1 : ∀ b u, F' b = some u → (upd (upd F' dx (.own x)) x (.ins C dx fs)) b = some u := fun b u e => by rw [upd_ne (ne_of_none e nx), upd_ne (ne_of_none e ndx)]; exact e
    have g3 : Gr F1 H1 (upd (upd F' dx (.own x)) x (.ins C dx fs)) H' := ⟨fun b u e => f1 b u (g2.fz b u e), fun b u e => by
        by_cases h1 : b = x
        · subst h1; rw [upd_same] at e; cases e; exact a1
        · rw [upd_ne h1] at e
          by_cases h2 : b = dx
          · subst h2; rw [upd_same] at e; cases e; exact a2
          · rw [upd_ne h2] at e; exact g2.sub b u e, fun b o _ e => keepH b o e, fun b e => by
        obtain ⟨u, hu⟩ := some_of_ne e
        rw [keepH b u hu]; exact Option.some_ne_none u, fun b e1 e2 => by
        have n1 : b ≠ x := fun z => e2 (z ▸ hx)
        have n2 : b ≠ dx := fun z => e2 (z ▸ hdx)
        rw [upd_ne n1, upd_ne n2]
        refine g2.new b e1 fun z => ?_
        rw [ho b n1 n2] at z
        exact e2 z⟩
    exact q (.ref x) _ H' (g1.trans g3) (dat_sat ⟨x, dx, fs, rfl, upd_same, by rw [upd_ne hne, upd_same], a3.mono f1⟩)
/-! ### its properties -/
theorem mach_ins {C : Addr} {m : Mach} {F H : Hp} {v : V} (s : Same F H) (r : SlSat F H (.dat (RMach C) m) (some v)) : ∃ a dx fs, v = .ref a ∧ H a = some (.ins C dx fs) := by
  obtain ⟨a, dx, fs, e, h1, _⟩ := sat_dat r
  exact ⟨a, dx, fs, e, s _ _ h1⟩
theorem mach_isins {C : Addr} {m : Mach} {nm : Str} (hn : (machFl m).lookup nm = none) : IsIns C nm (.dat (RMach C) m) := fun F H v s r => by
  obtain ⟨a, dx, fs, e, h1, h2, h3⟩ := sat_dat r
  refine ⟨a, dx, fs, e, s _ _ h1, ?_⟩
  have key : ∀ {ds : List (Str × Dt)} {fs : List (Str × V)}, DSat F ds fs → ds.lookup nm = none → fs.lookup nm = none := by
    intro ds
    induction ds with
    | nil => intro fs h _; cases fs with
      | nil => rfl
      | cons _ _ => exact h.elim
    | cons d ds ih =>
      intro fs h hl
      cases fs with
      | nil => exact h.elim
      | cons f fs =>
        obtain ⟨d1, d2⟩ := d
        obtain ⟨f1, f2⟩ := f
        have e1 : d1 = f1 := h.1
        subst e1
        rw [List.lookup_cons] at hl ⊢
        cases hb : nm == d1 with
        | true => rw [hb] at hl; cases hl
        | false => rw [hb] at hl; exact ih h.2.2 hl
  exact key h3 hn
theorem sc_self : FnScope ["self"] ["self"] (defScope s_Machine_signs) ∧ FnScope ["self"] ["self"] (defScope s_Machine_begin) ∧ FnScope ["self"] ["self"] (defScope s_Machine_end) := ⟨⟨rfl, rfl, rfl, by decide +kernel, rfl, by decide +kernel, by decide +kernel⟩, ⟨rfl, rfl, rfl, by decide +kernel, rfl, by decide +kernel, by decide +kernel⟩, ⟨rfl, rfl, rfl, by decide +kernel, rfl, by decide +kernel, by decide +kernel⟩⟩
def tb_get {α β : Type} (R : Rp α) (R' : Rp β) (g : α → β) : List Sl → Sl → Prop := fun args res => ∃ m : α, args = [.dat R m] ∧ res = .dat R' (g m)
theorem ok_msigns (T : TX K mg) : Dm P w K mg base 1 (getterAt K "Machine" "signs") ["self"] (tb_get (RMach (He.ga K "Machine")) RTx Mach.signs) := by
  obtain ⟨fd, F⟩ := T.u_Machine_signs
  refine ⟨fd, fn_pure (N := ["self"]) F sc_self.1 ?_ ?_, F.bindsN fun _ _ _ _ _ _ us hl => match us, hl with | [_], _ => rfl⟩
  · rintro args res ⟨_, rfl, _⟩
    exact ⟨rfl, rfl⟩
  · rintro cdv A outer s H E args res hr ⟨m, rfl, rfl⟩
    have hN := sc_self.1.nd
    show RS _ _ _ _ [.dat (RMach (He.ga K "Machine")) m] _
    exact rs_one (r1_ret (ex_fldD (d := ⟨RTx, m.signs⟩) T.c_Machine T.n_Machine_signs (ex_var 0 rfl) (by rfl)) rfl)
theorem ok_mbegin (T : TX K mg) : Dm P w K mg base 1 (getterAt K "Machine" "begin") ["self"] (tb_get (RMach (He.ga K "Machine")) (RL RQ) Mach.bg) := by
  obtain ⟨fd, F⟩ := T.u_Machine_begin
  refine ⟨fd, fn_pure (N := ["self"]) F sc_self.2.1 ?_ ?_, F.bindsN fun _ _ _ _ _ _ us hl => match us, hl with | [_], _ => rfl⟩
  · rintro args res ⟨_, rfl, _⟩
    exact ⟨rfl, rfl⟩
  · rintro cdv A outer s H E args res hr ⟨m, rfl, rfl⟩
    have hN := sc_self.1.nd
    show RS _ _ _ _ [.dat (RMach (He.ga K "Machine")) m] _
    exact rs_one (r1_ret (ex_list T.f_list (ex_fldD (d := ⟨RL RQ, m.bg⟩) T.c_Machine T.n_Machine_begin (ex_var 0 rfl) (by rfl)) .dat) rfl)
theorem ok_mend (T : TX K mg) : Dm P w K mg base 1 (getterAt K "Machine" "end") ["self"] (tb_get (RMach (He.ga K "Machine")) (RL RQ) Mach.fin) := by
  obtain ⟨fd, F⟩ := T.u_Machine_end
  refine ⟨fd, fn_pure (N := ["self"]) F sc_self.2.2 ?_ ?_, F.bindsN fun _ _ _ _ _ _ us hl => match us, hl with | [_], _ => rfl⟩
  · rintro args res ⟨_, rfl, _⟩
    exact ⟨rfl, rfl⟩
  · rintro cdv A outer s H E args res hr ⟨m, rfl, rfl⟩
    have hN := sc_self.1.nd
    show RS _ _ _ _ [.dat (RMach (He.ga K "Machine")) m] _
    exact rs_one (r1_ret (ex_list T.f_list (ex_fldD (d := ⟨RL RQ, m.fin⟩) T.c_Machine T.n_Machine_end (ex_var 0 rfl) (by rfl)) .dat) rfl)
theorem sc_msteps : FnScope ["self", "sign", "found", "below"] ["self", "sign"] (defScope s_Machine_steps) := ⟨rfl, rfl, rfl, by decide +kernel, rfl, by decide +kernel, by decide +kernel⟩
def tb_msteps (C : Addr) : List Sl → Sl → Prop := fun args res => ∃ (m : Mach) (s : Nat), args = [.dat (RMach C) m, .dat RSg s] ∧ s ∈ m.signs ∧ res = .dat (RT2 (RL RSt) RInt) (stPair m s)
theorem lookup_sg {β : Type} (g : Nat → β) {s : Nat} : ∀ {l : List Nat}, s ∈ l → (l.map fun s => (([s] : List Nat), g s)).lookup [s] = some (g s)
  | [], h => by cases h
  | c :: l, h => by
    rw [List.map_cons, List.lookup_cons]
    by_cases e : s = c
    · subst e
      rw [show (([s] : List Nat) == [s]) = true from beq_self_eq_true _]
    · rw [show (([s] : List Nat) == [c]) = false from beq_eq_false_iff_ne.mpr (by simpa using e)]
      exact lookup_sg g ((List.mem_cons.mp h).resolve_left e)
theorem ok_msteps (T : TX K mg) : Dm P w K mg base 1 (He.ma K (He.ga K "Machine") "steps") ["self", "sign"] (tb_msteps (He.ga K "Machine")) := by
  obtain ⟨fd, F⟩ := T.u_Machine_steps
  refine ⟨fd, fn_pure (N := ["self", "sign", "found", "below"]) F sc_msteps ?_ ?_, F.bindsN fun _ _ _ _ _ _ us hl => match us, hl with | [_, _], _ => rfl⟩
  · rintro args res ⟨_, _, rfl, _⟩
    exact ⟨rfl, rfl⟩
  · rintro cdv A outer s H E args res hr ⟨m, c, rfl, hc, rfl⟩
    have hN := sc_msteps.nd
    obtain ⟨st, L, hst⟩ : ∃ st L, stPair m c = (st, L) := ⟨_, _, rfl⟩
    rw [hst]
    show RS _ _ _ _ [.dat (RMach (He.ga K "Machine")) m, .dat RSg c, .any, .any] _
    refine rs_cons (r1_asg (sl := .dat (RT2 (RL RSt) RInt) (st, L)) (ex_dget (hu_of hr) (ex_fldD (d := ⟨RD (RT2 (RL RSt) RInt), m.signs.map fun s => ([s], stPair m s)⟩) T.c_Machine T.n_Machine_steps (ex_var 0 rfl) (by rfl)) (ex_sg (ex_var 1 rfl)) (by rw [← hst]; exact lookup_sg (stPair m) hc)) (gt_tup2 (gts_cons (gt_name 2) (gts_cons (gt_name 3) gts_nil))) ?_)
    exact rs_one (r1_ret (ex_tup2 (ex_list T.f_list (ex_var 2 rfl) .dat) (ex_var 3 rfl)) rfl)
/-! ### stepped, stepped_back -/
theorem sc_stepped : FnScope ["machine", "row", "sign", "integers", "below", "steps", "share"] ["machine", "row", "sign"] (defScope s_stepped) := ⟨rfl, rfl, rfl, by decide +kernel, rfl, by decide +kernel, by decide +kernel⟩
theorem sc_stepped_back : FnScope ["machine", "column", "sign", "integers", "below", "steps", "share", "turned", "behind", "state", "integer"] ["machine", "column", "sign"] (defScope s_stepped_back) := ⟨rfl, rfl, rfl, by decide +kernel, rfl, by decide +kernel, by decide +kernel⟩
def stepQ (m : Mach) (row : List Rat) (s : Nat) : List Rat := numsL (bhF (stPair m s).1 (intsL row)) ((lcmL row : Int) * (stPair m s).2)
def turnF (st : List Step) : List Step := st.map fun t => (t.2.1, t.1, t.2.2)
def backQ (m : Mach) (col : List Rat) (s : Nat) : List Rat := numsL (bhF (turnF (stPair m s).1) (intsL col)) ((lcmL col : Int) * (stPair m s).2)
structure StepOk (m : Mach) (row : List Rat) (s : Nat) : Prop where
  sg : s ∈ m.signs
  lr : Bt 1900 (lcmL row)
  num : ∀ q ∈ row, Bt 100000 q.num
  ir : ∀ x ∈ intsL row, Bt 1900 x
  len : row.length ≤ 1000
  st : ∀ t ∈ (stPair m s).1, t.1 < row.length ∧ t.2.1 < row.length ∧ Bt 11500 t.2.2
  ls : Bt 11500 (stPair m s).2
  lp : (stPair m s).2 ≠ 0
def tb_stepped (C : Addr) : List Sl → Sl → Prop := fun args res => ∃ (m : Mach) (row : List Rat) (s : Nat), args = [.dat (RMach C) m, sL RQ row, .dat RSg s] ∧ StepOk m row s ∧ (∀ x ∈ bhF (stPair m s).1 (intsL row), Sm x) ∧ res = sL RQ (stepQ m row s)
def tb_stepped_back (C : Addr) : List Sl → Sl → Prop := fun args res => ∃ (m : Mach) (row : List Rat) (s : Nat), args = [.dat (RMach C) m, sL RQ row, .dat RSg s] ∧ StepOk m row s ∧ (∀ x ∈ bhF (turnF (stPair m s).1) (intsL row), Sm x) ∧ res = sL RQ (backQ m row s)
theorem intsL_len (l : List Rat) : (intsL l).length = l.length := by unfold intsL; rw [List.length_map]
theorem ok_stepped (T : TX K mg) : Dn P w K mg base 3 "stepped" ["machine", "row", "sign"] (tb_stepped (He.ga K "Machine")) := by
  obtain ⟨fd, F⟩ := T.u_stepped
  refine ⟨_, fd, fn_pure (N := ["machine", "row", "sign", "integers", "below", "steps", "share"]) F sc_stepped ?_ ?_, F.bindsN fun _ _ _ _ _ _ us hl => match us, hl with | [_, _, _], _ => rfl, T.g_stepped, F.kp⟩
  · rintro args res ⟨_, _, _, rfl, _⟩
    exact ⟨rfl, rfl⟩
  · rintro cdv A outer s H E args res hr ⟨m, row, c, rfl, ok, hsm, rfl⟩
    have hN := sc_stepped.nd
    have hst2 := ok.st
    have hls := ok.ls
    have hlp := ok.lp
    unfold stepQ
    obtain ⟨st, L, hst⟩ : ∃ st L, stPair m c = (st, L) := ⟨_, _, rfl⟩
    rw [hst] at hsm hst2 hls hlp ⊢
    dsimp only at hsm hst2 hls hlp ⊢
    have hlr : ((lcmL row : Nat) : Int) ≠ 0 := by have := lcmL_pos row; omega
    show RS _ _ _ _ [.dat (RMach (He.ga K "Machine")) m, sL RQ row, .dat RSg c, .any, .any, .any, .any] _
    refine rs_cons (r1_asg (sl := .dat (RT2 (RL RInt) RInt) (intsL row, (lcmL row : Int))) (ex_call (ok_integers_of T) (hr.mono (by decide)) (ea_cons (ex_var 1 rfl) ea_nil) ⟨row, rfl, sm_of ok.lr (by decide), ok.num, rfl⟩) (gt_tup2 (gts_cons (gt_name 3) (gts_cons (gt_name 4) gts_nil))) ?_)
    refine rs_cons (r1_asg (sl := .dat (RT2 (RL RSt) RInt) (st, L)) (ex_to (ex_meth T.c_Machine T.m_Machine_steps (ok_msteps T) (hr.mono (by decide)) (ex_var 0 rfl) (mach_isins rfl) (ea_cons (ex_var 2 rfl) ea_nil) ⟨m, c, rfl, ok.sg, rfl⟩ List.nodup_nil) (by rw [hst])) (gt_tup2 (gts_cons (gt_name 5) (gts_cons (gt_name 6) gts_nil))) ?_)
    refine rs_one (r1_ret (ex_call (ok_numbers_of T) hr (ea_cons (ex_call (ok_integers_behind T) (hr.mono (by decide)) (ea_cons (ex_var 5 rfl) (ea_cons (ex_var 3 rfl) ea_nil)) ⟨st, intsL row, rfl, ?_, ?_, ?_, rfl⟩) (ea_cons (ex_mul (ex_var 4 rfl) (ex_var 6 rfl) (bt_cmul ok.lr hls (by decide))) ea_nil)) ⟨_, _, rfl, Int.mul_ne_zero hlr hlp, sm_of (bt_mul ok.lr hls) (by decide), hsm, rfl⟩) rfl)
    · intro t ht
      rw [intsL_len]
      obtain ⟨h1, h2, h3⟩ := hst2 t ht
      exact ⟨h1, h2, bt_mono h3 (by decide)⟩
    · exact fun x hx => bt_mono (ok.ir x hx) (by decide)
    · rw [intsL_len]
      exact ok.len
theorem ok_stepped_back (T : TX K mg) : Dn P w K mg base 3 "stepped_back" ["machine", "column", "sign"] (tb_stepped_back (He.ga K "Machine")) := by
  obtain ⟨fd, F⟩ := T.u_stepped_back
  refine ⟨_, fd, fn_pure (N := ["machine", "column", "sign", "integers", "below", "steps", "share", "turned", "behind", "state", "integer"]) F sc_stepped_back ?_ ?_, F.bindsN fun _ _ _ _ _ _ us hl => match us, hl with | [_, _, _], _ => rfl, T.g_stepped_back, F.kp⟩
  · rintro args res ⟨_, _, _, rfl, _⟩
    exact ⟨rfl, rfl⟩
  · rintro cdv A outer s H E args res hr ⟨m, row, c, rfl, ok, hsm, rfl⟩
    have hN := sc_stepped_back.nd
    have hst2 := ok.st
    have hls := ok.ls
    have hlp := ok.lp
    unfold backQ
    obtain ⟨st, L, hst⟩ : ∃ st L, stPair m c = (st, L) := ⟨_, _, rfl⟩
    rw [hst] at hsm hst2 hls hlp ⊢
    dsimp only at hsm hst2 hls hlp ⊢
    have hlr : ((lcmL row : Nat) : Int) ≠ 0 := by have := lcmL_pos row; omega
    show RS _ _ _ _ [.dat (RMach (He.ga K "Machine")) m, sL RQ row, .dat RSg c, .any, .any, .any, .any, .any, .any, .any, .any] _
    refine rs_cons (r1_asg (sl := .dat (RT2 (RL RInt) RInt) (intsL row, (lcmL row : Int))) (ex_call (ok_integers_of T) (hr.mono (by decide)) (ea_cons (ex_var 1 rfl) ea_nil) ⟨row, rfl, sm_of ok.lr (by decide), ok.num, rfl⟩) (gt_tup2 (gts_cons (gt_name 3) (gts_cons (gt_name 4) gts_nil))) ?_)
    refine rs_cons (r1_asg (sl := .dat (RT2 (RL RSt) RInt) (st, L)) (ex_to (ex_meth T.c_Machine T.m_Machine_steps (ok_msteps T) (hr.mono (by decide)) (ex_var 0 rfl) (mach_isins rfl) (ea_cons (ex_var 2 rfl) ea_nil) ⟨m, c, rfl, ok.sg, rfl⟩ List.nodup_nil) (by rw [hst])) (gt_tup2 (gts_cons (gt_name 5) (gts_cons (gt_name 6) gts_nil))) ?_)
    refine rs_cons (r1_setLc (R' := RSt) (f := fun t => (t.2.1, t.1, t.2.2)) 7 [("behind", 8), ("state", 9), ("integer", 10)] (it_list (ex_var 5 rfl)) (blkOk_by rfl) (fun t _ _ _ _ _ _ => gt_tup3 (gts_cons (gt_name 9) (gts_cons (gt_name 8) (gts_cons (gt_name 10) gts_nil)))) (fun t _ _ _ _ _ _ => ex_tup3 (ex_var 8 rfl) (ex_var 9 rfl) (ex_var 10 rfl)) ?_)
    refine rs_one (r1_ret (ex_call (ok_numbers_of T) hr (ea_cons (ex_call (ok_integers_behind T) (hr.mono (by decide)) (ea_cons (ex_var 7 rfl) (ea_cons (ex_var 3 rfl) ea_nil)) ⟨turnF st, intsL row, rfl, ?_, ?_, ?_, rfl⟩) (ea_cons (ex_mul (ex_var 4 rfl) (ex_var 6 rfl) (bt_cmul ok.lr hls (by decide))) ea_nil)) ⟨_, _, rfl, Int.mul_ne_zero hlr hlp, sm_of (bt_mul ok.lr hls) (by decide), hsm, rfl⟩) rfl)
    · intro t ht
      obtain ⟨t0, ht0, rfl⟩ := List.mem_map.mp ht
      rw [intsL_len]
      obtain ⟨h1, h2, h3⟩ := hst2 t0 ht0
      exact ⟨h2, h1, bt_mono h3 (by decide)⟩
    · exact fun x hx => bt_mono (ok.ir x hx) (by decide)
    · rw [intsL_len]
      exact ok.len
end PD

/-! part TL7 -/
set_option exponentiation.threshold 256 -- TL7
set_option maxHeartbeats 1000000 -- TL7
set_option maxRecDepth 100000 -- TL7
/-! TL7: while by an index. -/
namespace TL
open PySem PySem.Spec L2 MA
section
variable {X : Cx} {S : List Addr} {F0 H0 F H F' H' F1 H1 : Hp} {e o a b c tg iter elt : Expr} {es : List Expr} {sts : List Stmt} {st : Stmt} {p pos apos : Pos} {Γ Γ' : List Sl} {T T' : TK} {i j : Int} {sl slO res : Sl} {sls : List Sl} {α β γ δ : Type} {R : Rp α} {R' : Rp β} {R'' : Rp γ} {R3 : Rp δ} {x : α} {y : β} {z : γ} {u : δ} {l : List α} {is : List Nat}
/-- while, round by round: at most n rounds -/
theorem r1_whileI {body : List Stmt} (n : Nat) (Pv : Nat → List Sl → Prop) (h0 : Pv 0 Γ)
    (hb : ∀ i Γi, i ≤ n → Pv i Γi → ∃ k, ET X c Γi k ∧ (k = true → i < n ∧ RS X S H0 body Γi { T with nx := fun Γ2 => ∃ Γ3, Wk Γ2 Γ3 ∧ Pv (i + 1) Γ3, ct := fun Γ2 => ∃ Γ3, Wk Γ2 Γ3 ∧ Pv (i + 1) Γ3, bk := T.nx }) ∧ (k = false → T.nx Γi))
    (hp : PassesOwn (model X.prog X.w) X.A X.env X.xe := by exact PassesOwn.never) : R1 X S H0 (.While c body [] pos) Γ T := fun F0 σ F H lv => by
  refine PS.wp (ps_while hp pt_wp pss_wp) ?_
  refine ⟨fun m σ2 H2 => ∃ F2 Γ2 i, Lv S F0 H0 F2 H2 Γ2 σ2 ∧ Pv i Γ2 ∧ i ≤ n ∧ m = n - i, ⟨_, F, Γ, 0, lv, h0, Nat.zero_le _, rfl⟩, ?_⟩
  rintro m σ2 H2 ⟨F2, Γ2, i, l2, p2, hi, rfl⟩
  obtain ⟨k, ht, h1, h2⟩ := hb i Γ2 hi p2
  refine ht σ2 F2 H2 l2.wd _ fun F3 H3 g3 => ?_
  have l3 := l2.grow g3
  cases k with
  | false => exact iteF ⟨F3, Γ2, l3, h2 rfl⟩
  | true =>
    obtain ⟨hlt, h1'⟩ := h1 rfl
    refine iteT ⟨fun σ' H' => ∃ F' Γ', Lv S F0 H0 F' H' Γ' σ' ∧ Pv (i + 1) Γ', ?_, ?_⟩
    · rintro σ' H' ⟨F', Γ', l', p'⟩
      exact ⟨n - (i + 1), by omega, F', Γ', i + 1, l', p', hlt, rfl⟩
    · intro pins s I
      refine wpAny_mono (h1' F0 σ2 F3 H3 l3 pins s I) (fun f s' q => ?_) fun _ _ z => z
      cases f with
      | next => obtain ⟨σ', H', I', F', Γ', l', Γ3, wk, q'⟩ := q; exact ⟨σ', H', I', F', Γ3, l'.wk wk, q'⟩
      | brk => exact q
      | cont => obtain ⟨σ', H', I', F', Γ', l', Γ3, wk, q'⟩ := q; exact ⟨σ', H', I', F', Γ3, l'.wk wk, q'⟩
      | ret u => exact q
/-- a slot of data is read another way -/
theorem Sat.cv {i : Nat} (hc : ∀ F v, R.rel F v x → R'.rel F v y) : ∀ {Γ : List Sl} {σ : L2.St} {i : Nat}, gtS Γ i = .dat R x → Sat F H Γ σ → Sat F H (stS Γ i (.dat R' y)) σ
  | [], _, _, e, _ => by cases e
  | s :: Γ, [], _, _, h => h.elim
  | s :: Γ, o :: σ, 0, e, ⟨h1, h2⟩ => by
    have e2 : s = .dat R x := e
    subst e2
    obtain ⟨v, ev, r⟩ := h1
    exact ⟨⟨v, ev, hc F v r⟩, h2⟩
  | s :: Γ, o :: σ, i + 1, e, ⟨h1, h2⟩ => ⟨h1, Sat.cv (i := i) hc e h2⟩
theorem rs_cv (i : Nat) (h0 : gtS Γ i = .dat R x) (hc : ∀ F v, R.rel F v x → R'.rel F v y) (h : RS X S H0 sts (stS Γ i (.dat R' y)) T) : RS X S H0 sts Γ T := fun F0 σ F H l =>
  h F0 σ F H ⟨l.gr, ⟨l.wd.sub, Sat.cv (i := i) hc h0 l.wd.sat, feet_st_nd (sl := .dat R' y) List.nodup_nil l.wd.nd fun b hb => by cases hb⟩, fun b hb => by
    rcases feetO_st_sub hb with z | z
    · cases z
    · exact l.mine b z⟩
/-- numbers that are written -/
theorem ex_q {n d : Int} {q : Rat} {x1 j1 j2 : Nat} {p1 p2 : Pos} (hn : q.num = n) (hd : (q.den : Int) = d) (hs1 : starEach [.Constant (.int d) j2 p2] X.env = (false, eval (.Constant (.int d) j2 p2) X.env) :: starEach [] X.env := by rfl)
    (hs : starEach [.Constant (.int n) j1 p1, .Constant (.int d) j2 p2] X.env = (false, eval (.Constant (.int n) j1 p1) X.env) :: starEach [.Constant (.int d) j2 p2] X.env := by rfl) : EX X (.Tuple [.Constant (.int n) j1 p1, .Constant (.int d) j2 p2] x1 pos) Γ (.dat RQ q) :=
  ex_conv (ex_tup2 (R := RInt) (R' := RInt) ex_int ex_int hs1 hs) fun F v r => by
    subst hn
    subst hd
    exact r
end
end TL

/-! part PD7 -/
set_option exponentiation.threshold 256 -- PD7
set_option maxHeartbeats 1000000 -- PD7
set_option maxRecDepth 100000 -- PD7
/-! PD7: free_columns. -/
namespace PD
open PySem PySem.Spec L2 TL KHd MA
variable {P : Program} {w : World} {K : PySem.W.Frag} {mg : Str → Option Value} {base : Heap}
/-! ### free_columns -/
abbrev FcS : Type := List K3 × List (List Rat) × List (List Rat)
def fcStep (m : Mach) (st : FcS) (c : List Rat) : FcS := if putB st.1 c = true then (putK st.1 c, st.2.1 ++ [c], st.2.2 ++ m.signs.map (backQ m c)) else (putK st.1 c, st.2.1, st.2.2)
/-- within a round -/
def fcIn (m : Mach) (st : FcS) (j : Nat) : FcS := (st.2.2.take j).foldl (fcStep m) (st.1, st.2.1, [])
/-- round by round -/
def fcR (m : Mach) : Nat → FcS
  | 0 => ([], [], [m.fin])
  | i + 1 => fcIn m (fcR m i) (fcR m i).2.2.length
theorem fcIn_succ {m : Mach} {st : FcS} {j : Nat} {c : List Rat} (h : st.2.2[j]? = some c) : fcIn m st (j + 1) = fcStep m (fcIn m st j) c := by
  unfold fcIn
  rw [List.take_add_one, h, List.foldl_append]
  rfl
/-- all goes well, n rounds -/
structure FcOk (m : Mach) (n : Nat) : Prop where
  ends : (fcR m n).2.2 = []
  goes : ∀ i, i < n → (fcR m i).2.2 ≠ []
  left : ∀ i j c, i < n → (fcR m i).2.2[j]? = some c → LeftOk (fcIn m (fcR m i) j).1 c ∧ (putB (fcIn m (fcR m i) j).1 c = true → ∀ s ∈ m.signs, StepOk m c s ∧ ∀ x ∈ bhF (turnF (stPair m s).1) (intsL c), Sm x)
  len : ∀ i j, i < n → (fcIn m (fcR m i) j).2.1.length < 1000 ∧ (fcIn m (fcR m i) j).2.2.length + m.signs.length < 100000
def fcF (m : Mach) (n : Nat) : List (List Rat) := (fcR m n).2.1
abbrev RRow : Rp (List Rat) := RL RQ
abbrev nFc : List Str := ["machine", "basis", "found", "row", "longer", "column", "sign"]
theorem sc_fc : FnScope nFc ["machine"] (defScope s_free_columns) := ⟨rfl, rfl, rfl, by decide +kernel, rfl, by decide +kernel, by decide +kernel⟩
def tb_fc (C : Addr) : List Sl → Sl → Prop := fun args res => ∃ (m : Mach) (n : Nat), args = [.dat (RMach C) m] ∧ FcOk m n ∧ res = sL RRow (fcF m n)
theorem ok_free_columns (T : TX K mg) : Dn P w K mg base 5 "free_columns" ["machine"] (tb_fc (He.ga K "Machine")) := by
  obtain ⟨fd, F⟩ := T.u_free_columns
  refine ⟨_, fd, fn_pure (N := nFc) F sc_fc ?_ ?_, F.bindsN fun _ _ _ _ _ _ us hl => match us, hl with | [_], _ => rfl, T.g_free_columns, F.kp⟩
  · rintro args res ⟨_, _, rfl, _⟩
    exact ⟨rfl, rfl⟩
  · rintro cdv A outer s H E args res hr ⟨m, n, rfl, ok, rfl⟩
    have hN := sc_fc.nd
    have hz : sizeLine = 16777216 := rfl
    show RS _ _ _ _ [.dat (RMach (He.ga K "Machine")) m, .any, .any, .any, .any, .any, .any] _
    refine rs_cons (r1_mkB (k := 0) T (hr.mono (by decide)) 1 fun B dx L hd => ?_)
    show RS _ _ _ _ [.dat (RMach (He.ga K "Machine")) m, .own (basO (He.ga K "Basis") B dx L hd [] []), .any, .any, .any, .any, .any] _
    refine rs_cons (r1_par (P := fun s => ∃ D, s = sO RRow D []) (P' := fun s => s = sL RRow [m.fin]) 2 3 en_lst0 (en_ex (ex_lst1 (R := RRow) (ex_prop T.c_Machine T.p_Machine_end (ok_mend T) (hr.mono (by decide)) (ex_var 0 rfl) (fun F H v s r => mach_ins s r) ⟨m, rfl, rfl⟩))) ?_)
    rintro _ _ ⟨D, rfl⟩ rfl
    show RS _ _ _ _ [.dat (RMach (He.ga K "Machine")) m, .own (basO (He.ga K "Basis") B dx L hd [] []), sO RRow D [], sL RRow [m.fin], .any, .any, .any] _
    refine rs_cons (r1_whileI n (fun i Γ => ∃ xs D, Γ = [.dat (RMach (He.ga K "Machine")) m, .own (basO (He.ga K "Basis") B dx L hd xs (fcR m i).1), sO RRow D (fcR m i).2.1, sL RRow (fcR m i).2.2, .any, .any, .any]) ⟨_, _, rfl⟩ ?_)
    rintro i _ hi ⟨xs, D, rfl⟩
    refine ⟨_, et_gt (ex_len T.f_len (ex_var 3 rfl) .dat) ex_int, fun h => ?_, fun h => ?_⟩
    · have hne : (fcR m i).2.2 ≠ [] := fun z => by rw [z] at h; cases h
      have hlt : i < n := by
        rcases Nat.lt_or_ge i n with z | z
        · exact z
        · have : i = n := by omega
          subst this
          exact absurd ok.ends hne
      refine ⟨hlt, ?_⟩
      have hs : fcR m (i + 1) = fcIn m (fcR m i) (fcR m i).2.2.length := rfl
      rw [hs]
      have hleft := ok.left i
      have hlen := ok.len i
      generalize fcR m i = st at *
      obtain ⟨kp, fo, ro⟩ := st
      dsimp only at *
      refine rs_cons (r1_new RRow 4 fun D2 => ?_)
      show RS _ _ _ _ [.dat (RMach (He.ga K "Machine")) m, .own (basO (He.ga K "Basis") B dx L hd xs kp), sO RRow D fo, sL RRow ro, sO RRow D2 [], .any, .any] _
      refine rs_cons (r1_for (it_list (ex_var 3 rfl)) (fun j Γ => ∃ xs, Γ = [.dat (RMach (He.ga K "Machine")) m, .own (basO (He.ga K "Basis") B dx L hd xs (fcIn m (kp, fo, ro) j).1), sO RRow D (fcIn m (kp, fo, ro) j).2.1, sL RRow ro, sO RRow D2 (fcIn m (kp, fo, ro) j).2.2, .any, .any]) ⟨_, rfl⟩ ?_ ?_)
      · rintro j c _ hj ⟨xs, rfl⟩
        obtain ⟨hl, hst⟩ := hleft j c hlt hj
        obtain ⟨hl1, hl2⟩ := hlen j hlt
        have hsu : fcIn m (kp, fo, ro) (j + 1) = fcStep m (fcIn m (kp, fo, ro) j) c := fcIn_succ hj
        rw [hsu]
        generalize fcIn m (kp, fo, ro) j = st at *
        obtain ⟨kp2, fo2, ro2⟩ := st
        unfold fcStep
        dsimp only at *
        refine ⟨_, _, gt_name 5, fun _ h => h, ?_⟩
        refine rs_one (r1_ifG (eg_meth (n := 1) (Q0 := fun sl Γ' => sl = sB (putB kp2 c) ∧ ∃ xs', Γ' = [.dat (RMach (He.ga K "Machine")) m, .own (basO (He.ga K "Basis") B dx L hd xs' (putK kp2 c)), sO RRow D fo2, sL RRow ro, sO RRow D2 ro2, sL RQ c, .any]) T.c_Basis T.m_Basis_put (ok_put T) hr rfl (ex_var 1 rfl) (bas_insO (by decide)) (ea_cons (ex_var 5 rfl) ea_nil) ⟨B, dx, L, hd, xs, kp2, c, rfl, hl, rfl⟩ rfl ?_) ?_)
        · rintro sl Γc ⟨rfl, xs', h0⟩
          exact ⟨_, h0, rfl, rfl, rfl, rfl, xs', rfl⟩
        · rintro sl Γ' ⟨rfl, xs', rfl⟩
          refine ⟨_, rfl, fun hk => ?_, fun hk => rs_nil ⟨_, .same (.same (.same (.same (.same (.any (.any .nil)))))), xs', ?_⟩⟩
          · rw [if_pos hk]
            refine rs_cons (r1_app 2 rfl (ex_var 5 rfl) (by omega) ?_)
            refine rs_one (r1_ext (R := RRow) (m := m.signs.map (backQ m c)) 4 rfl (ex_lc [("sign", 6)] (it_str (ex_prop T.c_Machine T.p_Machine_signs (ok_msigns T) (hr.mono (by decide)) (ex_var 0 rfl) (fun F H v s r => mach_ins s r) ⟨m, rfl, rfl⟩)) (blkOk_by rfl) (fun _ _ _ _ _ _ _ => gt_name 6)
              (fun s hs _ _ _ _ _ => ex_call (ok_stepped_back T) (hr.mono (by decide)) (ea_cons (ex_var 0 rfl) (ea_cons (ex_var 5 rfl) (ea_cons (ex_var 6 rfl) ea_nil))) ⟨m, c, s, rfl, (hst hk s hs).1, (hst hk s hs).2, rfl⟩)) (by rw [List.length_map]; omega) ⟨_, .same (.same (.same (.same (.same (.any (.any .nil)))))), xs', rfl⟩)
          · rw [if_neg (by rw [hk]; exact Bool.false_ne_true)]
      · rintro _ ⟨xs, rfl⟩
        refine rs_frz 4 rfl (by simp) ?_
        exact rs_one (r1_set 3 (ex_var 4 rfl) ⟨_, .same (.same (.same (.same (.any (.any (.any .nil)))))), xs, D, rfl⟩)
    · have hne : (fcR m i).2.2 = [] := by
        have : ¬ (0 : Int) < ((fcR m i).2.2.length : Int) := of_decide_eq_false h
        exact List.length_eq_zero_iff.mp (by omega)
      have : i = n := by
        rcases Nat.lt_or_ge i n with z | z
        · exact absurd hne (ok.goes i z)
        · omega
      subst this
      refine rs_frz 2 rfl (by simp) ?_
      exact rs_one (r1_ret (ex_var 2 rfl) rfl)
end PD

/-! part PD8 -/
set_option exponentiation.threshold 256 -- PD8
set_option maxHeartbeats 1000000 -- PD8
set_option maxRecDepth 100000 -- PD8
/-! PD8: form_of. -/
namespace PD
open PySem PySem.Spec L2 TL KHd MA
variable {P : Program} {w : World} {K : PySem.W.Frag} {mg : Str → Option Value} {base : Heap}
def phi (cols : List (List Rat)) (row : List Rat) : List Rat := cols.map (dotQ row)
abbrev FmT : Type := List K3 × List (List Nat) × List (List Rat) × List (List Rat)
abbrev FmS : Type := List K3 × List (List Nat) × List (List Rat) × List (List (List Rat))
def fmSign (m : Mach) (cols : List (List Rat)) (p : Nat) (st : FmT) (s : Nat) : FmT :=
  match toldF st.1 (phi cols (stepQ m (st.2.2.1.getD p []) s)) with
  | some t => (st.1, st.2.1, st.2.2.1, st.2.2.2 ++ [t])
  | none => (putK st.1 (phi cols (stepQ m (st.2.2.1.getD p []) s)), st.2.1 ++ [st.2.1.getD p [] ++ [s]], st.2.2.1 ++ [stepQ m (st.2.2.1.getD p []) s], st.2.2.2 ++ [List.replicate st.2.1.length 0 ++ [1]])
def fmIn (m : Mach) (cols : List (List Rat)) (p : Nat) (st : FmS) (j : Nat) : FmT := (m.signs.take j).foldl (fmSign m cols p) (st.1, st.2.1, st.2.2.1, [])
def fmR (m : Mach) (cols : List (List Rat)) : Nat → FmS
  | 0 => if putB [] (phi cols m.bg) = true then (putK [] (phi cols m.bg), [[]], [m.bg], []) else (putK [] (phi cols m.bg), [], [], [])
  | i + 1 => ((fmIn m cols i (fmR m cols i) m.signs.length).1, (fmIn m cols i (fmR m cols i) m.signs.length).2.1, (fmIn m cols i (fmR m cols i) m.signs.length).2.2.1, (fmR m cols i).2.2.2 ++ [(fmIn m cols i (fmR m cols i) m.signs.length).2.2.2])
theorem fmIn_succ {m : Mach} {cols : List (List Rat)} {p : Nat} {st : FmS} {j s : Nat} (h : m.signs[j]? = some s) : fmIn m cols p st (j + 1) = fmSign m cols p (fmIn m cols p st j) s := by
  unfold fmIn
  rw [List.take_add_one, h, List.foldl_append]
  rfl
theorem fmR_len (m : Mach) (cols : List (List Rat)) : ∀ i, (fmR m cols i).2.2.2.length = i
  | 0 => by
    unfold fmR
    split <;> rfl
  | i + 1 => by
    show ((fmR m cols i).2.2.2 ++ [_]).length = i + 1
    rw [List.length_append, fmR_len m cols i]
    rfl
def DotOk (l m : List Rat) : Prop := (∀ i, Hq (dotP ((l.zip m).take i))) ∧ ∀ p ∈ l.zip m, Hq p.1 ∧ Hq p.2 ∧ Hq (p.1 * p.2)
structure FmSg (m : Mach) (cols : List (List Rat)) (p : Nat) (st : FmT) (s : Nat) : Prop where
  at_ : p < st.2.1.length ∧ p < st.2.2.1.length
  stp : StepOk m (st.2.2.1.getD p []) s ∧ ∀ x ∈ bhF (stPair m s).1 (intsL (st.2.2.1.getD p [])), Sm x
  dot : ∀ c ∈ cols, DotOk (stepQ m (st.2.2.1.getD p []) s) c
  left : LeftOk st.1 (phi cols (stepQ m (st.2.2.1.getD p []) s))
  len : st.2.1.length < 1000 ∧ st.2.2.1.length < 1000 ∧ st.2.2.2.length < 1000 ∧ (st.2.1.getD p []).length < 1000
/-- all goes well: n rounds -/
structure FmOk (m : Mach) (cols : List (List Rat)) (n : Nat) : Prop where
  first : LeftOk [] (phi cols m.bg)
  dot0 : ∀ c ∈ cols, DotOk m.bg c
  ends : (fmR m cols n).2.1.length = n
  goes : ∀ i, i < n → i < (fmR m cols i).2.1.length
  sg : ∀ i j s, i < n → m.signs[j]? = some s → FmSg m cols i (fmIn m cols i (fmR m cols i) j) s
  pad : ∀ ns ∈ (fmR m cols n).2.2.2, ∀ t ∈ ns, t.length ≤ n
  dote : ∀ r ∈ (fmR m cols n).2.2.1, DotOk r m.fin
  nle : n < 1000
def padT (n : Nat) (t : List (List (List Rat))) : List (List (List Rat)) := t.map fun ns => ns.map fun l => l ++ List.replicate ((n : Int) - (l.length : Int)).toNat 0
def formF (m : Mach) (cols : List (List Rat)) (n : Nat) : List (List Nat) × List (List (List Rat)) × List Rat := ((fmR m cols n).2.1, padT (fmR m cols n).2.1.length (fmR m cols n).2.2.2, (fmR m cols n).2.2.1.map fun r => dotQ r m.fin)
abbrev RForm : Rp (List (List Nat) × List (List (List Rat)) × List Rat) := RT3 (RL RTx) (RL (RL (RL RQ))) (RL RQ)
abbrev nFm : List Str := ["machine", "columns", "basis", "heads", "rows", "table", "place", "numbers", "sign", "row", "rest", "told", "size", "column"]
theorem sc_fm : FnScope nFm ["machine"] (defScope s_form_of) := ⟨rfl, rfl, rfl, by decide +kernel, rfl, by decide +kernel, by decide +kernel⟩
def tb_fm (C : Addr) : List Sl → Sl → Prop := fun args res => ∃ (m : Mach) (k n : Nat), args = [.dat (RMach C) m] ∧ FcOk m k ∧ FmOk m (fcF m k) n ∧ res = .dat RForm (formF m (fcF m k) n)
theorem ok_form_of (T : TX K mg) : Dn P w K mg base 6 "form_of" ["machine"] (tb_fm (He.ga K "Machine")) := by
  obtain ⟨fd, F⟩ := T.u_form_of
  refine ⟨_, fd, fn_pure (N := nFm) F sc_fm ?_ ?_, F.bindsN fun _ _ _ _ _ _ us hl => match us, hl with | [_], _ => rfl, T.g_form_of, F.kp⟩
  · rintro args res ⟨_, _, _, rfl, _⟩
    exact ⟨rfl, rfl⟩
  · rintro cdv A outer s H E args res hr ⟨m, k, n, rfl, fok, ok, rfl⟩
    have hN := sc_fm.nd
    have hz : sizeLine = 16777216 := rfl
    have q0n : (0 : Rat).num = 0 := rfl
    have q0d : (((0 : Rat).den : Nat) : Int) = 1 := rfl
    have q1n : (1 : Rat).num = 1 := rfl
    have q1d : (((1 : Rat).den : Nat) : Int) = 1 := rfl
    show RS _ _ _ _ [.dat (RMach (He.ga K "Machine")) m, .any, .any, .any, .any, .any, .any, .any, .any, .any, .any, .any, .any, .any] _
    refine rs_cons (r1_set (sl := sL RRow (fcF m k)) 1 (ex_call (ok_free_columns T) hr (ea_cons (ex_var 0 rfl) ea_nil) ⟨m, k, rfl, fok, rfl⟩) ?_)
    generalize fcF m k = cols at *
    refine rs_cons (r1_mkB (k := 0) T (hr.mono (by decide)) 2 fun B dx L hd => ?_)
    refine rs_cons (r1_par3 (P := fun s => ∃ D, s = sO RTx D []) (P' := fun s => ∃ D, s = sO RRow D []) (P'' := fun s => ∃ D, s = sO (RL RRow) D []) 3 4 5 en_lst0 en_lst0 en_lst0 ?_)
    rintro _ _ _ ⟨D1, rfl⟩ ⟨D2, rfl⟩ ⟨D3, rfl⟩
    show RS _ _ _ _ [.dat (RMach (He.ga K "Machine")) m, sL RRow cols, .own (basO (He.ga K "Basis") B dx L hd [] []), sO RTx D1 [], sO RRow D2 [], sO (RL RRow) D3 [], .any, .any, .any, .any, .any, .any, .any, .any] _
    have rest : ∀ xs, RS (BX P w K mg base nFm "form_of" s_form_of (He.ga K "form_of") cdv A outer s H E) [] H ((defBody s_form_of).drop 4) [.dat (RMach (He.ga K "Machine")) m, sL RRow cols, .own (basO (He.ga K "Basis") B dx L hd xs (fmR m cols 0).1), sO RTx D1 (fmR m cols 0).2.1, sO RRow D2 (fmR m cols 0).2.2.1, sO (RL RRow) D3 (fmR m cols 0).2.2.2, .any, .any, .any, .any, .any, .any, .any, .any] { nx := fun _ => Sl.dat RForm (formF m cols n) = .dat RNon (), rt := fun sl _ => sl = Sl.dat RForm (formF m cols n) } := by
      intro xs
      refine rs_cons (r1_whileI n (fun i Γ => ∃ xs, Γ = [.dat (RMach (He.ga K "Machine")) m, sL RRow cols, .own (basO (He.ga K "Basis") B dx L hd xs (fmR m cols i).1), sO RTx D1 (fmR m cols i).2.1, sO RRow D2 (fmR m cols i).2.2.1, sO (RL RRow) D3 (fmR m cols i).2.2.2, .any, .any, .any, .any, .any, .any, .any, .any]) ⟨_, rfl⟩ ?_)
      rintro i _ hi ⟨xs, rfl⟩
      have htl := fmR_len m cols i
      refine ⟨_, et_lt (ex_len T.f_len (ex_var 5 rfl) .own) (ex_len T.f_len (ex_var 3 rfl) .own), fun h => ?_, fun h => ?_⟩
      · have hlt0 : i < (fmR m cols i).2.1.length := by
          have := of_decide_eq_true h
          rw [htl] at this
          omega
        have hlt : i < n := by
          rcases Nat.lt_or_ge i n with z | z
          · exact z
          · have : i = n := by omega
            subst this
            rw [ok.ends] at hlt0
            omega
        refine ⟨hlt, ?_⟩
        have hs : fmR m cols (i + 1) = ((fmIn m cols i (fmR m cols i) m.signs.length).1, (fmIn m cols i (fmR m cols i) m.signs.length).2.1, (fmIn m cols i (fmR m cols i) m.signs.length).2.2.1, (fmR m cols i).2.2.2 ++ [(fmIn m cols i (fmR m cols i) m.signs.length).2.2.2]) := rfl
        rw [hs]
        have hsg := ok.sg i
        have hn1 := ok.nle
        generalize fmR m cols i = st at *
        obtain ⟨kp, hds, rws, tbl⟩ := st
        dsimp only at *
        refine rs_cons (r1_set (sl := sI i) 6 (ex_to (ex_len T.f_len (ex_var 5 rfl) .own) (by rw [htl])) ?_)
        refine rs_cons (r1_new RRow 7 fun D4 => ?_)
        refine rs_cons (r1_for (it_str (ex_prop T.c_Machine T.p_Machine_signs (ok_msigns T) (hr.mono (by decide)) (ex_var 0 rfl) (fun F H v s r => mach_ins s r) ⟨m, rfl, rfl⟩)) (fun j Γ => ∃ xs, Γ = [.dat (RMach (He.ga K "Machine")) m, sL RRow cols, .own (basO (He.ga K "Basis") B dx L hd xs (fmIn m cols i (kp, hds, rws, tbl) j).1), sO RTx D1 (fmIn m cols i (kp, hds, rws, tbl) j).2.1, sO RRow D2 (fmIn m cols i (kp, hds, rws, tbl) j).2.2.1, sO (RL RRow) D3 tbl, sI i, sO RRow D4 (fmIn m cols i (kp, hds, rws, tbl) j).2.2.2, .any, .any, .any, .any, .any, .any]) ⟨_, rfl⟩ ?_ ?_)
        · rintro j c _ hj ⟨xs, rfl⟩
          have hsu : fmIn m cols i (kp, hds, rws, tbl) (j + 1) = fmSign m cols i (fmIn m cols i (kp, hds, rws, tbl) j) c := fmIn_succ hj
          have hok := hsg j c hlt hj
          rw [hsu]
          generalize fmIn m cols i (kp, hds, rws, tbl) j = st at *
          obtain ⟨kp2, hd2, rw2, nb⟩ := st
          unfold fmSign
          obtain ⟨⟨ha1, ha2⟩, ⟨hs1, hs2⟩, hdt, hlf, hl1, hl2, hl3, hl4⟩ := hok
          dsimp only at *
          refine ⟨_, _, gt_name 8, fun _ h => h, ?_⟩
          have ear : atI rw2 (i : Int) = some (rw2.getD i []) := atI_nat (by rw [List.getD_eq_getElem?_getD, List.getElem?_eq_getElem ha2]; rfl)
          have eah : atI hd2 (i : Int) = some (hd2.getD i []) := atI_nat (by rw [List.getD_eq_getElem?_getD, List.getElem?_eq_getElem ha1]; rfl)
          refine rs_cons (r1_set (sl := sL RQ (stepQ m (rw2.getD i []) c)) 9 (ex_call (ok_stepped T) (hr.mono (by decide)) (ea_cons (ex_var 0 rfl) (ea_cons (ex_ixS (ex_var 4 rfl) .own (ex_var 6 rfl) ear) (ea_cons (ex_var 8 rfl) ea_nil))) ⟨m, _, c, rfl, hs1, hs2, rfl⟩) ?_)
          generalize stepQ m (rw2.getD i []) c = row at *
          refine rs_cons (r1_setLc (R' := RQ) (f := dotQ row) 10 [("column", 13)] (it_list (ex_var 1 rfl)) (blkOk_by rfl) (fun _ _ _ _ _ _ _ => gt_name 13) (fun c hc _ _ _ _ _ => ex_call (ok_dot T) (hr.mono (by decide)) (ea_cons (ex_var 9 rfl) (ea_cons (ex_var 13 rfl) ea_nil)) ⟨row, c, rfl, (hdt c hc).1, (hdt c hc).2, rfl⟩) ?_)
          show RS _ _ _ _ [.dat (RMach (He.ga K "Machine")) m, sL RRow cols, .own (basO (He.ga K "Basis") B dx L hd xs kp2), sO RTx D1 hd2, sO RRow D2 rw2, sO (RL RRow) D3 tbl, sI i, sO RRow D4 nb, .dat RSg c, sL RQ row, sL RQ (phi cols row), .any, .any, .any] _
          refine rs_cons (r1_set (sl := .dat (ROpt (RL RQ)) (toldF kp2 (phi cols row))) 11 (ex_meth T.c_Basis T.m_Basis_told (ok_told T) (hr.mono (by decide)) (ex_bor (ex_var 2 rfl)) (bas_ins (by decide)) (ea_cons (ex_var 10 rfl) ea_nil) ⟨B, dx, L, hd, xs, kp2, phi cols row, rfl, hlf, rfl⟩ (by show ([B, dx, L] ++ ([] ++ [])).Nodup; simpa using hd)) ?_)
          obtain ⟨to, hto⟩ : ∃ to, toldF kp2 (phi cols row) = to := ⟨_, rfl⟩
          rw [hto]
          refine rs_cons (r1_if (et_isN (ex_var 11 rfl) (fun F v x r => ?_)) (fun h => ?_) (fun h => ?_))
          · obtain ⟨p, xs, rfl, _⟩ := r
            intro z
            cases z
          · cases to with
            | some t => cases h
            | none =>
              refine rs_cons (r1_exprG (eg_meth (n := 2) (Q0 := fun sl Γ' => ∃ xs, Γ' = [.dat (RMach (He.ga K "Machine")) m, sL RRow cols, .own (basO (He.ga K "Basis") B dx L hd xs (putK kp2 (phi cols row))), sO RTx D1 hd2, sO RRow D2 rw2, sO (RL RRow) D3 tbl, sI i, sO RRow D4 nb, .dat RSg c, sL RQ row, sL RQ (phi cols row), .dat (ROpt (RL RQ)) none, .any, .any]) T.c_Basis T.m_Basis_put (ok_put T) (hr.mono (by decide)) rfl (ex_var 2 rfl) (bas_insO (by decide)) (ea_cons (ex_var 10 rfl) ea_nil) ⟨B, dx, L, hd, xs, kp2, phi cols row, rfl, hlf, rfl⟩ rfl ?_) ?_)
              · rintro sl Γc ⟨rfl, xs', h0⟩
                exact ⟨_, h0, rfl, rfl, rfl, xs', rfl⟩
              · rintro sl _ ⟨xs, rfl⟩
                refine rs_cons (r1_set (sl := sL RQ (List.replicate hd2.length 0 ++ [1])) 11 (ex_to (ex_cat (ex_rep (ex_lst1 (x := (0 : Rat)) (ex_q q0n q0d)) (ex_len T.f_len (ex_var 3 rfl) .own) (by omega) (by omega)) (ex_lst1 (x := (1 : Rat)) (ex_q q1n q1d)) ?_) (by rw [Int.toNat_natCast])) ?_)
                · rw [List.length_replicate, Int.toNat_natCast]
                  show hd2.length + 1 ≤ _
                  omega
                refine rs_cons (r1_app 3 rfl (ex_cat_s (ex_ixS (ex_var 3 rfl) .own (ex_var 6 rfl) eah) (ex_sg (ex_var 8 rfl)) (by show _ + 1 ≤ _; omega)) (by omega) ?_)
                refine rs_one (r1_app 4 rfl (ex_var 9 rfl) (by omega) ?_)
                exact rs_one (r1_app 7 rfl (ex_var 11 rfl) (by omega) ⟨_, .same (.same (.same (.same (.same (.same (.same (.same (.any (.any (.any (.any (.any (.any .nil))))))))))))), xs, rfl⟩)
          · cases to with
            | none => cases h
            | some t =>
              refine rs_cv (x := some t) (R' := RL RQ) (y := t) 11 rfl (fun F v r => r) (rs_nil ?_)
              exact rs_one (r1_app 7 rfl (ex_var 11 rfl) (by omega) ⟨_, .same (.same (.same (.same (.same (.same (.same (.same (.any (.any (.any (.any (.any (.any .nil))))))))))))), xs, rfl⟩)
        · rintro _ ⟨xs, rfl⟩
          refine rs_frz 7 rfl (by simp) ?_
          exact rs_one (r1_app 5 rfl (ex_var 7 rfl) (by omega) ⟨_, .same (.same (.same (.same (.same (.same (.any (.any (.any (.any (.any (.any (.any (.any .nil))))))))))))), xs, rfl⟩)
      · have hge : ¬ i < (fmR m cols i).2.1.length := by
          have := of_decide_eq_false h
          rw [htl] at this
          omega
        have : i = n := by
          rcases Nat.lt_or_ge i n with z | z
          · exact absurd (ok.goes i z) hge
          · omega
        subst this
        have hpad := ok.pad
        have hdote := ok.dote
        have hends := ok.ends
        have hn1 := ok.nle
        unfold formF
        generalize fmR m cols i = st at *
        obtain ⟨kp, hds, rws, tbl⟩ := st
        dsimp only at *
        refine rs_cons (r1_set (sl := sI hds.length) 12 (ex_len T.f_len (ex_var 3 rfl) .own) ?_)
        refine rs_frz 5 rfl (by simp) ?_
        refine rs_cons (r1_setLc (R := RL RRow) (R' := RL RRow) (f := fun ns : List (List Rat) => ns.map fun l => l ++ List.replicate ((hds.length : Int) - (l.length : Int)).toNat 0) 5 [("numbers", 7)] (it_list (ex_var 5 rfl)) (blkOk_by rfl) (fun _ _ _ _ _ _ _ => gt_name 7)
          ?_ ?_)
        · intro ns hns _ _ _ _ _
          refine ex_lc (R := RRow) (R' := RRow) [("told", 11)] (it_list (ex_var 7 rfl)) (blkOk_by rfl) (fun _ _ _ _ _ _ _ => gt_name 11) ?_
          intro l hl _ _ _ _ _
          have := hpad ns hns l hl
          refine ex_cat (ex_var 11 rfl) (ex_rep (ex_lst1 (x := (0 : Rat)) (ex_q q0n q0d)) (ex_sub (ex_var 12 rfl) (ex_len T.f_len (ex_var 11 rfl) .dat)) ?_ ?_) ?_
          · omega
          · omega
          · rw [List.length_replicate]
            omega
        refine rs_frz 3 rfl (by simp) ?_
        refine rs_frz 4 rfl (by simp) ?_
        exact rs_one (r1_ret (ex_tup3 (ex_var 3 rfl) (ex_var 5 rfl) (ex_lc (R' := RQ) (f := fun r => dotQ r m.fin) [("row", 9)] (it_list (ex_var 4 rfl)) (blkOk_by rfl) (fun _ _ _ _ _ _ _ => gt_name 9) (fun r hr2 _ _ _ _ _ => ex_call (ok_dot T) (hr.mono (by decide)) (ea_cons (ex_var 9 rfl) (ea_cons (ex_prop T.c_Machine T.p_Machine_end (ok_mend T) (hr.mono (by decide)) (ex_var 0 rfl) (fun F H v s r => mach_ins s r) ⟨m, rfl, rfl⟩) ea_nil)) ⟨r, m.fin, rfl, (hdote r hr2).1, (hdote r hr2).2, rfl⟩))) rfl)
    refine rs_cons (r1_ifG (eg_meth (n := 2) (Q0 := fun sl Γ' => sl = sB (putB [] (phi cols m.bg)) ∧ ∃ xs', Γ' = [.dat (RMach (He.ga K "Machine")) m, sL RRow cols, .own (basO (He.ga K "Basis") B dx L hd xs' (putK [] (phi cols m.bg))), sO RTx D1 [], sO RRow D2 [], sO (RL RRow) D3 [], .any, .any, .any, .any, .any, .any, .any, .any]) T.c_Basis T.m_Basis_put (ok_put T) (hr.mono (by decide)) rfl (ex_var 2 rfl) (bas_insO (by decide))
      (ea_cons (ex_lc (R' := RQ) (f := dotQ m.bg) [("column", 13)] (it_list (ex_var 1 rfl)) (blkOk_by rfl) (fun _ _ _ _ _ _ _ => gt_name 13) (fun c hc _ _ _ _ _ => ex_call (ok_dot T) (hr.mono (by decide)) (ea_cons (ex_prop T.c_Machine T.p_Machine_begin (ok_mbegin T) (hr.mono (by decide)) (ex_var 0 rfl) (fun F H v s r => mach_ins s r) ⟨m, rfl, rfl⟩) (ea_cons (ex_var 13 rfl) ea_nil)) ⟨m.bg, c, rfl, (ok.dot0 c hc).1, (ok.dot0 c hc).2, rfl⟩)) ea_nil) ⟨B, dx, L, hd, [], [], phi cols m.bg, rfl, ok.first, rfl⟩ rfl ?_) ?_)
    · rintro sl Γc ⟨rfl, xs', h0⟩
      exact ⟨_, h0, rfl, rfl, rfl, rfl, xs', rfl⟩
    · rintro sl Γ' ⟨rfl, xs', rfl⟩
      refine ⟨_, rfl, fun hk => ?_, fun hk => ?_⟩
      · refine rs_cons (r1_app (x := []) 3 rfl (ex_str (by decide +kernel)) (by simp [hz]) ?_)
        refine rs_one (r1_app (x := m.bg) 4 rfl (ex_prop T.c_Machine T.p_Machine_begin (ok_mbegin T) (hr.mono (by decide)) (ex_var 0 rfl) (fun F H v s r => mach_ins s r) ⟨m, rfl, rfl⟩) (by simp [hz]) ?_)
        have e : fmR m cols 0 = (putK [] (phi cols m.bg), [[]], [m.bg], []) := by unfold fmR; rw [if_pos hk]
        have q := rest xs'
        rw [e] at q
        exact q
      · have e : fmR m cols 0 = (putK [] (phi cols m.bg), [], [], []) := by unfold fmR; rw [if_neg (by rw [hk]; exact Bool.false_ne_true)]
        have q := rest xs'
        rw [e] at q
        exact rs_nil q
end PD

/-! part TL8 -/
set_option exponentiation.threshold 256 -- TL8
set_option maxHeartbeats 1000000 -- TL8
set_option maxRecDepth 100000 -- TL8
/-! TL8: zip of a text and a list. -/
namespace TL
open PySem PySem.Spec PyProof.Rows L2 MA
/-- zip of a text and the list at b -/
def ItzS (K : PySem.W.Frag) (z : Str) (b : Addr) : It :=
  ⟨fun i H => i < z.cps.size ∧ ∃ (ys : List V) (y : V), SqL K H b ys ∧ ys[i]? = some y,
    fun i H v H' => ∃ T c y, v = .ref T ∧ H T = none ∧ H' = upd H T (.tup [.str ⟨#[c]⟩, y]) ∧ z.cps[i]? = some c ∧ ∀ ys, SqL K H b ys → ys[i]? = some y,
    fun i H => i ≤ z.cps.size ∧ ∃ ys : List V, SqL K H b ys ∧ i ≤ ys.length ∧ (i = z.cps.size ∨ i = ys.length)⟩
theorem ad_ne {a b : Nat} (h : a < b ∨ b < a) : a ≠ b := by omega
theorem fp_in {I c : Nat} (h : c ∈ [I + 4, I + 2, I + 3, I, I + 1]) : I ≤ c ∧ c ≤ I + 4 := by
  simp only [List.mem_cons, List.not_mem_nil, or_false] at h
  omega
theorem fp_out {I c : Nat} (h : c ∉ [I + 4, I + 2, I + 3, I, I + 1]) : c ≠ I + 4 ∧ c ≠ I + 3 ∧ c ≠ I ∧ c ≠ I + 1 := by
  simp only [List.mem_cons, List.not_mem_nil, or_false, not_or] at h
  omega
theorem nm1 {a b : Nat} (h : a < b ∨ b < a) : a ∉ [b] := by simp; omega
theorem nm2 {a b c : Nat} (h : a < b ∨ b < a) (h2 : a < c ∨ c < a) : a ∉ [b, c] := by simp; omega
theorem zs_sep {I b : Nat} (hb : b < I) : ZipSep2 (I + 4) (I + 2) (I + 3) I (I + 1) [I] [I + 1, b] :=
  ⟨ad_ne (by omega), ad_ne (by omega), ad_ne (by omega), ad_ne (by omega), List.mem_cons_self, nm1 (by omega), nm1 (by omega), ad_ne (by omega), List.mem_cons_self, nm2 (by omega) (by omega), nm2 (by omega) (by omega), nm2 (by omega) (by omega), nm1 (by omega)⟩
theorem turn_zs {P : Program} {w : World} {K : PySem.W.Frag} {elts : List Expr} {kk : Nat} {tpos : Pos} {b I : Addr} {z : Str} {t : Tok} (hb : b < I) :
    Turn P w K (.Tuple elts kk tpos) (ItzS K z b) [I + 4, I + 2, I + 3, I, I + 1] (I + 4) (fun i h => IsZip h (I + 4) (I + 2) (I + 3) .none ∧ IsTupOf2 h (I + 2) (.ref I) (.ref (I + 1)) ∧ (∃ x y, IsTupOf2 h (I + 3) x y) ∧ h.IsStrIter I (strIterType z) z t i ∧ h.IsListIter (I + 1) b i) where
  mem := by simp
  obj := fun i h st c hc => by
    obtain ⟨hz, hTI, ⟨x, y, hTO⟩, ⟨p1, e1, _, d1⟩, ⟨p2, e2, _, d2⟩⟩ := st
    simp only [List.mem_cons, List.not_mem_nil, or_false] at hc
    rcases hc with rfl | rfl | rfl | rfl | rfl
    · exact ⟨_, hz, fun v q => nomatch q⟩
    · exact ⟨_, hTI, fun v q => nomatch q⟩
    · exact ⟨_, hTO, fun v q => nomatch q⟩
    · exact ⟨p1, e1, fun v q => by rw [d1] at q; cases q⟩
    · exact ⟨p2, e2, fun v q => by rw [d2] at q; cases q⟩
  keep := fun i h h' st k => by
    obtain ⟨hz, hTI, ⟨x, y, hTO⟩, ⟨o1, e1, r1⟩, h2⟩ := st
    exact ⟨k _ (by simp) _ hz, k _ (by simp) _ hTI, ⟨x, y, k _ (by simp) _ hTO⟩, ⟨o1, k _ (by simp) o1 e1, r1⟩, h2.at fun o q => k _ (by simp) o q⟩
  item := by
    intro X hP hw hK hc i pins s σ H E inv hf st hg
    subst hP hw hK
    obtain ⟨hz, hTI, ⟨x0, y0, hTO⟩, h1, h2⟩ := st
    obtain ⟨hlt, ys, y, hqy, hy⟩ := hg
    obtain ⟨its, rv, pl, _⟩ := inv.list hqy
    obtain ⟨u, hu, ru⟩ := rv.get hy
    have hul : i < its.toArray.size := by
      rw [List.size_toArray]
      exact (List.getElem?_eq_some_iff.mp hu).1
    have hI : I + 4 < s.heap.objs.size := Heap.lt_size hz
    have hbI : b ≠ I + 1 := ad_ne (.inl (Nat.lt_succ_of_lt hb))
    refine wpAny_pyNext_zipD2_item (zs_sep hb) (Draws.text (A := X.A.in1) (inv.ok.hd hc) I z t) (Draws.list (A := X.A.in1) (inv.ok.hd hc) (I + 1) b hbI its.toArray) hz hTI hTO h1 ⟨h2, pl.isList⟩ hlt hul fun x1 x2 h' tk y1 y2 zz TO' h1' h2' hT hsz hk => ?_
    obtain ⟨c, tc, hcx, rfl⟩ := y1
    have e2 : x2 = u := by
      have q : its.toArray[i]? = some x2 := y2
      rw [show its.toArray[i]? = its[i]? by simp, hu] at q
      exact (Option.some.inj q).symm
    subst e2
    refine ⟨_, rfl, wpAny_letOwnedTupleGo_zip (s := { s with heap := h', toks := tk }) zz fun h'' z'' sb => ?_⟩
    have hT2 : h''.get? s.heap.objs.size = some { cls := .type "tuple", data := .seq #[.str ⟨#[c]⟩ tc, x2] } := (sb.2 _ (Nat.ne_of_gt hI)).trans hT
    have inv2 : Inv X pins σ (upd H s.heap.objs.size (.tup [.str ⟨#[c]⟩, y])) { s with heap := h'', toks := tk } := by
      refine inv.turnedNew (t' := tk) (ch := [I + 4, I + 2, I + 3, I, I + 1]) (fun d o hd q => ?_) hf (Nat.le_refl _) ⟨by show 2 ≤ sizeLine; decide, [.str ⟨#[c]⟩ tc, x2], .cons ⟨tc, rfl⟩ (.cons ru .nil), ⟨_, hT2, rfl, _, rfl⟩⟩
      obtain ⟨d1, d2, d3, d4⟩ := fp_out hd
      exact (sb.2 d d1).trans (hk d o d1 d2 d3 d4 q)
    refine ⟨.ref s.heap.objs.size, _, inv2, rfl, ⟨_, c, y, rfl, inv.hok.fresh (Nat.le_refl _), rfl, hcx, fun l hl => by rw [inv.list_inj hl hqy]; exact hy⟩, ⟨z'', ?_, ⟨_, _, (sb.2 _ (ad_ne (by omega))).trans TO'⟩, ?_, ?_⟩, fun d hd => ?_⟩
    · exact (sb.2 _ (ad_ne (by omega))).trans (hk _ _ (ad_ne (by omega)) (ad_ne (by omega)) (ad_ne (by omega)) (ad_ne (by omega)) hTI)
    · obtain ⟨o1, e1, r1⟩ := h1'
      exact ⟨o1, (sb.2 _ (ad_ne (by omega))).trans e1, r1⟩
    · exact h2'.1.at fun o q => (sb.2 _ (ad_ne (by omega))).trans q
    · have hdl : d < s.heap.objs.size := Nat.lt_of_le_of_lt (fp_in hd).2 hI
      rw [upd_ne (Nat.ne_of_lt hdl)]
      exact (hf d hd).1
  done := by
    intro X hP hw hK hc i pins s σ H E inv hf st hg
    subst hP hw hK
    obtain ⟨hz, hTI, ⟨x0, y0, hTO⟩, h1, h2⟩ := st
    obtain ⟨hle, ys, hqy, hle2, hend⟩ := hg
    obtain ⟨its, rv, pl, _⟩ := inv.list hqy
    have hlen : its.toArray.size = ys.length := by
      rw [List.size_toArray]
      exact rv.length.symm
    refine wpAny_pyNext_zipD2_end (zs_sep hb) (Draws.text (A := X.A.in1) (inv.ok.hd hc) I z t) (Draws.list (A := X.A.in1) (inv.ok.hd hc) (I + 1) b (ad_ne (.inl (Nat.lt_succ_of_lt hb))) its.toArray) hz hTI hTO h1 ⟨h2, pl.isList⟩ hle (by omega) (by omega) fun h' tk hk => ⟨rfl, ?_⟩
    refine inv.turnedL (t' := tk) (ch := [I + 4, I + 2, I + 3, I, I + 1]) (fun d o hd q => ?_) hf
    obtain ⟨d1, d2, d3, d4⟩ := fp_out hd
    exact hk d o d1 d2 d3 d4 q
  self := fun A i s Q E st h => wpAny_pyIter_zip st.1 h
def iZipS (K : PySem.W.Frag) (ta : TA) : TI := fun σ H R => ta σ H fun vs H1 => ∃ z b ys, vs = [.str z, .ref b] ∧ SqL K H1 b ys ∧ R (ItzS K z b) H1
theorem pi_zs {X : Cx} {e e2 : Expr} {ta : TA} {p pos tpos : Pos} {elts : List Expr} {kk : Nat} (hg : Gl X "zip") (hm : X.mg "zip" = none) (ha : PA X [e, e2] ta)
    (hs : starEach [e, e2] X.env = (false, eval e X.env) :: starEach [e2] X.env := by rfl) (hpl : (backTo pos (starEach [e2] X.env)).any (·.1) = false := by rfl) : PI X (.Tuple elts kk tpos) (.Call (.Name "zip" p) [e, e2] [] pos) (iZipS X.K ta) := by
  refine ⟨fun pins s σ H R inv h => Call_ (ld_blt inv hg hm boot_zip (callWith_type1 (thn (ha.run pos pins s σ H _ inv h) fun us s1 ⟨vs, H1, inv1, r1, q1⟩ => ?_) hs hpl))⟩
  obtain ⟨z, b, ys, ex, hqy, q⟩ := q1
  subst ex
  cases r1 with
  | cons r rr =>
    cases rr with
    | cons r' rr =>
      cases rr
      obtain ⟨t, rfl⟩ := r
      cases r'
      obtain ⟨its, rv, pl, _⟩ := inv1.list hqy
      refine zip_begins2 (begins_text z t) (begins_list b its.toArray) trivial pl.isList fun h' hz hTI hTO h1 h2 hsz hk => wpAny_pyIter_zip hz ?_
      refine ⟨s1.heap.objs.size + 4, _, _, _, H1, rfl, inv1.kept (t' := s1.toks) hk, turn_zs (z := z) (t := t) pl.lt, ⟨hz, hTI, ⟨_, _, hTO⟩, ⟨_, h1, rfl, rfl⟩, ⟨_, h2, rfl, rfl⟩⟩, fun c hc => ?_, q⟩
      have hle : s1.heap.objs.size ≤ c := (fp_in hc).1
      exact inv1.fpOk hle (inv1.hok.fresh hle)
section
variable {X : Cx} {a b : Expr} {p pos : Pos} {Γ : List Sl} {α : Type} {R : Rp α}
/-- zip of a text and a list -/
theorem it_zs {elts : List Expr} {kk : Nat} {tpos : Pos} {l : List Nat} {m : List α} (h1 : EX X a Γ (.dat RTx l)) (h2 : EX X b Γ (.dat (RL R) m)) (hm : X.mg "zip" = none) (hg : Gl X "zip" := by rfl) (hs1 : starEach [b] X.env = (false, eval b X.env) :: starEach [] X.env := by rfl)
    (hs : starEach [a, b] X.env = (false, eval a X.env) :: starEach [b] X.env := by rfl) (hpl : (backTo pos (starEach [b] X.env)).any (·.1) = false := by rfl) : IT X (.Tuple elts kk tpos) (.Call (.Name "zip" p) [a, b] [] pos) Γ (RT2 RSg R) (l.zip m) := by
  refine ⟨_, pi_zs hg hm pa_wp hs hpl, fun σ F H w P q => ea_cons h1 (ea_cons h2 ea_nil hs1) hs σ F H w _ fun vs F' H' g r => ?_⟩
  obtain ⟨v1, v2, rfl, r1, r2⟩ := sat2 r
  obtain ⟨rfl, z1⟩ := sat_dat r1
  obtain ⟨p2, ys, rfl, e2, z2, pr2⟩ := sat_dat r2
  have hn : (l.zip m).length = min l.length ys.length := by rw [List.length_zip, Paired.length pr2]
  refine ⟨_, p2, ys, rfl, SqL.of (g.sub _ _ e2), q (ItzS X.K ⟨l.toArray⟩ p2) F' H' (fun H2 => SqL X.K H2 p2 ys) (YPair (fun i => (l[i]?).map fun c => .str ⟨#[c]⟩) (fun i => ys[i]?)) g (by rw [List.length_zip]; omega) ⟨⟨fun i H2 hi q2 => ?_, fun H2 q2 => ?_, fun i H2 x H3 hi q2 y => ?_⟩, fun F2 H2 s1 s2 _ => SqL.of (s2 _ _ (s1 _ _ e2)), fun i x F2 H2 H3 s1 s2 hi y => ?_⟩⟩
  · rw [hn] at hi
    exact ⟨by show i < l.toArray.size; rw [List.size_toArray]; omega, ys, ys[i]'(by omega), q2, by simp [show i < ys.length by omega]⟩
  · rw [hn]
    refine ⟨by show _ ≤ l.toArray.size; rw [List.size_toArray]; omega, ys, q2, by omega, ?_⟩
    have : (⟨l.toArray⟩ : Str).cps.size = l.length := by show l.toArray.size = _; rw [List.size_toArray]
    rw [this]
    omega
  · obtain ⟨T, c, y2, rfl, hT, rfl, hc, hy⟩ := y
    have hc' : l[i]? = some c := by simpa using hc
    exact ⟨T, _, y2, rfl, hT, rfl, by show (l[i]?).map _ = _; rw [hc']; rfl, hy ys q2⟩
  · obtain ⟨T, v1, v2, rfl, hT, rfl, hx, hy⟩ := y
    obtain ⟨c, hc, rfl⟩ := Option.map_eq_some_iff.mp hx
    obtain ⟨a2, ha2, ra2⟩ := paired_get pr2 hy
    obtain ⟨F3, g3, r3⟩ := pair_new (R := RSg) (x := c) s2 hT ⟨rfl, by show 1 ≤ sizeLine; decide⟩ (R.mono s1 ra2)
    exact ⟨(c, a2), F3, zip_get hc ha2, g3, r3⟩
end
end TL

/-! part TL9 -/
set_option exponentiation.threshold 256 -- TL9
set_option maxHeartbeats 1000000 -- TL9
set_option maxRecDepth 100000 -- TL9
/-! TL9: slices, in, order of keys, equal lists. -/
namespace TL
open PySem PySem.Spec PyProof.Rows L2 MA
section
variable {X : Cx} {a b c e : Expr} {p pos : Pos} {Γ : List Sl} {α β : Type} {R : Rp α} {R' : Rp β} {F H : Hp} {sl : Sl}
/-! ### slices -/
theorem txt_len (l : List Nat) : (⟨l.toArray⟩ : Str).length = l.length := by show l.toArray.size = _; simp
/-- m[:-1] -/
theorem ex_but {l : List Nat} {j1 : Nat} {p1 p2 p3 : Pos} (ha : EX X a Γ (.dat RTx l)) (hne : l ≠ []) : EX X (.Subscript a (.Slice none (some (.UnaryOp .USub (.Constant (.int 1) j1 p1) p2)) none p3) pos) Γ (.dat RTx l.dropLast) := fun σ F H w Q q =>
  PE.wp (pe_slice C8.sl_txt pe_wp po_none (po_some (pe_un un_neg pe_int))) (ha σ F H w _ fun v F1 H1 g1 r1 => by
    obtain ⟨rfl, z⟩ := sat_dat r1
    refine ⟨1, rfl, -1, rfl, ⟨l.toArray⟩, rfl, by rw [txt_len]; exact z, ?_⟩
    have e : Txt.slice (⟨l.toArray⟩ : Str) none (some (-1)) = ⟨(l.take (l.length - 1)).toArray⟩ := SX.slice_butlast hne
    rw [e]
    exact q _ F1 H1 g1 (dat_sat ⟨by rw [List.dropLast_eq_take], by rw [List.length_dropLast]; omega⟩))
/-- m[1:] -/
theorem ex_tl {l : List Nat} {j1 : Nat} {p1 p3 : Pos} (ha : EX X a Γ (.dat RTx l)) : EX X (.Subscript a (.Slice (some (.Constant (.int 1) j1 p1)) none none p3) pos) Γ (.dat RTx (l.drop 1)) := fun σ F H w Q q =>
  PE.wp (pe_slice C8.sl_txt pe_wp (po_some pe_int) po_none) (ha σ F H w _ fun v F1 H1 g1 r1 => by
    obtain ⟨rfl, z⟩ := sat_dat r1
    refine ⟨1, rfl, ⟨l.toArray⟩, rfl, by rw [txt_len]; exact z, ?_⟩
    have e : Txt.slice (⟨l.toArray⟩ : Str) (some 1) none = ⟨(l.drop 1).toArray⟩ := SX.slice_from (by decide)
    rw [e]
    exact q _ F1 H1 g1 (dat_sat ⟨rfl, by rw [List.length_drop]; omega⟩))
/-- l[:n] -/
theorem paired_takeR {ρ : Type} {P : V → ρ → Prop} : ∀ {xs : List V} {l : List ρ} (n : Nat), Paired P xs l → Paired P (xs.take n) (l.take n)
  | _, _, 0, _ => .nil
  | _, _, _ + 1, .nil => .nil
  | _, _, n + 1, .cons r t => .cons r (paired_takeR n t)
theorem cut_take (xs : List V) (n : Nat) : cutV xs none (some (n : Int)) = xs.take n := by
  unfold cutV
  rw [HT.sIx_none, HT.sIx_nat, List.drop_zero, Nat.sub_zero]
  by_cases h : n ≤ xs.length
  · rw [Nat.min_eq_left h]
  · rw [Nat.min_eq_right (by omega), List.take_of_length_le (Nat.le_refl _), List.take_of_length_le (by omega)]
theorem ex_pre {l : List α} {n : Nat} {p3 : Pos} (ha : EX X a Γ sl) (hl : IsL sl R l) (hb : EX X b Γ (sI (n : Int))) : EX X (.Subscript a (.Slice none (some b) none p3) pos) Γ (sL R (l.take n)) := fun σ F H w Q q =>
  PE.wp (pe_slice sl_list pe_wp po_none (po_some pe_wp)) (ha σ F H w _ fun v F1 H1 g1 r1 => hb σ F1 H1 (w.grow g1) _ fun u F2 H2 g2 r2 => by
    obtain ⟨p, xs, rfl, e, z, pr⟩ := hl.get g2.sub (sat_up g2 r1)
    refine ⟨n, sat_dat r2, p, xs, rfl, SqL.of e, fun l' hl' => ?_⟩
    rw [cut_take]
    have g3 := Gr.alloc (o := .lst (xs.take n)) g2.sub hl'
    exact q _ _ _ ((g1.trans g2).trans g3) (dat_sat ⟨l', _, rfl, upd_same, by rw [List.length_take]; omega, paired_takeR n (paired_mono g3.fz pr)⟩))
/-! ### in -/
theorem tx_flat : ∀ {xs : List V} {l : List (List Nat)}, Paired (RTx.rel F) xs l → xs.all flatV = true
  | _, _, .nil => rfl
  | _, _, .cons r t => by
    obtain ⟨rfl, _⟩ := r
    rw [List.all_cons, tx_flat t]
    rfl
theorem tx_in {t : List Nat} : ∀ {xs : List V} {l : List (List Nat)}, Paired (RTx.rel F) xs l → inV (.str ⟨t.toArray⟩) xs = decide (t ∈ l)
  | _, _, .nil => by simp [inV]
  | _, m :: l, .cons r u => by
    obtain ⟨rfl, _⟩ := r
    have ih := tx_in (t := t) u
    unfold inV at ih ⊢
    rw [List.any_cons, ih]
    have e : eqV (.str ⟨m.toArray⟩) (.str ⟨t.toArray⟩) = decide (t = m) := by
      show ((⟨m.toArray⟩ : Str) == ⟨t.toArray⟩) = _
      by_cases h : t = m
      · subst h; simp
      · rw [decide_eq_false h]
        refine beq_eq_false_iff_ne.mpr fun z => h ?_
        injection z with z
        injection z with z
        exact z.symm
    rw [e]
    simp only [List.mem_cons, Bool.decide_or]
theorem et_inL {t : List Nat} {l : List (List Nat)} (ha : EX X a Γ (.dat RTx t)) (hb : EX X b Γ (sL RTx l)) (hm : behindInMarks .In b = false := by rfl) : ET X (.Compare a [.In] [b] pos) Γ (decide (t ∈ l)) :=
  et_cmp op_in_seq ha hb hm fun F H v u s r1 r2 Q q => by
    obtain ⟨rfl, _⟩ := r1
    obtain ⟨p, xs, rfl, e, z, pr⟩ := r2
    refine ⟨p, xs, rfl, .inl (SqL.of (s _ _ e)), rfl, tx_flat pr, ?_⟩
    show Q (.bl (inV _ xs)) H
    rw [tx_in pr]
    exact q F H (GrS.refl s)
theorem et_niL {t : List Nat} {l : List (List Nat)} (ha : EX X a Γ (.dat RTx t)) (hb : EX X b Γ (sL RTx l)) (hm : behindInMarks .NotIn b = false := by rfl) : ET X (.Compare a [.NotIn] [b] pos) Γ (!decide (t ∈ l)) :=
  et_cmp op_notIn_seq ha hb hm fun F H v u s r1 r2 Q q => by
    obtain ⟨rfl, _⟩ := r1
    obtain ⟨p, xs, rfl, e, z, pr⟩ := r2
    refine ⟨p, xs, rfl, .inl (SqL.of (s _ _ e)), rfl, tx_flat pr, ?_⟩
    show Q (.bl (!inV _ xs)) H
    rw [tx_in pr]
    exact q F H (GrS.refl s)
/-! ### tuples of an int and a text in order -/
def keyLt (x y : Int × List Nat) : Bool := if x.1 = y.1 then decide (x.2 < y.2) else decide (x.1 < y.1)
theorem op_ltK (hu : X.A.units < cLine) : OpR X (compareOp .Lt) (fun x y H Q => ∃ (p1 p2 : Addr) (i j : Int) (z1 z2 : Str), x = .ref p1 ∧ y = .ref p2 ∧ SqT X.K H p1 [.int i, .str z1] ∧ SqT X.K H p2 [.int j, .str z2] ∧ Q (.bl (if i = j then decide (z1.cps.toList < z2.cps.toList) else decide (i < j))) H) := by
  intro pins s σ H x y v u Q I rx ry h
  obtain ⟨p1, p2, i, j, z1, z2, rfl, rfl, h1, h2, q⟩ := h
  cases rx
  cases ry
  obtain ⟨its, r1, t1, _⟩ := I.tuple h1
  obtain ⟨its2, r2, t2, _⟩ := I.tuple h2
  obtain ⟨u1, w1, rfl, ⟨a1, rfl⟩, ⟨a2, rfl⟩⟩ := vals2 r1
  obtain ⟨u2, w2, rfl, ⟨b1, rfl⟩, ⟨b2, rfl⟩⟩ := vals2 r2
  have key := Ob.RcOp.tuples_lt (e := fun n => if n = 0 then (i == j) else (z1 == z2)) (r := fun n => if n = 0 then decide (i < j) else decide (z1.cps.toList < z2.cps.toList)) t1 t2 hu
    (fun n n1 n2 => by
      match n, n1, n2 with
      | 0, _, _ => exact SeqAt.EqAt.int_int i a1 j b1
      | 1, _, _ => exact SeqAt.EqAt.str_str z1 a2 z2 b2)
    (fun n n1 n2 _ => by
      match n, n1, n2 with
      | 0, _, _ => exact Ob.RcOp.lt_int i j a1 b1
      | 1, _, _ => exact fun _ _ _ _ h => PyProof.Rows.lt_str h)
  refine (key X.prog X.w X.xe _ ⟨.bl _, H, I, rfl, ?_⟩ : wpAny (model X.prog X.w) X.A (compareOp .Lt (.ref p1) (.ref p2)) (EP X pins σ Q) X.xe s)
  have e : Ob.lexAt (fun n => if n = 0 then (i == j) else (z1 == z2)) (fun n => if n = 0 then decide (i < j) else decide (z1.cps.toList < z2.cps.toList)) (decide ((#[Value.int i a1, Value.str z1 a2] : Array Value).size < (#[Value.int j b1, Value.str z2 b2] : Array Value).size)) 0 (min (#[Value.int i a1, Value.str z1 a2] : Array Value).size (#[Value.int j b1, Value.str z2 b2] : Array Value).size) = (if i = j then decide (z1.cps.toList < z2.cps.toList) else decide (i < j)) := by
    show Ob.lexAt _ _ (decide ((2 : Nat) < 2)) 0 2 = _
    rw [Ob.lexAt_succ]
    by_cases hij : i = j
    · subst hij
      rw [if_pos (by simp), if_pos rfl, Ob.lexAt_succ]
      by_cases hz : z1 = z2
      · subst hz
        rw [if_pos (by simp), Ob.lexAt_zero]
        simp
      · rw [if_neg (by simpa using hz)]
        simp
    · rw [if_neg (by simpa using hij), if_neg hij]
      simp
  exact e ▸ q
theorem r_ltK (hu : X.A.units < cLine) {x y : Int × List Nat} : ∀ F H v u, Same F H → (RT2 RInt RTx).rel F v x → (RT2 RInt RTx).rel F u y → ∀ Q : VK, (∀ F' H', Gr F H F' H' → Q (.bl (keyLt x y)) H') → (∃ (p1 p2 : Addr) (i j : Int) (z1 z2 : Str), v = .ref p1 ∧ u = .ref p2 ∧ SqT X.K H p1 [.int i, .str z1] ∧ SqT X.K H p2 [.int j, .str z2] ∧ Q (.bl (if i = j then decide (z1.cps.toList < z2.cps.toList) else decide (i < j))) H) := fun F H v u s r1 r2 Q q => by
  obtain ⟨p1, v1, v2, rfl, e1, rfl, rfl, _⟩ := r1
  obtain ⟨p2, u1, u2, rfl, e2, rfl, rfl, _⟩ := r2
  exact ⟨p1, p2, _, _, _, _, rfl, rfl, SqT.of (s _ _ e1), SqT.of (s _ _ e2), q F H (GrS.refl s)⟩
theorem et_ltK (hu : X.A.units < cLine) {x y : Int × List Nat} (ha : EX X a Γ (.dat (RT2 RInt RTx) x)) (hb : EX X b Γ (.dat (RT2 RInt RTx) y)) : ET X (.Compare a [.Lt] [b] pos) Γ (keyLt x y) := et_cmp (op_ltK hu) ha hb (nomark _) (r_ltK hu)
theorem ex_ltK (hu : X.A.units < cLine) {x y : Int × List Nat} (ha : EX X a Γ (.dat (RT2 RInt RTx) x)) (hb : EX X b Γ (.dat (RT2 RInt RTx) y)) : EX X (.Compare a [.Lt] [b] pos) Γ (sB (keyLt x y)) := ex_cmp (op_ltK hu) ha hb (nomark _) (r_ltK hu)
/-! ### lists of numbers, equal -/
structure DR (R : Rp α) (f : α → PyData) (d : Nat) : Prop where
  rd : ∀ {K : PySem.W.Frag} {F H : Hp} {v : V} {x : α}, Same F H → R.rel F v x → Dp K H v (f x)
  can : ∀ x, (f x).canLay0 = true
  dep : ∀ x, (f x).depth ≤ d
  eqv : ∀ x y, PyData.eqv (f x) (f y) = true ↔ x = y
theorem dr_int : DR RInt .int 0 := ⟨fun s r => by cases r; exact .int _, fun _ => by simp [PyData.canLay0], fun _ => by simp [PyData.depth], fun x y => by simp [PyData.eqv]⟩
theorem dr_q : DR RQ (fun q => .tuple [.int q.num, .int (q.den : Int)]) 1 where
  rd := fun {K F H v q} s r => by
    obtain ⟨p, x, y, rfl, e, r1, r2⟩ := r
    cases r1
    cases r2
    exact .tup (SqT.of (s _ _ e)) (.cons (.int _) (.cons (.int _) .nil))
  can := fun q => by simp [PyData.canLay0, PyData.canLayAll0]
  dep := fun q => by simp [PyData.depth, PyData.depthAll]
  eqv := fun x y => by
    simp only [PyData.eqv, PyData.eqvAll, Bool.and_eq_true, beq_iff_eq, and_true]
    constructor
    · rintro ⟨h1, h2⟩
      exact Rat.ext h1 (by omega)
    · rintro rfl
      exact ⟨rfl, rfl⟩
theorem dr_list {f : α → PyData} {d : Nat} (D : DR R f d) : DR (RL R) (fun l => .list (l.map f)) (d + 1) where
  rd := fun {K F H v l} s r => by
    obtain ⟨p, xs, rfl, e, z, pr⟩ := r
    refine .lst (SqL.of (s _ _ e)) ?_
    clear e z
    induction pr with
    | nil => exact .nil
    | cons r1 _ ih => exact .cons (D.rd s r1) ih
  can := fun l => by
    simp only [PyData.canLay0]
    induction l with
    | nil => rfl
    | cons x l ih => simp only [List.map_cons, PyData.canLayAll0, D.can, ih, Bool.and_self]
  dep := fun l => by
    simp only [PyData.depth]
    induction l with
    | nil => simp [PyData.depthAll]
    | cons x l ih =>
      simp only [List.map_cons, PyData.depthAll]
      have := D.dep x
      omega
  eqv := fun x y => by
    simp only [PyData.eqv]
    induction x generalizing y with
    | nil => cases y with
      | nil => simp [PyData.eqvAll]
      | cons _ _ => simp [PyData.eqvAll]
    | cons u x ih => cases y with
      | nil => simp [PyData.eqvAll]
      | cons w y =>
        simp only [List.map_cons, PyData.eqvAll, Bool.and_eq_true, D.eqv, ih, List.cons.injEq]
theorem DR.sh {f : α → PyData} {d : Nat} (D : DR R f d) (hd : d ≤ 64) (x : α) : SeqAt.shaped (f x) = true := by
  unfold SeqAt.shaped
  rw [D.can, decide_eq_true (Nat.le_trans (D.dep x) hd)]
  rfl
theorem DR.eqd [DecidableEq α] {f : α → PyData} {d : Nat} (D : DR R f d) (x y : α) : PyData.eqv (f x) (f y) = decide (x = y) := by
  by_cases h : x = y
  · rw [decide_eq_true h, (D.eqv x y).mpr h]
  · rw [decide_eq_false h]
    cases e : PyData.eqv (f x) (f y) with
    | false => rfl
    | true => exact absurd ((D.eqv x y).mp e) h
theorem ex_eqD [DecidableEq α] {f : α → PyData} {d : Nat} (D : DR R f d) (hd : d ≤ 64) (hu : X.A.units + 64 < cLine) {x y : α} (ha : EX X a Γ (.dat R x)) (hb : EX X b Γ (.dat R y)) : EX X (.Compare a [.Eq] [b] pos) Γ (sB (decide (x = y))) :=
  ex_cmp (op_eqD hu) ha hb (nomark _) fun F H v u s r1 r2 Q q => ⟨f x, f y, D.rd s r1, D.rd s r2, D.sh hd x, D.sh hd y, by rw [D.eqd]; exact q F H (GrS.refl s)⟩
theorem et_neD [DecidableEq α] {f : α → PyData} {d : Nat} (D : DR R f d) (hd : d ≤ 64) (hu : X.A.units + 64 < cLine) {x y : α} (ha : EX X a Γ (.dat R x)) (hb : EX X b Γ (.dat R y)) : ET X (.Compare a [.NotEq] [b] pos) Γ (!decide (x = y)) :=
  et_cmp (op_neD hu) ha hb (nomark _) fun F H v u s r1 r2 Q q => ⟨f x, f y, D.rd s r1, D.rd s r2, D.sh hd x, D.sh hd y, by rw [D.eqd]; exact q F H (GrS.refl s)⟩
theorem et_eqD [DecidableEq α] {f : α → PyData} {d : Nat} (D : DR R f d) (hd : d ≤ 64) (hu : X.A.units + 64 < cLine) {x y : α} (ha : EX X a Γ (.dat R x)) (hb : EX X b Γ (.dat R y)) : ET X (.Compare a [.Eq] [b] pos) Γ (decide (x = y)) :=
  et_cmp (op_eqD hu) ha hb (nomark _) fun F H v u s r1 r2 Q q => ⟨f x, f y, D.rd s r1, D.rd s r2, D.sh hd x, D.sh hd y, by rw [D.eqd]; exact q F H (GrS.refl s)⟩
end
end TL

/-! part PD9 -/
set_option exponentiation.threshold 256 -- PD9
set_option maxHeartbeats 1000000 -- PD9
set_option maxRecDepth 100000 -- PD9
/-! PD9: machine_by, is_shaped, are_heads, is_row. -/
namespace PD
open PySem PySem.Spec L2 TL KHd MA
variable {P : Program} {w : World} {K : PySem.W.Frag} {mg : Str → Option Value} {base : Heap}
/-! ### machine_by -/
def unitQ (b : Bool) : Rat := if b = true then 1 else 0
theorem ex_uq {X : Cx} {e : Expr} {Γ : List Sl} {b : Bool} {x1 j2 : Nat} {p2 pos : Pos} (he : EX X e Γ (sI (if b then 1 else 0))) (hs1 : starEach [.Constant (.int 1) j2 p2] X.env = (false, eval (.Constant (.int 1) j2 p2) X.env) :: starEach [] X.env := by rfl)
    (hs : starEach [e, .Constant (.int 1) j2 p2] X.env = (false, eval e X.env) :: starEach [.Constant (.int 1) j2 p2] X.env := by rfl) : EX X (.Tuple [e, .Constant (.int 1) j2 p2] x1 pos) Γ (.dat RQ (unitQ b)) :=
  ex_conv (ex_tup2 (R := RInt) (R' := RInt) he ex_int hs1 hs) fun F v r => by
    cases b with
    | true => exact r
    | false => exact r
def rdsRow (st s : Nat) (ps : List (Nat × Rat)) : List Road := (ps.filter fun p => !decide (p.2.num = 0)).map fun p => (st, s, p.1, p.2)
def rdsNum (st : Nat) (qs : List (Nat × List Rat)) : List Road := qs.flatMap fun q => rdsRow st q.1 ((List.range q.2.length).zip q.2)
def rdsTab (signs : List Nat) (ts : List (Nat × List (List Rat))) : List Road := ts.flatMap fun t => rdsNum t.1 (signs.zip t.2)
def mbM (signs : List Nat) (table : List (List (List Rat))) (worths : List Rat) : Mach := ⟨signs, (List.range worths.length).map fun k : Nat => unitQ (decide ((k : Int) = 0)), rdsTab signs ((List.range table.length).zip table), worths⟩
structure TabSz (table : List (List (List Rat))) : Prop where
  a : table.length ≤ 10
  b : ∀ ns ∈ table, ns.length ≤ 10 ∧ ∀ r ∈ ns, r.length ≤ 10
theorem flat_succ {α β : Type} {f : α → List β} {l : List α} {i : Nat} {x : α} (h : l[i]? = some x) : (l.take (i + 1)).flatMap f = (l.take i).flatMap f ++ f x := by
  rw [List.take_add_one, h, List.flatMap_append]
  simp
theorem flat_len {α β : Type} {f : α → List β} {n : Nat} : ∀ {l : List α}, (∀ x ∈ l, (f x).length ≤ n) → (l.flatMap f).length ≤ n * l.length
  | [], _ => by simp
  | x :: l, h => by
    rw [List.flatMap_cons, List.length_append, List.length_cons, Nat.mul_add, Nat.mul_one]
    have h1 := h x List.mem_cons_self
    have h2 := flat_len (l := l) fun y hy => h y (List.mem_cons_of_mem _ hy)
    omega
theorem rdsRow_len (st s : Nat) (ps : List (Nat × Rat)) : (rdsRow st s ps).length ≤ ps.length := by
  unfold rdsRow
  rw [List.length_map]
  exact List.length_filter_le _ _
theorem rdsRow_succ {st s i : Nat} {ps : List (Nat × Rat)} {p : Nat × Rat} (h : ps[i]? = some p) : rdsRow st s (ps.take (i + 1)) = rdsRow st s (ps.take i) ++ if p.2.num = 0 then [] else [(st, s, p.1, p.2)] := by
  unfold rdsRow
  rw [List.take_add_one, h, List.filter_append, List.map_append]
  congr 1
  by_cases e : p.2.num = 0
  · rw [if_pos e]
    simp only [Option.toList, List.filter_cons, decide_eq_true e, Bool.not_true, Bool.false_eq_true, if_false, List.filter_nil, List.map_nil]
  · rw [if_neg e]
    simp only [Option.toList, List.filter_cons, decide_eq_false e, Bool.not_false, if_true, List.filter_nil, List.map_nil, List.map_cons]
theorem zr_len {α : Type} (l : List α) : ((List.range l.length).zip l).length = l.length := by rw [List.length_zip, List.length_range, Nat.min_self]
theorem zr_get {α : Type} {l : List α} {i k : Nat} {x : α} (h : ((List.range l.length).zip l)[i]? = some (k, x)) : k = i ∧ l[i]? = some x := by
  obtain ⟨h1, h2⟩ := List.getElem?_zip_eq_some.mp h
  have hlt : i < l.length := (List.getElem?_eq_some_iff.mp h2).1
  rw [List.getElem?_range hlt] at h1
  exact ⟨(Option.some.inj h1).symm, h2⟩
abbrev nMb : List Str := ["signs", "table", "worths", "roads", "state", "numbers", "sign", "row", "behind", "number", "begin"]
theorem sc_mb : FnScope nMb ["signs", "table", "worths"] (defScope s_machine_by) := ⟨rfl, rfl, rfl, by decide +kernel, rfl, by decide +kernel, by decide +kernel⟩
abbrev RTab : Rp (List (List (List Rat))) := RL (RL (RL RQ))
def tb_mb (C : Addr) : List Sl → Sl → Prop := fun args res => ∃ (signs : List Nat) (table : List (List (List Rat))) (worths : List Rat), args = [.dat RTx signs, .dat RTab table, sL RQ worths] ∧ TabSz table ∧ worths.length ≤ 1000 ∧ machPre (mbM signs table worths) ∧ res = .dat (RMach C) (mbM signs table worths)
theorem ok_machine_by (T : TX K mg) : Dn P w K mg base 6 "machine_by" ["signs", "table", "worths"] (tb_mb (He.ga K "Machine")) := by
  obtain ⟨fd, F⟩ := T.u_machine_by
  refine ⟨_, fd, fn_pure (N := nMb) F sc_mb ?_ ?_, F.bindsN fun _ _ _ _ _ _ us hl => match us, hl with | [_, _, _], _ => rfl, T.g_machine_by, F.kp⟩
  · rintro args res ⟨_, _, _, rfl, _⟩
    exact ⟨rfl, rfl⟩
  · rintro cdv A outer s H E args res hr ⟨sg, tb, ws, rfl, ⟨z1, z2⟩, hw, hp, rfl⟩
    have hN := sc_mb.nd
    have hz : sizeLine = 16777216 := rfl
    show RS _ _ _ _ [.dat RTx sg, .dat RTab tb, sL RQ ws, .any, .any, .any, .any, .any, .any, .any, .any] _
    refine rs_cons (r1_new RRd 3 fun D => ?_)
    refine rs_cons (r1_for (it_enum (R := RL RRow) (ex_var 1 rfl) T.f_enumerate) (fun i Γ => Γ = [.dat RTx sg, .dat RTab tb, sL RQ ws, sO RRd D (rdsTab sg (((List.range tb.length).zip tb).take i)), .any, .any, .any, .any, .any, .any, .any]) rfl ?_ ?_)
    · rintro i ⟨st, ns⟩ _ hi rfl
      have hin := List.mem_of_getElem? (zr_get hi).2
      have hil : i < tb.length := by
        have := (List.getElem?_eq_some_iff.mp hi).1
        rw [zr_len] at this
        exact this
      obtain ⟨hn1, hn2⟩ := z2 ns hin
      have hsu : rdsTab sg (((List.range tb.length).zip tb).take (i + 1)) = rdsTab sg (((List.range tb.length).zip tb).take i) ++ rdsNum st (sg.zip ns) := flat_succ hi
      have hle : (rdsTab sg (((List.range tb.length).zip tb).take i)).length ≤ 100 * i := by
        refine Nat.le_trans (flat_len (n := 100) fun t ht => ?_) (Nat.mul_le_mul_left _ (by rw [List.length_take]; omega))
        obtain ⟨j, hj⟩ := List.getElem?_of_mem (List.mem_of_mem_take ht)
        obtain ⟨ta, tn⟩ := t
        have hm := List.mem_of_getElem? (zr_get hj).2
        obtain ⟨a1, a2⟩ := z2 tn hm
        have : (rdsNum ta (sg.zip tn)).length ≤ 10 * (sg.zip tn).length := flat_len fun q hq => Nat.le_trans (rdsRow_len _ _ _) (by
          rw [zr_len]
          exact a2 _ (List.of_mem_zip hq).2)
        rw [List.length_zip] at this
        show (rdsNum ta (sg.zip tn)).length ≤ 100
        omega
      rw [hsu]
      generalize rdsTab sg (((List.range tb.length).zip tb).take i) = acc at *
      refine ⟨_, _, gt_tup2 (gts_cons (gt_name 4) (gts_cons (gt_name 5) gts_nil)), fun _ h => h, ?_⟩
      refine rs_one (r1_for (it_zs (ex_var 0 rfl) (ex_var 5 rfl) T.f_zip) (fun j Γ => Γ = [.dat RTx sg, .dat RTab tb, sL RQ ws, sO RRd D (acc ++ rdsNum st ((sg.zip ns).take j)), .dat RNat st, sL RRow ns, .any, .any, .any, .any, .any]) ?_ ?_ ?_)
      · rw [List.take_zero]
        show _ = [_, _, _, sO RRd D (acc ++ []), _, _, _, _, _, _, _]
        rw [List.append_nil]
        rfl
      · rintro j ⟨c, row⟩ _ hj rfl
        have hrow := hn2 row (List.of_mem_zip (List.mem_of_getElem? hj)).2
        have hjl : j < 10 := by
          have := (List.getElem?_eq_some_iff.mp hj).1
          rw [List.length_zip] at this
          omega
        have hsu : rdsNum st ((sg.zip ns).take (j + 1)) = rdsNum st ((sg.zip ns).take j) ++ rdsRow st c ((List.range row.length).zip row) := flat_succ hj
        have hle2 : (rdsNum st ((sg.zip ns).take j)).length ≤ 10 * j := by
          refine Nat.le_trans (flat_len (n := 10) fun q hq => Nat.le_trans (rdsRow_len _ _ _) ?_) (Nat.mul_le_mul_left _ (by rw [List.length_take]; omega))
          rw [zr_len]
          exact hn2 _ (List.of_mem_zip (List.mem_of_mem_take hq)).2
        rw [hsu]
        generalize rdsNum st ((sg.zip ns).take j) = acc2 at *
        refine ⟨_, _, gt_tup2 (gts_cons (gt_name 6) (gts_cons (gt_name 7) gts_nil)), fun _ h => h, ?_⟩
        refine rs_one (r1_for (it_enum (ex_var 7 rfl) T.f_enumerate) (fun k Γ => Γ = [.dat RTx sg, .dat RTab tb, sL RQ ws, sO RRd D (acc ++ acc2 ++ rdsRow st c (((List.range row.length).zip row).take k)), .dat RNat st, sL RRow ns, .dat RSg c, sL RQ row, .any, .any, .any]) ?_ ?_ ?_)
        · rw [List.take_zero]
          show _ = [_, _, _, sO RRd D (acc ++ acc2 ++ []), _, _, _, _, _, _, _]
          rw [List.append_nil]
          rfl
        · rintro k ⟨be, q⟩ _ hk rfl
          have hsu := rdsRow_succ (st := st) (s := c) hk
          have hkl : k < row.length := by
            have := (List.getElem?_eq_some_iff.mp hk).1
            rw [zr_len] at this
            exact this
          have hle3 : (rdsRow st c (((List.range row.length).zip row).take k)).length ≤ k := Nat.le_trans (rdsRow_len _ _ _) (by rw [List.length_take]; omega)
          rw [hsu]
          generalize rdsRow st c (((List.range row.length).zip row).take k) = acc3 at *
          refine ⟨_, _, gt_tup2 (gts_cons (gt_name 8) (gts_cons (gt_name 9) gts_nil)), fun _ h => h, ?_⟩
          refine rs_one (r1_if (et_ne (ex_num (ex_var 9 rfl)) ex_int) (fun h => ?_) (fun h => rs_nil ?_))
          · refine rs_one (r1_app 3 rfl (ex_tup4 (ex_var 4 rfl) (ex_var 6 rfl) (ex_var 8 rfl) (ex_var 9 rfl)) ?_ ⟨_, .same (.same (.same (.same (.same (.same (.same (.same (.any (.any (.any .nil)))))))))), ?_⟩)
            · rw [List.length_append, List.length_append]
              omega
            · have : ¬ q.num = 0 := by simpa only [Bool.not_eq_true', decide_eq_false_iff_not] using h
              rw [if_neg this, ← List.append_assoc]
          · have : q.num = 0 := by simpa only [Bool.not_eq_false', decide_eq_true_eq] using h
            rw [if_pos this, List.append_nil]
            exact ⟨_, .same (.same (.same (.same (.same (.same (.same (.same (.any (.any (.any .nil)))))))))), rfl⟩
        · rintro _ rfl
          rw [List.take_of_length_le (Nat.le_refl _), List.append_assoc]
          exact ⟨_, .same (.same (.same (.same (.same (.same (.any (.any (.any (.any (.any .nil)))))))))), rfl⟩
      · rintro _ rfl
        rw [List.take_of_length_le (Nat.le_refl _)]
        exact ⟨_, .same (.same (.same (.same (.any (.any (.any (.any (.any (.any (.any .nil)))))))))), rfl⟩
    · rintro _ rfl
      rw [List.take_of_length_le (Nat.le_refl _)]
      refine rs_cons (r1_setLc (R := RNat) (R' := RQ) (f := fun k : Nat => unitQ (decide ((k : Int) = 0))) 10 [("state", 4)] (it_range (ex_len T.f_len (ex_var 2 rfl) .dat) (by omega) rfl T.f_range) (blkOk_by rfl) (fun _ _ _ _ _ _ _ => gt_name 4) ?_ ?_)
      · intro k hk _ _ _ _ _
        exact ex_uq (ex_intB T.f_int (ex_eq (ex_nat (ex_var 4 rfl)) ex_int))
      · refine rs_frz 3 rfl (by simp) ?_
        exact rs_one (r1_ret (ex_mk (m := mbM sg tb ws) T.k_Machine (ok_minit T) hr T.g_Machine hp (ea_cons (ex_var 0 rfl) (ea_cons (ex_var 10 rfl) (ea_cons (ex_var 3 rfl) (ea_cons (ex_var 2 rfl) ea_nil)))) rfl) rfl)
end PD

/-! part PD10 -/
set_option exponentiation.threshold 256 -- PD10
set_option maxHeartbeats 1000000 -- PD10
set_option maxRecDepth 100000 -- PD10
/-! PD10: is_shaped, are_heads, is_row, checked_form. -/
namespace PD
open PySem PySem.Spec L2 TL KHd MA
variable {P : Program} {w : World} {K : PySem.W.Frag} {mg : Str → Option Value} {base : Heap}
structure Form where
  signs : List Nat
  heads : List (List Nat)
  table : List (List (List Rat))
  worths : List Rat
def formAr (f : Form) : List Sl := [.dat RTx f.signs, sL RTx f.heads, .dat RTab f.table, sL RQ f.worths]
structure Shaped (f : Form) : Prop where
  a : f.table.length = f.heads.length
  b : f.worths.length = f.heads.length
  c : ∀ ns ∈ f.table, ns.length = f.signs.length ∧ ∀ r ∈ ns, r.length = f.heads.length
/-! ### is_shaped -/
abbrev nSh : List Str := ["signs", "heads", "table", "worths", "numbers", "row"]
theorem sc_sh : FnScope nSh ["signs", "heads", "table", "worths"] (defScope s_is_shaped) := ⟨rfl, rfl, rfl, by decide +kernel, rfl, by decide +kernel, by decide +kernel⟩
def tb_sh : List Sl → Sl → Prop := fun args res => ∃ f : Form, args = formAr f ∧ Shaped f ∧ res = sB true
theorem any_ne_false {l : List (List Rat)} {n : Nat} (h : ∀ r ∈ l, r.length = n) : (l.map fun r => !decide ((r.length : Int) = (n : Int))).any id = false := by
  rw [List.any_map, List.any_eq_false]
  intro r hr
  simp [h r hr]
theorem ok_is_shaped (T : TX K mg) : Dn P w K mg base 1 "is_shaped" ["signs", "heads", "table", "worths"] tb_sh := by
  obtain ⟨fd, F⟩ := T.u_is_shaped
  refine ⟨_, fd, fn_pure (N := nSh) F sc_sh ?_ ?_, F.bindsN fun _ _ _ _ _ _ us hl => match us, hl with | [_, _, _, _], _ => rfl, T.g_is_shaped, F.kp⟩
  · rintro args res ⟨_, rfl, _⟩
    exact ⟨rfl, rfl⟩
  · rintro cdv A outer s H E args res hr ⟨⟨sg, hs, tb, ws⟩, rfl, ⟨h1, h2, h3⟩, rfl⟩
    dsimp only at h1 h2 h3
    have hN := sc_sh.nd
    show RS _ _ _ _ [.dat RTx sg, sL RTx hs, .dat RTab tb, sL RQ ws, .any, .any] _
    refine rs_cons (r1_if (et_or (et_ne (ex_len (R := RL RRow) T.f_len (ex_var 2 rfl) .dat) (ex_len T.f_len (ex_var 1 rfl) .dat)) fun _ => et_ne (ex_len T.f_len (ex_var 3 rfl) .dat) (ex_len T.f_len (ex_var 1 rfl) .dat)) (fun h => ?_) (fun _ => rs_nil ?_))
    · rw [h1, h2] at h
      simp at h
    refine rs_cons (r1_for (it_list (R := RL RRow) (ex_var 2 rfl)) (fun i Γ => Γ = [.dat RTx sg, sL RTx hs, .dat RTab tb, sL RQ ws, .any, .any]) rfl ?_ ?_)
    · rintro i ns _ hi rfl
      obtain ⟨a1, a2⟩ := h3 ns (List.mem_of_getElem? hi)
      refine ⟨_, _, gt_name 4, fun _ h => h, ?_⟩
      refine rs_one (r1_if (et_or (et_ne (ex_len (R := RRow) T.f_len (ex_var 4 rfl) .dat) (ex_lens T.f_len (ex_var 0 rfl))) fun _ => et_val (ex_any T.f_any (ex_lc (R := RRow) (f := fun r : List Rat => !decide ((r.length : Int) = (hs.length : Int))) [("row", 5)] (it_list (ex_var 4 rfl)) (blkOk_by rfl) (fun _ _ _ _ _ _ _ => gt_name 5) ?_))) (fun h => ?_) (fun _ => rs_nil ⟨_, .same (.same (.same (.same (.any (.any .nil))))), rfl⟩))
      · intro r hr2 _ _ _ _ _
        exact ex_ne (ex_len T.f_len (ex_var 5 rfl) .dat) (ex_len T.f_len (ex_var 1 rfl) .dat)
      · rw [a1, any_ne_false a2] at h
        simp at h
    · rintro _ rfl
      exact rs_one (r1_ret ex_bl rfl)
/-! ### are_heads -/
structure HeadsOk (signs : List Nat) (heads : List (List Nat)) : Prop where
  a : ∀ h ∈ heads, ∀ c ∈ h, c ∈ signs
  b : ∀ i h, heads[i]? = some h → h ≠ [] → h.dropLast ∈ heads.take i
  c : ∀ i g h, heads[i]? = some g → heads[i + 1]? = some h → keyLt ((g.length : Int), g) ((h.length : Int), h) = true
abbrev nAh : List Str := ["signs", "heads", "place", "head", "sign"]
theorem sc_ah : FnScope nAh ["signs", "heads"] (defScope s_are_heads) := ⟨rfl, rfl, rfl, by decide +kernel, rfl, by decide +kernel, by decide +kernel⟩
def tb_ah : List Sl → Sl → Prop := fun args res => ∃ (sg : List Nat) (hs : List (List Nat)), args = [.dat RTx sg, sL RTx hs] ∧ HeadsOk sg hs ∧ res = sB true
theorem any_ni_false {l sg : List Nat} (h : ∀ c ∈ l, c ∈ sg) : (l.map fun c => !decide (c ∈ sg)).any id = false := by
  rw [List.any_map, List.any_eq_false]
  intro r hr
  simp [h r hr]
theorem ok_are_heads (T : TX K mg) : Dn P w K mg base 2 "are_heads" ["signs", "heads"] tb_ah := by
  obtain ⟨fd, F⟩ := T.u_are_heads
  refine ⟨_, fd, fn_pure (N := nAh) F sc_ah ?_ ?_, F.bindsN fun _ _ _ _ _ _ us hl => match us, hl with | [_, _], _ => rfl, T.g_are_heads, F.kp⟩
  · rintro args res ⟨_, _, rfl, _⟩
    exact ⟨rfl, rfl⟩
  · rintro cdv A outer s H E args res hr ⟨sg, hs, rfl, ⟨h1, h2, h3⟩, rfl⟩
    have hN := sc_ah.nd
    show RS _ _ _ _ [.dat RTx sg, sL RTx hs, .any, .any, .any] _
    refine rs_cons (r1_for (it_enum (ex_var 1 rfl) T.f_enumerate) (fun i Γ => Γ = [.dat RTx sg, sL RTx hs, .any, .any, .any]) rfl ?_ ?_)
    · rintro i ⟨pl, hd⟩ _ hi rfl
      obtain ⟨rfl, hi⟩ := zr_get hi
      have hm := List.mem_of_getElem? hi
      refine ⟨_, _, gt_tup2 (gts_cons (gt_name 2) (gts_cons (gt_name 3) gts_nil)), fun _ h => h, ?_⟩
      refine rs_cons (r1_if (et_val (ex_any T.f_any (ex_lc (f := fun c => !decide (c ∈ sg)) [("sign", 4)] (it_str (ex_var 3 rfl)) (blkOk_by rfl) (fun _ _ _ _ _ _ _ => gt_name 4) (fun c _ _ _ _ _ _ => ex_niS (ex_var 4 rfl) (ex_var 0 rfl))))) (fun h => ?_) (fun _ => rs_nil ?_))
      · rw [any_ni_false (h1 hd hm)] at h
        cases h
      refine rs_cons (r1_if (et_and (et_nes (ex_var 3 rfl) (ex_str (l := []) (by decide +kernel))) fun hk => et_niL (ex_but (ex_var 3 rfl) (by simpa using hk)) (ex_pre (ex_var 1 rfl) .dat (ex_nat (ex_var 2 rfl)))) (fun h => ?_) (fun _ => rs_nil ?_))
      · by_cases he : hd = []
        · rw [decide_eq_true he] at h
          cases h
        · rw [decide_eq_true (h2 pl hd hi he)] at h
          simp at h
      refine rs_one (r1_if (et_and (k' := !keyLt (((hs.getD (pl - 1) []).length : Int), hs.getD (pl - 1) []) ((hd.length : Int), hd)) (et_gt (ex_nat (ex_var 2 rfl)) ex_int) fun hk => et_not (et_ltK hr.units0 (ex_call (ok_order_key T) hr (ea_cons (ex_ixS (ex_var 1 rfl) .dat (ex_sub (ex_nat (ex_var 2 rfl)) ex_int) ?_) ea_nil) ⟨_, rfl, rfl⟩) (ex_call (ok_order_key T) hr (ea_cons (ex_var 3 rfl) ea_nil) ⟨_, rfl, rfl⟩))) (fun h => ?_) (fun _ => rs_nil ⟨_, .same (.same (.any (.any (.any .nil)))), rfl⟩))
      · have hp : (0 : Int) < (pl : Int) := of_decide_eq_true hk
        have e : ((pl : Int) - 1) = ((pl - 1 : Nat) : Int) := by omega
        rw [e]
        have hlt : pl - 1 < hs.length := by
          have := (List.getElem?_eq_some_iff.mp hi).1
          omega
        exact atI_nat (by rw [List.getD_eq_getElem?_getD, List.getElem?_eq_getElem hlt]; rfl)
      · rw [Bool.and_eq_true] at h
        have hp : (0 : Int) < (pl : Int) := of_decide_eq_true h.1
        have hlt : pl - 1 < hs.length := by
          have := (List.getElem?_eq_some_iff.mp hi).1
          omega
        have := h3 (pl - 1) (hs.getD (pl - 1) []) hd (by rw [List.getD_eq_getElem?_getD, List.getElem?_eq_getElem hlt]; rfl) (by rw [show pl - 1 + 1 = pl by omega]; exact hi)
        rw [this] at h
        simp at h
    · rintro _ rfl
      exact rs_one (r1_ret ex_bl rfl)
/-! ### is_row -/
def RowOk (heads : List (List Nat)) (msg : List Nat) (row : List Rat) : Prop :=
  if msg ∈ heads then row = heads.map fun h => unitQ (decide (h = msg)) else ∀ p ∈ heads.zip row, p.2.num = 0 ∨ keyLt ((p.1.length : Int), p.1) ((msg.length : Int), msg) = true
abbrev nIr : List Str := ["heads", "message", "row", "head", "number"]
theorem sc_ir : FnScope nIr ["heads", "message", "row"] (defScope s_is_row) := ⟨rfl, rfl, rfl, by decide +kernel, rfl, by decide +kernel, by decide +kernel⟩
def tb_ir : List Sl → Sl → Prop := fun args res => ∃ (hs : List (List Nat)) (msg : List Nat) (row : List Rat), args = [sL RTx hs, .dat RTx msg, sL RQ row] ∧ RowOk hs msg row ∧ res = sB true
theorem ok_is_row (T : TX K mg) : Dn P w K mg base 2 "is_row" ["heads", "message", "row"] tb_ir := by
  obtain ⟨fd, F⟩ := T.u_is_row
  refine ⟨_, fd, fn_pure (N := nIr) F sc_ir ?_ ?_, F.bindsN fun _ _ _ _ _ _ us hl => match us, hl with | [_, _, _], _ => rfl, T.g_is_row, F.kp⟩
  · rintro args res ⟨_, _, _, rfl, _⟩
    exact ⟨rfl, rfl⟩
  · rintro cdv A outer s H E args res hr ⟨hs, msg, row, rfl, hrow, rfl⟩
    have hN := sc_ir.nd
    show RS _ _ _ _ [sL RTx hs, .dat RTx msg, sL RQ row, .any, .any] _
    refine rs_cons (r1_if (et_inL (ex_var 1 rfl) (ex_var 0 rfl)) (fun h => ?_) (fun h => rs_nil ?_))
    · have hm : msg ∈ hs := of_decide_eq_true h
      unfold RowOk at hrow
      rw [if_pos hm] at hrow
      refine rs_one (r1_ret (ex_to (ex_eqD (dr_list dr_q) (by decide) hr.units (y := hs.map fun h => unitQ (decide (h = msg))) (ex_var 2 rfl) (ex_lc (R := RTx) (R' := RQ) [("head", 3)] (it_list (ex_var 0 rfl)) (blkOk_by rfl) (fun _ _ _ _ _ _ _ => gt_name 3) ?_)) (by rw [decide_eq_true hrow])) rfl)
      intro h hh _ _ _ _ _
      exact ex_uq (ex_intB T.f_int (ex_eqs (ex_var 3 rfl) (ex_var 1 rfl)))
    · have hm : ¬ msg ∈ hs := of_decide_eq_false h
      unfold RowOk at hrow
      rw [if_neg hm] at hrow
      refine rs_one (r1_ret (ex_to (ex_all T.f_all (ex_lc (R' := RBl) (f := fun p : List Nat × Rat => decide (p.2.num = 0) || keyLt ((p.1.length : Int), p.1) ((msg.length : Int), msg)) [("head", 3), ("number", 4)] (it_zip (ex_var 0 rfl) (ex_var 2 rfl) T.f_zip) (blkOk_by rfl) (fun p _ _ _ _ _ _ => gt_tup2 (gts_cons (gt_name 3) (gts_cons (gt_name 4) gts_nil))) ?_)) (congrArg sB ?_)) rfl)
      · intro p hp _ _ _ _ _
        exact ex_or2 (ex_eq (ex_num (ex_var 4 rfl)) ex_int) fun _ => ex_ltK (by exact hr.units0) (ex_call (ok_order_key T) hr (ea_cons (ex_var 3 rfl) ea_nil) ⟨_, rfl, rfl⟩) (ex_call (ok_order_key T) hr (ea_cons (ex_var 1 rfl) ea_nil) ⟨_, rfl, rfl⟩)
      · rw [List.all_map, List.all_eq_true]
        intro p hp
        rcases hrow p hp with z | z
        · show (decide (p.2.num = 0) || _) = true
          rw [decide_eq_true z]
          rfl
        · show (_ || keyLt _ _) = true
          rw [z, Bool.or_true]
/-! ### checked_form -/
structure FormOk (f : Form) (n : Nat) : Prop where
  sg : GoodSg f.signs
  sh : Shaped f
  hd : HeadsOk f.signs f.heads
  row : ∀ (i j : Nat) (h : List Nat) (c : Nat) (ns : List (List Rat)) (r : List Rat), f.heads[i]? = some h → f.table[i]? = some ns → f.signs[j]? = some c → ns[j]? = some r → RowOk f.heads (h ++ [c]) r
  sz : TabSz f.table
  mp : machPre (mbM f.signs f.table f.worths)
  fc : FcOk (mbM f.signs f.table f.worths) n
  cnt : (fcF (mbM f.signs f.table f.worths) n).length = f.heads.length
  hl : ∀ h ∈ f.heads, h.length ≤ 1000
  wl : f.worths.length ≤ 1000
abbrev nCf : List Str := ["signs", "heads", "table", "worths", "numbers", "row", "number", "head", "sign", "machine"]
theorem sc_cf : FnScope nCf ["signs", "heads", "table", "worths"] (defScope s_checked_form) := ⟨rfl, rfl, rfl, by decide +kernel, rfl, by decide +kernel, by decide +kernel⟩
def tb_cf (C : Addr) : List Sl → Sl → Prop := fun args res => ∃ (f : Form) (n : Nat), args = formAr f ∧ FormOk f n ∧ res = .dat (RMach C) (mbM f.signs f.table f.worths)
theorem ok_checked_form (T : TX K mg) : Dn P w K mg base 7 "checked_form" ["signs", "heads", "table", "worths"] (tb_cf (He.ga K "Machine")) := by
  obtain ⟨fd, F⟩ := T.u_checked_form
  refine ⟨_, fd, fn_pure (N := nCf) F sc_cf ?_ ?_, F.bindsN fun _ _ _ _ _ _ us hl => match us, hl with | [_, _, _, _], _ => rfl, T.g_checked_form, F.kp⟩
  · rintro args res ⟨_, _, rfl, _⟩
    exact ⟨rfl, rfl⟩
  · rintro cdv A outer s H E args res hr ⟨⟨sg, hs, tb, ws⟩, n, rfl, ok, rfl⟩
    have hN := sc_cf.nd
    have hz : sizeLine = 16777216 := rfl
    show RS _ _ _ _ [.dat RTx sg, sL RTx hs, .dat RTab tb, sL RQ ws, .any, .any, .any, .any, .any, .any] _
    refine rs_cons (r1_expr (ex_call (ok_checked_signs T) (hr.mono (by decide)) (ea_cons (ex_var 0 rfl) ea_nil) ⟨sg, rfl, ok.sg, rfl⟩) ?_)
    refine rs_cons (r1_for (it_list (R := RL RRow) (ex_var 2 rfl)) (fun i Γ => Γ = [.dat RTx sg, sL RTx hs, .dat RTab tb, sL RQ ws, .any, .any, .any, .any, .any, .any]) rfl ?_ ?_)
    · rintro i ns _ hi rfl
      refine ⟨_, _, gt_name 4, fun _ h => h, ?_⟩
      refine rs_one (r1_for (it_list (R := RRow) (ex_var 4 rfl)) (fun i Γ => Γ = [.dat RTx sg, sL RTx hs, .dat RTab tb, sL RQ ws, sL RRow ns, .any, .any, .any, .any, .any]) rfl ?_ ?_)
      · rintro j row _ hj rfl
        refine ⟨_, _, gt_name 5, fun _ h => h, ?_⟩
        refine rs_one (r1_for (it_list (R := RQ) (ex_var 5 rfl)) (fun i Γ => Γ = [.dat RTx sg, sL RTx hs, .dat RTab tb, sL RQ ws, sL RRow ns, sL RQ row, .any, .any, .any, .any]) rfl ?_ ?_)
        · rintro k q _ hk rfl
          refine ⟨_, _, gt_name 6, fun _ h => h, ?_⟩
          exact rs_one (r1_expr (ex_call (ok_checked T) (hr.mono (by decide)) (ea_cons (ex_var 6 rfl) ea_nil) ⟨q, rfl, rfl⟩) ⟨_, .same (.same (.same (.same (.same (.same (.any (.any (.any (.any .nil))))))))), rfl⟩)
        · rintro _ rfl
          exact ⟨_, .same (.same (.same (.same (.same (.any (.any (.any (.any (.any .nil))))))))), rfl⟩
      · rintro _ rfl
        exact ⟨_, .same (.same (.same (.same (.any (.any (.any (.any (.any (.any .nil))))))))), rfl⟩
    rintro _ rfl
    refine rs_cons (r1_for (it_list (R := RQ) (ex_var 3 rfl)) (fun i Γ => Γ = [.dat RTx sg, sL RTx hs, .dat RTab tb, sL RQ ws, .any, .any, .any, .any, .any, .any]) rfl ?_ ?_)
    · rintro i q _ hi rfl
      refine ⟨_, _, gt_name 6, fun _ h => h, ?_⟩
      exact rs_one (r1_expr (ex_call (ok_checked T) (hr.mono (by decide)) (ea_cons (ex_var 6 rfl) ea_nil) ⟨q, rfl, rfl⟩) ⟨_, .same (.same (.same (.same (.any (.any (.any (.any (.any (.any .nil))))))))), rfl⟩)
    rintro _ rfl
    refine rs_cons (r1_if (et_or (et_not (et_val (ex_call (ok_is_shaped T) (hr.mono (by decide)) (ea_cons (ex_var 0 rfl) (ea_cons (ex_var 1 rfl) (ea_cons (ex_var 2 rfl) (ea_cons (ex_var 3 rfl) ea_nil)))) ⟨⟨sg, hs, tb, ws⟩, rfl, ok.sh, rfl⟩))) fun _ => et_not (et_val (ex_call (ok_are_heads T) (hr.mono (by decide)) (ea_cons (ex_var 0 rfl) (ea_cons (ex_var 1 rfl) ea_nil)) ⟨sg, hs, rfl, ok.hd, rfl⟩))) (fun h => by cases h) (fun _ => rs_nil ?_))
    refine rs_cons (r1_for (it_zip (R := RTx) (R' := RL RRow) (ex_var 1 rfl) (ex_var 2 rfl) T.f_zip) (fun i Γ => Γ = [.dat RTx sg, sL RTx hs, .dat RTab tb, sL RQ ws, .any, .any, .any, .any, .any, .any]) rfl ?_ ?_)
    · rintro i ⟨hd, ns⟩ _ hi rfl
      obtain ⟨hi1, hi2⟩ := List.getElem?_zip_eq_some.mp hi
      have hhl := ok.hl hd (List.mem_of_getElem? hi1)
      refine ⟨_, _, gt_tup2 (gts_cons (gt_name 7) (gts_cons (gt_name 4) gts_nil)), fun _ h => h, ?_⟩
      refine rs_one (r1_for (it_zs (ex_var 0 rfl) (ex_var 4 rfl) T.f_zip) (fun j Γ => Γ = [.dat RTx sg, sL RTx hs, .dat RTab tb, sL RQ ws, sL RRow ns, .any, .any, .dat RTx hd, .any, .any]) rfl ?_ ?_)
      · rintro j ⟨c, row⟩ _ hj rfl
        obtain ⟨hj1, hj2⟩ := List.getElem?_zip_eq_some.mp hj
        refine ⟨_, _, gt_tup2 (gts_cons (gt_name 8) (gts_cons (gt_name 5) gts_nil)), fun _ h => h, ?_⟩
        refine rs_one (r1_if (et_not (et_val (ex_call (ok_is_row T) (hr.mono (by decide)) (ea_cons (ex_var 1 rfl) (ea_cons (ex_cat_s (ex_var 7 rfl) (ex_sg (ex_var 8 rfl)) (by show hd.length + 1 ≤ _; omega)) (ea_cons (ex_var 5 rfl) ea_nil))) ⟨hs, hd ++ [c], row, rfl, ok.row i j hd c ns row hi1 hi2 hj1 hj2, rfl⟩))) (fun h => by cases h) (fun _ => rs_nil ⟨_, .same (.same (.same (.same (.same (.any (.any (.same (.any (.any .nil))))))))), rfl⟩))
      · rintro _ rfl
        exact ⟨_, .same (.same (.same (.same (.any (.any (.any (.any (.any (.any .nil))))))))), rfl⟩
    rintro _ rfl
    refine rs_cons (r1_set (sl := .dat (RMach (He.ga K "Machine")) (mbM sg tb ws)) 9 (ex_call (ok_machine_by T) hr (ea_cons (ex_var 0 rfl) (ea_cons (ex_var 2 rfl) (ea_cons (ex_var 3 rfl) ea_nil))) ⟨sg, tb, ws, rfl, ok.sz, ok.wl, ok.mp, rfl⟩) ?_)
    refine rs_cons (r1_if (et_ne (ex_len (R := RRow) T.f_len (ex_call (ok_free_columns T) (hr.mono (by decide)) (ea_cons (ex_var 9 rfl) ea_nil) ⟨mbM sg tb ws, n, rfl, ok.fc, rfl⟩) .dat) (ex_len T.f_len (ex_var 1 rfl) .dat)) (fun h => ?_) (fun _ => rs_nil ?_))
    · have e := ok.cnt
      dsimp only at e
      rw [e] at h
      simp at h
    · exact rs_one (r1_ret (ex_var 9 rfl) rfl)
end PD

/-! part PD11 -/
set_option exponentiation.threshold 256 -- PD11
set_option maxHeartbeats 1000000 -- PD11
set_option maxRecDepth 100000 -- PD11
/-! PD11: Tariff, tariff_of. -/
namespace PD
open PySem PySem.Spec L2 TL KHd MA
variable {P : Program} {w : World} {K : PySem.W.Frag} {mg : Str → Option Value} {base : Heap}
def tarFl (C : Addr) (f : Form) : List (Str × Dt) := [("_machine", ⟨RMach C, mbM f.signs f.table f.worths⟩), ("_signs", ⟨RTx, f.signs⟩), ("_heads", ⟨RL RTx, f.heads⟩), ("_table", ⟨RTab, f.table⟩), ("_worths", ⟨RL RQ, f.worths⟩)]
abbrev RTar (K : PySem.W.Frag) : Rp Form := RIns (He.ga K "Tariff") (tarFl (He.ga K "Machine"))
def formPre (f : Form) : Prop := ∃ n, FormOk f n
abbrev nTi : List Str := ["self", "signs", "heads", "table", "worths", "row", "numbers"]
theorem sc_tinit : FnScope nTi ["self", "signs", "heads", "table", "worths"] (defScope s_Tariff_init) := ⟨rfl, rfl, rfl, by decide +kernel, rfl, by decide +kernel, by decide +kernel⟩
theorem map_id2 (t : List (List (List Rat))) : (t.map fun ns => ns.map fun r => r) = t := by
  rw [show (fun ns : List (List Rat) => ns.map fun r => r) = id from funext fun ns => List.map_id ns]
  exact List.map_id t
theorem ok_tinit (T : TX K mg) : Gm P w K mg base 8 (He.ma K (He.ga K "Tariff") "__init__") ["self", "signs", "heads", "table", "worths"] (tb_init (He.ga K "Tariff") formAr formPre (tarFl (He.ga K "Machine"))) := by
  obtain ⟨fd, F⟩ := T.u_Tariff_init
  refine ⟨fd, fn_eff (N := nTi) F sc_tinit ?_ ?_, F.bindsN fun _ _ _ _ _ _ us hl => match us, hl with | [_, _, _, _, _], _ => rfl⟩
  · rintro args res ⟨_, _, _, m, rfl, _⟩
    rfl
  · rintro cdv A outer s H E args res hr ⟨B, dx, hd, f, rfl, ⟨n, ok⟩, rfl⟩
    have hN := sc_tinit.nd
    show RS _ _ _ _ [.own (insO (He.ga K "Tariff") B dx hd []), .dat RTx f.signs, sL RTx f.heads, .dat RTab f.table, sL RQ f.worths, .any, .any] _
    refine rs_cons (r1_fld (R := RMach (He.ga K "Machine")) (x := mbM f.signs f.table f.worths) 0 T.c_Tariff T.n_Tariff_machine rfl (ex_call (ok_checked_form T) hr (ea_cons (ex_var 1 rfl) (ea_cons (ex_var 2 rfl) (ea_cons (ex_var 3 rfl) (ea_cons (ex_var 4 rfl) ea_nil)))) ⟨f, n, rfl, ok, rfl⟩) rfl (by simp) ?_)
    refine rs_cons (r1_fld 0 T.c_Tariff T.n_Tariff_signs rfl (ex_var 1 rfl) rfl (by simp) ?_)
    refine rs_cons (r1_fld 0 T.c_Tariff T.n_Tariff_heads rfl (ex_list T.f_list (ex_var 2 rfl) .dat) rfl (by simp) ?_)
    refine rs_cons (r1_fld (R := RTab) (x := f.table) 0 T.c_Tariff T.n_Tariff_table rfl (ex_to (ex_lc (R := RL RRow) (R' := RL RRow) (f := fun ns : List (List Rat) => ns.map fun r => r) [("numbers", 6)] (it_list (ex_var 3 rfl)) (blkOk_by rfl) (fun _ _ _ _ _ _ _ => gt_name 6) ?_) (by rw [map_id2])) rfl (by simp) ?_)
    · intro ns hns _ _ _ _ _
      refine ex_lc (R := RRow) (R' := RRow) [("row", 5)] (it_list (ex_var 6 rfl)) (blkOk_by rfl) (fun _ _ _ _ _ _ _ => gt_name 5) ?_
      intro r hr2 _ _ _ _ _
      exact ex_list T.f_list (ex_var 5 rfl) .dat
    refine rs_one (r1_fld 0 T.c_Tariff T.n_Tariff_worths rfl (ex_list T.f_list (ex_var 4 rfl) .dat) rfl (by simp) ?_)
    exact ⟨rfl, rfl⟩
theorem tar_ins {f : Form} {F H : Hp} {v : V} (s : Same F H) (r : SlSat F H (.dat (RTar K) f) (some v)) : ∃ a dx fs, v = .ref a ∧ H a = some (.ins (He.ga K "Tariff") dx fs) := by
  obtain ⟨a, dx, fs, e, h1, _⟩ := sat_dat r
  exact ⟨a, dx, fs, e, s _ _ h1⟩
theorem sc_tself : FnScope ["self"] ["self"] (defScope s_Tariff_heads) ∧ FnScope ["self", "row", "numbers"] ["self"] (defScope s_Tariff_table) ∧ FnScope ["self"] ["self"] (defScope s_Tariff_worths) := ⟨⟨rfl, rfl, rfl, by decide +kernel, rfl, by decide +kernel, by decide +kernel⟩, ⟨rfl, rfl, rfl, by decide +kernel, rfl, by decide +kernel, by decide +kernel⟩, ⟨rfl, rfl, rfl, by decide +kernel, rfl, by decide +kernel, by decide +kernel⟩⟩
theorem ok_theads (T : TX K mg) : Dm P w K mg base 1 (getterAt K "Tariff" "heads") ["self"] (tb_get (RTar K) (RL RTx) Form.heads) := by
  obtain ⟨fd, F⟩ := T.u_Tariff_heads
  refine ⟨fd, fn_pure (N := ["self"]) F sc_tself.1 ?_ ?_, F.bindsN fun _ _ _ _ _ _ us hl => match us, hl with | [_], _ => rfl⟩
  · rintro args res ⟨_, rfl, _⟩
    exact ⟨rfl, rfl⟩
  · rintro cdv A outer s H E args res hr ⟨m, rfl, rfl⟩
    have hN := sc_tself.1.nd
    show RS _ _ _ _ [.dat (RTar K) m] _
    exact rs_one (r1_ret (ex_list T.f_list (ex_fldD (d := ⟨RL RTx, m.heads⟩) T.c_Tariff T.n_Tariff_heads (ex_var 0 rfl) (by rfl)) .dat) rfl)
theorem ok_tworths (T : TX K mg) : Dm P w K mg base 1 (getterAt K "Tariff" "worths") ["self"] (tb_get (RTar K) (RL RQ) Form.worths) := by
  obtain ⟨fd, F⟩ := T.u_Tariff_worths
  refine ⟨fd, fn_pure (N := ["self"]) F sc_tself.2.2 ?_ ?_, F.bindsN fun _ _ _ _ _ _ us hl => match us, hl with | [_], _ => rfl⟩
  · rintro args res ⟨_, rfl, _⟩
    exact ⟨rfl, rfl⟩
  · rintro cdv A outer s H E args res hr ⟨m, rfl, rfl⟩
    have hN := sc_tself.2.2.nd
    show RS _ _ _ _ [.dat (RTar K) m] _
    exact rs_one (r1_ret (ex_list T.f_list (ex_fldD (d := ⟨RL RQ, m.worths⟩) T.c_Tariff T.n_Tariff_worths (ex_var 0 rfl) (by rfl)) .dat) rfl)
theorem ok_ttable (T : TX K mg) : Dm P w K mg base 1 (getterAt K "Tariff" "table") ["self"] (tb_get (RTar K) RTab Form.table) := by
  obtain ⟨fd, F⟩ := T.u_Tariff_table
  refine ⟨fd, fn_pure (N := ["self", "row", "numbers"]) F sc_tself.2.1 ?_ ?_, F.bindsN fun _ _ _ _ _ _ us hl => match us, hl with | [_], _ => rfl⟩
  · rintro args res ⟨_, rfl, _⟩
    exact ⟨rfl, rfl⟩
  · rintro cdv A outer s H E args res hr ⟨m, rfl, rfl⟩
    have hN := sc_tself.2.1.nd
    show RS _ _ _ _ [.dat (RTar K) m, .any, .any] _
    refine rs_one (r1_ret (sl := .dat RTab m.table) (ex_to (ex_lc (R := RL RRow) (R' := RL RRow) (f := fun ns : List (List Rat) => ns.map fun r => r) [("numbers", 2)] (it_list (ex_fldD (d := ⟨RTab, m.table⟩) T.c_Tariff T.n_Tariff_table (ex_var 0 rfl) (by rfl))) (blkOk_by rfl) (fun _ _ _ _ _ _ _ => gt_name 2) ?_) (by rw [map_id2])) rfl)
    intro ns hns _ _ _ _ _
    refine ex_lc (R := RRow) (R' := RRow) [("row", 1)] (it_list (ex_var 2 rfl)) (blkOk_by rfl) (fun _ _ _ _ _ _ _ => gt_name 1) ?_
    intro r hr2 _ _ _ _ _
    exact ex_list T.f_list (ex_var 1 rfl) .dat
/-! ### tariff_of -/
def frm (m : Mach) (k n : Nat) : Form := ⟨m.signs, (formF m (fcF m k) n).1, (formF m (fcF m k) n).2.1, (formF m (fcF m k) n).2.2⟩
abbrev nTo : List Str := ["machine", "heads", "table", "worths"]
theorem sc_to : FnScope nTo ["machine"] (defScope s_tariff_of) := ⟨rfl, rfl, rfl, by decide +kernel, rfl, by decide +kernel, by decide +kernel⟩
def tb_to (K : PySem.W.Frag) : List Sl → Sl → Prop := fun args res => ∃ (m : Mach) (k n : Nat), args = [.dat (RMach (He.ga K "Machine")) m] ∧ FcOk m k ∧ FmOk m (fcF m k) n ∧ formPre (frm m k n) ∧ res = .dat (RTar K) (frm m k n)
theorem ok_tariff_of (T : TX K mg) : Dn P w K mg base 10 "tariff_of" ["machine"] (tb_to K) := by
  obtain ⟨fd, F⟩ := T.u_tariff_of
  refine ⟨_, fd, fn_pure (N := nTo) F sc_to ?_ ?_, F.bindsN fun _ _ _ _ _ _ us hl => match us, hl with | [_], _ => rfl, T.g_tariff_of, F.kp⟩
  · rintro args res ⟨_, _, _, rfl, _⟩
    exact ⟨rfl, rfl⟩
  · rintro cdv A outer s H E args res hr ⟨m, k, n, rfl, h1, h2, h3, rfl⟩
    have hN := sc_to.nd
    unfold frm at h3 ⊢
    have h4 : tb_fm (He.ga K "Machine") [.dat (RMach (He.ga K "Machine")) m] (.dat RForm (formF m (fcF m k) n)) := ⟨m, k, n, rfl, h1, h2, rfl⟩
    obtain ⟨hs, tb, ws, hst⟩ : ∃ hs tb ws, formF m (fcF m k) n = (hs, tb, ws) := ⟨_, _, _, rfl⟩
    rw [hst] at h3 h4 ⊢
    dsimp only at h3 ⊢
    show RS _ _ _ _ [.dat (RMach (He.ga K "Machine")) m, .any, .any, .any] _
    refine rs_cons (r1_asg (sl := .dat RForm (hs, tb, ws)) (ex_call (ok_form_of T) (hr.mono (by decide)) (ea_cons (ex_var 0 rfl) ea_nil) h4) (gt_tup3 (gts_cons (gt_name 1) (gts_cons (gt_name 2) (gts_cons (gt_name 3) gts_nil)))) ?_)
    refine rs_one (r1_ret (ex_mk (m := (⟨m.signs, hs, tb, ws⟩ : Form)) T.k_Tariff (ok_tinit T) hr T.g_Tariff h3 (ea_cons (ex_prop T.c_Machine T.p_Machine_signs (ok_msigns T) (hr.mono (by decide)) (ex_var 0 rfl) (fun F H v s r => mach_ins s r) ⟨m, rfl, rfl⟩) (ea_cons (ex_var 1 rfl) (ea_cons (ex_var 2 rfl) (ea_cons (ex_var 3 rfl) ea_nil)))) rfl) rfl)
end PD

/-! part TL10 -/
set_option exponentiation.threshold 256 -- TL10
set_option maxHeartbeats 1000000 -- TL10
set_option maxRecDepth 100000 -- TL10
/-! TL10: lists of four things, tuples of six, comprehensions with if, isinstance. -/
namespace TL
open PySem PySem.Spec PyProof.Rows L2 MA
section
variable {α β γ δ ε ζ : Type}
/-- a list of four things of any kinds -/
def RH4 (R : Rp α) (S : Rp β) (T : Rp γ) (U : Rp δ) : Rp (α × β × γ × δ) :=
  ⟨fun F v p => ∃ a x y z u, v = .ref a ∧ F a = some (.lst [x, y, z, u]) ∧ R.rel F x p.1 ∧ S.rel F y p.2.1 ∧ T.rel F z p.2.2.1 ∧ U.rel F u p.2.2.2,
   fun s ⟨a, x, y, z, u, e, t, r, q, i, j⟩ => ⟨a, x, y, z, u, e, s _ _ t, R.mono s r, S.mono s q, T.mono s i, U.mono s j⟩⟩
/-- a tuple of six -/
def RT6 (R1 : Rp α) (R2 : Rp β) (R3 : Rp γ) (R4 : Rp δ) (R5 : Rp ε) (R6 : Rp ζ) : Rp (α × β × γ × δ × ε × ζ) :=
  ⟨fun F v p => ∃ a x1 x2 x3 x4 x5 x6, v = .ref a ∧ F a = some (.tup [x1, x2, x3, x4, x5, x6]) ∧ R1.rel F x1 p.1 ∧ R2.rel F x2 p.2.1 ∧ R3.rel F x3 p.2.2.1 ∧ R4.rel F x4 p.2.2.2.1 ∧ R5.rel F x5 p.2.2.2.2.1 ∧ R6.rel F x6 p.2.2.2.2.2,
   fun s ⟨a, x1, x2, x3, x4, x5, x6, e, t, h1, h2, h3, h4, h5, h6⟩ => ⟨a, x1, x2, x3, x4, x5, x6, e, s _ _ t, R1.mono s h1, R2.mono s h2, R3.mono s h3, R4.mono s h4, R5.mono s h5, R6.mono s h6⟩⟩
end
section
variable {X : Cx} {S : List Addr} {F0 H0 F H F' H' F1 H1 : Hp} {e o a b c d tg iter elt : Expr} {es : List Expr} {sts : List Stmt} {st : Stmt} {p pos apos : Pos} {Γ Γ' : List Sl} {T T' : TK} {i j : Int} {sl slO res : Sl} {sls : List Sl} {α β γ δ ε ζ : Type} {R : Rp α} {R' : Rp β} {R'' : Rp γ} {R3 : Rp δ} {R5 : Rp ε} {R6 : Rp ζ} {x : α} {y : β} {z : γ} {u : δ} {x5 : ε} {x6 : ζ} {l : List α} {is : List Nat}
theorem ex_h4 (ha : EX X a Γ (.dat R x)) (hb : EX X b Γ (.dat R' y)) (hc : EX X c Γ (.dat R'' z)) (hd : EX X d Γ (.dat R3 u)) (hs3 : starEach [d] X.env = (false, eval d X.env) :: starEach [] X.env := by rfl) (hs2 : starEach [c, d] X.env = (false, eval c X.env) :: starEach [d] X.env := by rfl)
    (hs1 : starEach [b, c, d] X.env = (false, eval b X.env) :: starEach [c, d] X.env := by rfl) (hs : starEach [a, b, c, d] X.env = (false, eval a X.env) :: starEach [b, c, d] X.env := by rfl) : EX X (.List [a, b, c, d] pos) Γ (.dat (RH4 R R' R'' R3) (x, y, z, u)) := fun σ F H w Q q =>
  PE.wp (pe_lst pa_wp) (ea_cons ha (ea_cons hb (ea_cons hc (ea_cons hd ea_nil hs3) hs2) hs1) hs σ F H w _ fun vs F1 H1 g1 r => by
      obtain ⟨v, u, t, v4, rfl, r1, r2, r3, r4⟩ := sat4 r
      refine ⟨by show 4 ≤ sizeLine; decide, fun p hp => ?_⟩
      have g2 := Gr.alloc (o := .lst [v, u, t, v4]) g1.sub hp
      exact q _ _ _ (g1.trans g2) (dat_sat ⟨p, v, u, t, v4, rfl, upd_same, R.mono g2.fz (sat_dat r1), R'.mono g2.fz (sat_dat r2), R''.mono g2.fz (sat_dat r3), R3.mono g2.fz (sat_dat r4)⟩))
theorem ex_h4a {jj : Nat} {p2 : Pos} (ha : EX X a Γ (.dat (RH4 R R' R'' R3) (x, y, z, u))) : EX X (.Subscript a (.Constant (.int 0) jj p2) pos) Γ (.dat R x) := fun σ F H w Q q =>
  PE.wp (pe_ix ix_list pe_wp pe_int (fun _ _ => rfl)) (ha σ F H w _ fun v F1 H1 g1 r1 => by
    obtain ⟨p, v1, v2, v3, v4, rfl, e, r, s, t, u⟩ := sat_dat r1
    exact ⟨p, _, 0, v1, rfl, rfl, SqL.of (g1.sub _ _ e), atI_0, q v1 F1 H1 g1 (dat_sat r)⟩)
theorem ex_h4b {jj : Nat} {p2 : Pos} (ha : EX X a Γ (.dat (RH4 R R' R'' R3) (x, y, z, u))) : EX X (.Subscript a (.Constant (.int 1) jj p2) pos) Γ (.dat R' y) := fun σ F H w Q q =>
  PE.wp (pe_ix ix_list pe_wp pe_int (fun _ _ => rfl)) (ha σ F H w _ fun v F1 H1 g1 r1 => by
    obtain ⟨p, v1, v2, v3, v4, rfl, e, r, s, t, u⟩ := sat_dat r1
    exact ⟨p, _, 1, v2, rfl, rfl, SqL.of (g1.sub _ _ e), atI_1, q v2 F1 H1 g1 (dat_sat s)⟩)
theorem ex_h4c {jj : Nat} {p2 : Pos} (ha : EX X a Γ (.dat (RH4 R R' R'' R3) (x, y, z, u))) : EX X (.Subscript a (.Constant (.int 2) jj p2) pos) Γ (.dat R'' z) := fun σ F H w Q q =>
  PE.wp (pe_ix ix_list pe_wp pe_int (fun _ _ => rfl)) (ha σ F H w _ fun v F1 H1 g1 r1 => by
    obtain ⟨p, v1, v2, v3, v4, rfl, e, r, s, t, u⟩ := sat_dat r1
    exact ⟨p, _, 2, v3, rfl, rfl, SqL.of (g1.sub _ _ e), atI_2, q v3 F1 H1 g1 (dat_sat t)⟩)
theorem ex_h4d {jj : Nat} {p2 : Pos} (ha : EX X a Γ (.dat (RH4 R R' R'' R3) (x, y, z, u))) : EX X (.Subscript a (.Constant (.int 3) jj p2) pos) Γ (.dat R3 u) := fun σ F H w Q q =>
  PE.wp (pe_ix ix_list pe_wp pe_int (fun _ _ => rfl)) (ha σ F H w _ fun v F1 H1 g1 r1 => by
    obtain ⟨p, v1, v2, v3, v4, rfl, e, r, s, t, u⟩ := sat_dat r1
    exact ⟨p, _, 3, v4, rfl, rfl, SqL.of (g1.sub _ _ e), atI_3, q v4 F1 H1 g1 (dat_sat u)⟩)
/-- a, b, c, d = a list of four -/
theorem gt_h4 {kk : Nat} (h : GTs X [a, b, c, d] is [.dat R x, .dat R' y, .dat R'' z, .dat R3 u] Γ Γ') (hc : X.calm = true := by rfl) (hn : (assignEach [a, b, c, d] X.env).length = 4 := by rfl) (hst : (assignEach [a, b, c, d] X.env).findIdx? (·.1) = none := by rfl) : GT X (.Tuple [a, b, c, d] kk pos) is (.dat (RH4 R R' R'' R3) (x, y, z, u)) Γ Γ' := fun σ F H v w r Q q => by
  obtain ⟨p, v1, v2, v3, v4, rfl, e, r1, r2, r3, r4⟩ := sat_dat r
  exact PG.wp (pg_unl hc pgs_wp hn hst) ⟨p, _, rfl, SqL.of (w.sub _ _ e), rfl, h σ F H [v1, v2, v3, v4] w ⟨dat_sat r1, dat_sat r2, dat_sat r3, dat_sat r4, trivial⟩ Q q⟩
theorem sat6 {s1 s2 s3 s4 s5 s6 : Sl} {vs : List V} (h : Sat F H [s1, s2, s3, s4, s5, s6] (vs.map some)) : ∃ v1 v2 v3 v4 v5 v6, vs = [v1, v2, v3, v4, v5, v6] ∧ SlSat F H s1 (some v1) ∧ SlSat F H s2 (some v2) ∧ SlSat F H s3 (some v3) ∧ SlSat F H s4 (some v4) ∧ SlSat F H s5 (some v5) ∧ SlSat F H s6 (some v6) := by
  obtain ⟨v1, r, rfl, h1, h2⟩ := satC h
  obtain ⟨v2, r, rfl, h3, h4⟩ := satC h2
  obtain ⟨v3, v4, v5, v6, rfl, h5⟩ := sat4 h4
  exact ⟨v1, v2, v3, v4, v5, v6, rfl, h1, h3, h5⟩
theorem ex_tup6 {e5 e6 : Expr} {k : Nat} (ha : EX X a Γ (.dat R x)) (hb : EX X b Γ (.dat R' y)) (hc : EX X c Γ (.dat R'' z)) (hd : EX X d Γ (.dat R3 u)) (he : EX X e5 Γ (.dat R5 x5)) (hf : EX X e6 Γ (.dat R6 x6)) (hs5 : starEach [e6] X.env = (false, eval e6 X.env) :: starEach [] X.env := by rfl) (hs4 : starEach [e5, e6] X.env = (false, eval e5 X.env) :: starEach [e6] X.env := by rfl)
    (hs3 : starEach [d, e5, e6] X.env = (false, eval d X.env) :: starEach [e5, e6] X.env := by rfl) (hs2 : starEach [c, d, e5, e6] X.env = (false, eval c X.env) :: starEach [d, e5, e6] X.env := by rfl)
    (hs1 : starEach [b, c, d, e5, e6] X.env = (false, eval b X.env) :: starEach [c, d, e5, e6] X.env := by rfl) (hs : starEach [a, b, c, d, e5, e6] X.env = (false, eval a X.env) :: starEach [b, c, d, e5, e6] X.env := by rfl) : EX X (.Tuple [a, b, c, d, e5, e6] k pos) Γ (.dat (RT6 R R' R'' R3 R5 R6) (x, y, z, u, x5, x6)) := fun σ F H w Q q =>
  PE.wp (pe_tup pa_wp) (ea_cons ha (ea_cons hb (ea_cons hc (ea_cons hd (ea_cons he (ea_cons hf ea_nil hs5) hs4) hs3) hs2) hs1) hs σ F H w _ fun vs F1 H1 g1 r => by
      obtain ⟨v, u, t, v4, v5, v6, rfl, r1, r2, r3, r4, r5, r6⟩ := sat6 r
      refine ⟨by show 6 ≤ sizeLine; decide, fun p hp => ?_⟩
      have g2 := Gr.alloc (o := .tup [v, u, t, v4, v5, v6]) g1.sub hp
      exact q _ _ _ (g1.trans g2) (dat_sat ⟨p, v, u, t, v4, v5, v6, rfl, upd_same, R.mono g2.fz (sat_dat r1), R'.mono g2.fz (sat_dat r2), R''.mono g2.fz (sat_dat r3), R3.mono g2.fz (sat_dat r4), R5.mono g2.fz (sat_dat r5), R6.mono g2.fz (sat_dat r6)⟩))
/-- the n-th of six -/
theorem ex_t6 {jj : Nat} {p2 : Pos} {n : Nat} {τ : Type} {Rn : Rp τ} {t : τ} (ha : EX X a Γ (.dat (RT6 R R' R'' R3 R5 R6) (x, y, z, u, x5, x6))) (hn : ∀ F v1 v2 v3 v4 v5 v6, R.rel F v1 x → R'.rel F v2 y → R''.rel F v3 z → R3.rel F v4 u → R5.rel F v5 x5 → R6.rel F v6 x6 → ∃ v, [v1, v2, v3, v4, v5, v6][n]? = some v ∧ Rn.rel F v t) : EX X (.Subscript a (.Constant (.int (n : Int)) jj p2) pos) Γ (.dat Rn t) := fun σ F H w Q q =>
  PE.wp (pe_ix ix_tup pe_wp pe_int (fun _ _ => rfl)) (ha σ F H w _ fun v F1 H1 g1 r1 => by
    obtain ⟨p, v1, v2, v3, v4, v5, v6, rfl, e, h1, h2, h3, h4, h5, h6⟩ := sat_dat r1
    obtain ⟨v, hv, rv⟩ := hn F1 v1 v2 v3 v4 v5 v6 h1 h2 h3 h4 h5 h6
    exact ⟨p, _, n, v, rfl, rfl, SqT.of (g1.sub _ _ e), atI_nat hv, q v F1 H1 g1 (dat_sat rv)⟩)
theorem ex_t6a {jj : Nat} {p2 : Pos} (ha : EX X a Γ (.dat (RT6 R R' R'' R3 R5 R6) (x, y, z, u, x5, x6))) : EX X (.Subscript a (.Constant (.int 0) jj p2) pos) Γ (.dat R x) := ex_t6 (n := 0) ha fun _ v1 _ _ _ _ _ h1 _ _ _ _ _ => ⟨v1, rfl, h1⟩
theorem ex_t6b {jj : Nat} {p2 : Pos} (ha : EX X a Γ (.dat (RT6 R R' R'' R3 R5 R6) (x, y, z, u, x5, x6))) : EX X (.Subscript a (.Constant (.int 1) jj p2) pos) Γ (.dat R' y) := ex_t6 (n := 1) ha fun _ _ v1 _ _ _ _ _ h1 _ _ _ _ => ⟨v1, rfl, h1⟩
theorem ex_t6c {jj : Nat} {p2 : Pos} (ha : EX X a Γ (.dat (RT6 R R' R'' R3 R5 R6) (x, y, z, u, x5, x6))) : EX X (.Subscript a (.Constant (.int 2) jj p2) pos) Γ (.dat R'' z) := ex_t6 (n := 2) ha fun _ _ _ v1 _ _ _ _ _ h1 _ _ _ => ⟨v1, rfl, h1⟩
theorem ex_t6d {jj : Nat} {p2 : Pos} (ha : EX X a Γ (.dat (RT6 R R' R'' R3 R5 R6) (x, y, z, u, x5, x6))) : EX X (.Subscript a (.Constant (.int 3) jj p2) pos) Γ (.dat R3 u) := ex_t6 (n := 3) ha fun _ _ _ _ v1 _ _ _ _ _ h1 _ _ => ⟨v1, rfl, h1⟩
theorem ex_t6e {jj : Nat} {p2 : Pos} (ha : EX X a Γ (.dat (RT6 R R' R'' R3 R5 R6) (x, y, z, u, x5, x6))) : EX X (.Subscript a (.Constant (.int 4) jj p2) pos) Γ (.dat R5 x5) := ex_t6 (n := 4) ha fun _ _ _ _ _ v1 _ _ _ _ _ h1 _ => ⟨v1, rfl, h1⟩
theorem ex_t6f {jj : Nat} {p2 : Pos} (ha : EX X a Γ (.dat (RT6 R R' R'' R3 R5 R6) (x, y, z, u, x5, x6))) : EX X (.Subscript a (.Constant (.int 5) jj p2) pos) Γ (.dat R6 x6) := ex_t6 (n := 5) ha fun _ _ _ _ _ _ v1 _ _ _ _ _ h1 => ⟨v1, rfl, h1⟩
/-! ### [x for .. if ..] -/
theorem lcf_read {scope : Scope} {vs : List Nat} {wi : TI} {cnd : Expr} {l : List α} {Γi : α → List Sl} {f : α → β} {k : α → Bool} {σ : L2.St}
    (it : ∀ σ F H, Wd F H Γ σ → ∀ P : It → Hp → Prop, (∀ J F' H' G Y, Gr F H F' H' → l.length ≤ sizeLine → WalkT R J F' l (fun _ => True) G Y → P J H') → wi σ H P)
    (hg : ∀ a ∈ l, InB X scope fun X' => GT X' tg is (.dat R a) (wpS Γ vs) (Γi a)) (hs : ∀ i ∈ is, i ∈ vs) (hk : ∀ a ∈ l, InB X scope fun X' => ET X' cnd (Γi a) (k a)) (he : ∀ a ∈ l, k a = true → InB X scope fun X' => EX X' elt (Γi a) (.dat R' (f a)))
    (w0 : Wd F H Γ σ) {Q : VK} (q : ∀ v F' H', Gr F H F' H' → SlSat F' H' (.dat (RL R') ((l.filter k).map f)) (some v) → Q v H') : tLc wi (gAll X scope tg) (tAll X scope cnd) (eAll X scope elt) vs σ H Q := by
  refine it σ F H w0 _ fun J F' H' G Y g hz wt D hD => ?_
  have len : ∀ i, ((l.take i).filter k).length ≤ i := fun i => Nat.le_trans (List.length_filter_le _ _) (by rw [List.length_take]; omega)
  refine lc_it wt.w (fun i H2 => ∃ F2 acc, Gr F' H' F2 H2 ∧ F2 D = none ∧ H2 D = some (.lst acc) ∧ Paired (R'.rel F2) acc (((l.take i).filter k).map f)) ?_ ?_ ?_ ?_
  · exact ⟨F', [], Gr.mut g.sub hD, g.sub.free hD, upd_same, by rw [List.take_zero]; exact .nil⟩
  · rintro i H2 _ ⟨F2, acc, g2, _, _, _⟩
    exact wt.g F2 H2 g2.fz g2.sub trivial
  · rintro i x H2 H3 hi ⟨F2, acc, g2, hn, hd, pr⟩ hy
    obtain ⟨a, F3, ha, g3, ra⟩ := wt.y i x F2 H2 H3 g2.fz g2.sub hi hy
    have hm : a ∈ l := List.mem_of_getElem? ha
    have gT : Gr F H F3 H3 := (g.trans g2).trans g3
    have hacc : acc.length ≤ i := by rw [Paired.length pr, List.length_map]; exact len i
    intro s0 H0 C cl fp
    refine hg a hm s0 H0 C cl fp (wipe σ vs) F3 H3 x (wd_wipe (w0.grow gT) vs) (dat_sat ra) _ fun σ2 w2 st => ?_
    refine ⟨wipe_stored st hs, ?_⟩
    intro s0 H0 C cl fp
    refine hk a hm s0 H0 C cl fp σ2 F3 H3 w2 _ fun F4 H4 g4 => ?_
    cases hka : k a with
    | true =>
      rw [if_pos rfl]
      intro s0 H0 C cl fp
      refine he a hm hka s0 H0 C cl fp σ2 F4 H4 (w2.grow g4) _ fun v F5 H5 g5 r5 => ?_
      have g35 : Gr F2 H2 F5 H5 := (g3.trans g4).trans g5
      refine ⟨acc, g35.hp D _ hd, by omega, F5, acc ++ [v], (g2.trans g35).write (g35.new D hn (ne_none_of hd)) (.inr hD), g35.new D hn (ne_none_of hd), upd_same, ?_⟩
      rw [List.take_add_one, ha, List.filter_append, List.map_append, show ((some a).toList.filter k) = [a] by simp [hka]]
      exact Paired.snoc (paired_mono g35.fz pr) (sat_dat r5)
    | false =>
      rw [if_neg Bool.false_ne_true]
      have g34 : Gr F2 H2 F4 H4 := g3.trans g4
      refine ⟨F4, acc, g2.trans g34, g34.new D hn (ne_none_of hd), g34.hp D _ hd, ?_⟩
      rw [List.take_add_one, ha, List.filter_append, show ((some a).toList.filter k) = [] by simp [hka], List.append_nil]
      exact paired_mono g34.fz pr
  · rintro H2 ⟨F2, acc, g2, hn, hd, pr⟩
    have g3 := g2.freeze hD hd hn
    have s23 : Same F2 (upd F2 D (.lst acc)) := fun b u e => by rw [upd_ne (ne_of_none e hn)]; exact e
    rw [List.take_length] at pr
    refine q _ _ _ (g.trans g3) (dat_sat ⟨D, acc, rfl, upd_same, ?_, paired_mono s23 pr⟩)
    rw [List.length_map]
    exact Nat.le_trans (List.length_filter_le _ _) hz
theorem ex_lcf {scope : Scope} {cnd : Expr} (own : List (Str × Nat)) {l : List α} {Γi : α → List Sl} {f : α → β} (k : α → Bool) (it : IT X tg iter Γ R l) (ok : BlkOk X.N X.env.scope scope own)
    (hg : ∀ a ∈ l, InB X scope fun X' => GT X' tg is (.dat R a) (wpS Γ (own.map (·.2))) (Γi a)) (hk : ∀ a ∈ l, InB X scope fun X' => ET X' cnd (Γi a) (k a)) (he : ∀ a ∈ l, k a = true → InB X scope fun X' => EX X' elt (Γi a) (.dat R' (f a))) (hs : ∀ i ∈ is, i ∈ own.map (·.2) := by decide) (hN : X.N.Nodup := by assumption) (hc : X.calm = true := by rfl) (hs2 : ∀ x, foldedSetIterable iter X.env x = pure x := by intro _; rfl) :
    EX X (.ListComp elt [⟨tg, iter, [cnd], 0⟩] scope pos) Γ (.dat (RL R') ((l.filter k).map f)) := fun σ F H w Q q => by
  obtain ⟨wi, hi, hr⟩ := it
  exact PE.wp (pe_lc hc hN hi ok gAll_pg (fun s0 H0 C cl fp => pts_one (tAll_pt s0 H0 C cl fp)) eAll_pe hs2) (lcf_read hr hg hs hk he w q)
/-! ### isinstance -/
theorem ex_isi {T : String} {nm : Str} {t : Value} {k : Bool} {p1 p2 : Pos} (hm : X.mg "isinstance" = none) (hm2 : X.mg nm = none) (hv : bootBuiltins nm = some (.type T)) (ha : EX X a Γ sl) (hty : ∀ F H v, Same F H → SlSat F H sl (some v) → TyX X.K H v t) (hk : PySem.W.kitOne X.K t (.type T) = some k)
    (hg : Gl X "isinstance" := by rfl) (hg2 : Gl X nm := by rfl) (hn : nm ≠ "__name__" := by decide) (hd : (nm == ("__debug__" : Str)) = false := by decide) (hs1 : starEach [.Name nm p2] X.env = (false, eval (.Name nm p2) X.env) :: starEach [] X.env := by rfl)
    (hs : starEach [a, .Name nm p2] X.env = (false, eval a X.env) :: starEach [.Name nm p2] X.env := by rfl) (hpl : (backTo pos (starEach [.Name nm p2] X.env)).any (·.1) = false := by rfl) : EX X (.Call (.Name "isinstance" p1) [a, .Name nm p2] [] pos) Γ (sB k) := fun σ F H w Q q =>
  PE.wp (pe_callB call_isi hg hm boot_isinstance (pa_cons pe_wp (pa_cons (pe_bltn (v := .ty T) hg2 hm2 hv rfl hn hd) pa_nil hs1) hs) (by decide) (by decide) hs hpl) (ha σ F H w _ fun v F1 H1 g1 r1 => by
    exact ⟨v, .ty T, t, .type T, k, rfl, .ty T, hty F1 H1 v g1.sub r1, hk, q _ F1 H1 g1 (dat_sat rfl)⟩)
theorem ty_list {l : List α} : ∀ (F H : Hp) v, Same F H → SlSat F H (sL R l) (some v) → TyX X.K H v (.type "list") := fun F H v s r => by
  obtain ⟨p, xs, rfl, e, _⟩ := sat_dat r
  exact .base (.lst (s _ _ e))
theorem ty_q {q : Rat} : ∀ (F H : Hp) v, Same F H → SlSat F H (.dat RQ q) (some v) → TyX X.K H v (.type "tuple") := fun F H v s r => by
  obtain ⟨p, x, y, rfl, e, _⟩ := sat_dat r
  exact .base (.tup (s _ _ e))
theorem ty_int {i : Int} : ∀ (F H : Hp) v, Same F H → SlSat F H (sI i) (some v) → TyX X.K H v (.type "int") := fun F H v s r => by
  have e : v = .int i := sat_dat r
  subst e
  exact .base (.int i)
theorem ty_tx {l : List Nat} : ∀ (F H : Hp) v, Same F H → SlSat F H (.dat RTx l) (some v) → TyX X.K H v (.type "str") := fun F H v s r => by
  obtain ⟨rfl, _⟩ := sat_dat r
  exact .base (.str _)
/-- a number, walked -/
theorem it_q {q0 : Rat} (h : EX X iter Γ (.dat RQ q0)) : IT X tg iter Γ RInt [q0.num, (q0.den : Int)] := by
  refine ⟨_, pi_tup pe_wp, fun σ F H w P q => h σ F H w _ fun v F' H' g r => ?_⟩
  obtain ⟨p, v1, v2, rfl, e, r1, r2⟩ := sat_dat r
  cases r1
  cases r2
  refine ⟨p, rfl, ⟨_, SqT.of (g.sub _ _ e)⟩, q (Itt X.K p) F' H' (fun H2 => SqT X.K H2 p [.int q0.num, .int q0.den]) (YAt [.int q0.num, .int q0.den]) g (by show 2 ≤ sizeLine; decide) ⟨(walk_tup (K := X.K) (a := p) (xs := [.int q0.num, .int q0.den]) : Walk _ 2 _ _), fun F2 H2 s1 s2 _ => SqT.of (s2 _ _ (s1 _ _ e)), fun i x F2 H2 H3 s1 s2 hi y => ?_⟩⟩
  obtain ⟨rfl, hx⟩ := y
  match i, hi, hx with
  | 0, _, hx => exact ⟨q0.num, F2, rfl, GrS.refl s2, (Option.some.inj hx).symm⟩
  | 1, _, hx => exact ⟨(q0.den : Int), F2, rfl, GrS.refl s2, (Option.some.inj hx).symm⟩
/-- a sign of a text -/
theorem ex_sIx {l : List Nat} {n : Nat} (ha : EX X a Γ (.dat RTx l)) (hb : EX X b Γ (sI i)) (h : atI l i = some n) (hs : PlainIx b := by exact fun _ _ => rfl) : EX X (.Subscript a b pos) Γ (.dat RSg n) := fun σ F H w Q q =>
  PE.wp (pe_ix ix_str pe_wp pe_wp hs) (ha σ F H w _ fun v F1 H1 g1 r1 => hb σ F1 H1 (w.grow g1) _ fun u F2 H2 g2 r2 => by
    obtain ⟨rfl, z⟩ := sat_dat r1
    exact ⟨_, i, n, rfl, sat_dat r2, by rw [txt_len]; exact z, by simpa using h, q _ F2 H2 (g1.trans g2) (dat_sat ⟨rfl, by show 1 ≤ sizeLine; decide⟩)⟩)
/-- max of a list -/
theorem ex_max {l : List Int} {m : Int} (hm : X.mg "max" = none) (ha : EX X e Γ (sL RInt l)) (h0 : m ∈ l) (h1 : ∀ y ∈ l, y ≤ m) (hc : X.calm = true := by rfl) (hg : Gl X "max" := by rfl) (he : starEach [e] X.env = (false, eval e X.env) :: starEach [] X.env := by rfl) (hpl : (backTo pos (starEach [] X.env)).any (·.1) = false := by rfl) : EX X (.Call (.Name "max" p) [e] [] pos) Γ (sI m) :=
  ex_b1 (cr_max hc) hm (by decide +kernel) ha (fun F H v s r Q q => by
    obtain ⟨p, xs, rfl, e, _, pr⟩ := sat_dat r
    have := paired_I pr
    subst this
    refine ⟨p, l, rfl, SqL.of (s _ _ e), List.length_pos_of_mem h0, fun m2 h2 h3 => ?_⟩
    have : m2 = m := Int.le_antisymm (h1 m2 h2) (h3 m h0)
    subst this
    exact q _ F H (GrS.refl s) (dat_sat rfl)) hg (by decide) (by decide) he hpl
end
end TL

/-! part TL11 -/
set_option exponentiation.threshold 256 -- TL11
set_option maxHeartbeats 1000000 -- TL11
set_option maxRecDepth 100000 -- TL11
/-! TL11: dicts of one's own; a walk over a lent dict's values. -/
namespace TL
open PySem PySem.Spec PyProof.Rows L2 MA
/-- a dict that stands somewhere -/
def dicO {α : Type} (R : Rp α) (d : Addr) (m : List (List Nat × α)) : OwnP where
  foot := [d]
  val := .ref d
  holds := fun F H => m.length ≤ sizeLine ∧ ∃ kvs, H d = some (.dK kvs) ∧ Paired (PD1 R F) kvs m
  stable := fun ⟨z, kvs, e, p⟩ s h => ⟨z, kvs, by rw [h d (by simp)]; exact e, pd_mono s p⟩
  there := fun ⟨_, kvs, e, _⟩ b hb => by
    have : b = d := by simpa using hb
    subst this
    exact ne_none_of e
  nd := by simp
section
variable {X : Cx} {S : List Addr} {F0 H0 F H F' H' F1 H1 : Hp} {e o a b c tg iter elt : Expr} {es : List Expr} {sts : List Stmt} {st : Stmt} {p pos apos : Pos} {Γ Γ' : List Sl} {T T' : TK} {i j : Int} {sl slO res : Sl} {sls : List Sl} {α β γ δ : Type} {R : Rp α} {R' : Rp β} {R'' : Rp γ} {R3 : Rp δ} {x : α} {y : β} {z : γ} {u : δ} {l : List α} {is : List Nat} {m : List (List Nat × α)} {d : Addr}
/-- {k: v} -/
theorem en_disp1 {k : List Nat} (ha : EX X a Γ (.dat RTx k)) (hb : EX X b Γ (.dat R x)) : EN X (.Dict [some a] [b] pos) Γ (fun s => ∃ d, s = .own (dicO R d [(k, x)])) := fun σ F H w Q q => by
  refine PE.wp (pe_disp (pps_cons pe_wp pe_wp pps_nil) rfl rfl (by simp) (by simp)) fun p hp => ?_
  have g0 := Gr.mut (o := .dK []) w.sub hp
  refine ha σ F _ (w.grow g0) _ fun v F1 H1 g1 r1 => hb σ F1 H1 ((w.grow g0).grow g1) _ fun u F2 H2 g2 r2 => ?_
  have gT := (g0.trans g1).trans g2
  have hp2 : H2 p = some (.dK []) := (g1.trans g2).hp p _ upd_same
  have hF2 : F2 p = none := (g1.trans g2).new p (w.sub.free hp) (by rw [upd_same]; exact Option.some_ne_none _)
  obtain ⟨rfl, _⟩ := sat_dat r1
  refine ⟨hp2, [(kT k, u)], rfl, by simp, ?_⟩
  have e : mergeK [] [(kT k, u)] = [(kT k, u)] := rfl
  rw [e]
  refine q _ F2 _ (.own (dicO R p [(k, x)])) (gT.write hF2 (.inr hp)) ⟨rfl, ⟨by show 1 ≤ sizeLine; decide, _, upd_same, .cons ⟨rfl, sat_dat r2⟩ .nil⟩, fun b hb => ?_⟩ (fun b hb => ?_) ⟨p, rfl⟩
  · have : b = p := by simpa [dicO] using hb
    subst this
    exact hF2
  · have : b = p := by simpa [Sl.foot, dicO] using hb
    subst this
    exact hp
/-- d[k], d one's own or lent -/
theorem ex_dgetO {k : List Nat} (hu : X.A.units + 1 < cLine) (ho : EX X o Γ (.own (dicO R d m))) (hk : EX X b Γ (.dat RTx k)) (h : m.lookup k = some x) (hs : NoSl b := by exact fun _ _ => rfl) : EX X (.Subscript o b pos) Γ (.dat R x) := fun σ F H w Q q =>
  PE.wp (pe_dget hu pe_wp pe_wp hs) (ho σ F H w _ fun v F1 H1 g1 r1 => hk σ F1 H1 (w.grow g1) _ fun v2 F2 H2 g2 r2 => by
    obtain ⟨e1, ⟨z, kvs, e, pr⟩, _⟩ := sat_up g2 r1
    cases e1
    obtain ⟨rfl, _⟩ := sat_dat r2
    obtain ⟨u, hu2, ru⟩ := pd_some pr h
    exact ⟨d, u, rfl, by rw [← hu2]; exact DGet.k (k := kT k) e, q u F2 H2 (g1.trans g2) (dat_sat ru)⟩)
/-- d[k] = e, k new -/
theorem r1_dset (n : Nat) {k : List Nat} {nm : Str} {p1 p2 : Pos} (hu : X.A.units + 1 < cLine) (h0 : gtS Γ n = .own (dicO R d m)) (he : EX X e Γ (.dat R x)) (hk : EX X b Γ (.dat RTx k)) (hnew : m.lookup k = none) (hz : m.length < sizeLine) (h : T.nx (stS Γ n (.own (dicO R d (m ++ [(k, x)]))))) (hN : X.N[n]? = some nm := by rfl) (hv : Vis X.env.scope nm := by first | exact Or.inl rfl | exact Or.inr (Or.inl rfl) | exact Or.inr (Or.inr rfl))
    (hd : (nm == ("__debug__" : Str)) = false := by decide) (hcd : (nm == ("__classdict__" : Str)) = false := by decide)
    (has : ∀ v, assign (.Subscript (.Name nm p1) b p2) X.env v = (do
      let ov ← holding [v] (eval (.Name nm p1) X.env)
      let iv ← holding [v, ov] (eval b X.env)
      standAt p2
      holding [v, ov, iv] (setItem ov iv v)
      release [v, ov, iv] []) := by intro _; rfl) (hs : swapsWithSole [.Subscript (.Name nm p1) b p2] e pos.line X.env = pure false := by rfl) (hw : swappedStores [.Subscript (.Name nm p1) b p2] e X.env = pure none := by rfl)
    (h1 : (assignEach [.Subscript (.Name nm p1) b p2] X.env).map (·.2) = [assign (.Subscript (.Name nm p1) b p2) X.env] := by rfl) : R1 X S H0 (.Assign [.Subscript (.Name nm p1) b p2] e pos) Γ T := fun F0 σ F H l => by
  refine PS.wp (ps_asg pe_wp (pg_sub (pe_var (i := n) hN hv hd hcd) pe_wp (set_dict hu) has) hs hw h1) ?_
  refine he σ F H l.wd _ fun v F1 H1 g1 r1 => ?_
  have l1 := l.grow g1
  obtain ⟨e1, _, _⟩ := l1.wd.sat.own h0
  refine ⟨.ref d, e1, hk σ F1 H1 l1.wd _ fun v2 F2 H2 g2 r2 => ?_⟩
  have l2 := l1.grow g2
  obtain ⟨_, ⟨z, kvs, hx, pr⟩, _⟩ := l2.wd.sat.own h0
  obtain ⟨rfl, _⟩ := sat_dat r2
  refine ⟨d, _, rfl, DPut.k (k := kT k) hx (by rw [Paired.length pr]; exact hz), F2, _, l2.chg (P' := dicO R d (m ++ [(k, x)])) h0 (by simp [dicO]) rfl rfl ?_, h⟩
  refine ⟨by rw [List.length_append]; exact hz, _, upd_same, ?_⟩
  rw [putK_new _ (pd_none pr hnew)]
  exact Paired.snoc' pr ⟨rfl, R.mono g2.fz (sat_dat r1)⟩
/-- one's own becomes data -/
theorem rs_frzP (n : Nat) {P : OwnP} {D : Addr} {R2 : Rp β} {w : β} (h0 : gtS Γ n = .own P) (hf : P.foot = [D]) (hP : ∀ F H, P.holds F H → ∃ o, H D = some o ∧ ∀ F', Same F F' → F' D = some o → R2.rel F' P.val w) (hm : D ∉ S) (h : RS X S H0 sts (stS Γ n (.dat R2 w)) T) : RS X S H0 sts Γ T := fun F0 σ F H l => by
  obtain ⟨e1, hh, hn⟩ := l.wd.sat.own h0
  have hDf : D ∈ P.foot := by rw [hf]; simp
  have hD : F D = none := hn D hDf
  have hD0 : H0 D = none := (l.mine D (feetO_mem h0 hDf)).elim (fun z => absurd z hm) id
  obtain ⟨ob, hx, hrel⟩ := hP F H hh
  have s1 : Same F (upd F D ob) := fun b u e => by rw [upd_ne (ne_of_none e hD)]; exact e
  have keepF : ∀ {Q : OwnP}, D ∉ Q.foot → ∀ b ∈ Q.foot, F b = none → upd F D ob b = none := fun {Q} hq b hb e => by
    have hne : b ≠ D := fun z => hq (by rw [← z]; exact hb)
    rw [upd_ne hne]
    exact e
  have all : ∀ {Γ : List Sl} {σ : L2.St}, D ∉ feet Γ → Sat F H Γ σ → Sat (upd F D ob) H Γ σ := by
    intro Γ
    induction Γ with
    | nil =>
      intro σ _ hh
      cases σ with
      | nil => trivial
      | cons _ _ => exact hh.elim
    | cons s Γ ih =>
      intro σ hd hh
      cases σ with
      | nil => exact hh.elim
      | cons o σ =>
        refine ⟨?_, ih (fun z => hd (List.mem_append_right _ z)) hh.2⟩
        have hs := hh.1
        cases s with
        | any => exact trivial
        | dat R a =>
          obtain ⟨v, ev, r⟩ := hs
          exact ⟨v, ev, R.mono s1 r⟩
        | own Q =>
          obtain ⟨ev, r, n⟩ := hs
          exact ⟨ev, Q.stable r s1 fun b _ => rfl, fun b hb => keepF (fun z => hd (List.mem_append_left _ z)) b hb (n b hb)⟩
        | bor Q =>
          obtain ⟨ev, r, n⟩ := hs
          exact ⟨ev, Q.stable r s1 fun b _ => rfl, fun b hb => keepF (fun z => hd (List.mem_append_left _ z)) b hb (n b hb)⟩
  have key : ∀ {Γ : List Sl} {σ : L2.St} {n : Nat}, gtS Γ n = .own P → (feet Γ).Nodup → Sat F H Γ σ → Sat (upd F D ob) H (stS Γ n (.dat R2 w)) σ := by
    intro Γ
    induction Γ with
    | nil => intro σ n e; cases e
    | cons s Γ ih =>
      intro σ n e nd hh
      cases σ with
      | nil => exact hh.elim
      | cons o σ =>
        obtain ⟨n1, n2, n3⟩ := List.nodup_append.mp nd
        cases n with
        | zero =>
          have e2 : s = .own P := e
          subst e2
          refine ⟨?_, all (fun z => n3 D hDf D z rfl) hh.2⟩
          have e3 : o = some P.val := hh.1.1
          subst e3
          exact dat_sat (H := H) (hrel _ s1 upd_same)
        | succ n =>
          refine ⟨?_, ih e n2 hh.2⟩
          have hs := hh.1
          cases s with
          | any => exact trivial
          | dat R a =>
            obtain ⟨v, ev, r⟩ := hs
            exact ⟨v, ev, R.mono s1 r⟩
          | own Q =>
            obtain ⟨ev, r, nn⟩ := hs
            exact ⟨ev, Q.stable r s1 fun b _ => rfl, fun b hb => keepF (fun z => n3 D z D (feet_mem_own e hDf) rfl) b hb (nn b hb)⟩
          | bor Q =>
            obtain ⟨ev, r, nn⟩ := hs
            exact ⟨ev, Q.stable r s1 fun b _ => rfl, fun b hb => keepF (fun z => n3 D z D (feet_mem_own e hDf) rfl) b hb (nn b hb)⟩
  refine h F0 σ (upd F D ob) H ⟨l.gr.freeze hD0 hx hD, ⟨fun b u e => ?_, key h0 l.wd.nd l.wd.sat, feet_st_nd (sl := .dat R2 w) List.nodup_nil l.wd.nd fun b hb => by cases hb⟩, fun b hb => ?_⟩
  · by_cases hb : b = D
    · subst hb; rw [upd_same] at e; cases e; exact hx
    · rw [upd_ne hb] at e; exact l.wd.sub b u e
  · rcases feetO_st_sub hb with z | z
    · cases z
    · exact l.mine b z
theorem rs_frzD (n : Nat) (h0 : gtS Γ n = .own (dicO R d m)) (hm : d ∉ S) (h : RS X S H0 sts (stS Γ n (.dat (RD R) m)) T) : RS X S H0 sts Γ T :=
  rs_frzP (R2 := RD R) (w := m) n h0 rfl (fun F H hh => by
    obtain ⟨z, kvs, e, pr⟩ := hh
    exact ⟨_, e, fun F' s e' => ⟨d, kvs, rfl, e', pd_mono s pr⟩⟩) hm h
/-! ### for x in d.values(), d lent; all else data -/
theorem Sat.dataH {F H H' : Hp} : ∀ {Γ : List Sl} {σ : L2.St}, feet Γ = [] → Sat F H Γ σ → Sat F H' Γ σ
  | [], [], _, _ => trivial
  | s :: Γ, o :: σ, hf, ⟨h1, h2⟩ => by
    obtain ⟨f1, f2⟩ := List.append_eq_nil_iff.mp hf
    refine ⟨?_, Sat.dataH f2 h2⟩
    cases s with
    | any => exact trivial
    | dat R a => exact h1
    | own P =>
      obtain ⟨ev, r, n⟩ := h1
      have f1' : P.foot = [] := f1
      have st : P.holds F H' := P.stable r (Same.refl _) fun b hb => by
        rw [f1'] at hb
        cases hb
      exact ⟨ev, st, n⟩
    | bor P =>
      obtain ⟨ev, r, n⟩ := h1
      have f1' : P.foot = [] := f1
      have st : P.holds F H' := P.stable r (Same.refl _) fun b hb => by
        rw [f1'] at hb
        cases hb
      exact ⟨ev, st, n⟩
  | [], _ :: _, _, h => h.elim
  | _ :: _, [], _, h => h.elim
theorem feetO_nil : ∀ {Γ : List Sl}, feet Γ = [] → feetO Γ = []
  | [], _ => rfl
  | s :: Γ, hf => by
    obtain ⟨f1, f2⟩ := List.append_eq_nil_iff.mp hf
    show s.footO ++ feetO Γ = []
    rw [feetO_nil f2, List.append_nil]
    cases s with
    | own P => exact f1
    | _ => rfl
/-- a thing's place alone -/
def RAd : Rp Addr := ⟨fun _ v a => v = .ref a, fun _ h => h⟩
theorem set_self {σ : L2.St} {n : Nat} {o : Option V} (h : σ[n]? = some o) : σ.set n o = σ := by
  refine List.ext_getElem? fun j => ?_
  by_cases hj : n = j
  · subst hj
    rw [List.getElem?_set_self (List.getElem?_eq_some_iff.mp h).1, h]
  · rw [List.getElem?_set_ne hj]
theorem r1_forV (n : Nat) {nm : Str} {p1 ap cp : Pos} {body : List Stmt} (h0 : gtS Γ n = .bor (dicO R d m)) (Pv : Nat → List Sl → Prop) (hi0 : Pv 0 (stS Γ n (.dat RAd d))) (hft : ∀ i Γ, Pv i Γ → feet Γ = [] ∧ gtS Γ n = .dat RAd d)
    (hb : ∀ H1 i a Γi, (m.map (·.2))[i]? = some a → Pv i Γi → ∃ is Γ', GT X tg is (.dat R a) Γi Γ' ∧ feet Γ' = [] ∧ RS X [] H1 body Γ' { T with nx := fun Γ2 => ∃ Γ3, Wk Γ2 Γ3 ∧ Pv (i + 1) Γ3, ct := fun _ => False, bk := fun _ => False }) (hd : ∀ Γ, Pv m.length Γ → T.nx (stS Γ n (.bor (dicO R d m)))) (hrt : ∀ s Γ, T.rt s Γ → s.foot = [] ∧ T.rt s [])
    (hN : X.N[n]? = some nm := by rfl) (hv : Vis X.env.scope nm := by first | exact Or.inl rfl | exact Or.inr (Or.inl rfl) | exact Or.inr (Or.inr rfl)) (hdb : (nm == ("__debug__" : Str)) = false := by decide) (hcd : (nm == ("__classdict__" : Str)) = false := by decide)
    (hbase : attributeBase (.Name nm p1) "values" X.env (eval (.Name nm p1) X.env) = eval (.Name nm p1) X.env := by rfl) (hline : (ap.endLine == cp.line) = true := by rfl)
    (hp : PassesOwn (model X.prog X.w) X.A X.env X.xe := by exact PassesOwn.never) (hc : X.calm = true := by rfl) (hs : ∀ x, foldedSetIterable (.Call (.Attribute (.Name nm p1) "values" ap) [] [] cp) X.env x = pure x := by intro _; rfl) :
    R1 X [] H0 (.For tg (.Call (.Attribute (.Name nm p1) "values" ap) [] [] cp) body [] pos) Γ T := fun F0 σ F H lv => by
  obtain ⟨o0, eo, e1, ⟨z, kvs, hx, pr⟩, hn⟩ := lv.wd.sat.at_ h0 (fun z => by cases z)
  subst e1
  have hdF : F d = none := hn d (by simp [dicO])
  refine PS.wp (ps_lock (ps_for hp hc (pi_values (pe_var (i := n) hN hv hdb hcd) hbase hline) pg_wp pss_wp hs)) ?_
  refine ⟨d, .dK kvs, hx, trivial, fun od => ?_⟩
  have feet0 : feet (stS Γ n (.dat RAd d)) = [] := (hft 0 _ hi0).1
  generalize hHl : upd H d (.frz od (.dK kvs)) = Hl
  have hld : Hl d = some (.frz od (.dK kvs)) := by rw [← hHl, upd_same]
  have hlo : ∀ b, b ≠ d → Hl b = H b := fun b hb => by rw [← hHl, upd_ne hb]
  have hsub : Same F Hl := fun b u e => by
    rw [hlo b (ne_of_none e hdF)]
    exact lv.wd.sub b u e
  -- back to the open heap
  have back : ∀ {F2 H2 : Hp}, GrS [] F Hl F2 H2 → GrS [] F0 H0 F2 (upd H2 d (.dK kvs)) := fun {F2 H2} g => by
    have hd2 : F2 d = none := g.new d hdF (by rw [hld]; exact Option.some_ne_none _)
    have nn : ∀ b, H b ≠ none → Hl b ≠ none := fun b e => by
      by_cases hb : b = d
      · subst hb; rw [hld]; exact Option.some_ne_none _
      · rw [hlo b hb]; exact e
    refine ⟨lv.gr.fz.trans g.fz, fun b u e => ?_, fun b u _ e => ?_, fun b e => ?_, fun b e e2 => g.new b (lv.gr.new b e e2) (nn b (lv.gr.there b e2))⟩
    · rw [upd_ne (ne_of_none e hd2)]
      exact g.sub b u e
    · have e2 := lv.gr.keep b u (by simp) e
      by_cases hb : b = d
      · subst hb
        rw [upd_same, ← hx, e2]
      · rw [upd_ne hb]
        exact g.keep b u (by simp) (by rw [hlo b hb]; exact e2)
    · by_cases hb : b = d
      · subst hb; rw [upd_same]; exact Option.some_ne_none _
      · rw [upd_ne hb]
        exact g.there b (nn b (lv.gr.there b e))
  refine ⟨.ref d, eo, d, od, kvs, rfl, hld, ?_⟩
  have hlen : kvs.length = m.length := Paired.length pr
  refine for_it (walk_values (d := d) (o := od) (kvs := kvs)) (fun i σ2 H2 => ∃ F2 Γ2, GrS [] F Hl F2 H2 ∧ Sat F2 H2 Γ2 σ2 ∧ Pv i Γ2) ?_ ?_ ?_ ?_
  · refine ⟨F, _, GrS.refl hsub, Sat.dataH (H := H) feet0 ?_, hi0⟩
    have := lv.wd.sat.set (i := n) (sl := .dat RAd d) (o := some (.ref d)) ⟨_, rfl, rfl⟩
    rw [set_self (σ := σ) (n := n) (o := some (.ref d)) eo] at this
    exact this
  · rintro i σ2 H2 _ ⟨F2, Γ2, g, _, _⟩
    exact g.keep d _ (by simp) hld
  · rintro i v σ2 H2 H3 hi ⟨F2, Γ2, g, sa, p2⟩ ⟨rfl, k, hk⟩
    have hil : i < m.length := by omega
    obtain ⟨⟨k2, a⟩, hm⟩ : ∃ q, m[i]? = some q := ⟨m[i], List.getElem?_eq_getElem hil⟩
    have rv : R.rel F v a := by
      have key : ∀ {kvs : List (Key × V)} {m : List (List Nat × α)} {i : Nat}, Paired (PD1 R F) kvs m → kvs[i]? = some (k, v) → m[i]? = some (k2, a) → R.rel F v a := by
        intro kvs m i pr
        induction pr generalizing i with
        | nil => intro h; simp at h
        | cons r t ih =>
          intro h1 h2
          cases i with
          | zero =>
            simp at h1 h2
            subst h1
            subst h2
            exact r.2
          | succ i => exact ih (by simpa using h1) (by simpa using h2)
      exact key pr hk hm
    obtain ⟨is, Γ', hg, hf', hrun⟩ := hb H3 i a Γ2 (by rw [List.getElem?_map, hm]; rfl) p2
    have w2 : Wd F2 H3 Γ2 σ2 := ⟨g.sub, sa, by rw [(hft i _ p2).1]; exact List.nodup_nil⟩
    refine hg σ2 F2 H3 v w2 (dat_sat (R.mono g.fz rv)) _ fun σ4 w4 _ => ?_
    have l4 : Lv [] F2 H3 F2 H3 Γ' σ4 := ⟨GrS.refl g.sub, w4, fun b hb => by rw [feetO_nil hf'] at hb; cases hb⟩
    intro pins s I
    refine wpAny_mono (hrun F2 σ4 F2 H3 l4 pins s I) (fun f s' q => ?_) fun _ _ z => z
    cases f with
    | next => obtain ⟨σ', H', I', F', Γ', l', Γ3, wk, q'⟩ := q; exact ⟨σ', H', I', F', Γ3, g.trans l'.gr, (wk.wd l'.wd).sat, q'⟩
    | brk => obtain ⟨σ', H', I', F', Γ', l', q'⟩ := q; exact q'.elim
    | cont => obtain ⟨σ', H', I', F', Γ', l', q'⟩ := q; exact q'.elim
    | ret u =>
      obtain ⟨v, σ', H', I', rv, F', Γ', σ2, sl, l', r, hf, q'⟩ := q
      have gg := g.trans l'.gr
      obtain ⟨hsl, hq2⟩ := hrt sl Γ' q'
      refine ⟨v, σ', H', I', rv, gg.keep d _ (by simp) hld, F', [], [], sl, ⟨back gg, ⟨(back gg).sub, trivial, List.nodup_nil⟩, fun b hb => by cases hb⟩, ?_, (by rw [hsl]; intro b hb; cases hb), hq2⟩
      have := Sat.dataH (F := F') (H := H') (H' := upd H' d (.dK kvs)) (Γ := [sl]) (σ := [some v]) (by show sl.foot ++ [] = []; rw [hsl]; rfl) ⟨r, trivial⟩
      exact this.1
  · rintro σ2 H2 ⟨F2, Γ2, g, sa, p2⟩
    rw [hlen] at p2
    obtain ⟨hf2, hsl⟩ := hft _ _ p2
    have hd2 : F2 d = none := g.new d hdF (by rw [hld]; exact Option.some_ne_none _)
    obtain ⟨v, ev, rfl⟩ := sa.dat hsl
    have hsat : Sat F2 (upd H2 d (.dK kvs)) (stS Γ2 n (.bor (dicO R d m))) σ2 := by
      have := (Sat.dataH (H' := upd H2 d (.dK kvs)) hf2 sa).set (i := n) (sl := .bor (dicO R d m)) (o := some (.ref d)) ⟨rfl, ⟨z, kvs, upd_same, pd_mono g.fz pr⟩, fun b hb => by
        have : b = d := by simpa [dicO] using hb
        subst this
        exact hd2⟩
      rw [set_self ev] at this
      exact this
    refine ⟨g.keep d _ (by simp) hld, F2, _, ⟨back g, ⟨(back g).sub, hsat, feet_st_nd (sl := .bor (dicO R d m)) (by simp [Sl.foot, dicO]) (by rw [hf2]; exact List.nodup_nil) fun b hb => by rw [hf2]; simp⟩, fun b hb => ?_⟩, hd Γ2 p2⟩
    rcases feetO_st_sub hb with z | z
    · cases z
    · rw [feetO_nil hf2] at z
      cases z
end
end TL

/-! part TL12 -/
set_option exponentiation.threshold 256 -- TL12
set_option maxHeartbeats 1000000 -- TL12
set_option maxRecDepth 100000 -- TL12
/-! TL12: new lists of one thing; calls with a new thing lent. -/
namespace TL
open PySem PySem.Spec PyProof.Rows L2 MA
section
variable {X : Cx} {S : List Addr} {F0 H0 F H F' H' F1 H1 : Hp} {e o a b c tg iter elt : Expr} {es : List Expr} {sts : List Stmt} {st : Stmt} {p pos apos : Pos} {Γ Γ' : List Sl} {T T' : TK} {i j : Int} {sl slO res : Sl} {sls : List Sl} {α β γ δ : Type} {R : Rp α} {R' : Rp β} {R'' : Rp γ} {R3 : Rp δ} {x : α} {y : β} {z : γ} {u : δ} {l : List α} {is : List Nat}
theorem en_lst1 (ha : EX X a Γ (.dat R x)) (hs : starEach [a] X.env = (false, eval a X.env) :: starEach [] X.env := by rfl) : EN X (.List [a] pos) Γ (fun s => ∃ D, s = sO R D [x]) := fun σ F H w Q q =>
  PE.wp (pe_lst pa_wp) (ea_cons ha ea_nil hs σ F H w _ fun vs F1 H1 g1 r => by
    obtain ⟨v, rfl, r1⟩ := sat1 r
    refine ⟨by show 1 ≤ sizeLine; decide, fun p hp => ?_⟩
    refine q (.ref p) F1 _ (sO R p [x]) (g1.trans (Gr.mut g1.sub hp)) ⟨rfl, ⟨by show 1 ≤ sizeLine; decide, [v], upd_same, .cons (sat_dat r1) .nil⟩, fun b hb => ?_⟩ (fun b hb => ?_) ⟨p, rfl⟩
    · have : b = p := by simpa [accO] using hb
      subst this
      exact g1.sub.free hp
    · have : b = p := by simpa [Sl.foot, accO] using hb
      subst this
      exact g1.hp.free hp)
/-- a call of a def with no effect on what is handed in, that gives a new thing -/
theorem en_callG {k : Nat} {nm : Str} {ps : List Str} {Tab : List Sl → (Sl → List Sl → Prop) → Prop} {es : List Expr} {post : Sl → List Sl → Prop} {P : Sl → Prop} (d : Gn X.prog X.w X.K X.mg X.base k nm ps Tab) (hr : Room k X.A) (ha : EA X (e :: es) Γ sls) (ht : Tab sls post) (hf : feet sls = []) (hp : ∀ s Γ', post s Γ' → P s)
    (hg : Gl X nm := by rfl) (hdb : (nm == ("__debug__" : Str)) = false := by decide) (he : starEach (e :: es) X.env = (false, eval e X.env) :: starEach es X.env := by rfl) (hpl : (backTo pos (starEach es X.env)).any (·.1) = false := by rfl) : EN X (.Call (.Name nm p) (e :: es) [] pos) Γ P := fun σ F H w Q q => by
  obtain ⟨f, fd, G, b, hm, hk⟩ := d.ex
  refine PE.wp (pe_call G hr hg hm hk b .nil pass0 pa_wp hdb he hpl) (ha σ F H w _ fun vs F1 H1 g1 r1 => ?_)
  rw [List.append_nil]
  refine ⟨F1, sls, post, ht, ⟨g1.sub, r1, by rw [hf]; exact List.nodup_nil⟩, fun v F' H' sl Γ' σ' g2 w2 r2 hn z => ?_⟩
  rw [feetO_nil hf] at g2 hn
  exact q v F' H' sl (g1.trans g2) r2 (fun b hb => (hn b hb).elim (fun z => by cases z) fun z => by
    cases h : H b with
    | none => rfl
    | some o => rw [g1.hp b o h] at z; cases z) (hp _ _ z)
/-- three arguments, the last one new and lent -/
theorem ex_call3N {k : Nat} {nm : Str} {ps : List Str} {Tab : List Sl → Sl → Prop} {s1 s2 : Sl} {P : OwnP → Prop} (d : Dn X.prog X.w X.K X.mg X.base k nm ps Tab) (hr : Room k X.A) (ha : EX X a Γ s1) (hb : EX X b Γ s2) (hc : EN X c Γ (fun s => ∃ Q, s = .own Q ∧ P Q)) (f1 : s1.foot = []) (f2 : s2.foot = []) (ht : ∀ Q, P Q → Tab [s1, s2, .bor Q] res)
    (hg : Gl X nm := by rfl) (hdb : (nm == ("__debug__" : Str)) = false := by decide) (he2 : starEach [c] X.env = (false, eval c X.env) :: starEach [] X.env := by rfl) (he1 : starEach [b, c] X.env = (false, eval b X.env) :: starEach [c] X.env := by rfl) (he : starEach [a, b, c] X.env = (false, eval a X.env) :: starEach [b, c] X.env := by rfl) (hpl : (backTo pos (starEach [b, c] X.env)).any (·.1) = false := by rfl) :
    EX X (.Call (.Name nm p) [a, b, c] [] pos) Γ res := fun σ F H w Q q => by
  obtain ⟨f, fd, G, b0, hm, hk⟩ := d.ex
  refine PE.wp (pe_call G hr hg hm hk b0 .nil pass0 (pa_cons pe_wp (pa_cons pe_wp (pa_cons pe_wp pa_nil he2) he1) he) hdb he hpl) ?_
  refine ha σ F H w _ fun v1 F1 H1 g1 r1 => hb σ F1 H1 (w.grow g1) _ fun v2 F2 H2 g2 r2 => hc σ F2 H2 ((w.grow g1).grow g2) _ fun v3 F3 H3 sl g3 r3 hn ⟨P0, hP, hP2⟩ => ?_
  subst hP
  have gT := (g1.trans g2).trans g3
  refine ⟨F3, [s1, s2, .bor P0], res, ht P0 hP2, ⟨g3.sub, ⟨sat_up (g2.trans g3) r1, sat_up g3 r2, r3, trivial⟩, ?_⟩, fun v F' H' g4 r4 => q v F' H' (gT.trans g4) r4⟩
  show (s1.foot ++ (s2.foot ++ (P0.foot ++ []))).Nodup
  rw [f1, f2, List.nil_append, List.nil_append, List.append_nil]
  exact P0.nd
end
end TL

/-! part PL1 -/
set_option exponentiation.threshold 256 -- PL1
set_option maxHeartbeats 1000000 -- PL1
set_option maxRecDepth 100000 -- PL1
/-! PL1: the law's own numbers and rows. -/
namespace PL
open PySem PySem.Spec L2 TL KHd MA PD
variable {P : Program} {w : World} {K : PySem.W.Frag} {mg : Str → Option Value} {base : Heap}
/-! ### _law_gcd -/
abbrev nGcd : List Str := ["_law_one", "_law_other"]
theorem sc_gcd : FnScope nGcd ["_law_one", "_law_other"] (defScope s__law_gcd) := ⟨rfl, rfl, rfl, by decide +kernel, rfl, by decide +kernel, by decide +kernel⟩
def tb_gcd : List Sl → Sl → Prop := fun args res => ∃ a b : Int, args = [sI a, sI b] ∧ res = sI ((Nat.gcd a.natAbs b.natAbs : Nat) : Int)
theorem ok_gcd (T : TX K mg) : Dn P w K mg base 1 "_law_gcd" ["_law_one", "_law_other"] tb_gcd := by
  obtain ⟨fd, F⟩ := T.u__law_gcd
  refine ⟨_, fd, fn_pure (N := nGcd) F sc_gcd ?_ ?_, F.bindsN fun _ _ _ _ _ _ us hl => match us, hl with | [_, _], _ => rfl, T.g__law_gcd, F.kp⟩
  · rintro args res ⟨a, b, rfl, _⟩
    exact ⟨rfl, rfl⟩
  · rintro cdv A outer s H E args res hr ⟨a, b, rfl, rfl⟩
    have hN := sc_gcd.nd
    show RS _ _ _ _ [sI a, sI b] _
    refine rs_cons (r1_par (P := fun s => s = sI a.natAbs) (P' := fun s => s = sI b.natAbs) 0 1 (en_ex (ex_abs T.f_abs (ex_var 0 rfl))) (en_ex (ex_abs T.f_abs (ex_var 1 rfl))) ?_)
    rintro _ _ rfl rfl
    show RS _ _ _ _ [sI a.natAbs, sI b.natAbs] _
    generalize a.natAbs = m
    generalize b.natAbs = n
    refine rs_cons (r1_whileI n (fun i Γ => ∃ x y : Nat, Γ = [sI x, sI y] ∧ Nat.gcd x y = Nat.gcd m n ∧ y + i ≤ n) ⟨m, n, rfl, rfl, Nat.le_refl _⟩ ?_)
    rintro i _ hi ⟨x, y, rfl, hg, hy⟩
    refine ⟨_, et_ne (ex_var 1 rfl) ex_int, fun h => ?_, fun h => ?_⟩
    · have hy0 : (y : Int) ≠ 0 := by simpa using h
      have hy1 : 0 < y := by omega
      refine ⟨by omega, rs_one (r1_par (P := fun s => s = sI y) (P' := fun s => s = sI ((x % y : Nat) : Int)) 0 1 (en_ex (ex_var 1 rfl)) (en_ex (ex_to (ex_mod (ex_intI T.f_int (ex_var 0 rfl)) (ex_var 1 rfl) hy0) (congrArg sI ?_))) ?_)⟩
      · rw [Int.fmod_eq_emod_of_nonneg _ (by omega)]
        omega
      · rintro _ _ rfl rfl
        refine ⟨_, .same (.same .nil), y, x % y, rfl, ?_, ?_⟩
        · rw [← hg, Nat.gcd_comm y, ← Nat.gcd_rec, Nat.gcd_comm]
        · have := Nat.mod_lt x hy1
          omega
    · have hy0 : y = 0 := by
        have : (y : Int) = 0 := by simpa using h
        omega
      subst hy0
      rw [Nat.gcd_zero_right] at hg
      rw [← hg]
      exact rs_one (r1_ret (ex_var 0 rfl) rfl)
/-! ### _law_pair -/
abbrev nPair : List Str := ["_law_above", "_law_below", "_law_common"]
theorem sc_pair : FnScope nPair ["_law_above", "_law_below"] (defScope s__law_pair) := ⟨rfl, rfl, rfl, by decide +kernel, rfl, by decide +kernel, by decide +kernel⟩
def tb_pair : List Sl → Sl → Prop := fun args res => ∃ a b : Int, args = [sI a, sI b] ∧ 0 < b ∧ Sm a ∧ Sm b ∧ res = .dat RQ (Rat.divInt a b)
theorem ok_pair (T : TX K mg) : Dn P w K mg base 2 "_law_pair" ["_law_above", "_law_below"] tb_pair := by
  obtain ⟨fd, F⟩ := T.u__law_pair
  refine ⟨_, fd, fn_pure (N := nPair) F sc_pair ?_ ?_, F.bindsN fun _ _ _ _ _ _ us hl => match us, hl with | [_, _], _ => rfl, T.g__law_pair, F.kp⟩
  · rintro args res ⟨a, b, rfl, _⟩
    exact ⟨rfl, rfl⟩
  · rintro cdv A outer s H E args res hr ⟨a, b, rfl, hb, ha, hb2, rfl⟩
    have hN := sc_pair.nd
    have hb0 : b ≠ 0 := by omega
    have hne := lowC_ne (a := a) hb0
    have e : ((Nat.gcd a.natAbs b.natAbs : Nat) : Int) = lowC a b := (if_neg (by omega)).symm
    show RS _ _ _ _ [sI a, sI b, .any] _
    refine rs_cons (r1_set (sl := sI (lowC a b)) 2 (ex_to (ex_call (ok_gcd T) hr (ea_cons (ex_var 0 rfl) (ea_cons (ex_var 1 rfl) ea_nil)) ⟨a, b, rfl, rfl⟩) (congrArg sI e)) ?_)
    refine rs_cons (r1_if (et_lt (ex_var 1 rfl) ex_int) (fun h => ?_) (fun h => rs_nil ?_))
    · have := of_decide_eq_true h
      omega
    · exact rs_one (r1_ret (ex_conv (ex_tup2 (ex_fdiv (ex_var 0 rfl) (ex_var 2 rfl) (sm_div ha hne)) (ex_fdiv (ex_var 1 rfl) (ex_var 2 rfl) (sm_div hb2 hne))) (fun F v r => by rw [low_num hb0, low_den hb0] at r; exact r)) rfl)
/-! ### _law_over -/
/-- // by a divisor that is not long -/
theorem dv_div {i j : Int} (h : Bt 8000 j) (hj : j ≠ 0) : CDivX i j := by
  refine ⟨hj, ?_⟩
  have hl : (if j == 0 then 0 else j.natAbs.log2 / 30 + 1) ≤ 300 := by
    by_cases h0 : (j == 0) = true
    · rw [if_pos h0]; exact Nat.zero_le _
    · rw [if_neg h0]
      have hne : j.natAbs ≠ 0 := fun z => h0 (by simp; omega)
      have := (Nat.log2_lt hne).mpr (show j.natAbs < 2 ^ 8000 from h)
      omega
  show (decide ((if j == 0 then 0 else j.natAbs.log2 / 30 + 1) > 300) && decide ((if i == 0 then 0 else i.natAbs.log2 / 30 + 1) > (if j == 0 then 0 else j.natAbs.log2 / 30 + 1) + 150)) = false
  rw [decide_eq_false (by omega)]
  rfl
abbrev nOver : List Str := ["_law_numbers", "_law_found", "_law_above", "_law_below"]
theorem sc_over : FnScope nOver ["_law_numbers"] (defScope s__law_over) := ⟨rfl, rfl, rfl, by decide +kernel, rfl, by decide +kernel, by decide +kernel⟩
structure OverOk (l : List Rat) : Prop where
  den : ∀ q ∈ l, Bt 8000 (q.den : Int)
  lcm : Bt 1000000 (lcmL l : Int)
def tb_over : List Sl → Sl → Prop := fun args res => ∃ l : List Rat, args = [sL RQ l] ∧ OverOk l ∧ res = sI (lcmL l)
theorem bt_nat_le {a b k : Nat} (h : Bt k (b : Int)) (hab : a ≤ b) : Bt k (a : Int) := by
  unfold Bt at *
  rw [Int.natAbs_natCast] at *
  omega
theorem over_step (m n : Nat) : ((m : Int).fdiv ((Nat.gcd m n : Nat) : Int)) * (n : Int) = ((Nat.lcm m n : Nat) : Int) := by
  rw [Int.fdiv_eq_ediv_of_nonneg _ (by omega), ← Int.natCast_ediv, ← Int.natCast_mul]
  congr 1
  unfold Nat.lcm
  exact Nat.div_mul_right_comm (Nat.gcd_dvd_left m n) n
theorem ok_over (T : TX K mg) : Dn P w K mg base 2 "_law_over" ["_law_numbers"] tb_over := by
  obtain ⟨fd, F⟩ := T.u__law_over
  refine ⟨_, fd, fn_pure (N := nOver) F sc_over ?_ ?_, F.bindsN fun _ _ _ _ _ _ us hl => match us, hl with | [_], _ => rfl, T.g__law_over, F.kp⟩
  · rintro args res ⟨_, rfl, _⟩
    exact ⟨rfl, rfl⟩
  · rintro cdv A outer s H E args res hr ⟨l, rfl, ⟨hd, hL⟩, rfl⟩
    have hN := sc_over.nd
    show RS _ _ _ _ [sL RQ l, .any, .any, .any] _
    refine rs_cons (r1_set 1 ex_int ?_)
    refine rs_cons (r1_for (it_list (ex_var 0 rfl)) (fun i Γ => Γ = [sL RQ l, sI (lcmL (l.take i)), .any, .any]) rfl ?_ ?_)
    · rintro i q _ hi rfl
      have hq := hd q (List.mem_of_getElem? hi)
      have hm : Bt 1000000 (lcmL (l.take i) : Int) := bt_nat_le hL (Nat.le_of_dvd (lcmL_pos l) (lcmL_take l i))
      have hg : 0 < Nat.gcd (lcmL (l.take i)) q.den := Nat.gcd_pos_of_pos_right _ (Nat.pos_of_ne_zero q.den_nz)
      refine ⟨_, _, gt_q (gts_cons (gt_name 2) (gts_cons (gt_name 3) gts_nil)), fun _ h => h, ?_⟩
      refine rs_one (r1_set 1 (ex_to (ex_mul (ex_fdiv (ex_var 1 rfl) (ex_call (ok_gcd T) hr (ea_cons (ex_var 1 rfl) (ea_cons (ex_var 3 rfl) ea_nil)) ⟨_, _, rfl, rfl⟩) (dv_div ?_ ?_)) (ex_var 3 rfl) (bt_cmul (a := 1000000) (b := 8000) ?_ hq (by decide))) (congrArg sI ?_)) ⟨_, .same (.same (.any (.any .nil))), rfl⟩)
      · rw [Int.natAbs_natCast, Int.natAbs_natCast]
        exact bt_nat_le hq (Nat.gcd_le_right _ (Nat.pos_of_ne_zero q.den_nz))
      · rw [Int.natAbs_natCast, Int.natAbs_natCast]
        omega
      · rw [Int.natAbs_natCast, Int.natAbs_natCast, Int.fdiv_eq_ediv_of_nonneg _ (by omega), ← Int.natCast_ediv]
        exact bt_nat_le hm (Nat.div_le_self _ _)
      · rw [Int.natAbs_natCast, Int.natAbs_natCast, over_step, lcmL_succ hi]
    · rintro _ rfl
      rw [List.take_length]
      exact rs_one (r1_ret (ex_var 1 rfl) rfl)
/-! ### _law_scaled -/
abbrev Parts : Type := List Nat × List Rat × List Road × List Rat
abbrev RParts : Rp Parts := RH4 RTx (RL RQ) (RL RRd) (RL RQ)
abbrev IRd : Type := Nat × Nat × Nat × Int
abbrev RIRd : Rp IRd := RT4 RNat RSg RNat RInt
abbrev Scaled : Type := List Int × Int × List IRd × Int × List Int × Int
abbrev RScl : Rp Scaled := RT6 (RL RInt) RInt (RL RIRd) RInt (RL RInt) RInt
def rdNums (roads : List Road) : List Rat := roads.map fun r => r.2.2.2
def sclRoads (roads : List Road) : List IRd := roads.map fun r => (r.1, r.2.1, r.2.2.1, r.2.2.2.num * (lcmL (rdNums roads) : Int).fdiv r.2.2.2.den)
def scaledF (p : Parts) : Scaled := (intsL p.2.1, (lcmL p.2.1 : Int), sclRoads p.2.2.1, (lcmL (rdNums p.2.2.1) : Int), intsL p.2.2.2, (lcmL p.2.2.2 : Int))
abbrev nScl : List Str := ["_law_parts", "_law_first", "_law_last", "_law_middle", "_law_road", "_law_begin", "_law_above", "_law_below", "_law_end", "_law_roads"]
theorem sc_scl : FnScope nScl ["_law_parts"] (defScope s__law_scaled) := ⟨rfl, rfl, rfl, by decide +kernel, rfl, by decide +kernel, by decide +kernel⟩
structure SclOk (p : Parts) : Prop where
  a : OverOk p.2.1
  b : OverOk (rdNums p.2.2.1)
  c : OverOk p.2.2.2
  na : ∀ q ∈ p.2.1, Bt 100000 q.num
  nb : ∀ q ∈ rdNums p.2.2.1, Bt 100000 q.num
  nc : ∀ q ∈ p.2.2.2, Bt 100000 q.num
def tb_scl : List Sl → Sl → Prop := fun args res => ∃ p : Parts, args = [.dat RParts p] ∧ SclOk p ∧ res = .dat RScl (scaledF p)
theorem bt_fd {a b k : Nat} (h : Bt k (a : Int)) : Bt k ((a : Int).fdiv b) := by
  rw [Int.fdiv_eq_ediv_of_nonneg _ (by omega), ← Int.natCast_ediv]
  exact bt_nat_le h (Nat.div_le_self _ _)
theorem ok_scaled (T : TX K mg) : Dn P w K mg base 3 "_law_scaled" ["_law_parts"] tb_scl := by
  obtain ⟨fd, F⟩ := T.u__law_scaled
  refine ⟨_, fd, fn_pure (N := nScl) F sc_scl ?_ ?_, F.bindsN fun _ _ _ _ _ _ us hl => match us, hl with | [_], _ => rfl, T.g__law_scaled, F.kp⟩
  · rintro args res ⟨_, rfl, _⟩
    exact ⟨rfl, rfl⟩
  · rintro cdv A outer s H E args res hr ⟨⟨sg, bg, rds, fi⟩, rfl, ⟨ha, hb, hc, na, nb, nc⟩, rfl⟩
    dsimp only at ha hb hc na nb nc
    have hN := sc_scl.nd
    unfold scaledF
    dsimp only
    have lc : ∀ {l : List Rat} {q : Rat}, OverOk l → (∀ q ∈ l, Bt 100000 q.num) → q ∈ l → CMulX q.num ((lcmL l : Int).fdiv q.den) := fun {l q} h hn hq => bt_cmul (a := 100000) (b := 1000000) (hn q hq) (bt_fd h.lcm) (by decide)
    show RS _ _ _ _ [.dat RParts (sg, bg, rds, fi), .any, .any, .any, .any, .any, .any, .any, .any, .any] _
    refine rs_cons (r1_asg (sl := .dat (RT2 RInt RInt) ((lcmL bg : Int), (lcmL fi : Int))) (ex_tup2 (ex_call (ok_over T) hr (ea_cons (ex_h4b (ex_var 0 rfl)) ea_nil) ⟨bg, rfl, ha, rfl⟩) (ex_call (ok_over T) hr (ea_cons (ex_h4d (ex_var 0 rfl)) ea_nil) ⟨fi, rfl, hc, rfl⟩)) (gt_tup2 (gts_cons (gt_name 1) (gts_cons (gt_name 2) gts_nil))) ?_)
    refine rs_cons (r1_set 3 (ex_call (ok_over T) hr (ea_cons (ex_lc (R' := RQ) (f := fun r : Road => r.2.2.2) [("_law_road", 4)] (it_list (ex_h4c (ex_var 0 rfl))) (blkOk_by rfl) (fun _ _ _ _ _ _ _ => gt_name 4) (fun r _ _ _ _ _ _ => ex_ix4d (ex_var 4 rfl))) ea_nil) ⟨rdNums rds, rfl, hb, rfl⟩) ?_)
    refine rs_cons (r1_setLc (R' := RInt) (f := fun q : Rat => q.num * (lcmL bg : Int).fdiv q.den) 5 [("_law_above", 6), ("_law_below", 7)] (it_list (ex_h4b (ex_var 0 rfl))) (blkOk_by rfl) (fun _ _ _ _ _ _ _ => gt_q (gts_cons (gt_name 6) (gts_cons (gt_name 7) gts_nil))) (fun q hq _ _ _ _ _ => ex_mul (ex_var 6 rfl) (ex_fdiv (ex_var 1 rfl) (ex_var 7 rfl) (dv_div (ha.den q hq) (den_ne q))) (lc ha na hq)) ?_)
    refine rs_cons (r1_setLc (R' := RInt) (f := fun q : Rat => q.num * (lcmL fi : Int).fdiv q.den) 8 [("_law_above", 6), ("_law_below", 7)] (it_list (ex_h4d (ex_var 0 rfl))) (blkOk_by rfl) (fun _ _ _ _ _ _ _ => gt_q (gts_cons (gt_name 6) (gts_cons (gt_name 7) gts_nil))) (fun q hq _ _ _ _ _ => ex_mul (ex_var 6 rfl) (ex_fdiv (ex_var 2 rfl) (ex_var 7 rfl) (dv_div (hc.den q hq) (den_ne q))) (lc hc nc hq)) ?_)
    refine rs_cons (r1_setLc (R' := RIRd) (f := fun r : Road => (r.1, r.2.1, r.2.2.1, r.2.2.2.num * (lcmL (rdNums rds) : Int).fdiv r.2.2.2.den)) 9 [("_law_road", 4)] (it_list (ex_h4c (ex_var 0 rfl))) (blkOk_by rfl) (fun _ _ _ _ _ _ _ => gt_name 4) (fun r hr2 _ _ _ _ _ => ?_) ?_)
    · have hm : r.2.2.2 ∈ rdNums rds := List.mem_map.mpr ⟨r, hr2, rfl⟩
      exact ex_tup4 (ex_ix4a (ex_var 4 rfl)) (ex_ix4b (ex_var 4 rfl)) (ex_ix4c (ex_var 4 rfl)) (ex_mul (ex_num (ex_ix4d (ex_var 4 rfl))) (ex_fdiv (ex_var 3 rfl) (ex_den (ex_ix4d (ex_var 4 rfl))) (dv_div (hb.den _ hm) (den_ne _))) (lc hb nb hm))
    · exact rs_one (r1_ret (ex_tup6 (ex_var 5 rfl) (ex_var 1 rfl) (ex_var 9 rfl) (ex_var 3 rfl) (ex_var 8 rfl) (ex_var 2 rfl)) rfl)
end PL

/-! part PL2 -/
set_option exponentiation.threshold 256 -- PL2
set_option maxHeartbeats 1000000 -- PL2
set_option maxRecDepth 100000 -- PL2
/-! PL2: steps, messages, rows and columns of the law. -/
namespace PL
open PySem PySem.Spec L2 TL KHd MA PD
variable {P : Program} {w : World} {K : PySem.W.Frag} {mg : Str → Option Value} {base : Heap}
abbrev Big (i : Int) : Prop := Bt 10000000 i
/-! ### _law_stepped -/
def stI1 (row : List Int) (sg : Nat) (f : List Int) (r : IRd) : List Int := if r.2.1 = sg then f.set r.2.2.1 (f.getD r.2.2.1 0 + row.getD r.1 0 * r.2.2.2) else f
def stI (rds : List IRd) (row : List Int) (sg : Nat) : List Int := rds.foldl (stI1 row sg) (List.replicate row.length 0)
theorem stI_succ {rds : List IRd} {row : List Int} {sg i : Nat} {r : IRd} (h : rds[i]? = some r) : stI (rds.take (i + 1)) row sg = stI1 row sg (stI (rds.take i) row sg) r := by
  unfold stI
  rw [List.take_add_one, h, List.foldl_append]
  rfl
theorem stI_len0 (row : List Int) (sg : Nat) : ∀ (rds : List IRd) (f : List Int), (rds.foldl (stI1 row sg) f).length = f.length
  | [], f => rfl
  | r :: rds, f => by
    rw [List.foldl_cons, stI_len0 row sg rds]
    unfold stI1
    split
    · rw [List.length_set]
    · rfl
theorem stI_len (rds : List IRd) (row : List Int) (sg : Nat) : (stI rds row sg).length = row.length := by
  unfold stI
  rw [stI_len0, List.length_replicate]
structure RdsOk (rds : List IRd) (n : Nat) : Prop where
  a : ∀ r ∈ rds, r.1 < n ∧ r.2.2.1 < n ∧ Big r.2.2.2
  n : n ≤ 1000
abbrev nSt : List Str := ["_law_roads", "_law_row", "_law_sign", "_law_found", "_law_state", "_law_other", "_law_behind", "_law_integer"]
theorem sc_st : FnScope nSt ["_law_roads", "_law_row", "_law_sign"] (defScope s__law_stepped) := ⟨rfl, rfl, rfl, by decide +kernel, rfl, by decide +kernel, by decide +kernel⟩
def tb_st : List Sl → Sl → Prop := fun args res => ∃ (rds : List IRd) (row : List Int) (sg : Nat), args = [sL RIRd rds, sL RInt row, .dat RSg sg] ∧ RdsOk rds row.length ∧ (∀ x ∈ row, Big x) ∧ res = sL RInt (stI rds row sg)
theorem ok_stepI (T : TX K mg) : Dn P w K mg base 1 "_law_stepped" ["_law_roads", "_law_row", "_law_sign"] tb_st := by
  obtain ⟨fd, F⟩ := T.u__law_stepped
  refine ⟨_, fd, fn_pure (N := nSt) F sc_st ?_ ?_, F.bindsN fun _ _ _ _ _ _ us hl => match us, hl with | [_, _, _], _ => rfl, T.g__law_stepped, F.kp⟩
  · rintro args res ⟨_, _, _, rfl, _⟩
    exact ⟨rfl, rfl⟩
  · rintro cdv A outer s H E args res hr ⟨rds, row, sg, rfl, ⟨hr1, hr2⟩, hb, rfl⟩
    have hN := sc_st.nd
    have hz : sizeLine = 16777216 := rfl
    show RS _ _ _ _ [sL RIRd rds, sL RInt row, .dat RSg sg, .any, .any, .any, .any, .any] _
    refine rs_cons (r1_setN 3 (en_rep (ex_lst1 ex_int) (ex_len T.f_len (ex_var 1 rfl) .dat) (by omega) (by omega)) ?_)
    rintro _ ⟨D, rfl⟩
    have e0 : List.replicate ((row.length : Int)).toNat (0 : Int) = stI (rds.take 0) row sg := by rw [Int.toNat_natCast]; rfl
    show RS _ _ _ _ [sL RIRd rds, sL RInt row, .dat RSg sg, sO RInt D (List.replicate ((row.length : Int)).toNat 0), .any, .any, .any, .any] _
    rw [e0]
    refine rs_cons (r1_for (it_list (ex_var 0 rfl)) (fun i Γ => Γ = [sL RIRd rds, sL RInt row, .dat RSg sg, sO RInt D (stI (rds.take i) row sg), .any, .any, .any, .any]) rfl ?_ ?_)
    · rintro i ⟨a, c, b, x⟩ _ hi rfl
      obtain ⟨h1, h2, h3⟩ := hr1 _ (List.mem_of_getElem? hi)
      dsimp only at h1 h2 h3
      have hsu := stI_succ (row := row) (sg := sg) hi
      have hfl := stI_len (rds.take i) row sg
      rw [hsu]
      generalize stI (rds.take i) row sg = f at *
      unfold stI1
      dsimp only
      refine ⟨_, _, gt_tup4 (gts_cons (gt_name 4) (gts_cons (gt_name 5) (gts_cons (gt_name 6) (gts_cons (gt_name 7) gts_nil)))), fun _ h => h, ?_⟩
      refine rs_one (r1_if (et_eqs (ex_sg (ex_var 5 rfl)) (ex_sg (ex_var 2 rfl))) (fun h => ?_) (fun h => rs_nil ⟨_, .same (.same (.same (.same (.any (.any (.any (.any .nil))))))), ?_⟩))
      · rw [dec_sg] at h
        rw [if_pos (of_decide_eq_true h)]
        exact rs_one (r1_setO 3 rfl (ex_add (ex_ixS (ex_var 3 rfl) .own (ex_nat (ex_var 6 rfl)) (at_getD (by rw [hfl]; exact h2))) (ex_mul (ex_ixS (ex_var 1 rfl) .dat (ex_nat (ex_var 4 rfl)) (at_getD h1)) (ex_var 7 rfl) (bt_cmul (bt_getD hb) h3 (by decide))))
          (ex_nat (ex_var 6 rfl)) (by rw [hfl]; exact h2) ⟨_, .same (.same (.same (.same (.any (.any (.any (.any .nil))))))), rfl⟩)
      · rw [dec_sg] at h
        rw [if_neg (of_decide_eq_false h)]
    · rintro _ rfl
      rw [List.take_length]
      refine rs_frz 3 rfl (by simp) ?_
      exact rs_one (r1_ret (ex_var 3 rfl) rfl)
/-! ### _law_dot -/
def dotI (row col : List Int) : Int := ((List.range row.length).map fun k => row.getD k 0 * col.getD k 0).sum
abbrev nDo : List Str := ["_law_row", "_law_column", "_law_k"]
theorem sc_do : FnScope nDo ["_law_row", "_law_column"] (defScope s__law_dot) := ⟨rfl, rfl, rfl, by decide +kernel, rfl, by decide +kernel, by decide +kernel⟩
def tb_do : List Sl → Sl → Prop := fun args res => ∃ row col : List Int, args = [sL RInt row, sL RInt col] ∧ row.length ≤ col.length ∧ row.length ≤ 1000 ∧ (∀ x ∈ row, Big x) ∧ (∀ x ∈ col, Big x) ∧ res = sI (dotI row col)
theorem ok_dotI (T : TX K mg) : Dn P w K mg base 1 "_law_dot" ["_law_row", "_law_column"] tb_do := by
  obtain ⟨fd, F⟩ := T.u__law_dot
  refine ⟨_, fd, fn_pure (N := nDo) F sc_do ?_ ?_, F.bindsN fun _ _ _ _ _ _ us hl => match us, hl with | [_, _], _ => rfl, T.g__law_dot, F.kp⟩
  · rintro args res ⟨_, _, rfl, _⟩
    exact ⟨rfl, rfl⟩
  · rintro cdv A outer s H E args res hr ⟨row, col, rfl, hl, hl2, h1, h2, rfl⟩
    have hN := sc_do.nd
    have hz : sizeLine = 16777216 := rfl
    show RS _ _ _ _ [sL RInt row, sL RInt col, .any] _
    refine rs_one (r1_ret (sl := sI (dotI row col)) (ex_sum T.f_sum (ex_lc (R' := RInt) (f := fun k : Nat => row.getD k 0 * col.getD k 0) [("_law_k", 2)] (it_range (ex_len T.f_len (ex_var 0 rfl) .dat) (by omega) rfl T.f_range) (blkOk_by rfl) (fun _ _ _ _ _ _ _ => gt_name 2) ?_)) rfl)
    intro k hk _ _ _ _ _
    have hk2 : k < row.length := List.mem_range.mp hk
    exact ex_mul (ex_ixS (ex_var 0 rfl) .dat (ex_nat (ex_var 2 rfl)) (at_getD hk2)) (ex_ixS (ex_var 1 rfl) .dat (ex_nat (ex_var 2 rfl)) (at_getD (by omega))) (bt_cmul (bt_getD h1) (bt_getD h2) (by decide))
/-! ### _law_powers -/
def powL (b : Int) (n : Nat) : List Int := (List.range (n + 1)).map fun k => b ^ k
theorem powL_succ (b : Int) (n : Nat) : powL b (n + 1) = powL b n ++ [b ^ n * b] := by
  unfold powL
  rw [List.range_succ (n := n + 1), List.map_append, List.map_singleton, Int.pow_succ]
theorem powL_last (b : Int) (n : Nat) : atI (powL b n) (-1) = some (b ^ n) := by
  have : powL b n = (List.range n).map (fun k => b ^ k) ++ [b ^ n] := by
    unfold powL
    rw [List.range_succ, List.map_append]
    rfl
  rw [this]
  exact atI_last _ _
theorem powL_at {b : Int} {n k : Nat} (h : k ≤ n) : (powL b n)[k]? = some (b ^ k) := by
  unfold powL
  rw [List.getElem?_map, List.getElem?_range (by omega)]
  rfl
theorem powL_len (b : Int) (n : Nat) : (powL b n).length = n + 1 := by
  unfold powL
  rw [List.length_map, List.length_range]
abbrev nPw : List Str := ["_law_base", "_law_many", "_law_found", "_law_k"]
theorem sc_pw : FnScope nPw ["_law_base", "_law_many"] (defScope s__law_powers) := ⟨rfl, rfl, rfl, by decide +kernel, rfl, by decide +kernel, by decide +kernel⟩
def tb_pw : List Sl → Sl → Prop := fun args res => ∃ (b : Int) (n : Nat), args = [sI b, sI n] ∧ n ≤ 1000 ∧ (∀ k, k ≤ n → Big (b ^ k)) ∧ Big b ∧ res = sL RInt (powL b n)
theorem ok_powers (T : TX K mg) : Dn P w K mg base 1 "_law_powers" ["_law_base", "_law_many"] tb_pw := by
  obtain ⟨fd, F⟩ := T.u__law_powers
  refine ⟨_, fd, fn_pure (N := nPw) F sc_pw ?_ ?_, F.bindsN fun _ _ _ _ _ _ us hl => match us, hl with | [_, _], _ => rfl, T.g__law_powers, F.kp⟩
  · rintro args res ⟨_, _, rfl, _⟩
    exact ⟨rfl, rfl⟩
  · rintro cdv A outer s H E args res hr ⟨b, n, rfl, hn, hb, hb0, rfl⟩
    have hN := sc_pw.nd
    have hz : sizeLine = 16777216 := rfl
    show RS _ _ _ _ [sI b, sI n, .any, .any] _
    refine rs_cons (r1_setN 2 (en_lst1 (x := (1 : Int)) ex_int) ?_)
    rintro _ ⟨D, rfl⟩
    have e0 : ([1] : List Int) = powL b 0 := by
      unfold powL
      rw [show List.range (0 + 1) = [0] from rfl, List.map_singleton, Int.pow_zero]
    rw [e0]
    refine rs_cons (r1_for (it_range (ex_var 1 rfl) (by omega) rfl T.f_range) (fun i Γ => Γ = [sI b, sI n, sO RInt D (powL b i), .any]) rfl ?_ ?_)
    · rintro i k _ hi rfl
      have hil : i < n := by
        have := (List.getElem?_eq_some_iff.mp hi).1
        rw [List.length_range] at this
        exact this
      refine ⟨_, _, gt_name 3, fun _ h => h, ?_⟩
      refine rs_one (r1_app 2 rfl (ex_mul (ex_ixS (ex_var 2 rfl) .own (ex_neg ex_int) (powL_last b i)) (ex_var 0 rfl) (bt_cmul (hb i (by omega)) hb0 (by decide))) (by rw [powL_len]; omega) ⟨_, .same (.same (.same (.any .nil))), ?_⟩)
      rw [powL_succ]
    · rintro _ rfl
      rw [List.length_range]
      refine rs_frz 2 rfl (by simp) ?_
      exact rs_one (r1_ret (ex_var 2 rfl) rfl)
end PL

/-! part PL3 -/
set_option exponentiation.threshold 256 -- PL3
set_option maxHeartbeats 1000000 -- PL3
set_option maxRecDepth 100000 -- PL3
/-! PL3: messages, the rows and columns behind them. -/
namespace PL
open PySem PySem.Spec L2 TL KHd MA PD
variable {P : Program} {w : World} {K : PySem.W.Frag} {mg : Str → Option Value} {base : Heap}
/-! ### _law_messages -/
def longer (sg : List Nat) (row : List (List Nat)) : List (List Nat) := row.flatMap fun m => sg.map fun c => m ++ [c]
def msgRow (sg : List Nat) : Nat → List (List Nat)
  | 0 => [[]]
  | n + 1 => longer sg (msgRow sg n)
def msgsF (sg : List Nat) (n : Nat) : List (List Nat) := (List.range n).flatMap (msgRow sg)
theorem msgsF_succ (sg : List Nat) (n : Nat) : msgsF sg (n + 1) = msgsF sg n ++ msgRow sg n := by
  unfold msgsF
  rw [List.range_succ, List.flatMap_append]
  simp
theorem msgRow_mem {sg : List Nat} : ∀ {n : Nat} {m : List Nat}, m ∈ msgRow sg n → m.length = n ∧ ∀ c ∈ m, c ∈ sg
  | 0, m, h => by
    have : m = [] := by simpa [msgRow] using h
    subst this
    exact ⟨rfl, fun c hc => by cases hc⟩
  | n + 1, m, h => by
    obtain ⟨m0, h1, h2⟩ := List.mem_flatMap.mp h
    obtain ⟨c, hc, rfl⟩ := List.mem_map.mp h2
    obtain ⟨h3, h4⟩ := msgRow_mem h1
    refine ⟨by rw [List.length_append, h3]; rfl, fun d hd => ?_⟩
    rcases List.mem_append.mp hd with hd | hd
    · exact h4 d hd
    · have : d = c := by simpa using hd
      subst this
      exact hc
theorem longer_len (sg : List Nat) (row : List (List Nat)) : (longer sg row).length = row.length * sg.length := by
  unfold longer
  induction row with
  | nil => simp
  | cons m row ih => rw [List.flatMap_cons, List.length_append, ih, List.length_map, List.length_cons, Nat.add_mul, Nat.one_mul, Nat.add_comm]
theorem msgRow_len (sg : List Nat) : ∀ n, (msgRow sg n).length = sg.length ^ n
  | 0 => rfl
  | n + 1 => by
    show (longer sg (msgRow sg n)).length = _
    rw [longer_len, msgRow_len sg n, Nat.pow_succ]
structure MsgSz (sg : List Nat) (n : Nat) : Prop where
  s : sg.length ≤ 26
  nn : n ≤ 100
  p : ∀ k : Nat, k ≤ n → sg.length ^ k ≤ 100000
  t : ∀ k : Nat, k ≤ n → (msgsF sg k).length ≤ 1000000
abbrev nMs : List Str := ["_law_signs_here", "_law_length", "_law_found", "_law_row", "_law_k", "_law_longer", "_law_message", "_law_sign"]
theorem sc_ms : FnScope nMs ["_law_signs_here", "_law_length"] (defScope s__law_messages) := ⟨rfl, rfl, rfl, by decide +kernel, rfl, by decide +kernel, by decide +kernel⟩
def tb_ms : List Sl → Sl → Prop := fun args res => ∃ (sg : List Nat) (n : Nat), args = [.dat RTx sg, sI n] ∧ MsgSz sg n ∧ res = sL RTx (msgsF sg n)
theorem ok_messages (T : TX K mg) : Dn P w K mg base 1 "_law_messages" ["_law_signs_here", "_law_length"] tb_ms := by
  obtain ⟨fd, F⟩ := T.u__law_messages
  refine ⟨_, fd, fn_pure (N := nMs) F sc_ms ?_ ?_, F.bindsN fun _ _ _ _ _ _ us hl => match us, hl with | [_, _], _ => rfl, T.g__law_messages, F.kp⟩
  · rintro args res ⟨_, _, rfl, _⟩
    exact ⟨rfl, rfl⟩
  · rintro cdv A outer s H E args res hr ⟨sg, n, rfl, ⟨z1, z2, z3, z4⟩, rfl⟩
    have hN := sc_ms.nd
    have hz : sizeLine = 16777216 := rfl
    show RS _ _ _ _ [.dat RTx sg, sI n, .any, .any, .any, .any, .any, .any] _
    refine rs_cons (r1_par (P := fun s => ∃ D, s = sO RTx D []) (P' := fun s => s = sL RTx [[]]) 2 3 en_lst0 (en_ex (ex_lst1 (x := ([] : List Nat)) (ex_str (by decide +kernel)))) ?_)
    rintro _ _ ⟨D, rfl⟩ rfl
    refine rs_cons (r1_for (it_range (ex_var 1 rfl) (by omega) rfl T.f_range) (fun i Γ => Γ = [.dat RTx sg, sI n, sO RTx D (msgsF sg i), sL RTx (msgRow sg i), .any, .any, .any, .any]) rfl ?_ ?_)
    · rintro i k _ hi rfl
      have hil : i < n := by
        have := (List.getElem?_eq_some_iff.mp hi).1
        rw [List.length_range] at this
        exact this
      have hrl := msgRow_len sg i
      have hp1 := z3 i (by omega)
      have hp2 := z3 (i + 1) (by omega)
      have ht := z4 i (by omega)
      rw [Nat.pow_succ] at hp2
      refine ⟨_, _, gt_name 4, fun _ h => h, ?_⟩
      refine rs_cons (r1_ext 2 rfl (ex_var 3 rfl) (by omega) ?_)
      refine rs_cons (r1_new RTx 5 fun D2 => ?_)
      refine rs_cons (r1_for (it_list (R := RTx) (ex_var 3 rfl)) (fun j Γ => Γ = [.dat RTx sg, sI n, sO RTx D (msgsF sg (i + 1)), sL RTx (msgRow sg i), .dat RNat k, sO RTx D2 (longer sg ((msgRow sg i).take j)), .any, .any]) ?_ ?_ ?_)
      · rw [msgsF_succ]
        rfl
      · rintro j m _ hj rfl
        have hm := msgRow_mem (List.mem_of_getElem? hj)
        have hsu : longer sg ((msgRow sg i).take (j + 1)) = longer sg ((msgRow sg i).take j) ++ sg.map fun c => m ++ [c] := flat_succ hj
        have hjl : j < (msgRow sg i).length := (List.getElem?_eq_some_iff.mp hj).1
        have hll : (longer sg ((msgRow sg i).take j)).length ≤ sg.length ^ i * sg.length := by
          rw [longer_len, List.length_take]
          exact Nat.mul_le_mul_right _ (by omega)
        rw [hsu]
        generalize longer sg ((msgRow sg i).take j) = acc at *
        refine ⟨_, _, gt_name 6, fun _ h => h, ?_⟩
        refine rs_one (r1_ext (m := sg.map fun c => m ++ [c]) 5 rfl (ex_lc (R' := RTx) (f := fun c => m ++ [c]) [("_law_sign", 7)] (it_str (ex_var 0 rfl)) (blkOk_by rfl) (fun _ _ _ _ _ _ _ => gt_name 7) ?_) (by rw [List.length_map]; omega) ⟨_, .same (.same (.same (.same (.same (.same (.any (.any .nil))))))), rfl⟩)
        intro c hc _ _ _ _ _
        exact ex_cat_s (ex_var 6 rfl) (ex_sg (ex_var 7 rfl)) (by show m.length + 1 ≤ _; omega)
      · rintro _ rfl
        rw [List.take_length]
        refine rs_frz 5 rfl (by simp) ?_
        exact rs_one (r1_set 3 (ex_var 5 rfl) ⟨_, .same (.same (.same (.same (.any (.any (.any (.any .nil))))))), rfl⟩)
    · rintro _ rfl
      rw [List.length_range]
      refine rs_frz 2 rfl (by simp) ?_
      exact rs_one (r1_ret (ex_var 2 rfl) rfl)
/-! ### _law_row_behind -/
def rowB (scl : Scaled) (m : List Nat) : List Int := m.foldl (stI scl.2.2.1) scl.1
def turnI (rds : List IRd) : List IRd := rds.map fun r => (r.2.2.1, r.2.1, r.1, r.2.2.2)
def colB (scl : Scaled) (m : List Nat) : List Int := m.foldr (fun c v => stI (turnI scl.2.2.1) v c) scl.2.2.2.2.1
theorem rowB_len (scl : Scaled) (m : List Nat) : (rowB scl m).length = scl.1.length := by
  unfold rowB
  generalize scl.1 = r
  induction m generalizing r with
  | nil => rfl
  | cons c m ih => rw [List.foldl_cons, ih, stI_len]
theorem colB_len (scl : Scaled) (m : List Nat) : (colB scl m).length = scl.2.2.2.2.1.length := by
  unfold colB
  induction m with
  | nil => rfl
  | cons c m ih => rw [List.foldr_cons, stI_len, ih]
theorem rowB_snoc (scl : Scaled) (m : List Nat) (c : Nat) : rowB scl (m ++ [c]) = stI scl.2.2.1 (rowB scl m) c := by
  unfold rowB
  rw [List.foldl_append]
  rfl
theorem colB_cons (scl : Scaled) (m : List Nat) (c : Nat) : colB scl (c :: m) = stI (turnI scl.2.2.1) (colB scl m) c := rfl
/-- the roads fit, rows and columns stay small for messages of at most N signs of sg -/
structure SclB (scl : Scaled) (sg : List Nat) (N : Nat) : Prop where
  rd : RdsOk scl.2.2.1 scl.1.length
  fl : scl.2.2.2.2.1.length = scl.1.length
  rb : ∀ m : List Nat, m.length ≤ N → (∀ c ∈ m, c ∈ sg) → ∀ x ∈ rowB scl m, Big x
  cb : ∀ m : List Nat, m.length ≤ N → (∀ c ∈ m, c ∈ sg) → ∀ x ∈ colB scl m, Big x
theorem turn_ok {rds : List IRd} {n : Nat} (h : RdsOk rds n) : RdsOk (turnI rds) n := ⟨fun r hr => by
  obtain ⟨r0, h0, rfl⟩ := List.mem_map.mp hr
  obtain ⟨h1, h2, h3⟩ := h.a r0 h0
  exact ⟨h2, h1, h3⟩, h.n⟩
abbrev nRb : List Str := ["_law_scaled_here", "_law_message", "_law_row", "_law_sign"]
theorem sc_rb : FnScope nRb ["_law_scaled_here", "_law_message"] (defScope s__law_row_behind) := ⟨rfl, rfl, rfl, by decide +kernel, rfl, by decide +kernel, by decide +kernel⟩
def tb_rb : List Sl → Sl → Prop := fun args res => ∃ (scl : Scaled) (sg m : List Nat), args = [.dat RScl scl, .dat RTx m] ∧ SclB scl sg m.length ∧ (∀ c ∈ m, c ∈ sg) ∧ res = sL RInt (rowB scl m)
theorem ok_row_behind (T : TX K mg) : Dn P w K mg base 2 "_law_row_behind" ["_law_scaled_here", "_law_message"] tb_rb := by
  obtain ⟨fd, F⟩ := T.u__law_row_behind
  refine ⟨_, fd, fn_pure (N := nRb) F sc_rb ?_ ?_, F.bindsN fun _ _ _ _ _ _ us hl => match us, hl with | [_, _], _ => rfl, T.g__law_row_behind, F.kp⟩
  · rintro args res ⟨_, _, _, rfl, _⟩
    exact ⟨rfl, rfl⟩
  · rintro cdv A outer s H E args res hr ⟨⟨b0, l0, rds, mi, f0, l1⟩, sg, m, rfl, ⟨h1, h2, h3, h4⟩, hm, rfl⟩
    have hN := sc_rb.nd
    show RS _ _ _ _ [.dat RScl (b0, l0, rds, mi, f0, l1), .dat RTx m, .any, .any] _
    refine rs_cons (r1_set 2 (ex_t6a (ex_var 0 rfl)) ?_)
    refine rs_cons (r1_for (it_str (ex_var 1 rfl)) (fun i Γ => Γ = [.dat RScl (b0, l0, rds, mi, f0, l1), .dat RTx m, sL RInt (rowB (b0, l0, rds, mi, f0, l1) (m.take i)), .any]) rfl ?_ ?_)
    · rintro i c _ hi rfl
      refine ⟨_, _, gt_name 3, fun _ h => h, ?_⟩
      refine rs_one (r1_set 2 (ex_call (ok_stepI T) hr (ea_cons (ex_t6c (ex_var 0 rfl)) (ea_cons (ex_var 2 rfl) (ea_cons (ex_var 3 rfl) ea_nil))) ⟨rds, _, c, rfl, by rw [rowB_len]; exact h1, h3 _ (by rw [List.length_take]; omega) (fun d hd => hm d (List.mem_of_mem_take hd)), rfl⟩) ⟨_, .same (.same (.same (.any .nil))), ?_⟩)
      rw [List.take_add_one, hi]
      show _ = [_, _, sL RInt (rowB _ (m.take i ++ [c])), _]
      rw [rowB_snoc]
    · rintro _ rfl
      rw [List.take_length]
      exact rs_one (r1_ret (ex_var 2 rfl) rfl)
end PL

/-! part PL4 -/
set_option exponentiation.threshold 256 -- PL4
set_option maxHeartbeats 1000000 -- PL4
set_option maxRecDepth 100000 -- PL4
/-! PL4: tables of rows and columns, what is told, kinds. -/
namespace PL
open PySem PySem.Spec L2 TL KHd MA PD
variable {P : Program} {w : World} {K : PySem.W.Frag} {mg : Str → Option Value} {base : Heap}
def tabD (f : List Nat → List Int) (ms : List (List Nat)) : List (List Nat × List Int) := ([], f []) :: (ms.filter fun m => !decide (m = [])).map fun m => (m, f m)
theorem tabD_succ {f : List Nat → List Int} {ms : List (List Nat)} {i : Nat} {m : List Nat} (h : ms[i]? = some m) : tabD f (ms.take (i + 1)) = tabD f (ms.take i) ++ if m = [] then [] else [(m, f m)] := by
  unfold tabD
  rw [List.take_add_one, h, List.filter_append, List.map_append, List.cons_append]
  congr 2
  by_cases e : m = []
  · simp [e]
  · simp [e]
theorem tabD_len (f : List Nat → List Int) (ms : List (List Nat)) : (tabD f ms).length ≤ ms.length + 1 := by
  unfold tabD
  rw [List.length_cons, List.length_map]
  exact Nat.succ_le_succ (List.length_filter_le _ _)
theorem look_map {f : List Nat → List Int} {k : List Nat} : ∀ {l : List (List Nat)}, k ∈ l → (l.map fun m => (m, f m)).lookup k = some (f k)
  | m :: l, h => by
    rw [List.map_cons, List.lookup_cons]
    by_cases e : k = m
    · subst e
      rw [show (k == k) = true from beq_self_eq_true k]
    · rw [show (k == m) = false from beq_eq_false_iff_ne.mpr e]
      exact look_map ((List.mem_cons.mp h).resolve_left e)
theorem tabD_look {f : List Nat → List Int} {ms : List (List Nat)} {k : List Nat} (h : k = [] ∨ k ∈ ms) : (tabD f ms).lookup k = some (f k) := by
  unfold tabD
  rw [List.lookup_cons]
  by_cases e : k = []
  · subst e
    rfl
  · rw [show (k == ([] : List Nat)) = false from beq_eq_false_iff_ne.mpr e]
    exact look_map (List.mem_filter.mpr ⟨h.resolve_left e, by simp [e]⟩)
theorem tabD_new {f : List Nat → List Int} {ms : List (List Nat)} {k : List Nat} (h : k ≠ []) (h2 : k ∉ ms) : (tabD f ms).lookup k = none := by
  unfold tabD
  rw [List.lookup_cons, show (k == ([] : List Nat)) = false from beq_eq_false_iff_ne.mpr h]
  exact lookup_map_none fun a ha e => h2 (by rw [← e]; exact (List.mem_filter.mp ha).1)
structure MsgsOk (ms : List (List Nat)) (sg : List Nat) (N : Nat) : Prop where
  nd : ms.Nodup
  le : ∀ m ∈ ms, m.length ≤ N ∧ ∀ c ∈ m, c ∈ sg
  pre : ∀ (i : Nat) (m : List Nat), ms[i]? = some m → m ≠ [] → m.dropLast = [] ∨ m.dropLast ∈ ms.take i
  suf : ∀ (i : Nat) (m : List Nat), ms[i]? = some m → m ≠ [] → m.drop 1 = [] ∨ m.drop 1 ∈ ms.take i
  sz : ms.length ≤ 1000000
theorem nd_take {ms : List (List Nat)} {i : Nat} {m : List Nat} (nd : ms.Nodup) (h : ms[i]? = some m) : m ∉ ms.take i := by
  intro hm
  obtain ⟨j, hj⟩ := List.getElem?_of_mem hm
  obtain ⟨hjl, hjm⟩ := List.getElem?_eq_some_iff.mp hj
  obtain ⟨hil, him⟩ := List.getElem?_eq_some_iff.mp h
  rw [List.length_take] at hjl
  rw [List.getElem_take] at hjm
  exact List.pairwise_iff_getElem.mp nd j i (by omega) hil (by omega) (hjm.trans him.symm)
theorem last_of {m : List Nat} (h : m ≠ []) : ∃ m' c, m = m' ++ [c] := ⟨m.dropLast, m.getLast h, (List.dropLast_concat_getLast h).symm⟩
/-! ### _law_rows -/
abbrev nRo : List Str := ["_law_scaled_here", "_law_messages_here", "_law_table", "_law_message"]
theorem sc_ro : FnScope nRo ["_law_scaled_here", "_law_messages_here"] (defScope s__law_rows) := ⟨rfl, rfl, rfl, by decide +kernel, rfl, by decide +kernel, by decide +kernel⟩
def tb_ro : List Sl → Sl → Prop := fun args res => ∃ (scl : Scaled) (sg : List Nat) (ms : List (List Nat)) (N : Nat), args = [.dat RScl scl, sL RTx ms] ∧ SclB scl sg N ∧ MsgsOk ms sg N ∧ res = .dat (RD (RL RInt)) (tabD (rowB scl) ms)
theorem ok_rows (T : TX K mg) : Dn P w K mg base 2 "_law_rows" ["_law_scaled_here", "_law_messages_here"] tb_ro := by
  obtain ⟨fd, F⟩ := T.u__law_rows
  refine ⟨_, fd, fn_pure (N := nRo) F sc_ro ?_ ?_, F.bindsN fun _ _ _ _ _ _ us hl => match us, hl with | [_, _], _ => rfl, T.g__law_rows, F.kp⟩
  · rintro args res ⟨_, _, _, _, rfl, _⟩
    exact ⟨rfl, rfl⟩
  · rintro cdv A outer s H E args res hr ⟨⟨b0, l0, rds, mi, f0, l1⟩, sg, ms, N, rfl, hB, hM, rfl⟩
    have hN := sc_ro.nd
    have hz : sizeLine = 16777216 := rfl
    obtain ⟨h1, h2, h3, h4⟩ := hB
    show RS _ _ _ _ [.dat RScl (b0, l0, rds, mi, f0, l1), sL RTx ms, .any, .any] _
    refine rs_cons (r1_setN 2 (en_disp1 (k := []) (ex_str (by decide +kernel)) (ex_t6a (ex_var 0 rfl))) ?_)
    rintro _ ⟨d, rfl⟩
    refine rs_cons (r1_for (it_list (R := RTx) (ex_var 1 rfl)) (fun i Γ => Γ = [.dat RScl (b0, l0, rds, mi, f0, l1), sL RTx ms, .own (dicO (RL RInt) d (tabD (rowB (b0, l0, rds, mi, f0, l1)) (ms.take i))), .any]) rfl ?_ ?_)
    · rintro i m _ hi rfl
      have hsu := tabD_succ (f := rowB (b0, l0, rds, mi, f0, l1)) hi
      have hle := tabD_len (rowB (b0, l0, rds, mi, f0, l1)) (ms.take i)
      have hsz := hM.sz
      rw [List.length_take] at hle
      rw [hsu]
      refine ⟨_, _, gt_name 3, fun _ h => h, ?_⟩
      refine rs_one (r1_if (et_nes (ex_var 3 rfl) (ex_str (l := []) (by decide +kernel))) (fun h => ?_) (fun h => rs_nil ⟨_, .same (.same (.same (.any .nil))), ?_⟩))
      · have hne : m ≠ [] := by simpa using h
        obtain ⟨hml, hms⟩ := hM.le m (List.mem_of_getElem? hi)
        rw [if_neg hne]
        obtain ⟨m', c, rfl⟩ := last_of hne
        have hd : (m' ++ [c]).dropLast = m' := List.dropLast_concat
        have hpre := hM.pre i _ hi hne
        rw [hd] at hpre
        rw [List.length_append] at hml
        have e1 : rowB (b0, l0, rds, mi, f0, l1) (m' ++ [c]) = stI rds (rowB (b0, l0, rds, mi, f0, l1) m') c := rowB_snoc _ _ _
        refine rs_one (r1_dset (R := RL RInt) (x := rowB (b0, l0, rds, mi, f0, l1) (m' ++ [c])) 2 (hu_of hr) rfl (ex_to (ex_call (ok_stepI T) (hr.mono (by decide)) (ea_cons (ex_t6c (ex_var 0 rfl)) (ea_cons (ex_dgetO (x := rowB (b0, l0, rds, mi, f0, l1) m') (hu_of hr) (ex_var 2 rfl) (ex_to (ex_but (ex_var 3 rfl) hne) (by rw [hd])) (tabD_look hpre)) (ea_cons (ex_sIx (n := c) (ex_var 3 rfl) (ex_neg ex_int) (atI_last m' c)) ea_nil))) ⟨rds, rowB (b0, l0, rds, mi, f0, l1) m', c, rfl, by rw [rowB_len]; exact h1, h3 m' (by omega) (fun x hx => hms x (List.mem_append_left _ hx)), rfl⟩) (by rw [e1])) (ex_var 3 rfl) (tabD_new hne (nd_take hM.nd hi)) (by omega) ⟨_, .same (.same (.same (.any .nil))), rfl⟩)
      · have hne : m = [] := by simpa using h
        rw [if_pos hne, List.append_nil]
    · rintro _ rfl
      rw [List.take_length]
      refine rs_frzD 2 rfl (by simp) ?_
      exact rs_one (r1_ret (ex_var 2 rfl) rfl)
/-! ### _law_columns -/
abbrev nCo : List Str := ["_law_scaled_here", "_law_messages_here", "_law_turned", "_law_road", "_law_table", "_law_message"]
theorem sc_co : FnScope nCo ["_law_scaled_here", "_law_messages_here"] (defScope s__law_columns) := ⟨rfl, rfl, rfl, by decide +kernel, rfl, by decide +kernel, by decide +kernel⟩
def tb_co : List Sl → (Sl → List Sl → Prop) → Prop := fun args post => ∃ (scl : Scaled) (sg : List Nat) (ms : List (List Nat)) (N : Nat), args = [.dat RScl scl, sL RTx ms] ∧ SclB scl sg N ∧ MsgsOk ms sg N ∧ post = fun sl _ => ∃ d, sl = .own (dicO (RL RInt) d (tabD (colB scl) ms))
theorem ok_columns (T : TX K mg) : Gn P w K mg base 2 "_law_columns" ["_law_scaled_here", "_law_messages_here"] tb_co := by
  obtain ⟨fd, F⟩ := T.u__law_columns
  refine ⟨_, fd, fn_eff (N := nCo) F sc_co ?_ ?_, F.bindsN fun _ _ _ _ _ _ us hl => match us, hl with | [_, _], _ => rfl, T.g__law_columns, F.kp⟩
  · rintro args res ⟨_, _, _, _, rfl, _⟩
    rfl
  · rintro cdv A outer s H E args res hr ⟨⟨b0, l0, rds, mi, f0, l1⟩, sg, ms, N, rfl, hB, hM, rfl⟩
    have hN := sc_co.nd
    have hz : sizeLine = 16777216 := rfl
    obtain ⟨h1, h2, h3, h4⟩ := hB
    dsimp only at h2
    show RS _ _ _ _ [.dat RScl (b0, l0, rds, mi, f0, l1), sL RTx ms, .any, .any, .any, .any] _
    refine rs_cons (r1_setLc (R := RIRd) (R' := RIRd) (f := fun r : IRd => (r.2.2.1, r.2.1, r.1, r.2.2.2)) 2 [("_law_road", 3)] (it_list (ex_t6c (ex_var 0 rfl))) (blkOk_by rfl) (fun _ _ _ _ _ _ _ => gt_name 3) (fun r hr2 _ _ _ _ _ => ex_tup4 (ex_ix4c (ex_var 3 rfl)) (ex_ix4b (ex_var 3 rfl)) (ex_ix4a (ex_var 3 rfl)) (ex_ix4d (ex_var 3 rfl))) ?_)
    refine rs_cons (r1_setN 4 (en_disp1 (k := []) (ex_str (by decide +kernel)) (ex_t6e (ex_var 0 rfl))) ?_)
    rintro _ ⟨d, rfl⟩
    refine rs_cons (r1_for (it_list (R := RTx) (ex_var 1 rfl)) (fun i Γ => Γ = [.dat RScl (b0, l0, rds, mi, f0, l1), sL RTx ms, sL RIRd (turnI rds), .any, .own (dicO (RL RInt) d (tabD (colB (b0, l0, rds, mi, f0, l1)) (ms.take i))), .any]) rfl ?_ ?_)
    · rintro i m _ hi rfl
      have hsu := tabD_succ (f := colB (b0, l0, rds, mi, f0, l1)) hi
      have hle := tabD_len (colB (b0, l0, rds, mi, f0, l1)) (ms.take i)
      have hsz := hM.sz
      rw [List.length_take] at hle
      rw [hsu]
      refine ⟨_, _, gt_name 5, fun _ h => h, ?_⟩
      refine rs_one (r1_if (et_nes (ex_var 5 rfl) (ex_str (l := []) (by decide +kernel))) (fun h => ?_) (fun h => rs_nil ⟨_, .same (.same (.same (.any (.same (.any .nil))))), ?_⟩))
      · have hne : m ≠ [] := by simpa using h
        obtain ⟨hml, hms⟩ := hM.le m (List.mem_of_getElem? hi)
        have hsuf := hM.suf i _ hi hne
        rw [if_neg hne]
        have hnew := tabD_new (f := colB (b0, l0, rds, mi, f0, l1)) hne (nd_take hM.nd hi)
        clear hsu hne h
        cases m with
        | nil => contradiction
        | cons c m' =>
          rw [List.length_cons] at hml
          have hd : (c :: m').drop 1 = m' := rfl
          rw [hd] at hsuf
          refine rs_one (r1_dset (R := RL RInt) (x := colB (b0, l0, rds, mi, f0, l1) (c :: m')) 4 (hu_of hr) rfl (ex_to (ex_call (ok_stepI T) (hr.mono (by decide)) (ea_cons (ex_var 2 rfl) (ea_cons (ex_dgetO (x := colB (b0, l0, rds, mi, f0, l1) m') (hu_of hr) (ex_var 4 rfl) (ex_tl (ex_var 5 rfl)) (tabD_look hsuf)) (ea_cons (ex_sIx (n := c) (ex_var 5 rfl) ex_int atI_0) ea_nil))) ⟨turnI rds, colB (b0, l0, rds, mi, f0, l1) m', c, rfl, by rw [colB_len]; show RdsOk _ f0.length; rw [h2]; exact turn_ok h1, h4 m' (by omega) (fun x hx => hms x (List.mem_cons_of_mem _ hx)), rfl⟩) rfl) (ex_var 5 rfl) hnew (by omega) ⟨_, .same (.same (.same (.any (.same (.any .nil))))), rfl⟩)
      · have hne : m = [] := by simpa using h
        rw [if_pos hne, List.append_nil]
    · rintro _ rfl
      rw [List.take_length]
      exact rs_one (r1_retO (n := 4) rfl (ex_var 4 rfl) ⟨d, rfl⟩)
end PL

/-! part PL5 -/
set_option exponentiation.threshold 256 -- PL5
set_option maxHeartbeats 1000000 -- PL5
set_option maxRecDepth 100000 -- PL5
/-! PL5: what is told; kinds. -/
namespace PL
open PySem PySem.Spec L2 TL KHd MA PD
variable {P : Program} {w : World} {K : PySem.W.Frag} {mg : Str → Option Value} {base : Heap}
/-! ### sizes of sums -/
theorem sum_le {B : Nat} : ∀ {l : List Int}, (∀ x ∈ l, x.natAbs ≤ B) → l.sum.natAbs ≤ l.length * B
  | [], _ => by simp
  | x :: l, h => by
    have h1 := h x List.mem_cons_self
    have h2 := sum_le (l := l) fun y hy => h y (List.mem_cons_of_mem _ hy)
    rw [List.sum_cons, List.length_cons, Nat.add_mul, Nat.one_mul]
    have := Int.natAbs_add_le x l.sum
    omega
theorem bt_sum {l : List Int} {a k : Nat} (h : ∀ x ∈ l, Bt a x) (hl : l.length ≤ 2 ^ k) : Bt (a + k) l.sum := by
  unfold Bt at *
  by_cases h0 : l = []
  · subst h0
    exact Nat.pow_pos (by decide)
  · have h1 := sum_le (l := l) (B := 2 ^ a - 1) fun x hx => by have := h x hx; omega
    have h2 : 0 < 2 ^ a := Nat.pow_pos (by decide)
    have h3 : 0 < l.length := List.length_pos_iff.mpr h0
    have h4 : l.length * (2 ^ a - 1) ≤ 2 ^ k * (2 ^ a - 1) := Nat.mul_le_mul_right _ hl
    have h5 : 2 ^ k * (2 ^ a - 1) < 2 ^ k * 2 ^ a := Nat.mul_lt_mul_of_pos_left (by omega) (Nat.pow_pos (by decide))
    rw [Nat.pow_add, Nat.mul_comm (2 ^ a)]
    omega
theorem bt_dot {row col : List Int} (h1 : ∀ x ∈ row, Big x) (h2 : ∀ x ∈ col, Big x) (hl : row.length ≤ 1000) : Bt 20000010 (dotI row col) := by
  refine bt_sum (a := 20000000) (k := 10) (fun x hx => ?_) (by rw [List.length_map, List.length_range]; exact Nat.le_trans hl (by decide))
  obtain ⟨k, _, rfl⟩ := List.mem_map.mp hx
  exact bt_mul (a := 10000000) (b := 10000000) (bt_getD h1) (bt_getD h2)
/-! ### _law_is_told -/
abbrev RII : Rp (Int × Int) := RT2 RInt RInt
abbrev nTd : List Str := ["_law_number_here", "_law_scaled_here", "_law_row", "_law_size_here", "_law_below"]
theorem sc_td : FnScope nTd ["_law_number_here", "_law_scaled_here", "_law_row", "_law_size_here"] (defScope s__law_is_told) := ⟨rfl, rfl, rfl, by decide +kernel, rfl, by decide +kernel, by decide +kernel⟩
structure TdOk (n : Int × Int) (scl : Scaled) (row : List Int) (k : Nat) : Prop where
  a : Bt 25000000 n.1
  b : Bt 40000000 n.2
  f : Big scl.2.1
  l : Big scl.2.2.2.2.2
  m : Big scl.2.2.2.1
  p : ∀ j, j ≤ k → Big (scl.2.2.2.1 ^ j)
  k : k ≤ 1000
  r : row.length = scl.2.2.2.2.1.length ∧ row.length ≤ 1000 ∧ (∀ x ∈ row, Big x) ∧ ∀ x ∈ scl.2.2.2.2.1, Big x
def tdB (n : Int × Int) (scl : Scaled) (row : List Int) (k : Nat) : Bool := decide (n.1 * (scl.2.1 * scl.2.2.2.2.2 * scl.2.2.2.1 ^ k) = n.2 * dotI row scl.2.2.2.2.1)
def tb_td : List Sl → Sl → Prop := fun args res => ∃ (n : Int × Int) (scl : Scaled) (row : List Int) (k : Nat), args = [.dat RII n, .dat RScl scl, sL RInt row, sI k] ∧ TdOk n scl row k ∧ res = sB (tdB n scl row k)
theorem ok_is_told (T : TX K mg) : Dn P w K mg base 2 "_law_is_told" ["_law_number_here", "_law_scaled_here", "_law_row", "_law_size_here"] tb_td := by
  obtain ⟨fd, F⟩ := T.u__law_is_told
  refine ⟨_, fd, fn_pure (N := nTd) F sc_td ?_ ?_, F.bindsN fun _ _ _ _ _ _ us hl => match us, hl with | [_, _, _, _], _ => rfl, T.g__law_is_told, F.kp⟩
  · rintro args res ⟨_, _, _, _, rfl, _⟩
    exact ⟨rfl, rfl⟩
  · rintro cdv A outer s H E args res hr ⟨⟨n1, n2⟩, ⟨b0, l0, rds, mi, f0, l1⟩, row, k, rfl, ⟨h1, h2, h3, h4, h5, h6, h7, h8, h9, h10, h11⟩, rfl⟩
    have hN := sc_td.nd
    dsimp only at h1 h2 h3 h4 h5 h6 h8 h11
    show RS _ _ _ _ [.dat RII (n1, n2), .dat RScl (b0, l0, rds, mi, f0, l1), sL RInt row, sI k, .any] _
    have hm1 : Bt 20000000 (l0 * l1) := bt_mul (a := 10000000) (b := 10000000) h3 h4
    have hm2 : Bt 30000000 (l0 * l1 * mi ^ k) := bt_mul (a := 20000000) (b := 10000000) hm1 (h6 k (Nat.le_refl _))
    refine rs_cons (r1_set 4 (ex_mul (ex_mul (ex_t6b (ex_var 1 rfl)) (ex_t6f (ex_var 1 rfl)) (bt_cmul h3 h4 (by decide))) (ex_ixS (ex_call (ok_powers T) hr (ea_cons (ex_t6d (ex_var 1 rfl)) (ea_cons (ex_var 3 rfl) ea_nil)) ⟨mi, k, rfl, h7, h6, h5, rfl⟩) .dat (ex_neg ex_int) (powL_last mi k)) (bt_cmul hm1 (h6 k (Nat.le_refl _)) (by decide))) ?_)
    exact rs_one (r1_ret (ex_eq (ex_mul (ex_ix2a (ex_var 0 rfl)) (ex_var 4 rfl) (bt_cmul h1 hm2 (by decide))) (ex_mul (ex_ix2b (ex_var 0 rfl)) (ex_call (ok_dotI T) hr (ea_cons (ex_var 2 rfl) (ea_cons (ex_t6e (ex_var 1 rfl)) ea_nil)) ⟨row, f0, rfl, by omega, h9, h10, h11, rfl⟩) (bt_cmul h2 (bt_dot h10 h11 h9) (by decide)))) rfl)
/-! ### _law_is_number -/
abbrev nNu : List Str := ["_law_found", "_law_one"]
theorem sc_nu : FnScope nNu ["_law_found"] (defScope s__law_is_number) := ⟨rfl, rfl, rfl, by decide +kernel, rfl, by decide +kernel, by decide +kernel⟩
theorem kit_same {K : PySem.W.Frag} {a : String} : PySem.W.kitOne K (.type a) (.type a) = some true := kit_ty (by unfold kitB; rw [if_pos (beq_self_eq_true _)])
theorem ex_lenq {X : Cx} {e : Expr} {p pos : Pos} {Γ : List Sl} {q : Rat} (hm : X.mg "len" = none) (ha : EX X e Γ (.dat RQ q)) (hg : Gl X "len" := by rfl) (he : starEach [e] X.env = (false, eval e X.env) :: starEach [] X.env := by rfl) (hpl : (backTo pos (starEach [] X.env)).any (·.1) = false := by rfl) : EX X (.Call (.Name "len" p) [e] [] pos) Γ (sI 2) :=
  ex_b1 call_len_seq hm PySem.boot_len ha (fun F H v s r Q q => by
    obtain ⟨p, x, y, rfl, e, _⟩ := sat_dat r
    exact ⟨p, _, rfl, .inr (SqT.of (s _ _ e)), q _ F H (GrS.refl s) (dat_sat rfl)⟩) hg (by decide) (by decide) he hpl
theorem ok_is_num (T : TX K mg) : Dn P w K mg base 2 "_law_is_number" ["_law_found"] tb_isnum := by
  obtain ⟨fd, F⟩ := T.u__law_is_number
  refine ⟨_, fd, fn_pure (N := nNu) F sc_nu ?_ ?_, F.bindsN fun _ _ _ _ _ _ us hl => match us, hl with | [_], _ => rfl, T.g__law_is_number, F.kp⟩
  · rintro args res ⟨_, rfl, _⟩
    exact ⟨rfl, rfl⟩
  · rintro cdv A outer s H E args res hr ⟨q, rfl, rfl⟩
    have hN := sc_nu.nd
    show RS _ _ _ _ [.dat RQ q, .any] _
    refine rs_cons (r1_if (et_or (et_not (et_val (ex_isi (T := "tuple") T.f_isinstance T.f_tuple (by decide +kernel) (ex_var 0 rfl) ty_q kit_same))) fun _ => et_ne (ex_lenq T.f_len (ex_var 0 rfl)) ex_int) (fun h => by cases h) (fun _ => rs_nil ?_))
    refine rs_cons (r1_for (it_q (ex_var 0 rfl)) (fun i Γ => Γ = [.dat RQ q, .any]) rfl ?_ ?_)
    · rintro i x _ hi rfl
      refine ⟨_, _, gt_name 1, fun _ h => h, ?_⟩
      exact rs_one (r1_if (et_or (et_not (et_val (ex_isi (T := "int") T.f_isinstance T.f_int (by decide +kernel) (ex_var 1 rfl) ty_int kit_same))) fun _ => et_val (ex_isi (k := false) (T := "bool") T.f_isinstance T.f_bool (by decide +kernel) (ex_var 1 rfl) ty_int (kit_ty (by decide +kernel)))) (fun h => by cases h) (fun _ => rs_nil ⟨_, .same (.any .nil), rfl⟩))
    · rintro _ rfl
      exact rs_one (r1_ret (ex_to (ex_and2 (ex_ge (ex_den (ex_var 0 rfl)) ex_int) fun _ => ex_eq (ex_call (ok_gcd T) hr (ea_cons (ex_num (ex_var 0 rfl)) (ea_cons (ex_den (ex_var 0 rfl)) ea_nil)) ⟨_, _, rfl, rfl⟩) ex_int) (congrArg sB (isnum_true q))) rfl)
/-! ### _law_are_numbers -/
abbrev nNs : List Str := ["_law_row", "_law_many", "_law_one"]
theorem sc_ns : FnScope nNs ["_law_row", "_law_many"] (defScope s__law_are_numbers) := ⟨rfl, rfl, rfl, by decide +kernel, rfl, by decide +kernel, by decide +kernel⟩
def tb_ns : List Sl → Sl → Prop := fun args res => ∃ row : List Rat, args = [sL RQ row, sI row.length] ∧ res = sB true
theorem ok_are_numbers (T : TX K mg) : Dn P w K mg base 3 "_law_are_numbers" ["_law_row", "_law_many"] tb_ns := by
  obtain ⟨fd, F⟩ := T.u__law_are_numbers
  refine ⟨_, fd, fn_pure (N := nNs) F sc_ns ?_ ?_, F.bindsN fun _ _ _ _ _ _ us hl => match us, hl with | [_, _], _ => rfl, T.g__law_are_numbers, F.kp⟩
  · rintro args res ⟨_, rfl, _⟩
    exact ⟨rfl, rfl⟩
  · rintro cdv A outer s H E args res hr ⟨row, rfl, rfl⟩
    have hN := sc_ns.nd
    show RS _ _ _ _ [sL RQ row, sI row.length, .any] _
    refine rs_one (r1_ret (ex_to (ex_and (ex_isi (T := "list") T.f_isinstance T.f_list (by decide +kernel) (ex_var 0 rfl) ty_list kit_same) fun _ => ex_and (ex_eq (ex_len T.f_len (ex_var 0 rfl) .dat) (ex_var 1 rfl)) fun _ => ex_one (ex_eqD (dr_list dr_q) (by decide) hr.units (x := (row.filter fun _ => false).map id) (y := []) (ex_lcf (R := RQ) (R' := RQ) (f := id) [("_law_one", 2)] (fun _ => false) (it_list (ex_var 0 rfl)) (blkOk_by rfl) (fun _ _ _ _ _ _ _ => gt_name 2) ?_ ?_) ex_lst0)) (by simp)) rfl)
    · intro q hq _ _ _ _ _
      exact et_not (k := true) (et_val (ex_call (ok_is_num T) hr (ea_cons (ex_var 2 rfl) ea_nil) ⟨q, rfl, rfl⟩))
    · intro q hq h
      cases h
/-! ### _law_is_shaped -/
abbrev LForm : Type := List Nat × List (List Nat) × List (List (List Rat)) × List Rat
abbrev RLForm : Rp LForm := RH4 RTx (RL RTx) RTab (RL RQ)
def lform (f : Form) : LForm := (f.signs, f.heads, f.table, f.worths)
abbrev nLs : List Str := ["_law_form", "_law_signs_here", "_law_heads", "_law_table", "_law_worths", "_law_head", "_law_sign", "_law_rows_here", "_law_row"]
theorem sc_ls : FnScope nLs ["_law_form"] (defScope s__law_is_shaped) := ⟨rfl, rfl, rfl, by decide +kernel, rfl, by decide +kernel, by decide +kernel⟩
def tb_ls : List Sl → Sl → Prop := fun args res => ∃ f : Form, args = [.dat RLForm (lform f)] ∧ Shaped f ∧ (∀ h ∈ f.heads, ∀ c ∈ h, c ∈ f.signs) ∧ res = sB true
theorem ok_law_shaped (T : TX K mg) : Dn P w K mg base 4 "_law_is_shaped" ["_law_form"] tb_ls := by
  obtain ⟨fd, F⟩ := T.u__law_is_shaped
  refine ⟨_, fd, fn_pure (N := nLs) F sc_ls ?_ ?_, F.bindsN fun _ _ _ _ _ _ us hl => match us, hl with | [_], _ => rfl, T.g__law_is_shaped, F.kp⟩
  · rintro args res ⟨_, rfl, _⟩
    exact ⟨rfl, rfl⟩
  · rintro cdv A outer s H E args res hr ⟨⟨sg, hs, tb, ws⟩, rfl, ⟨h1, h2, h3⟩, hh, rfl⟩
    dsimp only at h1 h2 h3 hh
    have hN := sc_ls.nd
    show RS _ _ _ _ [.dat RLForm (sg, hs, tb, ws), .any, .any, .any, .any, .any, .any, .any, .any] _
    refine rs_cons (r1_asg (ex_var 0 rfl) (gt_h4 (gts_cons (gt_name 1) (gts_cons (gt_name 2) (gts_cons (gt_name 3) (gts_cons (gt_name 4) gts_nil))))) ?_)
    show RS _ _ _ _ [.dat RLForm (sg, hs, tb, ws), .dat RTx sg, sL RTx hs, .dat RTab tb, sL RQ ws, .any, .any, .any, .any] _
    refine rs_cons (r1_if (et_w (ew_or (et_not (et_val (ex_isi (T := "list") T.f_isinstance T.f_list (by decide +kernel) (ex_var 2 rfl) ty_list kit_same))) fun _ => ew_or (et_not (et_val (ex_isi (T := "list") T.f_isinstance T.f_list (by decide +kernel) (ex_var 3 rfl) (ty_list (R := RL RRow)) kit_same))) fun _ => ew_or1 (et_ne (ex_len (R := RL RRow) T.f_len (ex_var 3 rfl) .dat) (ex_len T.f_len (ex_var 2 rfl) .dat)))) (fun h => ?_) (fun _ => rs_nil ?_))
    · rw [h1] at h
      simp at h
    refine rs_cons (r1_for (it_list (R := RTx) (ex_var 2 rfl)) (fun i Γ => Γ = [.dat RLForm (sg, hs, tb, ws), .dat RTx sg, sL RTx hs, .dat RTab tb, sL RQ ws, .any, .any, .any, .any]) rfl ?_ ?_)
    · rintro i h _ hi rfl
      have hm := hh h (List.mem_of_getElem? hi)
      refine ⟨_, _, gt_name 5, fun _ h => h, ?_⟩
      refine rs_one (r1_if (et_or (et_not (et_val (ex_isi (T := "str") T.f_isinstance T.f_str (by decide +kernel) (ex_var 5 rfl) ty_tx kit_same))) fun _ => et_neD (dr_list dr_int) (by decide) hr.units (x := []) (y := []) (ex_conv (R := RL RSg) (x := []) (ex_to (ex_lcf (R := RSg) (R' := RSg) (f := id) [("_law_sign", 6)] (fun _ => false) (it_str (ex_var 5 rfl)) (blkOk_by rfl) (fun _ _ _ _ _ _ _ => gt_name 6) ?_ ?_) (by simp)) ?_) ex_lst0) (fun h => by cases h) (fun _ => rs_nil ⟨_, .same (.same (.same (.same (.same (.any (.any (.any (.any .nil)))))))), rfl⟩))
      · intro c hc _ _ _ _ _
        have e : (!decide (c ∈ sg)) = false := by rw [decide_eq_true (hm c hc)]; rfl
        show ET _ _ _ false
        rw [← e]
        exact et_niS (ex_var 6 rfl) (ex_var 1 rfl)
      · intro q hq h
        cases h
      · intro F v r
        obtain ⟨p, xs, e1, e2, z, pr⟩ := r
        cases pr
        exact ⟨p, [], e1, e2, z, .nil⟩
    rintro _ rfl
    refine rs_cons (r1_for (it_list (R := RL RRow) (ex_var 3 rfl)) (fun i Γ => Γ = [.dat RLForm (sg, hs, tb, ws), .dat RTx sg, sL RTx hs, .dat RTab tb, sL RQ ws, .any, .any, .any, .any]) rfl ?_ ?_)
    · rintro i ns _ hi rfl
      obtain ⟨a1, a2⟩ := h3 ns (List.mem_of_getElem? hi)
      refine ⟨_, _, gt_name 7, fun _ h => h, ?_⟩
      refine rs_cons (r1_if (et_or (et_not (et_val (ex_isi (T := "list") T.f_isinstance T.f_list (by decide +kernel) (ex_var 7 rfl) (ty_list (R := RRow)) kit_same))) fun _ => et_ne (ex_len (R := RRow) T.f_len (ex_var 7 rfl) .dat) (ex_lens T.f_len (ex_var 1 rfl))) (fun h => ?_) (fun _ => rs_nil ?_))
      · rw [a1] at h
        simp at h
      refine rs_one (r1_if (et_neD (dr_list (dr_list dr_q)) (by decide) hr.units (x := (ns.filter fun _ => false).map id) (y := []) (ex_lcf (R := RRow) (R' := RRow) (f := id) [("_law_row", 8)] (fun _ => false) (it_list (ex_var 7 rfl)) (blkOk_by rfl) (fun _ _ _ _ _ _ _ => gt_name 8) ?_ ?_) ex_lst0) (fun h => ?_) (fun _ => rs_nil ⟨_, .same (.same (.same (.same (.same (.any (.any (.any (.any .nil)))))))), rfl⟩))
      · intro r hr2 _ _ _ _ _
        exact et_not (k := true) (et_val (ex_call (ok_are_numbers T) hr (ea_cons (ex_var 8 rfl) (ea_cons (ex_to (ex_len T.f_len (ex_var 2 rfl) .dat) (by rw [← a2 r hr2])) ea_nil)) ⟨r, rfl, rfl⟩))
      · intro q hq h
        cases h
      · simp at h
    rintro _ rfl
    exact rs_one (r1_ret (ex_call (ok_are_numbers T) hr (ea_cons (ex_var 4 rfl) (ea_cons (ex_to (ex_len T.f_len (ex_var 2 rfl) .dat) (by rw [← h2])) ea_nil)) ⟨ws, rfl, rfl⟩) rfl)
end PL

/-! part PL6 -/
set_option exponentiation.threshold 256 -- PL6
set_option maxHeartbeats 2000000 -- PL6
set_option maxRecDepth 100000 -- PL6
/-! PL6: the table adds up. -/
namespace PL
open PySem PySem.Spec L2 TL KHd MA PD
variable {P : Program} {w : World} {K : PySem.W.Frag} {mg : Str → Option Value} {base : Heap}
def mxL : List (List Nat) → Nat
  | [] => 0
  | h :: t => max h.length (mxL t)
theorem mxL_le : ∀ {l : List (List Nat)} {h : List Nat}, h ∈ l → h.length ≤ mxL l
  | x :: l, h, hm => by
    rcases List.mem_cons.mp hm with rfl | hm
    · exact Nat.le_max_left _ _
    · exact Nat.le_trans (mxL_le hm) (Nat.le_max_right _ _)
theorem mxL_in : ∀ (l : List (List Nat)), ((mxL l : Nat) : Int) ∈ ([0] ++ l.map fun h => (h.length : Int) : List Int)
  | [] => by simp [mxL]
  | x :: l => by
    have ih := mxL_in l
    rcases Nat.le_total x.length (mxL l) with h | h
    · have e : mxL (x :: l) = mxL l := Nat.max_eq_right h
      rw [e]
      simp only [List.map_cons, List.singleton_append, List.mem_cons] at ih ⊢
      rcases ih with ih | ih
      · exact .inl ih
      · exact .inr (.inr ih)
    · have e : mxL (x :: l) = x.length := Nat.max_eq_left h
      rw [e]
      simp
def addI (scl : Scaled) (hs : List (List Nat)) (ns : List Rat) (top : Nat) (col : List Int) (i : Nat) : Int :=
  (ns.getD i 0).num * ((lcmL ns : Int).fdiv (ns.getD i 0).den) * scl.2.2.2.1 ^ (top - (hs.getD i []).length) * dotI (rowB scl (hs.getD i [])) col
def addS (scl : Scaled) (hs : List (List Nat)) (ns : List Rat) (top : Nat) (col : List Int) (i : Nat) : Int := ((List.range i).map (addI scl hs ns top col)).sum
theorem addS_succ (scl : Scaled) (hs : List (List Nat)) (ns : List Rat) (top : Nat) (col : List Int) (i : Nat) : addS scl hs ns top col (i + 1) = addS scl hs ns top col i + addI scl hs ns top col i := by
  unfold addS
  rw [List.range_succ, List.map_append, List.sum_append]
  simp
structure AddsOk (scl : Scaled) (f : Form) (cols : List (List Nat × List Int)) : Prop where
  sh : Shaped f
  sg : ∀ h ∈ f.heads, ∀ c ∈ h, c ∈ f.signs
  b : SclB scl f.signs (mxL f.heads + 1)
  p : ∀ j, j ≤ 1 + mxL f.heads → Big (scl.2.2.2.1 ^ j)
  m : Big scl.2.2.2.1
  t : mxL f.heads < 500 ∧ f.heads.length < 500 ∧ f.signs.length < 500
  o : ∀ ns ∈ f.table, ∀ r ∈ ns, OverOk r ∧ ∀ q ∈ r, Bt 100000 q.num
  c : ∀ p ∈ cols, p.2.length = scl.1.length ∧ ∀ x ∈ p.2, Big x
  e : ∀ (k j : Nat) (h : List Nat) (s : Nat) (ns : List (List Rat)) (r : List Rat), f.heads[k]? = some h → f.table[k]? = some ns → f.signs[j]? = some s → ns[j]? = some r → ∀ p ∈ cols, addS scl f.heads r (1 + mxL f.heads) p.2 f.heads.length = (lcmL r : Int) * scl.2.2.2.1 ^ (1 + mxL f.heads - h.length - 1) * dotI (stI scl.2.2.1 (rowB scl h) s) p.2
abbrev nAu : List Str := ["_law_scaled_here", "_law_form", "_law_columns_here", "_law_signs_here", "_law_heads", "_law_table", "_law_worths", "_law_top", "_law_head", "_law_powers_here", "_law_rows_here", "_law_k", "_law_j", "_law_row", "_law_numbers", "_law_below", "_law_column", "_law_total", "_law_i", "_law_part"]
theorem sc_au : FnScope nAu ["_law_scaled_here", "_law_form", "_law_columns_here"] (defScope s__law_adds_up) := ⟨rfl, rfl, rfl, by decide +kernel, rfl, by decide +kernel, by decide +kernel⟩
def tb_au : List Sl → Sl → Prop := fun args res => ∃ (scl : Scaled) (f : Form) (d : Addr) (cols : List (List Nat × List Int)), args = [.dat RScl scl, .dat RLForm (lform f), .bor (dicO (RL RInt) d cols)] ∧ AddsOk scl f cols ∧ res = sB true
theorem getD_at {α : Type} {l : List α} {k : Nat} {x d : α} (h : l[k]? = some x) : l.getD k d = x := by
  rw [List.getD_eq_getElem?_getD, h]
  rfl
theorem range_get {n i k : Nat} (h : (List.range n)[i]? = some k) : k = i ∧ i < n := by
  obtain ⟨hl, hk⟩ := List.getElem?_eq_some_iff.mp h
  rw [List.length_range] at hl
  rw [List.getElem_range] at hk
  exact ⟨hk.symm, hl⟩
theorem get_of {α : Type} {l : List α} {k : Nat} (h : k < l.length) : ∃ x, l[k]? = some x := ⟨l[k], List.getElem?_eq_getElem h⟩
theorem ok_adds_up (T : TX K mg) : Dn P w K mg base 3 "_law_adds_up" ["_law_scaled_here", "_law_form", "_law_columns_here"] tb_au := by
  obtain ⟨fd, F⟩ := T.u__law_adds_up
  refine ⟨_, fd, fn_pure (N := nAu) F sc_au ?_ ?_, F.bindsN fun _ _ _ _ _ _ us hl => match us, hl with | [_, _, _], _ => rfl, T.g__law_adds_up, F.kp⟩
  · rintro args res ⟨_, _, _, _, rfl, _⟩
    exact ⟨rfl, rfl⟩
  · rintro cdv A outer s H E args res hr ⟨⟨b0, l0, rds, mi, f0, l1⟩, ⟨sg, hs, tb, ws⟩, d, cols, rfl, ⟨⟨sh1, sh2, sh3⟩, hsg, ⟨B1, B2, B3, B4⟩, hp, hmi, ⟨t1, t2, t3⟩, ho, hc, he⟩, rfl⟩
    dsimp only at sh1 sh2 sh3 hsg B1 B2 B3 B4 hp hmi t1 t2 t3 ho hc he
    have hN := sc_au.nd
    have hz : sizeLine = 16777216 := rfl
    generalize hscl : (b0, l0, rds, mi, f0, l1) = scl at *
    have e1 : scl.2.2.1 = rds := by rw [← hscl]
    have e2 : scl.1 = b0 := by rw [← hscl]
    have e3 : scl.2.2.2.1 = mi := by rw [← hscl]
    have hbk : ∀ h ∈ hs, SclB scl sg h.length := fun h hm => ⟨by rw [e1, e2]; exact B1, by rw [e2, ← hscl]; exact B2, fun m hm2 => B3 m (by have := mxL_le hm; omega), fun m hm2 => B4 m (by have := mxL_le hm; omega)⟩
    have hrow : ∀ h ∈ hs, ∀ x ∈ rowB scl h, Big x := fun h hm => B3 h (by have := mxL_le hm; omega) (hsg h hm)
    have hrl : ∀ h : List Nat, (rowB scl h).length = b0.length := fun h => by rw [rowB_len, e2]
    have hbl := B1.n
    show RS _ _ _ _ [.dat RScl scl, .dat RLForm (sg, hs, tb, ws), .bor (dicO (RL RInt) d cols), .any, .any, .any, .any, .any, .any, .any, .any, .any, .any, .any, .any, .any, .any, .any, .any, .any] _
    refine rs_cons (r1_asg (ex_var 1 rfl) (gt_h4 (gts_cons (gt_name 3) (gts_cons (gt_name 4) (gts_cons (gt_name 5) (gts_cons (gt_name 6) gts_nil))))) ?_)
    show RS _ _ _ _ [.dat RScl scl, .dat RLForm (sg, hs, tb, ws), .bor (dicO (RL RInt) d cols), .dat RTx sg, sL RTx hs, .dat RTab tb, sL RQ ws, .any, .any, .any, .any, .any, .any, .any, .any, .any, .any, .any, .any, .any] _
    refine rs_cons (r1_set (sl := sI ((1 + mxL hs : Nat) : Int)) 7 (ex_to (ex_add ex_int (ex_max (m := (mxL hs : Int)) T.f_max (ex_cat (l := [(0 : Int)]) (m := hs.map fun h : List Nat => (h.length : Int)) (ex_lst1 ex_int) (ex_lc (R := RTx) (R' := RInt) [("_law_head", 8)] (it_list (ex_var 4 rfl)) (blkOk_by rfl) (fun _ _ _ _ _ _ _ => gt_name 8) (fun h _ _ _ _ _ _ => ex_lens T.f_len (ex_var 8 rfl))) (by rw [List.length_map]; show 1 + hs.length ≤ _; omega)) (mxL_in hs) (fun y hy => ?_))) (congrArg sI (by omega))) ?_)
    · rcases List.mem_append.mp hy with hy | hy
      · have : y = 0 := by simpa using hy
        omega
      · obtain ⟨h, hh, rfl⟩ := List.mem_map.mp hy
        have := mxL_le hh
        omega
    refine rs_cons (r1_set (sl := sL RInt (powL mi (1 + mxL hs))) 9 (ex_call (ok_powers T) (hr.mono (by decide)) (ea_cons (ex_t6d (R' := RInt) (R := RL RInt) (R'' := RL RIRd) (R3 := RInt) (R5 := RL RInt) (R6 := RInt) (x := b0) (y := l0) (z := rds) (u := mi) (x5 := f0) (x6 := l1) (ex_var 0 (by rw [← hscl]; rfl))) (ea_cons (ex_var 7 rfl) ea_nil)) ⟨mi, 1 + mxL hs, rfl, by omega, hp, hmi, rfl⟩) ?_)
    refine rs_cons (r1_setLc (R := RTx) (R' := RL RInt) (f := rowB scl) 10 [("_law_head", 8)] (it_list (ex_var 4 rfl)) (blkOk_by rfl) (fun _ _ _ _ _ _ _ => gt_name 8) (fun h hh _ _ _ _ _ => ex_call (ok_row_behind T) hr (ea_cons (ex_var 0 rfl) (ea_cons (ex_var 8 rfl) ea_nil)) ⟨scl, sg, h, rfl, hbk h hh, hsg h hh, rfl⟩) ?_)
    show RS _ _ _ _ [.dat RScl scl, .dat RLForm (sg, hs, tb, ws), .bor (dicO (RL RInt) d cols), .dat RTx sg, sL RTx hs, .dat RTab tb, sL RQ ws, sI ((1 + mxL hs : Nat) : Int), .any, sL RInt (powL mi (1 + mxL hs)), sL (RL RInt) (hs.map (rowB scl)), .any, .any, .any, .any, .any, .any, .any, .any, .any] _
    refine rs_cons (r1_for (it_range (ex_len T.f_len (ex_var 4 rfl) .dat) (by omega) rfl T.f_range) (fun _ Γ => Γ = [.dat RScl scl, .dat RLForm (sg, hs, tb, ws), .bor (dicO (RL RInt) d cols), .dat RTx sg, sL RTx hs, .dat RTab tb, sL RQ ws, sI ((1 + mxL hs : Nat) : Int), .any, sL RInt (powL mi (1 + mxL hs)), sL (RL RInt) (hs.map (rowB scl)), .any, .any, .any, .any, .any, .any, .any, .any, .any]) rfl ?_ ?_)
    · rintro k kk _ hi rfl
      obtain ⟨rfl, hkl⟩ := range_get hi
      obtain ⟨h, hh⟩ := get_of hkl
      obtain ⟨nss, hns⟩ := get_of (l := tb) (show kk < tb.length by omega)
      have hm := List.mem_of_getElem? hh
      have hml := mxL_le hm
      obtain ⟨c1, c2⟩ := sh3 nss (List.mem_of_getElem? hns)
      refine ⟨_, _, gt_name 11, fun _ h => h, ?_⟩
      refine rs_one (r1_for (it_range (ex_lens T.f_len (ex_var 3 rfl)) (by omega) rfl T.f_range) (fun _ Γ => Γ = [.dat RScl scl, .dat RLForm (sg, hs, tb, ws), .bor (dicO (RL RInt) d cols), .dat RTx sg, sL RTx hs, .dat RTab tb, sL RQ ws, sI ((1 + mxL hs : Nat) : Int), .any, sL RInt (powL mi (1 + mxL hs)), sL (RL RInt) (hs.map (rowB scl)), .dat RNat kk, .any, .any, .any, .any, .any, .any, .any, .any]) rfl ?_ ?_)
      · rintro j jj _ hj rfl
        obtain ⟨rfl, hjl⟩ := range_get hj
        obtain ⟨c, hc2⟩ := get_of hjl
        obtain ⟨ns, hns2⟩ := get_of (l := nss) (show jj < nss.length by omega)
        have hnm := List.mem_of_getElem? hns2
        have hnl := c2 ns hnm
        obtain ⟨ov, hnum⟩ := ho nss (List.mem_of_getElem? hns) ns hnm
        have hid := he kk jj h c nss ns hh hns hc2 hns2
        have hst : ∀ x ∈ stI rds (rowB scl h) c, Big x := by
          have := B3 (h ++ [c]) (by rw [List.length_append]; show h.length + 1 ≤ _; omega) (fun d hd => by
            rcases List.mem_append.mp hd with hd | hd
            · exact hsg h hm d hd
            · have : d = c := by simpa using hd
              subst this
              exact List.mem_of_getElem? hc2)
          rw [rowB_snoc, e1] at this
          exact this
        refine ⟨_, _, gt_name 12, fun _ h => h, ?_⟩
        refine rs_cons (r1_set (sl := sL RInt (stI rds (rowB scl h) c)) 13 (ex_call (ok_stepI T) (hr.mono (by decide)) (ea_cons (ex_t6c (R' := RInt) (R := RL RInt) (R'' := RL RIRd) (R3 := RInt) (R5 := RL RInt) (R6 := RInt) (x := b0) (y := l0) (z := rds) (u := mi) (x5 := f0) (x6 := l1) (ex_var 0 (by rw [← hscl]; rfl))) (ea_cons (ex_ixS (x := rowB scl h) (ex_var 10 rfl) .dat (ex_nat (ex_var 11 rfl)) (atI_nat (by rw [List.getElem?_map, hh]; rfl))) (ea_cons (ex_sIx (n := c) (ex_var 3 rfl) (ex_nat (ex_var 12 rfl)) (atI_nat hc2)) ea_nil))) ⟨rds, rowB scl h, c, rfl, by rw [hrl]; exact B1, hrow h hm, rfl⟩) ?_)
        refine rs_cons (r1_set (sl := sL RQ ns) 14 (ex_ixS (R := RRow) (ex_ixS (R := RL RRow) (x := nss) (ex_var 5 rfl) .dat (ex_nat (ex_var 11 rfl)) (atI_nat hns)) .dat (ex_nat (ex_var 12 rfl)) (atI_nat hns2)) ?_)
        refine rs_cons (r1_set (sl := sI (lcmL ns)) 15 (ex_call (ok_over T) hr (ea_cons (ex_var 14 rfl) ea_nil) ⟨ns, rfl, ov, rfl⟩) ?_)
        refine rs_one (r1_forV (d := d) (m := cols) (R := RL RInt) 2 rfl (fun _ Γ => Γ = [.dat RScl scl, .dat RLForm (sg, hs, tb, ws), .dat RAd d, .dat RTx sg, sL RTx hs, .dat RTab tb, sL RQ ws, sI ((1 + mxL hs : Nat) : Int), .any, sL RInt (powL mi (1 + mxL hs)), sL (RL RInt) (hs.map (rowB scl)), .dat RNat kk, .dat RNat jj, sL RInt (stI rds (rowB scl h) c), sL RQ ns, sI (lcmL ns), .any, .any, .any, .any]) rfl ?_ ?_ ?_ ?_)
        · rintro i _ rfl
          exact ⟨rfl, rfl⟩
        · rintro H1 q col _ hq rfl
          obtain ⟨⟨mq, cq⟩, hpm, hpe⟩ : ∃ p, p ∈ cols ∧ p.2 = col := by
            obtain ⟨p, hp1, hp2⟩ := List.mem_map.mp (List.mem_of_getElem? hq)
            exact ⟨p, hp1, hp2⟩
          dsimp only at hpe
          subst hpe
          obtain ⟨hcl, hcb⟩ := hc _ hpm
          have hid2 := hid _ hpm
          dsimp only at hcl hcb hid2
          generalize cq = col at *
          refine ⟨_, _, gt_name 16, rfl, ?_⟩
          refine rs_cons (r1_set (sl := sI (addS scl hs ns (1 + mxL hs) col 0)) 17 ex_int ?_)
          refine rs_cons (r1_for (it_range (ex_len T.f_len (ex_var 4 rfl) .dat) (by omega) rfl T.f_range) (fun i Γ => Γ = [.dat RScl scl, .dat RLForm (sg, hs, tb, ws), .dat RAd d, .dat RTx sg, sL RTx hs, .dat RTab tb, sL RQ ws, sI ((1 + mxL hs : Nat) : Int), .any, sL RInt (powL mi (1 + mxL hs)), sL (RL RInt) (hs.map (rowB scl)), .dat RNat kk, .dat RNat jj, sL RInt (stI rds (rowB scl h) c), sL RQ ns, sI (lcmL ns), sL RInt col, sI (addS scl hs ns (1 + mxL hs) col i), .any, .any]) rfl ?_ ?_)
          · rintro i ii _ hi rfl
            obtain ⟨rfl, hil⟩ := range_get hi
            obtain ⟨g, hg⟩ := get_of hil
            obtain ⟨x, hx⟩ := get_of (l := ns) (show ii < ns.length by omega)
            have hgm := List.mem_of_getElem? hg
            have hgl := mxL_le hgm
            have hxm := List.mem_of_getElem? hx
            have hsub : ((1 + mxL hs : Nat) : Int) - (g.length : Int) = ((1 + mxL hs - g.length : Nat) : Int) := by omega
            have ha : addI scl hs ns (1 + mxL hs) col ii = x.num * ((lcmL ns : Int).fdiv x.den) * mi ^ (1 + mxL hs - g.length) * dotI (rowB scl g) col := by
              unfold addI
              rw [getD_at hx, getD_at hg, e3]
            have hpb : Big (mi ^ (1 + mxL hs - g.length)) := hp (1 + mxL hs - g.length) (by omega)
            have hb1 : Bt 1100000 (x.num * ((lcmL ns : Int).fdiv x.den)) := bt_mul (a := 100000) (b := 1000000) (hnum x hxm) (bt_fd ov.lcm)
            have hb2 : Bt 11100000 (x.num * ((lcmL ns : Int).fdiv x.den) * mi ^ (1 + mxL hs - g.length)) := bt_mul (a := 1100000) (b := 10000000) hb1 hpb
            have hgr := hrow g hgm
            have hgd := hrl g
            refine ⟨_, _, gt_name 18, fun _ h => h, ?_⟩
            refine rs_cons (r1_set (sl := sI (x.num * ((lcmL ns : Int).fdiv x.den) * mi ^ (1 + mxL hs - g.length))) 19 (ex_mul (ex_mul (ex_num (ex_ixS (x := x) (ex_var 14 rfl) .dat (ex_nat (ex_var 18 rfl)) (atI_nat hx))) (ex_fdiv (ex_var 15 rfl) (ex_den (ex_ixS (x := x) (ex_var 14 rfl) .dat (ex_nat (ex_var 18 rfl)) (atI_nat hx))) (dv_div (ov.den x hxm) (den_ne x))) (bt_cmul (a := 100000) (b := 1000000) (hnum x hxm) (bt_fd ov.lcm) (by decide))) (ex_ixS (ex_var 9 rfl) .dat (ex_sub (ex_var 7 rfl) (ex_lens T.f_len (ex_ixS (x := g) (ex_var 4 rfl) .dat (ex_nat (ex_var 18 rfl)) (atI_nat hg)))) (by rw [hsub]; exact atI_nat (powL_at (by omega)))) (bt_cmul hb1 hpb (by decide))) ?_)
            refine rs_one (r1_set 17 (ex_to (ex_add (ex_var 17 rfl) (ex_mul (ex_var 19 rfl) (ex_call (ok_dotI T) (hr.mono (by decide)) (ea_cons (ex_ixS (x := rowB scl g) (ex_var 10 rfl) .dat (ex_nat (ex_var 18 rfl)) (atI_nat (by rw [List.getElem?_map, hg]; rfl))) (ea_cons (ex_var 16 rfl) ea_nil)) ⟨rowB scl g, col, rfl, by omega, by omega, hgr, hcb, rfl⟩) (bt_cmul hb2 (bt_dot hgr hcb (by omega)) (by decide)))) (by rw [← ha, ← addS_succ])) ⟨_, .same (.same (.same (.same (.same (.same (.same (.same (.any (.same (.same (.same (.same (.same (.same (.same (.same (.same (.any (.any .nil))))))))))))))))))), rfl⟩)
          · rintro _ rfl
            rw [List.length_range]
            have hsub : ((1 + mxL hs : Nat) : Int) - (h.length : Int) - 1 = ((1 + mxL hs - h.length - 1 : Nat) : Int) := by omega
            have hpb : Big (mi ^ (1 + mxL hs - h.length - 1)) := hp (1 + mxL hs - h.length - 1) (by omega)
            have hb1 : Bt 11000000 ((lcmL ns : Int) * mi ^ (1 + mxL hs - h.length - 1)) := bt_mul (a := 1000000) (b := 10000000) ov.lcm hpb
            have hsl : (stI rds (rowB scl h) c).length = b0.length := by rw [stI_len, hrl]
            refine rs_one (r1_if (et_ne (ex_var 17 rfl) (ex_mul (ex_mul (ex_var 15 rfl) (ex_ixS (ex_var 9 rfl) .dat (ex_sub (ex_sub (ex_var 7 rfl) (ex_lens T.f_len (ex_ixS (x := h) (ex_var 4 rfl) .dat (ex_nat (ex_var 11 rfl)) (atI_nat hh)))) ex_int) (by rw [hsub]; exact atI_nat (powL_at (by omega)))) (bt_cmul (a := 1000000) (b := 10000000) ov.lcm hpb (by decide))) (ex_call (ok_dotI T) (hr.mono (by decide)) (ea_cons (ex_var 13 rfl) (ea_cons (ex_var 16 rfl) ea_nil)) ⟨_, col, rfl, by omega, by omega, hst, hcb, rfl⟩) (bt_cmul hb1 (bt_dot hst hcb (by omega)) (by decide)))) (fun hne => ?_) (fun _ => rs_nil ⟨_, .same (.same (.same (.same (.same (.same (.same (.same (.any (.same (.same (.same (.same (.same (.same (.same (.any (.any (.any (.any .nil))))))))))))))))))), rfl⟩))
            rw [hid2] at hne
            simp at hne
        · rintro _ rfl
          exact ⟨_, .same (.same (.same (.same (.same (.same (.same (.same (.any (.same (.same (.same (.any (.any (.any (.any (.any (.any (.any (.any .nil))))))))))))))))))), rfl⟩
        · rintro s _ rfl
          exact ⟨rfl, rfl⟩
      · rintro _ rfl
        exact ⟨_, .same (.same (.same (.same (.same (.same (.same (.same (.any (.same (.same (.any (.any (.any (.any (.any (.any (.any (.any (.any .nil))))))))))))))))))), rfl⟩
    · rintro _ rfl
      exact rs_one (r1_ret ex_bl rfl)
end PL

/-! part PL7 -/
set_option exponentiation.threshold 256 -- PL7
set_option maxHeartbeats 2000000 -- PL7
set_option maxRecDepth 100000 -- PL7
/-! PL7: the machine of a form; it gives the worths; is_right. -/
namespace PL
open PySem PySem.Spec L2 TL KHd MA PD
variable {P : Program} {w : World} {K : PySem.W.Frag} {mg : Str → Option Value} {base : Heap}
/-! ### _law_as_machine -/
def asM (f : Form) : Parts := (f.signs, (mbM f.signs f.table f.worths).bg, (mbM f.signs f.table f.worths).roads, f.worths)
theorem zip_range (row : List Rat) : (List.range row.length).zip row = (List.range row.length).map fun k => (k, row.getD k 0) := by
  refine List.ext_getElem? fun j => ?_
  by_cases hj : j < row.length
  · have e : ((List.range row.length).zip row)[j]? = some (j, row[j]) := List.getElem?_zip_eq_some.mpr ⟨List.getElem?_range hj, List.getElem?_eq_getElem hj⟩
    rw [List.getElem?_map, List.getElem?_range hj, e]
    show some (j, row[j]) = some (j, row.getD j 0)
    rw [getD_at (List.getElem?_eq_getElem hj)]
  · rw [List.getElem?_eq_none (by rw [zr_len]; omega), List.getElem?_eq_none (by rw [List.length_map, List.length_range]; omega)]
theorem rdsRow_range (st c : Nat) (row : List Rat) : rdsRow st c ((List.range row.length).zip row) = ((List.range row.length).filter fun k => !decide ((row.getD k 0).num = 0)).map fun k => (st, c, k, row.getD k 0) := by
  unfold rdsRow
  rw [zip_range, List.filter_map, List.map_map]
  rfl
abbrev nAm : List Str := ["_law_form", "_law_signs_here", "_law_heads", "_law_table", "_law_worths", "_law_roads", "_law_state", "_law_place", "_law_row", "_law_k"]
theorem sc_am : FnScope nAm ["_law_form"] (defScope s__law_as_machine) := ⟨rfl, rfl, rfl, by decide +kernel, rfl, by decide +kernel, by decide +kernel⟩
def tb_am : List Sl → Sl → Prop := fun args res => ∃ f : Form, args = [.dat RLForm (lform f)] ∧ Shaped f ∧ TabSz f.table ∧ f.signs.length ≤ 1000 ∧ res = .dat RParts (asM f)
theorem ok_as_machine (T : TX K mg) : Dn P w K mg base 1 "_law_as_machine" ["_law_form"] tb_am := by
  obtain ⟨fd, F⟩ := T.u__law_as_machine
  refine ⟨_, fd, fn_pure (N := nAm) F sc_am ?_ ?_, F.bindsN fun _ _ _ _ _ _ us hl => match us, hl with | [_], _ => rfl, T.g__law_as_machine, F.kp⟩
  · rintro args res ⟨_, rfl, _⟩
    exact ⟨rfl, rfl⟩
  · rintro cdv A outer s H E args res hr ⟨⟨sg, hs, tb, ws⟩, rfl, ⟨sh1, sh2, sh3⟩, ⟨z1, z2⟩, hsl, rfl⟩
    dsimp only at sh1 sh2 sh3 z1 z2 hsl
    have hN := sc_am.nd
    have hz : sizeLine = 16777216 := rfl
    show RS _ _ _ _ [.dat RLForm (sg, hs, tb, ws), .any, .any, .any, .any, .any, .any, .any, .any, .any] _
    refine rs_cons (r1_asg (ex_var 0 rfl) (gt_h4 (gts_cons (gt_name 1) (gts_cons (gt_name 2) (gts_cons (gt_name 3) (gts_cons (gt_name 4) gts_nil))))) ?_)
    refine rs_cons (r1_new RRd 5 fun D => ?_)
    show RS _ _ _ _ [.dat RLForm (sg, hs, tb, ws), .dat RTx sg, sL RTx hs, .dat RTab tb, sL RQ ws, sO RRd D [], .any, .any, .any, .any] _
    refine rs_cons (r1_for (it_range (ex_len T.f_len (ex_var 2 rfl) .dat) (by omega) rfl T.f_range) (fun i Γ => Γ = [.dat RLForm (sg, hs, tb, ws), .dat RTx sg, sL RTx hs, .dat RTab tb, sL RQ ws, sO RRd D (rdsTab sg (((List.range tb.length).zip tb).take i)), .any, .any, .any, .any]) rfl ?_ ?_)
    · rintro i ii _ hi rfl
      obtain ⟨rfl, hil⟩ := range_get hi
      obtain ⟨ns, hns⟩ := get_of (l := tb) (show ii < tb.length by omega)
      have hz2 : ((List.range tb.length).zip tb)[ii]? = some (ii, ns) := List.getElem?_zip_eq_some.mpr ⟨List.getElem?_range (by omega), hns⟩
      obtain ⟨hn1, hn2⟩ := z2 ns (List.mem_of_getElem? hns)
      obtain ⟨c1, c2⟩ := sh3 ns (List.mem_of_getElem? hns)
      have hsu : rdsTab sg (((List.range tb.length).zip tb).take (ii + 1)) = rdsTab sg (((List.range tb.length).zip tb).take ii) ++ rdsNum ii (sg.zip ns) := flat_succ hz2
      have hle : (rdsTab sg (((List.range tb.length).zip tb).take ii)).length ≤ 100 * ii := by
        refine Nat.le_trans (flat_len (n := 100) fun t ht => ?_) (Nat.mul_le_mul_left _ (by rw [List.length_take]; omega))
        obtain ⟨j, hj⟩ := List.getElem?_of_mem (List.mem_of_mem_take ht)
        obtain ⟨ta, tn⟩ := t
        have hm := List.mem_of_getElem? (zr_get hj).2
        obtain ⟨a1, a2⟩ := z2 tn hm
        have : (rdsNum ta (sg.zip tn)).length ≤ 10 * (sg.zip tn).length := flat_len fun q hq => Nat.le_trans (rdsRow_len _ _ _) (by
          rw [zr_len]
          exact a2 _ (List.of_mem_zip hq).2)
        rw [List.length_zip] at this
        show (rdsNum ta (sg.zip tn)).length ≤ 100
        omega
      rw [hsu]
      generalize rdsTab sg (((List.range tb.length).zip tb).take ii) = acc at *
      refine ⟨_, _, gt_name 6, fun _ h => h, ?_⟩
      refine rs_one (r1_for (it_range (ex_lens T.f_len (ex_var 1 rfl)) (by omega) rfl T.f_range) (fun j Γ => Γ = [.dat RLForm (sg, hs, tb, ws), .dat RTx sg, sL RTx hs, .dat RTab tb, sL RQ ws, sO RRd D (acc ++ rdsNum ii ((sg.zip ns).take j)), .dat RNat ii, .any, .any, .any]) ?_ ?_ ?_)
      · rw [List.take_zero]
        show _ = [_, _, _, _, _, sO RRd D (acc ++ []), _, _, _, _]
        rw [List.append_nil]
        rfl
      · rintro j jj _ hj rfl
        obtain ⟨rfl, hjl⟩ := range_get hj
        obtain ⟨c, hc⟩ := get_of hjl
        obtain ⟨row, hrow⟩ := get_of (l := ns) (show jj < ns.length by omega)
        have hz3 : (sg.zip ns)[jj]? = some (c, row) := List.getElem?_zip_eq_some.mpr ⟨hc, hrow⟩
        have hrm := List.mem_of_getElem? hrow
        have hrl := c2 row hrm
        have hr10 := hn2 row hrm
        have hsu : rdsNum ii ((sg.zip ns).take (jj + 1)) = rdsNum ii ((sg.zip ns).take jj) ++ rdsRow ii c ((List.range row.length).zip row) := flat_succ hz3
        have hle2 : (rdsNum ii ((sg.zip ns).take jj)).length ≤ 10 * jj := by
          refine Nat.le_trans (flat_len (n := 10) fun q hq => Nat.le_trans (rdsRow_len _ _ _) ?_) (Nat.mul_le_mul_left _ (by rw [List.length_take]; omega))
          rw [zr_len]
          exact hn2 _ (List.of_mem_zip (List.mem_of_mem_take hq)).2
        have hle3 : (rdsRow ii c ((List.range row.length).zip row)).length ≤ row.length := by
          have := rdsRow_len ii c ((List.range row.length).zip row)
          rw [zr_len] at this
          exact this
        rw [hsu]
        generalize rdsNum ii ((sg.zip ns).take jj) = acc2 at *
        refine ⟨_, _, gt_name 7, fun _ h => h, ?_⟩
        refine rs_cons (r1_set (sl := sL RQ row) 8 (ex_ixS (R := RRow) (ex_ixS (R := RL RRow) (x := ns) (ex_var 3 rfl) .dat (ex_nat (ex_var 6 rfl)) (atI_nat hns)) .dat (ex_nat (ex_var 7 rfl)) (atI_nat hrow)) ?_)
        refine rs_one (r1_ext (R := RRd) (m := rdsRow ii c ((List.range row.length).zip row)) 5 rfl (ex_to (ex_lcf (R := RNat) (R' := RRd) (f := fun k => (ii, c, k, row.getD k 0)) [("_law_k", 9)] (fun k => !decide ((row.getD k 0).num = 0)) (it_range (n := row.length) (ex_to (ex_len T.f_len (ex_var 2 rfl) .dat) (by rw [hrl])) (by omega) rfl T.f_range) (blkOk_by rfl) (fun _ _ _ _ _ _ _ => gt_name 9) ?_ ?_) (by rw [rdsRow_range])) (by rw [List.length_append]; omega) ⟨_, .same (.same (.same (.same (.same (.same (.same (.any (.any (.any .nil))))))))), ?_⟩)
        · intro k hk _ _ _ _ _
          have hk2 : k < row.length := List.mem_range.mp hk
          exact et_ne (ex_num (ex_ixS (x := row.getD k 0) (ex_var 8 rfl) .dat (ex_nat (ex_var 9 rfl)) (atI_nat (by rw [List.getD_eq_getElem?_getD, List.getElem?_eq_getElem hk2]; rfl)))) ex_int
        · intro k hk _ _ _ _ _ _
          have hk2 : k < row.length := List.mem_range.mp hk
          exact ex_tup4 (ex_var 6 rfl) (ex_sIx (n := c) (ex_var 1 rfl) (ex_nat (ex_var 7 rfl)) (atI_nat hc)) (ex_var 9 rfl) (ex_ixS (x := row.getD k 0) (ex_var 8 rfl) .dat (ex_nat (ex_var 9 rfl)) (atI_nat (by rw [List.getD_eq_getElem?_getD, List.getElem?_eq_getElem hk2]; rfl)))
        · rw [← List.append_assoc]
      · rintro _ rfl
        have : (sg.zip ns).take (List.range sg.length).length = sg.zip ns := List.take_of_length_le (by rw [List.length_zip, List.length_range]; omega)
        rw [this]
        exact ⟨_, .same (.same (.same (.same (.same (.same (.any (.any (.any (.any .nil))))))))), rfl⟩
    · rintro _ rfl
      have : ((List.range tb.length).zip tb).take (List.range hs.length).length = (List.range tb.length).zip tb := List.take_of_length_le (by rw [zr_len, List.length_range]; omega)
      rw [this]
      refine rs_frz 5 rfl (by simp) ?_
      refine rs_one (r1_ret (sl := .dat RParts (asM ⟨sg, hs, tb, ws⟩)) (ex_h4 (ex_var 1 rfl) (ex_lc (R := RNat) (R' := RQ) (f := fun k : Nat => unitQ (decide ((k : Int) = 0))) [("_law_state", 6)] (it_range (n := ws.length) (ex_to (ex_len T.f_len (ex_var 2 rfl) .dat) (by rw [sh2])) (by omega) rfl T.f_range) (blkOk_by rfl) (fun _ _ _ _ _ _ _ => gt_name 6) ?_) (ex_var 5 rfl) (ex_list T.f_list (ex_var 4 rfl) .dat)) rfl)
      intro k hk _ _ _ _ _
      exact ex_uq (ex_intB T.f_int (ex_eq (ex_nat (ex_var 6 rfl)) ex_int))
/-! ### _law_gives -/
structure GivesOk (scl : Scaled) (f : Form) (ms : List (List Nat)) : Prop where
  sh : Shaped f
  tz : TabSz f.table
  sl : f.signs.length ≤ 1000
  so : SclOk (asM f)
  n : ∃ N, SclB scl f.signs N ∧ SclB (scaledF (asM f)) f.signs N ∧ MsgsOk ms f.signs N ∧ N ≤ 1000
  big : Big (lcmL (asM f).2.1) ∧ Big (lcmL (asM f).2.2.2) ∧ Big (lcmL (rdNums (asM f).2.2.1)) ∧ (∀ x ∈ intsL f.worths, Big x) ∧ ∀ m ∈ ms, ∀ j, j ≤ m.length → Big ((lcmL (rdNums (asM f).2.2.1) : Int) ^ j)
  td : ∀ m ∈ ms, TdOk (dotI (rowB (scaledF (asM f)) m) (intsL f.worths), (lcmL (asM f).2.1 : Int) * (lcmL (asM f).2.2.2 : Int) * (lcmL (rdNums (asM f).2.2.1) : Int) ^ m.length) scl (rowB scl m) m.length
  e : ∀ m ∈ ms, tdB (dotI (rowB (scaledF (asM f)) m) (intsL f.worths), (lcmL (asM f).2.1 : Int) * (lcmL (asM f).2.2.2 : Int) * (lcmL (rdNums (asM f).2.2.1) : Int) ^ m.length) scl (rowB scl m) m.length = true
abbrev nGi : List Str := ["_law_scaled_here", "_law_form", "_law_messages_here", "_law_other", "_law_rows_here", "_law_others", "_law_message", "_law_above", "_law_below"]
theorem sc_gi : FnScope nGi ["_law_scaled_here", "_law_form", "_law_messages_here"] (defScope s__law_gives) := ⟨rfl, rfl, rfl, by decide +kernel, rfl, by decide +kernel, by decide +kernel⟩
def tb_gi : List Sl → Sl → Prop := fun args res => ∃ (scl : Scaled) (f : Form) (ms : List (List Nat)), args = [.dat RScl scl, .dat RLForm (lform f), sL RTx ms] ∧ GivesOk scl f ms ∧ res = sB true
theorem ok_gives (T : TX K mg) : Dn P w K mg base 4 "_law_gives" ["_law_scaled_here", "_law_form", "_law_messages_here"] tb_gi := by
  obtain ⟨fd, F⟩ := T.u__law_gives
  refine ⟨_, fd, fn_pure (N := nGi) F sc_gi ?_ ?_, F.bindsN fun _ _ _ _ _ _ us hl => match us, hl with | [_, _, _], _ => rfl, T.g__law_gives, F.kp⟩
  · rintro args res ⟨_, _, _, rfl, _⟩
    exact ⟨rfl, rfl⟩
  · rintro cdv A outer s H E args res hr ⟨scl, f, ms, rfl, ⟨h1, h2, h3, h4, ⟨N, n1, n2, n3, n4⟩, ⟨b1, b2, b3, b4, b5⟩, h6, h7⟩, rfl⟩
    have hN := sc_gi.nd
    have hz : sizeLine = 16777216 := rfl
    show RS _ _ _ _ [.dat RScl scl, .dat RLForm (lform f), sL RTx ms, .any, .any, .any, .any, .any, .any] _
    refine rs_cons (r1_set (sl := .dat RScl (scaledF (asM f))) 3 (ex_call (ok_scaled T) hr (ea_cons (ex_call (ok_as_machine T) (hr.mono (by decide)) (ea_cons (ex_var 1 rfl) ea_nil) ⟨f, rfl, h1, h2, h3, rfl⟩) ea_nil) ⟨asM f, rfl, h4, rfl⟩) ?_)
    refine rs_cons (r1_par (P := fun s => s = .dat (RD (RL RInt)) (tabD (rowB scl) ms)) (P' := fun s => s = .dat (RD (RL RInt)) (tabD (rowB (scaledF (asM f))) ms)) 4 5 (en_ex (ex_call (ok_rows T) (hr.mono (by decide)) (ea_cons (ex_var 0 rfl) (ea_cons (ex_var 2 rfl) ea_nil)) ⟨scl, f.signs, ms, N, rfl, n1, n3, rfl⟩)) (en_ex (ex_call (ok_rows T) (hr.mono (by decide)) (ea_cons (ex_var 3 rfl) (ea_cons (ex_var 2 rfl) ea_nil)) ⟨scaledF (asM f), f.signs, ms, N, rfl, n2, n3, rfl⟩)) ?_)
    rintro _ _ rfl rfl
    refine rs_cons (r1_for (it_list (R := RTx) (ex_var 2 rfl)) (fun i Γ => Γ = [.dat RScl scl, .dat RLForm (lform f), sL RTx ms, .dat RScl (scaledF (asM f)), .dat (RD (RL RInt)) (tabD (rowB scl) ms), .dat (RD (RL RInt)) (tabD (rowB (scaledF (asM f))) ms), .any, .any, .any]) rfl ?_ ?_)
    · rintro i m _ hi rfl
      have hm := List.mem_of_getElem? hi
      obtain ⟨m1, m2⟩ := n3.le m hm
      have hrl : (rowB (scaledF (asM f)) m).length = (asM f).2.1.length := by rw [rowB_len]; exact intsL_len _
      have hfl : (intsL f.worths).length = (asM f).2.1.length := n2.fl.trans (intsL_len _)
      have hbn : (intsL (asM f).2.1).length ≤ 1000 := n2.rd.n
      rw [intsL_len] at hbn
      refine ⟨_, _, gt_name 6, fun _ h => h, ?_⟩
      refine rs_cons (r1_set (sl := sI (dotI (rowB (scaledF (asM f)) m) (intsL f.worths))) 7 (ex_call (ok_dotI T) (hr.mono (by decide)) (ea_cons (ex_dget (x := rowB (scaledF (asM f)) m) (hu_of hr) (ex_var 5 rfl) (ex_var 6 rfl) (tabD_look (.inr hm))) (ea_cons (ex_t6e (x5 := intsL f.worths) (ex_var 3 rfl)) ea_nil)) ⟨_, _, rfl, by omega, by omega, n2.rb m m1 m2, b4, rfl⟩) ?_)
      have hm1 : Bt 20000000 ((lcmL (asM f).2.1 : Int) * (lcmL (asM f).2.2.2 : Int)) := bt_mul (a := 10000000) (b := 10000000) b1 b2
      refine rs_cons (r1_set (sl := sI ((lcmL (asM f).2.1 : Int) * (lcmL (asM f).2.2.2 : Int) * (lcmL (rdNums (asM f).2.2.1) : Int) ^ m.length)) 8 (ex_mul (ex_mul (ex_t6b (y := (lcmL (asM f).2.1 : Int)) (ex_var 3 rfl)) (ex_t6f (x6 := (lcmL (asM f).2.2.2 : Int)) (ex_var 3 rfl)) (bt_cmul b1 b2 (by decide))) (ex_ixS (ex_call (ok_powers T) (hr.mono (by decide)) (ea_cons (ex_t6d (u := (lcmL (rdNums (asM f).2.2.1) : Int)) (ex_var 3 rfl)) (ea_cons (ex_lens T.f_len (ex_var 6 rfl)) ea_nil)) ⟨_, m.length, rfl, by omega, b5 m hm, b3, rfl⟩) .dat (ex_neg ex_int) (powL_last _ _)) (bt_cmul hm1 (b5 m hm m.length (Nat.le_refl _)) (by decide))) ?_)
      exact rs_one (r1_if (et_not (et_val (ex_to (ex_call (ok_is_told T) (hr.mono (by decide)) (ea_cons (ex_tup2 (ex_var 7 rfl) (ex_var 8 rfl)) (ea_cons (ex_var 0 rfl) (ea_cons (ex_dget (x := rowB scl m) (hu_of hr) (ex_var 4 rfl) (ex_var 6 rfl) (tabD_look (.inr hm))) (ea_cons (ex_lens T.f_len (ex_var 6 rfl)) ea_nil)))) ⟨_, scl, rowB scl m, m.length, rfl, h6 m hm, rfl⟩) (by rw [h7 m hm])))) (fun h => by cases h) (fun _ => rs_nil ⟨_, .same (.same (.same (.same (.same (.same (.any (.any (.any .nil)))))))), rfl⟩))
    · rintro _ rfl
      exact rs_one (r1_ret ex_bl rfl)
end PL

/-! part PL8 -/
set_option exponentiation.threshold 256 -- PL8
set_option maxHeartbeats 2000000 -- PL8
set_option maxRecDepth 100000 -- PL8
/-! PL8: is_right. -/
namespace PL
open PySem PySem.Spec L2 TL KHd MA PD
variable {P : Program} {w : World} {K : PySem.W.Frag} {mg : Str → Option Value} {base : Heap}
def mch (p : Parts) : Mach := ⟨p.1, p.2.1, p.2.2.1, p.2.2.2⟩
structure RightAt (p : Parts) (many k n N : Nat) (f : Form) : Prop where
  mp : machPre (mch p)
  fc : FcOk (mch p) k
  fm : FmOk (mch p) (fcF (mch p) k) n
  fe : f = frm (mch p) k n
  fp : formPre f
  sh : Shaped f
  sg : ∀ h ∈ f.heads, ∀ c ∈ h, c ∈ p.1
  cnt : f.heads.length ≤ many
  mz : MsgSz p.1 many
  mo : MsgsOk (msgsF p.1 many) p.1 N
  so : SclOk p
  sb : SclB (scaledF p) p.1 N
  hl : ∀ h ∈ f.heads, h.length ≤ N
  hn : f.heads.length ≤ 1000
  wt : ∀ (k : Nat) (h : List Nat) (q : Rat), f.heads[k]? = some h → f.worths[k]? = some q → TdOk (q.num, (q.den : Int)) (scaledF p) (rowB (scaledF p) h) h.length ∧ tdB (q.num, (q.den : Int)) (scaledF p) (rowB (scaledF p) h) h.length = true
  au : AddsOk (scaledF p) f (tabD (colB (scaledF p)) (msgsF p.1 many))
  gi : GivesOk (scaledF p) f (msgsF p.1 many)
def RightOk (p : Parts) (many : Nat) : Prop := ∃ k n N f, RightAt p many k n N f
abbrev nIg : List Str := ["_law_parts", "_law_many", "_law_signs_here", "_law_tariff", "_law_form", "_law_messages_here", "_law_scaled_here", "_law_k", "_law_head"]
theorem sc_ig : FnScope nIg ["_law_parts", "_law_many"] (defScope s__law_is_right) := ⟨rfl, rfl, rfl, by decide +kernel, rfl, by decide +kernel, by decide +kernel⟩
def tb_ig : List Sl → Sl → Prop := fun args res => ∃ (p : Parts) (many : Nat), args = [.dat RParts p, sI many] ∧ RightOk p many ∧ res = sB true
theorem ok_is_right (T : TX K mg) : Dn P w K mg base 11 "_law_is_right" ["_law_parts", "_law_many"] tb_ig := by
  obtain ⟨fd, F⟩ := T.u__law_is_right
  refine ⟨_, fd, fn_pure (N := nIg) F sc_ig ?_ ?_, F.bindsN fun _ _ _ _ _ _ us hl => match us, hl with | [_, _], _ => rfl, T.g__law_is_right, F.kp⟩
  · rintro args res ⟨_, _, rfl, _⟩
    exact ⟨rfl, rfl⟩
  · rintro cdv A outer s H E args res hr ⟨⟨sg, bg, rds, fi⟩, many, rfl, ⟨k, n, N, f, R⟩, rfl⟩
    have hN := sc_ig.nd
    have hz : sizeLine = 16777216 := rfl
    have hfs : f.signs = sg := by rw [R.fe]; rfl
    generalize hp : ((sg, bg, rds, fi) : Parts) = p at *
    have hp1 : p.1 = sg := by rw [← hp]
    have hb : ∀ {nm : Nat} {Γ : List Sl}, gtS Γ nm = .dat RParts p → gtS Γ nm = .dat RParts (sg, bg, rds, fi) := fun h => by rw [h, hp]
    have hmc : mch p = ⟨sg, bg, rds, fi⟩ := by rw [← hp]; rfl
    show RS _ _ _ _ [.dat RParts p, sI many, .any, .any, .any, .any, .any, .any, .any] _
    refine rs_cons (r1_set (sl := .dat RTx sg) 2 (ex_h4a (ex_var 0 (hb rfl))) ?_)
    refine rs_cons (r1_set (sl := .dat (RTar K) f) 3 (ex_to (ex_call (ok_tariff_of T) hr (ea_cons (ex_mk (m := mch p) T.k_Machine (ok_minit T) (hr.mono (by decide)) T.g_Machine R.mp (ea_cons (ex_to (ex_var 2 rfl) (by rw [hmc]; rfl)) (ea_cons (ex_to (ex_list T.f_list (ex_h4b (ex_var 0 (hb rfl))) .dat) (by rw [hmc])) (ea_cons (ex_to (ex_list T.f_list (ex_h4c (ex_var 0 (hb rfl))) .dat) (by rw [hmc])) (ea_cons (ex_to (ex_list T.f_list (ex_h4d (ex_var 0 (hb rfl))) .dat) (by rw [hmc])) ea_nil)))) rfl) ea_nil) ⟨mch p, k, n, rfl, R.fc, R.fm, by rw [← R.fe]; exact R.fp, rfl⟩) (by rw [← R.fe]; rfl)) ?_)
    refine rs_cons (r1_set (sl := .dat RLForm (lform f)) 4 (ex_to (ex_h4 (ex_var 2 rfl) (ex_prop T.c_Tariff T.p_Tariff_heads (ok_theads T) (hr.mono (by decide)) (ex_var 3 rfl) (fun F H v s r => tar_ins s r) ⟨f, rfl, rfl⟩) (ex_prop T.c_Tariff T.p_Tariff_table (ok_ttable T) (hr.mono (by decide)) (ex_var 3 rfl) (fun F H v s r => tar_ins s r) ⟨f, rfl, rfl⟩) (ex_prop T.c_Tariff T.p_Tariff_worths (ok_tworths T) (hr.mono (by decide)) (ex_var 3 rfl) (fun F H v s r => tar_ins s r) ⟨f, rfl, rfl⟩)) (by rw [← hfs]; rfl)) ?_)
    show RS _ _ _ _ [.dat RParts p, sI many, .dat RTx sg, .dat (RTar K) f, .dat RLForm (lform f), .any, .any, .any, .any] _
    have hsgf : ∀ h ∈ f.heads, ∀ c ∈ h, c ∈ f.signs := by
      intro h hh c hc
      rw [hfs, ← hp1]
      exact R.sg h hh c hc
    have hcnt := R.cnt
    refine rs_cons (r1_if (et_or (et_not (et_val (ex_call (ok_law_shaped T) (hr.mono (by decide)) (ea_cons (ex_var 4 rfl) ea_nil) ⟨f, rfl, R.sh, hsgf, rfl⟩))) fun _ => et_gt (ex_len (R := RTx) (l := f.heads) T.f_len (ex_h4b (R := RTx) (R' := RL RTx) (R'' := RTab) (R3 := RL RQ) (x := f.signs) (z := f.table) (u := f.worths) (ex_var 4 rfl)) .dat) (ex_var 1 rfl)) (fun h => ?_) (fun _ => rs_nil ?_))
    · have : ¬ (many : Int) < (f.heads.length : Int) := by omega
      rw [decide_eq_false this] at h
      cases h
    refine rs_cons (r1_set (sl := sL RTx (msgsF p.1 many)) 5 (ex_call (ok_messages T) (hr.mono (by decide)) (ea_cons (ex_to (ex_var 2 rfl) (by rw [hp1]; rfl)) (ea_cons (ex_var 1 rfl) ea_nil)) ⟨p.1, many, rfl, R.mz, rfl⟩) ?_)
    refine rs_cons (r1_set (sl := .dat RScl (scaledF p)) 6 (ex_call (ok_scaled T) (hr.mono (by decide)) (ea_cons (ex_var 0 rfl) ea_nil) ⟨p, rfl, R.so, rfl⟩) ?_)
    show RS _ _ _ _ [.dat RParts p, sI many, .dat RTx sg, .dat (RTar K) f, .dat RLForm (lform f), sL RTx (msgsF p.1 many), .dat RScl (scaledF p), .any, .any] _
    have hhn := R.hn
    refine rs_cons (r1_for (it_range (n := f.heads.length) (ex_len (R := RTx) (l := f.heads) T.f_len (ex_h4b (R := RTx) (R' := RL RTx) (R'' := RTab) (R3 := RL RQ) (x := f.signs) (z := f.table) (u := f.worths) (ex_var 4 rfl)) .dat) (by omega) rfl T.f_range) (fun _ Γ => Γ = [.dat RParts p, sI many, .dat RTx sg, .dat (RTar K) f, .dat RLForm (lform f), sL RTx (msgsF p.1 many), .dat RScl (scaledF p), .any, .any]) rfl ?_ ?_)
    · rintro i ii _ hi rfl
      obtain ⟨rfl, hil⟩ := range_get hi
      obtain ⟨h, hh⟩ := get_of hil
      obtain ⟨q, hq⟩ := get_of (l := f.worths) (show ii < f.worths.length by have := R.sh.b; omega)
      obtain ⟨w1, w2⟩ := R.wt ii h q hh hq
      have hm := List.mem_of_getElem? hh
      have hle := R.hl h hm
      have hsb : SclB (scaledF p) p.1 h.length := ⟨R.sb.rd, R.sb.fl, fun m hm2 => R.sb.rb m (by omega), fun m hm2 => R.sb.cb m (by omega)⟩
      refine ⟨_, _, gt_name 7, fun _ h => h, ?_⟩
      refine rs_cons (r1_set (sl := .dat RTx h) 8 (ex_ixS (R := RTx) (x := h) (ex_h4b (R := RTx) (R' := RL RTx) (R'' := RTab) (R3 := RL RQ) (x := f.signs) (y := f.heads) (z := f.table) (u := f.worths) (ex_var 4 rfl)) .dat (ex_nat (ex_var 7 rfl)) (atI_nat hh)) ?_)
      exact rs_one (r1_if (et_not (et_val (ex_to (ex_call (ok_is_told T) (hr.mono (by decide)) (ea_cons (ex_conv (R := RQ) (x := q) (R' := RII) (y := (q.num, (q.den : Int))) (ex_ixS (R := RQ) (x := q) (ex_h4d (R := RTx) (R' := RL RTx) (R'' := RTab) (R3 := RL RQ) (x := f.signs) (y := f.heads) (z := f.table) (u := f.worths) (ex_var 4 rfl)) .dat (ex_nat (ex_var 7 rfl)) (atI_nat hq)) (fun F v r => r)) (ea_cons (ex_var 6 rfl) (ea_cons (ex_call (ok_row_behind T) (hr.mono (by decide)) (ea_cons (ex_var 6 rfl) (ea_cons (ex_var 8 rfl) ea_nil)) ⟨scaledF p, p.1, h, rfl, hsb, R.sg h hm, rfl⟩) (ea_cons (ex_lens T.f_len (ex_var 8 rfl)) ea_nil)))) ⟨_, scaledF p, rowB (scaledF p) h, h.length, rfl, w1, rfl⟩) (by rw [w2])))) (fun h => by cases h) (fun _ => rs_nil ⟨_, .same (.same (.same (.same (.same (.same (.same (.any (.any .nil)))))))), rfl⟩))
    · rintro _ rfl
      exact rs_one (r1_ret (ex_and2 (k := true) (k' := true) (ex_call3N (P := fun Q => ∃ d, Q = dicO (RL RInt) d (tabD (colB (scaledF p)) (msgsF p.1 many))) (ok_adds_up T) (hr.mono (by decide)) (ex_var 6 rfl) (ex_var 4 rfl) (en_imp (en_callG (ok_columns T) (hr.mono (by decide)) (ea_cons (ex_var 6 rfl) (ea_cons (ex_var 5 rfl) ea_nil)) ⟨scaledF p, p.1, msgsF p.1 many, N, rfl, R.sb, R.mo, rfl⟩ rfl (fun _ _ z => z)) (by rintro _ ⟨d, rfl⟩; exact ⟨_, rfl, d, rfl⟩)) rfl rfl (by rintro _ ⟨d, rfl⟩; exact ⟨scaledF p, f, d, _, rfl, R.au, rfl⟩)) fun _ => ex_call (ok_gives T) (hr.mono (by decide)) (ea_cons (ex_var 6 rfl) (ea_cons (ex_var 4 rfl) (ea_cons (ex_var 5 rfl) ea_nil))) ⟨scaledF p, f, msgsF p.1 many, rfl, R.gi, rfl⟩) rfl)
end PL

/-! part TL13 -/
set_option exponentiation.threshold 256 -- TL13
set_option maxHeartbeats 1000000 -- TL13
set_option maxRecDepth 100000 -- TL13
/-! TL13: expressions with effects on what is one's own. -/
namespace TL
open PySem PySem.Spec PyProof.Rows L2 MA
structure Sp (Γ : List Sl) (F H F' H' : Hp) (Γ' : List Sl) (σ : L2.St) : Prop where
  gr : GrS (feetO Γ) F H F' H'
  wd : Wd F' H' Γ' σ
  ft : ∀ b ∈ feetO Γ', b ∈ feetO Γ ∨ H b = none
def EE (X : Cx) (e : Expr) (Γ : List Sl) (P : Sl → List Sl → Prop) : Prop := ∀ (σ : L2.St) (F H : Hp), Wd F H Γ σ → ∀ Q : VK, (∀ v F' H' sl Γ', Sp Γ F H F' H' Γ' σ → SlSat F' H' sl (some v) → (∀ b ∈ sl.foot, H b = none) → P sl Γ' → Q v H') → WpE X e σ H Q
def EEA (X : Cx) (es : List Expr) (Γ : List Sl) (P : List Sl → List Sl → Prop) : Prop := ∀ (σ : L2.St) (F H : Hp), Wd F H Γ σ → ∀ Q : List V → Hp → Prop, (∀ vs F' H' sls Γ', Sp Γ F H F' H' Γ' σ → Sat F' H' sls (vs.map some) → feet sls = [] → P sls Γ' → Q vs H') → WpA X es σ H Q
def EET (X : Cx) (e : Expr) (Γ : List Sl) (P : Bool → List Sl → Prop) : Prop := ∀ (σ : L2.St) (F H : Hp), Wd F H Γ σ → ∀ Q : Bool → Hp → Prop, (∀ k F' H' Γ', Sp Γ F H F' H' Γ' σ → P k Γ' → Q k H') → WpT X e σ H Q
def EEW (X : Cx) (e : Expr) (Γ : List Sl) (P : Bool → List Sl → Prop) : Prop := ∀ (σ : L2.St) (F H : Hp), Wd F H Γ σ → ∀ Q : Bool → Hp → Prop, (∀ k F' H' Γ', Sp Γ F H F' H' Γ' σ → P k Γ' → Q k H') → WpW X e σ H Q
section
variable {X : Cx} {S : List Addr} {F0 H0 F H F' H' F1 H1 F2 H2 : Hp} {e o a b c tg iter elt : Expr} {es : List Expr} {sts : List Stmt} {st : Stmt} {p pos apos : Pos} {Γ Γ' Γ1 Γ2 : List Sl} {T T' : TK} {i j : Int} {sl slO res : Sl} {sls : List Sl} {α β γ δ : Type} {R : Rp α} {R' : Rp β} {R'' : Rp γ} {R3 : Rp δ} {x : α} {y : β} {z : γ} {u : δ} {l : List α} {is : List Nat} {σ : L2.St} {P : Sl → List Sl → Prop}
theorem Sp.refl (w : Wd F H Γ σ) : Sp Γ F H F H Γ σ := ⟨GrS.refl w.sub, w, fun b hb => .inl hb⟩
theorem Sp.of (w : Wd F H Γ σ) (g : Gr F H F' H') : Sp Γ F H F' H' Γ σ := ⟨GrS.of g, w.grow g, fun b hb => .inl hb⟩
theorem Sp.trans (a : Sp Γ F H F1 H1 Γ1 σ) (c : Sp Γ1 F1 H1 F2 H2 Γ2 σ) : Sp Γ F H F2 H2 Γ2 σ where
  gr := ⟨a.gr.fz.trans c.gr.fz, c.gr.sub, fun b o hb e => c.gr.keep b o (fun z => (a.ft b z).elim hb fun z => by rw [z] at e; cases e) (a.gr.keep b o hb e), fun b e => c.gr.there b (a.gr.there b e), fun b e1 e2 => c.gr.new b (a.gr.new b e1 e2) (a.gr.there b e2)⟩
  wd := c.wd
  ft := fun b hb => (c.ft b hb).elim (a.ft b) fun z => .inr (by
    cases h : H b with
    | none => rfl
    | some o => exact absurd z (a.gr.there b (ne_none_of h)))
/-- no own thing lost: what lives goes on -/
theorem Lv.sp (l : Lv S F0 H0 F H Γ σ) (s : Sp Γ F H F' H' Γ' σ) : Lv S F0 H0 F' H' Γ' σ where
  gr := ⟨l.gr.fz.trans s.gr.fz, s.gr.sub, fun b o hb e => s.gr.keep b o (fun z => (l.mine b z).elim hb fun z => by rw [z] at e; cases e) (l.gr.keep b o hb e), fun b e => s.gr.there b (l.gr.there b e), fun b e1 e2 => s.gr.new b (l.gr.new b e1 e2) (l.gr.there b e2)⟩
  wd := s.wd
  mine := fun b hb => (s.ft b hb).elim (l.mine b) fun z => .inr (fresh_back l z)
theorem sat_sp (s : Sp Γ F H F' H' Γ' σ) {o : Option V} (hf : sl.foot = []) (h : SlSat F H sl o) : SlSat F' H' sl o := h.grow s.gr fun b hb => by rw [hf] at hb; cases hb
theorem ee_ex (h : EX X e Γ sl) (hf : sl.foot = [] := by rfl) : EE X e Γ (fun s Γ' => s = sl ∧ Γ' = Γ) := fun σ F H w Q q => h σ F H w Q fun v F' H' g r => q v F' H' sl Γ (Sp.of w g) r (by rw [hf]; intro b hb; cases hb) ⟨rfl, rfl⟩
theorem ee_exP (h : EX X e Γ sl) (hp : P sl Γ) (hf : sl.foot = [] := by rfl) : EE X e Γ P := fun σ F H w Q q => h σ F H w Q fun v F' H' g r => q v F' H' sl Γ (Sp.of w g) r (by rw [hf]; intro b hb; cases hb) hp
theorem ee_imp {P' : Sl → List Sl → Prop} (h : EE X e Γ P) (hp : ∀ s Γ', P s Γ' → P' s Γ') : EE X e Γ P' := fun σ F H w Q q => h σ F H w Q fun v F' H' sl Γ' s r hf z => q v F' H' sl Γ' s r hf (hp _ _ z)
/-- two ints -/
theorem ee_opI {op : Operator} {C : Int → Int → Prop} {f : Int → Int → Int} (ho : OpR X (binaryOp op) (fun v u H Q => ∃ i j, v = .int i ∧ u = .int j ∧ C i j ∧ Q (.int (f i j)) H)) (ha : EE X a Γ (fun s Γ1 => ∃ i, s = sI i ∧ EE X b Γ1 (fun s2 Γ2 => ∃ j, s2 = sI j ∧ C i j ∧ P (sI (f i j)) Γ2))) : EE X (.BinOp a op b pos) Γ P := fun σ F H w Q q =>
  PE.wp (pe_op ho pe_wp pe_wp) (ha σ F H w _ fun v F1 H1 sl Γ1 s1 r1 hf1 ⟨i, e1, hb⟩ => hb σ F1 H1 s1.wd _ fun u F2 H2 sl2 Γ2 s2 r2 hf2 ⟨j, e2, hc, z⟩ => by
    subst e1
    subst e2
    exact ⟨i, j, sat_dat r1, sat_dat r2, hc, q _ F2 H2 _ Γ2 (s1.trans s2) (dat_sat rfl) (fun b hb => by cases hb) z⟩)
theorem ee_add (ha : EE X a Γ (fun s Γ1 => ∃ i, s = sI i ∧ EE X b Γ1 (fun s2 Γ2 => ∃ j, s2 = sI j ∧ P (sI (i + j)) Γ2))) : EE X (.BinOp a .Add b pos) Γ P :=
  ee_opI (C := fun _ _ => True) (f := fun i j => i + j) (fun pins s σ H x y v u Q I rx ry ⟨i, j, h1, h2, _, q⟩ => op_add pins s σ H x y v u Q I rx ry ⟨i, j, h1, h2, q⟩) (ee_imp ha fun s Γ1 ⟨i, e1, h⟩ => ⟨i, e1, ee_imp h fun s2 Γ2 ⟨j, e2, z⟩ => ⟨j, e2, trivial, z⟩⟩)
theorem ee_sub (ha : EE X a Γ (fun s Γ1 => ∃ i, s = sI i ∧ EE X b Γ1 (fun s2 Γ2 => ∃ j, s2 = sI j ∧ P (sI (i - j)) Γ2))) : EE X (.BinOp a .Sub b pos) Γ P :=
  ee_opI (C := fun _ _ => True) (f := fun i j => i - j) (fun pins s σ H x y v u Q I rx ry ⟨i, j, h1, h2, _, q⟩ => op_sub pins s σ H x y v u Q I rx ry ⟨i, j, h1, h2, q⟩) (ee_imp ha fun s Γ1 ⟨i, e1, h⟩ => ⟨i, e1, ee_imp h fun s2 Γ2 ⟨j, e2, z⟩ => ⟨j, e2, trivial, z⟩⟩)
theorem ee_mod (ha : EE X a Γ (fun s Γ1 => ∃ i, s = sI i ∧ EE X b Γ1 (fun s2 Γ2 => ∃ j, s2 = sI j ∧ j ≠ 0 ∧ P (sI (i.fmod j)) Γ2))) : EE X (.BinOp a .Mod b pos) Γ P :=
  ee_opI (C := fun _ j => j ≠ 0) (f := fun i j => i.fmod j) (fun pins s σ H x y v u Q I rx ry ⟨i, j, h1, h2, h3, q⟩ => op_modN pins s σ H x y v u Q I rx ry ⟨i, j, h1, h2, h3, q⟩) ha
/-- a[b], a data, b with effects -/
theorem ee_ix (ha : EX X a Γ (sL R l)) (hb : EE X b Γ (fun s Γ1 => ∃ i x, s = sI i ∧ atI l i = some x ∧ P (.dat R x) Γ1)) (hs : PlainIx b := by exact fun _ _ => rfl) : EE X (.Subscript a b pos) Γ P := fun σ F H w Q q =>
  PE.wp (pe_ix ix_list pe_wp pe_wp hs) (ha σ F H w _ fun v F1 H1 g1 r1 => hb σ F1 H1 (w.grow g1) _ fun u F2 H2 sl2 Γ2 s2 r2 hf2 ⟨i, x, e2, hx, z⟩ => by
    subst e2
    obtain ⟨p, xs, rfl, e, zz, pr⟩ := (RL R).mono s2.gr.fz (sat_dat r1)
    obtain ⟨v, hv, rv⟩ := paired_atI pr hx
    exact ⟨p, xs, i, v, rfl, sat_dat r2, SqL.of (s2.gr.sub _ _ e), hv, q v F2 H2 _ Γ2 ((Sp.of w g1).trans s2) (dat_sat rv) (fun b hb => by cases hb) z⟩)
theorem ee_sIx {l : List Nat} (ha : EX X a Γ (.dat RTx l)) (hb : EE X b Γ (fun s Γ1 => ∃ i n, s = sI i ∧ atI l i = some n ∧ P (.dat RSg n) Γ1)) (hs : PlainIx b := by exact fun _ _ => rfl) : EE X (.Subscript a b pos) Γ P := fun σ F H w Q q =>
  PE.wp (pe_ix ix_str pe_wp pe_wp hs) (ha σ F H w _ fun v F1 H1 g1 r1 => hb σ F1 H1 (w.grow g1) _ fun u F2 H2 sl2 Γ2 s2 r2 hf2 ⟨i, n, e2, hx, z⟩ => by
    subst e2
    obtain ⟨rfl, zz⟩ := sat_dat r1
    exact ⟨_, i, n, rfl, sat_dat r2, by rw [txt_len]; exact zz, by simpa using hx, q _ F2 H2 _ Γ2 ((Sp.of w g1).trans s2) (dat_sat (R := RSg) (x := n) ⟨rfl, by show 1 ≤ sizeLine; decide⟩) (fun b hb => by cases hb) z⟩)
/-- arguments -/
theorem eea_nil {P : List Sl → List Sl → Prop} (h : P [] Γ) : EEA X [] Γ P := fun σ F H w Q q => PA.wp pa_nil (q [] F H [] Γ (Sp.refl w) trivial rfl h)
theorem eea_cons {P : List Sl → List Sl → Prop} (h : EE X e Γ (fun s Γ1 => s.foot = [] ∧ EEA X es Γ1 (fun ss Γ2 => P (s :: ss) Γ2))) (hs : starEach (e :: es) X.env = (false, eval e X.env) :: starEach es X.env := by rfl) : EEA X (e :: es) Γ P := fun σ F H w Q q =>
  PA.wp (pa_cons pe_wp pa_wp hs) (h σ F H w _ fun v F1 H1 sl Γ1 s1 r1 hf1 ⟨hf, hr⟩ => hr σ F1 H1 s1.wd _ fun vs F2 H2 sls Γ2 s2 r2 hf2 z => q (v :: vs) F2 H2 (sl :: sls) Γ2 (s1.trans s2) ⟨sat_sp s2 hf r1, r2⟩ (by show sl.foot ++ feet sls = []; rw [hf, hf2]; rfl) z)
/-- a pure def -/
theorem ee_call {k : Nat} {nm : Str} {ps : List Str} {Tab : List Sl → Sl → Prop} {es : List Expr} (d : Dn X.prog X.w X.K X.mg X.base k nm ps Tab) (hr : Room k X.A) (ha : EEA X (e :: es) Γ (fun sls Γ' => ∃ res, Tab sls res ∧ res.foot = [] ∧ P res Γ'))
    (hg : Gl X nm := by rfl) (hdb : (nm == ("__debug__" : Str)) = false := by decide) (he : starEach (e :: es) X.env = (false, eval e X.env) :: starEach es X.env := by rfl) (hpl : (backTo pos (starEach es X.env)).any (·.1) = false := by rfl) : EE X (.Call (.Name nm p) (e :: es) [] pos) Γ P := fun σ F H w Q q => by
  obtain ⟨f, fd, G, b, hm, hk⟩ := d.ex
  refine PE.wp (pe_call G hr hg hm hk b .nil pass0 pa_wp hdb he hpl) (ha σ F H w _ fun vs F1 H1 sls Γ1 s1 r1 hf ⟨res, ht, hfr, z⟩ => ?_)
  rw [List.append_nil]
  refine ⟨F1, sls, res, ht, ⟨s1.gr.sub, r1, by rw [hf]; exact List.nodup_nil⟩, fun v F' H' g2 r2 => ?_⟩
  exact q v F' H' res Γ1 (s1.trans (Sp.of s1.wd g2)) r2 (by rw [hfr]; intro b hb; cases hb) z
/-- the own thing at n is turned by the callee -/
theorem Sp.eff {P0 P' : OwnP} {n : Nat} (w : Wd F H Γ σ) (hn : gtS Γ n = .own P0) (hf : P'.foot = P0.foot) (hv : P'.val = P0.val) (g : GrS P0.foot F H F' H') (hP : P'.holds F' H') (hPf : ∀ b ∈ P'.foot, F' b = none) : Sp Γ F H F' H' (stS Γ n (.own P')) σ where
  gr := ⟨g.fz, g.sub, fun b o hb e => g.keep b o (fun z => hb (feetO_mem hn z)) e, g.there, g.new⟩
  wd := ⟨g.sub, Sat.chg g.fz (fun b hb e => by
      obtain ⟨u, hu⟩ := some_of_ne e
      rw [hu]; exact g.keep b u hb hu) g.new hv hP hPf hn w.nd w.sat, by rw [feet_st_same hf hn]; exact w.nd⟩
  ft := fun b hb => .inl (by rw [feetO_st_same hf hn] at hb; exact hb)
/-- f(x, ..) that turns x, one's own at n; the other arguments may have effects on it, too -/
theorem ee_callD {k : Nat} (n : Nat) {nm xn : Str} {p1 : Pos} {ps : List Str} {Tab : List Sl → (Sl → List Sl → Prop) → Prop} {es : List Expr} {P0 : OwnP} (d : Gn X.prog X.w X.K X.mg X.base k nm ps Tab) (hr : Room k X.A) (hn : gtS Γ n = .own P0)
    (ha : EEA X es Γ (fun sls Γ2 => ∃ P2 post, gtS Γ2 n = .own P2 ∧ P2.val = P0.val ∧ Tab (.own P2 :: sls) post ∧ ∀ sl Γc, post sl Γc → ∃ P', gtS Γc 0 = .own P' ∧ P'.foot = P2.foot ∧ P'.val = P2.val ∧ sl.foot = [] ∧ P sl (stS Γ2 n (.own P'))))
    (hN : X.N[n]? = some xn := by rfl) (hv : Vis X.env.scope xn := by first | exact Or.inl rfl | exact Or.inr (Or.inl rfl) | exact Or.inr (Or.inr rfl)) (hd : (xn == ("__debug__" : Str)) = false := by decide) (hcd : (xn == ("__classdict__" : Str)) = false := by decide)
    (hg : Gl X nm := by rfl) (hdb : (nm == ("__debug__" : Str)) = false := by decide) (he : starEach (.Name xn p1 :: es) X.env = (false, eval (.Name xn p1) X.env) :: starEach es X.env := by rfl) (hpl : (backTo pos (starEach es X.env)).any (·.1) = false := by rfl) : EE X (.Call (.Name nm p) (.Name xn p1 :: es) [] pos) Γ P := fun σ F H w Q q => by
  obtain ⟨f, fd, G, b, hm, hk⟩ := d.ex
  obtain ⟨e1, _, _⟩ := w.sat.own hn
  refine PE.wp (pe_call G hr hg hm hk b .nil pass0 (pa_cons (pe_var (i := n) hN hv hd hcd) pa_wp he) hdb he hpl) ⟨P0.val, e1, ?_⟩
  refine ha σ F H w _ fun vs F1 H1 sls Γ1 s1 r1 hf ⟨P2, post, h2, hv2, ht, hpost⟩ => ?_
  show spG Tab ((P0.val :: vs) ++ []) H1 Q _
  rw [List.append_nil]
  obtain ⟨_, hh2, hn2⟩ := s1.wd.sat.own h2
  refine ⟨F1, .own P2 :: sls, post, ht, ⟨s1.gr.sub, ⟨⟨by rw [hv2], hh2, hn2⟩, r1⟩, by show (P2.foot ++ feet sls).Nodup; rw [hf, List.append_nil]; exact P2.nd⟩, fun v F' H' sl Γc σc g2 w2 r2 hfr z => ?_⟩
  obtain ⟨P', h0, hfo, hva, hsf, hP⟩ := hpost sl Γc z
  have g2' : GrS P2.foot F1 H1 F' H' := by
    have : feetO (.own P2 :: sls) = P2.foot := by
      show P2.foot ++ feetO sls = _
      rw [feetO_nil hf, List.append_nil]
    rw [this] at g2
    exact g2
  obtain ⟨_, hh3, hn3⟩ := w2.sat.own h0
  exact q v F' H' sl _ (s1.trans (Sp.eff s1.wd h2 hfo hva g2' hh3 hn3)) r2 (by rw [hsf]; intro b hb; cases hb) hP
/-- tuples -/
theorem ee_tup3 {x1 : Nat} (ha : EEA X [a, b, c] Γ (fun sls Γ' => ∃ (α β γ : Type) (R : Rp α) (R' : Rp β) (R'' : Rp γ) (x : α) (y : β) (z : γ), sls = [.dat R x, .dat R' y, .dat R'' z] ∧ P (.dat (RT3 R R' R'') (x, y, z)) Γ')) : EE X (.Tuple [a, b, c] x1 pos) Γ P := fun σ F H w Q q =>
  PE.wp (pe_tup pa_wp) (ha σ F H w _ fun vs F1 H1 sls Γ1 s1 r hf ⟨α, β, γ, R, R', R'', x, y, z, e, hP⟩ => by
    subst e
    obtain ⟨v, u, t, rfl, r1, r2, r3⟩ := sat3 r
    refine ⟨by show 3 ≤ sizeLine; decide, fun p hp => ?_⟩
    have g2 := Gr.alloc (o := .tup [v, u, t]) s1.gr.sub hp
    exact q _ _ _ _ Γ1 (s1.trans (Sp.of s1.wd g2)) (dat_sat (R := RT3 R R' R'') (x := (x, y, z)) ⟨p, v, u, t, rfl, upd_same, R.mono g2.fz (sat_dat r1), R'.mono g2.fz (sat_dat r2), R''.mono g2.fz (sat_dat r3)⟩) (fun b hb => by cases hb) hP)
theorem ee_h4 {d : Expr} (ha : EEA X [a, b, c, d] Γ (fun sls Γ' => ∃ (α β γ δ : Type) (R : Rp α) (R' : Rp β) (R'' : Rp γ) (R3 : Rp δ) (x : α) (y : β) (z : γ) (u : δ), sls = [.dat R x, .dat R' y, .dat R'' z, .dat R3 u] ∧ P (.dat (RH4 R R' R'' R3) (x, y, z, u)) Γ')) : EE X (.List [a, b, c, d] pos) Γ P := fun σ F H w Q q =>
  PE.wp (pe_lst pa_wp) (ha σ F H w _ fun vs F1 H1 sls Γ1 s1 r hf ⟨α, β, γ, δ, R, R', R'', R3, x, y, z, u0, e, hP⟩ => by
    subst e
    obtain ⟨v, u, t, v4, rfl, r1, r2, r3, r4⟩ := sat4 r
    refine ⟨by show 4 ≤ sizeLine; decide, fun p hp => ?_⟩
    have g2 := Gr.alloc (o := .lst [v, u, t, v4]) s1.gr.sub hp
    exact q _ _ _ _ Γ1 (s1.trans (Sp.of s1.wd g2)) (dat_sat (R := RH4 R R' R'' R3) (x := (x, y, z, u0)) ⟨p, v, u, t, v4, rfl, upd_same, R.mono g2.fz (sat_dat r1), R'.mono g2.fz (sat_dat r2), R''.mono g2.fz (sat_dat r3), R3.mono g2.fz (sat_dat r4)⟩) (fun b hb => by cases hb) hP)
/-- tests -/
theorem eet_et {k : Bool} {P : Bool → List Sl → Prop} (h : ET X e Γ k) (hp : P k Γ) : EET X e Γ P := fun σ F H w Q q => h σ F H w Q fun F' H' g => q k F' H' Γ (Sp.of w g) hp
theorem eet_eqI {P : Bool → List Sl → Prop} (ha : EE X a Γ (fun s Γ1 => ∃ i, s = sI i ∧ EE X b Γ1 (fun s2 Γ2 => ∃ j, s2 = sI j ∧ P (decide (i = j)) Γ2))) : EET X (.Compare a [.Eq] [b] pos) Γ P := fun σ F H w Q q =>
  PT.wp (pt_cmpR op_eq pe_wp pe_wp (nomark _)) (ha σ F H w _ fun v F1 H1 sl Γ1 s1 r1 hf1 ⟨i, e1, hb⟩ => hb σ F1 H1 s1.wd _ fun u F2 H2 sl2 Γ2 s2 r2 hf2 ⟨j, e2, z⟩ => by
    subst e1
    subst e2
    exact r_eq F2 H2 v u s2.gr.sub (show v = .int i from sat_dat (H := H1) r1) (sat_dat r2) _ fun F3 H3 g3 => ⟨decide (i = j), rfl, q _ F3 H3 Γ2 ((s1.trans s2).trans (Sp.of s2.wd g3)) z⟩)
theorem eet_and {k : Bool} {P : Bool → List Sl → Prop} (h1 : ET X a Γ k) (h2 : k = true → EET X b Γ P) (h3 : k = false → P false Γ) : EET X (.BoolOp .And [a, b] pos) Γ P := fun σ F H w Q q pins s I => by
  refine PW.wp (pw_and pt_wp (pw_and1 pt_wp)) (h1 σ F H w _ fun F1 H1 g1 => ?_) _ pins s I
  cases k with
  | true => exact iteT (h2 rfl σ F1 H1 (w.grow g1) _ fun k F2 H2 Γ2 s2 z => q k F2 H2 Γ2 ((Sp.of w g1).trans s2) z)
  | false => exact iteF (q false F1 H1 Γ (Sp.of w g1) (h3 rfl))
/-- statements -/
theorem r1_setE (i : Nat) {nm : Str} {p' : Pos} (he : EE X e Γ (fun sl Γ' => sl.foot = [] ∧ T.nx (stS Γ' i sl))) (hN : X.N.Nodup := by assumption) (hi : X.N[i]? = some nm := by rfl) (hx : Loc X.env.scope nm := by first | exact Or.inl rfl | exact Or.inr rfl)
    (hs : swapsWith e (some (.Name nm p')) pos.line X.env = pure false := by rfl) (hf : X.fn nm = true ∨ X.env.scope.names.lookup nm = some .local := by first | exact .inl rfl | exact .inr rfl | assumption) : R1 X S H0 (.Assign [.Name nm p'] e pos) Γ T := fun F0 σ F H l =>
  PS.wp (ps_set (i := i) hN hi hx pe_wp hs hf) (he σ F H l.wd _ fun v F1 H1 sl Γ1 s1 r1 hf1 ⟨hff, hn⟩ => ⟨F1, _, (l.sp s1).setF r1 hff i, hn⟩)
theorem r1_retE (he : EE X e Γ (fun sl Γ' => sl.foot = [] ∧ T.rt sl Γ')) : R1 X S H0 (.Return (some e) pos) Γ T := fun F0 σ F H l =>
  PS.wp (ps_ret pe_wp) (he σ F H l.wd _ fun v F1 H1 sl Γ1 s1 r1 hf1 ⟨hff, hn⟩ => ⟨F1, Γ1, σ, sl, l.sp s1, r1, (by rw [hff]; intro b hb; cases hb), hn⟩)
theorem r1_ifE {A B : List Stmt} (hc : EET X c Γ (fun k Γ' => (k = true → RS X S H0 A Γ' T) ∧ (k = false → RS X S H0 B Γ' T))) : R1 X S H0 (.If c A B pos) Γ T := fun F0 σ F H l =>
  PS.wp (ps_if pt_wp pss_wp pss_wp) (hc σ F H l.wd _ fun k F1 H1 Γ1 s1 ⟨h1, h2⟩ => by
    cases k with
    | true => exact iteT (h1 rfl F0 σ F1 H1 (l.sp s1))
    | false => exact iteF (h2 rfl F0 σ F1 H1 (l.sp s1)))
end
end TL

/-! part TL14 -/
set_option exponentiation.threshold 256 -- TL14
set_option maxHeartbeats 1000000 -- TL14
set_option maxRecDepth 100000 -- TL14
/-! TL14: walks and comprehensions over range(..) with effects. -/
namespace TL
open PySem PySem.Spec PyProof.Rows L2 MA
section
variable {X : Cx} {S : List Addr} {F0 H0 F H F' H' F1 H1 F2 H2 : Hp} {e o a b c tg iter elt : Expr} {es : List Expr} {sts : List Stmt} {st : Stmt} {p pos apos : Pos} {Γ Γ' Γ1 Γ2 : List Sl} {T T' : TK} {i j : Int} {sl slO res : Sl} {sls : List Sl} {α β γ δ : Type} {R : Rp α} {R' : Rp β} {x : α} {y : β} {l : List α} {is : List Nat} {σ σ2 : L2.St} {P : Sl → List Sl → Prop}
theorem Sat.frz {D : Addr} {ob : HO} (hD : F D = none) (s1 : Same F (upd F D ob)) : ∀ {Γ : List Sl} {σ : L2.St}, D ∉ feet Γ → Sat F H Γ σ → Sat (upd F D ob) H Γ σ
  | [], [], _, _ => trivial
  | s :: Γ, o :: σ, hd, ⟨h1, h2⟩ => by
    refine ⟨?_, Sat.frz hD s1 (fun z => hd (List.mem_append_right _ z)) h2⟩
    have key : ∀ {Q : OwnP}, s.foot = Q.foot → ∀ b ∈ Q.foot, F b = none → upd F D ob b = none := fun {Q} hs b hb e => by
      have hne : b ≠ D := fun z => hd (List.mem_append_left _ (by rw [hs, ← z]; exact hb))
      rw [upd_ne hne]
      exact e
    cases s with
    | any => exact trivial
    | dat R a =>
      obtain ⟨v, ev, r⟩ := h1
      exact ⟨v, ev, R.mono s1 r⟩
    | own Q =>
      obtain ⟨ev, r, n⟩ := h1
      exact ⟨ev, Q.stable r s1 fun b _ => rfl, fun b hb => key rfl b hb (n b hb)⟩
    | bor Q =>
      obtain ⟨ev, r, n⟩ := h1
      exact ⟨ev, Q.stable r s1 fun b _ => rfl, fun b hb => key rfl b hb (n b hb)⟩
  | [], _ :: _, _, h => h.elim
  | _ :: _, [], _, h => h.elim
theorem stS_any : ∀ {Γ : List Sl} {v : Nat}, gtS Γ v = .any → stS Γ v .any = Γ
  | [], _, _ => rfl
  | s :: Γ, 0, h => by
    have e : s = .any := h
    subst e
    rfl
  | s :: Γ, v + 1, h => by
    show s :: stS Γ v .any = s :: Γ
    rw [stS_any (Γ := Γ) (v := v) h]
theorem feetO_stD {α : Type} {R : Rp α} {x : α} : ∀ {Γ : List Sl} {v : Nat}, gtS Γ v = .any → feetO (stS Γ v (.dat R x)) = feetO Γ
  | [], _, _ => rfl
  | s :: Γ, 0, h => by
    have e : s = .any := h
    subst e
    rfl
  | s :: Γ, v + 1, h => by
    show s.footO ++ feetO (stS Γ v (.dat R x)) = s.footO ++ feetO Γ
    rw [feetO_stD (Γ := Γ) (v := v) h]
theorem feet_stAny_sub {b : Addr} : ∀ {Γ : List Sl} {v : Nat}, b ∈ feetO (stS Γ v .any) → b ∈ feetO Γ := fun {Γ v} h => (feetO_st_sub h).elim (fun z => by cases z) id
/-- out of a block: the block's name is given back -/
theorem wd_out {v : Nat} (w : Wd F H Γ2 σ2) (hl : σ2.length = σ.length) (hs : ∀ j, j ≠ v → σ2[j]? = σ[j]?) : Wd F H (stS Γ2 v .any) σ := by
  have e : σ = σ2.set v (σ.getD v none) := by
    refine List.ext_getElem? fun j => ?_
    by_cases hj : v = j
    · subst hj
      by_cases hv : v < σ.length
      · rw [List.getElem?_set_self (by omega), List.getD_eq_getElem?_getD, List.getElem?_eq_getElem hv]
        rfl
      · rw [List.getElem?_eq_none (by omega), List.getElem?_eq_none (by rw [List.length_set]; omega)]
    · rw [List.getElem?_set_ne hj, hs j (Ne.symm hj)]
  rw [e]
  exact ⟨w.sub, w.sat.set trivial, feet_st_nd (sl := .any) List.nodup_nil w.nd fun b hb => by cases hb⟩
/-- range(e), e with effects -/
def ITR (X : Cx) (tg iter : Expr) (Γ : List Sl) (Pn : Nat → List Sl → Prop) : Prop :=
  ∃ wi, PI X tg iter wi ∧ ∀ σ F H, Wd F H Γ σ → ∀ Pt : It → Hp → Prop, (∀ n F' H' Γ', Sp Γ F H F' H' Γ' σ → n ≤ 1000000 → Pn n Γ' → Pt (Itr 0 n) H') → wi σ H Pt
theorem itr_range {Pn : Nat → List Sl → Prop} (h : EE X e Γ (fun s Γ1 => ∃ n : Nat, s = sI n ∧ n ≤ 1000000 ∧ Pn n Γ1)) (hm : X.mg "range" = none) (hg : Gl X "range" := by rfl) (hs : starEach [e] X.env = [(false, eval e X.env)] := by rfl) (hs1 : starEach [e] X.env = (false, eval e X.env) :: starEach [] X.env := by rfl) : ITR X tg (.Call (.Name "range" p) [e] [] pos) Γ Pn := by
  refine ⟨_, pi_range1 hg hm pa_wp hs, fun σ F H w Pt q => ?_⟩
  have ha : EEA X [e] Γ (fun sls Γ1 => ∃ n : Nat, sls = [sI n] ∧ n ≤ 1000000 ∧ Pn n Γ1) := eea_cons (ee_imp h fun s Γ1 ⟨n, e1, z, hp⟩ => ⟨by rw [e1]; rfl, eea_nil ⟨n, by rw [e1], z, hp⟩⟩) hs1
  refine ha σ F H w _ fun vs F' H' sls Γ' s1 r hf ⟨n, e1, z, hp⟩ => ?_
  subst e1
  obtain ⟨v, rfl, r1⟩ := sat1 r
  have e1 : v = .int n := sat_dat r1
  subst e1
  refine ⟨n, rfl, by omega, by omega, ?_⟩
  rw [Int.toNat_natCast]
  exact q n F' H' Γ' s1 z hp
/-- for x in range(e): -/
theorem r1_forR {body : List Stmt} (Pv : Nat → Nat → List Sl → Prop) (it : ITR X tg iter Γ (fun n Γ1 => Pv n 0 Γ1)) (hb : ∀ n i Γi, i < n → Pv n i Γi → ∃ is Γ', GT X tg is (.dat RNat i) Γi Γ' ∧ (∀ b ∈ feetO Γ', b ∈ feetO Γi) ∧ RS X S H0 body Γ' { T with nx := fun Γ2 => ∃ Γ3, Wk Γ2 Γ3 ∧ Pv n (i + 1) Γ3, ct := fun Γ2 => ∃ Γ3, Wk Γ2 Γ3 ∧ Pv n (i + 1) Γ3, bk := T.nx }) (hd : ∀ n Γ, Pv n n Γ → T.nx Γ)
    (hp : PassesOwn (model X.prog X.w) X.A X.env X.xe := by exact PassesOwn.never) (hc : X.calm = true := by rfl) (hs : ∀ x, foldedSetIterable iter X.env x = pure x := by intro _; rfl) : R1 X S H0 (.For tg iter body [] pos) Γ T := fun F0 σ F H lv => by
  obtain ⟨wi, hi, hr⟩ := it
  refine PS.wp (ps_for hp hc hi pg_wp pss_wp hs) (hr σ F H lv.wd _ fun n F1 H1 Γ1 s1 hz h0 => ?_)
  have lv1 := lv.sp s1
  refine for_it (walk_range (lo := 0) (n := n)) (fun i σ2 H2 => ∃ F2 Γ2, Lv S F0 H0 F2 H2 Γ2 σ2 ∧ Pv n i Γ2) ⟨F1, Γ1, lv1, h0⟩ (fun _ _ _ _ _ => trivial) ?_ ?_
  · rintro i x σ2 H2 H3 hi ⟨F2, Γ2, l2, p2⟩ ⟨rfl, rfl⟩
    obtain ⟨is, Γ', hg, hsub, hrun⟩ := hb n i Γ2 hi p2
    refine hg σ2 F2 H3 _ l2.wd (dat_sat (R := RNat) (x := i) (by show V.int (0 + (i : Int)) = V.int (i : Int); rw [Int.zero_add])) _ fun σ4 w4 _ => ?_
    have l4 : Lv S F0 H0 F2 H3 Γ' σ4 := ⟨l2.gr, w4, fun b hb => l2.mine b (hsub b hb)⟩
    intro pins s I
    refine wpAny_mono (hrun F0 σ4 F2 H3 l4 pins s I) (fun f s' q => ?_) fun _ _ z => z
    cases f with
    | next => obtain ⟨σ', H', I', F', Γ', l', Γ3, wk, q'⟩ := q; exact ⟨σ', H', I', F', Γ3, l'.wk wk, q'⟩
    | brk => exact q
    | cont => obtain ⟨σ', H', I', F', Γ', l', Γ3, wk, q'⟩ := q; exact ⟨σ', H', I', F', Γ3, l'.wk wk, q'⟩
    | ret u => exact q
  · rintro σ2 H2 ⟨F2, Γ2, l2, p2⟩
    exact ⟨F2, Γ2, l2, hd n Γ2 p2⟩
/-- [elt for x in range(e)], elt with effects; x stands at v, nothing there outside -/
theorem lcE_core {scope : Scope} {wi : TI} {nm : Str} {np : Pos} {v : Nat} (Pv : Nat → Nat → List β → List Sl → Prop)
    (it : ∀ σ F H, Wd F H Γ σ → ∀ Pt : It → Hp → Prop, (∀ n F' H' Γ', Sp Γ F H F' H' Γ' σ → n ≤ 1000000 → Pv n 0 [] Γ' → Pt (Itr 0 n) H') → wi σ H Pt)
    (hw : ∀ n i acc Γi, Pv n i acc Γi → gtS Γi v = .any ∧ feet Γi = feetO Γi)
    (hg : ∀ n i acc Γi, Pv n i acc Γi → InB X scope fun X' => GT X' (.Name nm np) [v] (.dat RNat i) Γi (stS Γi v (.dat RNat i)))
    (he : ∀ n i acc Γi, i < n → Pv n i acc Γi → InB X scope fun X' => EE X' elt (stS Γi v (.dat RNat i)) (fun sl Γ2 => ∃ b, sl = .dat R' b ∧ Pv n (i + 1) (acc ++ [b]) (stS Γ2 v .any)))
    (w0 : Wd F H Γ σ) {Q : VK} (q : ∀ u F' H' n acc Γ', Sp Γ F H F' H' Γ' σ → SlSat F' H' (.dat (RL R') acc) (some u) → acc.length = n → Pv n n acc Γ' → Q u H') : tLc wi (gAll X scope (.Name nm np)) tYes (eAll X scope elt) [v] σ H Q := by
  refine it σ F H w0 _ fun n F1 H1 Γ1 s1 hz h0 D hD => ?_
  have hDH : H D = none := by
    cases h : H D with
    | none => rfl
    | some o => exact absurd hD (s1.gr.there D (ne_none_of h))
  have hDf : ∀ {Γ : List Sl} {σ : L2.St} {F H : Hp}, H D = none → Sat F H Γ σ → D ∉ feet Γ := fun {Γ σ F H} h s z => (s.there z).1 h
  have hsl : sizeLine = 16777216 := rfl
  refine lc_it (walk_range (lo := 0) (n := n)) (fun i H2 => ∃ F2 xs acc Γi, Sp Γ F H F2 H2 Γi σ ∧ F2 D = none ∧ H2 D = some (.lst xs) ∧ Paired (R'.rel F2) xs acc ∧ D ∉ feet Γi ∧ acc.length = i ∧ Pv n i acc Γi) ?_ (fun _ _ _ _ => trivial) ?_ ?_
  · exact ⟨F1, [], [], Γ1, s1.trans (Sp.of s1.wd (Gr.mut s1.gr.sub hD)), s1.gr.sub.free hD, upd_same, .nil, hDf hD s1.wd.sat, rfl, h0⟩
  · rintro i x H2 H3 hi ⟨F2, xs, acc, Γi, s2, hn, hd, pr, hdf, hla, p2⟩ ⟨rfl, rfl⟩
    obtain ⟨hwv, hwf⟩ := hw n i acc Γi p2
    have hxs : xs.length = i := by rw [Paired.length pr, hla]
    have wB : Wd F2 H3 Γi (wipe σ [v]) := by
      have := wd_wipe s2.wd [v]
      rw [show wpS Γi [v] = stS Γi v .any from rfl, stS_any hwv] at this
      exact this
    intro s0 Hs C cl fp
    refine hg n i acc Γi p2 s0 Hs C cl fp (wipe σ [v]) F2 H3 _ wB (dat_sat (R := RNat) (x := i) (by show V.int (0 + (i : Int)) = V.int (i : Int); rw [Int.zero_add])) _ fun σ2 w2 st => ?_
    have hwip := wipe_stored st fun _ h => h
    refine ⟨hwip, ?_⟩
    unfold tYes
    dsimp only
    rw [if_pos rfl]
    intro s0 Hs C cl fp
    refine he n i acc Γi hi p2 s0 Hs C cl fp σ2 F2 H3 w2 _ fun u F3 H4 sl Γ3 s3 r3 hf3 ⟨y, e3, p3⟩ => ?_
    subst e3
    have fO : feetO (stS Γi v (.dat RNat i)) = feetO Γi := feetO_stD hwv
    have hdO : D ∉ feetO (stS Γi v (.dat RNat i)) := by rw [fO, ← hwf]; exact hdf
    have hd4 : H4 D = some (.lst xs) := s3.gr.keep D _ hdO hd
    have hn3 : F3 D = none := s3.gr.new D hn (ne_none_of hd)
    have wO : Wd F3 H4 (stS Γ3 v .any) σ := wd_out s3.wd (st.len.trans (wipe_len σ [v])) fun j hj => by
      rw [st.out j (by simpa using hj), wipe_get, if_neg (by simpa using hj)]
    obtain ⟨_, hwf3⟩ := hw n (i + 1) _ _ p3
    have hd3O : D ∉ feet (stS Γ3 v .any) := by
      rw [hwf3]
      intro z
      rcases s3.ft D (feet_stAny_sub z) with z | z
      · exact hdO z
      · rw [hd] at z; cases z
    have s34 : Sp Γ F H F3 H4 (stS Γ3 v .any) σ := by
      have g : GrS (feetO Γi) F2 H3 F3 H4 := by rw [← fO]; exact s3.gr
      exact s2.trans ⟨g, wO, fun b hb => (s3.ft b (feet_stAny_sub hb)).imp (fun z => by rw [fO] at z; exact z) id⟩
    refine ⟨xs, hd4, by omega, F3, xs ++ [u], acc ++ [y], stS Γ3 v .any, ⟨s34.gr.write hn3 (.inr hDH), ⟨fun b o e => ?_, ?_, wO.nd⟩, s34.ft⟩, hn3, upd_same, Paired.snoc (paired_mono s3.gr.fz pr) (sat_dat r3), hd3O, by rw [List.length_append, hla]; rfl, p3⟩
    · rw [upd_ne (ne_of_none e hn3)]
      exact wO.sub b o e
    · exact wO.sat.grow (S := [D]) ((GrS.refl wO.sub).write hn3 (.inl (by simp))) fun b hb => by
        have hne : b ≠ D := fun z => hd3O (z ▸ hb)
        simpa using hne
  · rintro H2 ⟨F2, xs, acc, Γi, s2, hn, hd, pr, hdf, hla, p2⟩
    have s23 : Same F2 (upd F2 D (.lst xs)) := fun b u e => by rw [upd_ne (ne_of_none e hn)]; exact e
    refine q (.ref D) (upd F2 D (.lst xs)) H2 n acc Γi ⟨s2.gr.freeze hDH hd hn, ⟨fun b o e => ?_, Sat.frz hn s23 hdf s2.wd.sat, s2.wd.nd⟩, s2.ft⟩ (dat_sat (R := RL R') (x := acc) ⟨D, xs, rfl, upd_same, by omega, paired_mono s23 pr⟩) hla p2
    by_cases hb : b = D
    · subst hb; rw [upd_same] at e; cases e; exact hd
    · rw [upd_ne hb] at e; exact s2.wd.sub b o e
theorem ee_lcR {scope : Scope} {nm : Str} {np : Pos} (v : Nat) (Pv : Nat → Nat → List β → List Sl → Prop) (it : ITR X (.Name nm np) iter Γ (fun n Γ1 => Pv n 0 [] Γ1)) (ok : BlkOk X.N X.env.scope scope [(nm, v)])
    (hw : ∀ n i acc Γi, Pv n i acc Γi → gtS Γi v = .any ∧ feet Γi = feetO Γi)
    (hg : ∀ n i acc Γi, Pv n i acc Γi → InB X scope fun X' => GT X' (.Name nm np) [v] (.dat RNat i) Γi (stS Γi v (.dat RNat i)))
    (he : ∀ n i acc Γi, i < n → Pv n i acc Γi → InB X scope fun X' => EE X' elt (stS Γi v (.dat RNat i)) (fun sl Γ2 => ∃ b, sl = .dat R' b ∧ Pv n (i + 1) (acc ++ [b]) (stS Γ2 v .any)))
    (hd : ∀ n acc Γ', acc.length = n → Pv n n acc Γ' → P (.dat (RL R') acc) Γ') (hN : X.N.Nodup := by assumption) (hc : X.calm = true := by rfl) (hs : ∀ x, foldedSetIterable iter X.env x = pure x := by intro _; rfl) : EE X (.ListComp elt [⟨.Name nm np, iter, [], 0⟩] scope pos) Γ P := fun σ F H w Q q => by
  obtain ⟨wi, hi, hr⟩ := it
  exact PE.wp (pe_lc hc hN hi ok gAll_pg (fun _ _ _ _ _ => pts_nil) eAll_pe hs)
    (lcE_core Pv hr hw hg he w fun u F' H' n acc Γ' s r hl pv => q u F' H' _ Γ' s r (fun b hb => by cases hb) (hd n acc Γ' hl pv))
/-- y = [elt for x in range(e)], y a plain local -/
theorem r1_setLcR (i : Nat) {scope : Scope} {nm nmy : Str} {np py p2 : Pos} (v : Nat) (Pv : Nat → Nat → List β → List Sl → Prop) (it : ITR X (.Name nm np) iter Γ (fun n Γ1 => Pv n 0 [] Γ1)) (ok : BlkOk X.N X.env.scope scope [(nm, v)])
    (hw : ∀ n i acc Γi, Pv n i acc Γi → gtS Γi v = .any ∧ feet Γi = feetO Γi)
    (hg : ∀ n i acc Γi, Pv n i acc Γi → InB X scope fun X' => GT X' (.Name nm np) [v] (.dat RNat i) Γi (stS Γi v (.dat RNat i)))
    (he : ∀ n i acc Γi, i < n → Pv n i acc Γi → InB X scope fun X' => EE X' elt (stS Γi v (.dat RNat i)) (fun sl Γ2 => ∃ b, sl = .dat R' b ∧ Pv n (i + 1) (acc ++ [b]) (stS Γ2 v .any)))
    (hd : ∀ n acc Γ', acc.length = n → Pv n n acc Γ' → T.nx (stS Γ' i (.dat (RL R') acc))) (hi : X.N[i]? = some nmy := by rfl) (hl : X.env.scope.names.lookup nmy = some .local := by rfl)
    (hsw : swapsWith (.ListComp elt [⟨.Name nm np, iter, [], 0⟩] scope p2) (some (.Name nmy py)) pos.line X.env = pure true := by exact sw_true rfl rfl rfl (by decide +kernel)) (hN : X.N.Nodup := by assumption) (hc : X.calm = true := by rfl) (hs : ∀ x, foldedSetIterable iter X.env x = pure x := by intro _; rfl) : R1 X S H0 (.Assign [.Name nmy py] (.ListComp elt [⟨.Name nm np, iter, [], 0⟩] scope p2) pos) Γ T := fun F0 σ F H lv => by
  obtain ⟨wi, hpi, hr⟩ := it
  refine PS.wp (ps_setLc hc hN hi hl hsw hpi ok gAll_pg (fun _ _ _ _ _ => pts_nil) eAll_pe hs) ?_
  exact lcE_core Pv hr hw hg he lv.wd fun u F' H' n acc Γ' s r hla pv => ⟨F', _, (lv.sp s).setF r rfl i, hd n acc Γ' hla pv⟩
end
end TL

/-! part PE0 -/
set_option exponentiation.threshold 256 -- PE0
set_option maxHeartbeats 1000000 -- PE0
set_option maxRecDepth 100000 -- PE0
/-! PE0: the deck. -/
namespace PL
open PySem PySem.Spec PyProof.Rows L2 TL KHd MA PD
/-- the deck: great cells, the open one, the mark, the draws so far -/
def dkC (D G : Addr) (hd : [D, G].Nodup) (gr : List Int) (x m c : Int) : OwnP where
  foot := [D, G]
  val := .ref D
  holds := fun F H => H D = some (.lst [.ref G, .int x, .int m, .int c]) ∧ H G = some (.lst (gr.map V.int)) ∧ gr.length ≤ sizeLine
  stable := fun ⟨h1, h2, h3⟩ s h => ⟨by rw [h D (by simp)]; exact h1, by rw [h G (by simp)]; exact h2, h3⟩
  there := fun ⟨h1, h2, _⟩ b hb => by
    rcases List.mem_cons.mp hb with rfl | hb
    · exact ne_none_of h1
    · have : b = G := by simpa using hb
      subst this
      exact ne_none_of h2
  nd := hd
structure DkN (n : Nat) (m c : Int) : Prop where
  m0 : 0 ≤ m
  m1 : m < 2 ^ 62
  c0 : 0 ≤ c
  c1 : c ≤ n
def dkO (D G : Addr) (hd : [D, G].Nodup) (n : Nat) : OwnP where
  foot := [D, G]
  val := .ref D
  holds := fun F H => ∃ gr x m c, (dkC D G hd gr x m c).holds F H ∧ DkN n m c
  stable := fun ⟨gr, x, m, c, h1, h2⟩ s h => ⟨gr, x, m, c, (dkC D G hd gr x m c).stable h1 s h, h2⟩
  there := fun ⟨gr, x, m, c, h1, h2⟩ b hb => (dkC D G hd gr x m c).there h1 b hb
  nd := hd
section
variable {X : Cx} {S : List Addr} {F0 H0 F H F' H' F1 H1 : Hp} {e o a b : Expr} {sts : List Stmt} {p pos apos p1 p2 p3 : Pos} {Γ Γ' : List Sl} {T T' : TK} {i j : Int} {D G : Addr} {hd : [D, G].Nodup} {gr : List Int} {x m c : Int} {nm : Str} {jj : Nat} {σ : L2.St}
theorem hne_of (hd : [D, G].Nodup) : G ≠ D := fun z => by subst z; simp at hd
/-- an own thing seen another way -/
theorem rs_view {γ : Type} (n : Nat) {P : OwnP} {P' : γ → OwnP} (h0 : gtS Γ n = .own P) (hf : ∀ w, (P' w).foot = P.foot) (hv : ∀ w, (P' w).val = P.val) (hh : ∀ F H, P.holds F H → ∃ w, (P' w).holds F H) (h : ∀ w, RS X S H0 sts (stS Γ n (.own (P' w))) T) : RS X S H0 sts Γ T := fun F0 σ F H l => by
  obtain ⟨e1, h1, hn⟩ := l.wd.sat.own h0
  obtain ⟨w, hw⟩ := hh F H h1
  have : Sat F H (stS Γ n (.own (P' w))) σ := by
    have := l.wd.sat.set (i := n) (sl := .own (P' w)) (o := some P.val) ⟨by rw [hv], hw, by rw [hf]; exact hn⟩
    rw [set_self e1] at this
    exact this
  exact h w F0 σ F H ⟨l.gr, ⟨l.wd.sub, this, by rw [feet_st_same (hf w) h0]; exact l.wd.nd⟩, fun b hb => l.mine b (by rw [feetO_st_same (hf w) h0] at hb; exact hb)⟩
theorem rs_open {n k : Nat} (h0 : gtS Γ k = .own (dkO D G hd n)) (h : ∀ gr x m c, DkN n m c → RS X S H0 sts (stS Γ k (.own (dkC D G hd gr x m c))) T) : RS X S H0 sts Γ T :=
  rs_view (γ := { w : List Int × Int × Int × Int // DkN n w.2.2.1 w.2.2.2 }) (P' := fun w => dkC D G hd w.1.1 w.1.2.1 w.1.2.2.1 w.1.2.2.2) k h0 (fun _ => rfl) (fun _ => rfl) (fun F H ⟨gr, x, m, c, h1, h2⟩ => ⟨⟨(gr, x, m, c), h2⟩, h1⟩) (fun w => h _ _ _ _ w.2)
theorem rs_close {n k : Nat} (h0 : gtS Γ k = .own (dkC D G hd gr x m c)) (hn : DkN n m c) (h : RS X S H0 sts (stS Γ k (.own (dkO D G hd n))) T) : RS X S H0 sts Γ T :=
  rs_view (γ := Unit) (P' := fun _ => dkO D G hd n) k h0 (fun _ => rfl) (fun _ => rfl) (fun F H h1 => ⟨(), gr, x, m, c, h1, hn⟩) (fun _ => h)
/-- deck[1], deck[2], deck[3] -/
theorem ex_dk {k : Nat} {v : Int} (ha : EX X a Γ (.own (dkC D G hd gr x m c))) (hk : [V.ref G, V.int x, V.int m, V.int c][k]? = some (.int v)) : EX X (.Subscript a (.Constant (.int (k : Int)) jj p2) pos) Γ (sI v) := fun σ F H w Q q =>
  PE.wp (pe_ix ix_list pe_wp pe_int (fun _ _ => rfl)) (ha σ F H w _ fun u F1 H1 g1 r1 => by
    obtain ⟨e1, ⟨h1, _⟩, _⟩ := r1
    have e2 : u = .ref D := Option.some.inj e1
    subst e2
    exact ⟨D, _, k, .int v, rfl, rfl, SqL.of h1, atI_nat hk, q _ F1 H1 g1 (dat_sat rfl)⟩)
theorem ex_dk1 (ha : EX X a Γ (.own (dkC D G hd gr x m c))) : EX X (.Subscript a (.Constant (.int 1) jj p2) pos) Γ (sI x) := ex_dk (k := 1) ha rfl
theorem ex_dk2 (ha : EX X a Γ (.own (dkC D G hd gr x m c))) : EX X (.Subscript a (.Constant (.int 2) jj p2) pos) Γ (sI m) := ex_dk (k := 2) ha rfl
theorem ex_dk3 (ha : EX X a Γ (.own (dkC D G hd gr x m c))) : EX X (.Subscript a (.Constant (.int 3) jj p2) pos) Γ (sI c) := ex_dk (k := 3) ha rfl
theorem dp_all {K : PySem.W.Frag} {H : Hp} : ∀ l : List Int, DpAll K H (l.map V.int) (l.map PyData.int)
  | [] => .nil
  | x :: l => .cons (.int x) (dp_all l)
/-- deck[0] != [] -/
theorem et_dk0 (hu : X.A.units + 64 < cLine) (ha : EX X a Γ (.own (dkC D G hd gr x m c))) : ET X (.Compare (.Subscript a (.Constant (.int 0) jj p2) p1) [.NotEq] [.List [] p3] pos) Γ (!decide (gr = [])) := fun σ F H w Q q =>
  PT.wp (pt_cmpR (op_neD hu) (pe_ix ix_list pe_wp pe_int (fun _ _ => rfl)) (pe_lst pa_nil) (nomark _)) (ha σ F H w _ fun u F1 H1 g1 r1 => by
    obtain ⟨e1, ⟨h1, h2, _⟩, hn⟩ := r1
    have e2 : u = .ref D := Option.some.inj e1
    subst e2
    refine ⟨D, _, 0, .ref G, rfl, rfl, SqL.of h1, atI_0, Nat.zero_le _, fun p hp => ?_⟩
    have g2 := Gr.alloc (o := .lst []) g1.sub hp
    have hG : (upd H1 p (.lst [])) G = some (.lst (gr.map V.int)) := by
      rw [upd_ne fun z => by subst z; rw [h2] at hp; cases hp]
      exact h2
    have sh : ∀ l : List Int, SeqAt.shaped (.list (l.map PyData.int)) = true := fun l => (dr_list dr_int).sh (by decide) l
    refine ⟨.list (gr.map .int), .list [], .lst (SqL.of hG) (dp_all gr), .lst (SqL.of upd_same) .nil, sh gr, sh [], ⟨_, rfl, ?_⟩⟩
    have e : PyData.eqv (.list (gr.map PyData.int)) (.list []) = decide (gr = []) := (dr_list dr_int).eqd gr []
    rw [e]
    exact q _ _ (g1.trans g2))
/-- deck[k] = e -/
theorem r1_dk (n k : Nat) {v : Int} {x' m' c' : Int} (h0 : gtS Γ n = .own (dkC D G hd gr x m c)) (he : EX X e Γ (sI v)) (hk : k < 4) (hx : [V.ref G, V.int x, V.int m, V.int c].set k (.int v) = [V.ref G, V.int x', V.int m', V.int c']) (h : T.nx (stS Γ n (.own (dkC D G hd gr x' m' c'))))
    (hN : X.N[n]? = some nm := by rfl) (hv : Vis X.env.scope nm := by first | exact Or.inl rfl | exact Or.inr (Or.inl rfl) | exact Or.inr (Or.inr rfl)) (hdb : (nm == ("__debug__" : Str)) = false := by decide) (hcd : (nm == ("__classdict__" : Str)) = false := by decide)
    (has : ∀ v, assign (.Subscript (.Name nm p1) (.Constant (.int (k : Int)) jj p3) p2) X.env v = (do
      let ov ← holding [v] (eval (.Name nm p1) X.env)
      let iv ← holding [v, ov] (eval (.Constant (.int (k : Int)) jj p3) X.env)
      standAt p2
      holding [v, ov, iv] (setItem ov iv v)
      release [v, ov, iv] []) := by intro _; rfl) (hs : swapsWithSole [.Subscript (.Name nm p1) (.Constant (.int (k : Int)) jj p3) p2] e pos.line X.env = pure false := by rfl) (hw : swappedStores [.Subscript (.Name nm p1) (.Constant (.int (k : Int)) jj p3) p2] e X.env = pure none := by rfl)
    (h1 : (assignEach [.Subscript (.Name nm p1) (.Constant (.int (k : Int)) jj p3) p2] X.env).map (·.2) = [assign (.Subscript (.Name nm p1) (.Constant (.int (k : Int)) jj p3) p2) X.env] := by rfl) : R1 X S H0 (.Assign [.Subscript (.Name nm p1) (.Constant (.int (k : Int)) jj p3) p2] e pos) Γ T := fun F0 σ F H l => by
  refine PS.wp (ps_asg pe_wp (pg_sub (pe_var (i := n) hN hv hdb hcd) pe_int set_list has) hs hw h1) ?_
  refine he σ F H l.wd _ fun u F1 H1 g1 r1 => ?_
  have l1 := l.grow g1
  obtain ⟨e1, ⟨hD, hG, hz⟩, _⟩ := l1.wd.sat.own h0
  have e2 : u = .int v := sat_dat r1
  subst e2
  refine ⟨.ref D, e1, D, _, k, k, rfl, rfl, hD, ?_, F1, _, l1.chg (P' := dkC D G hd gr x' m' c') h0 (by simp [dkC]) rfl rfl ⟨?_, ?_, hz⟩, h⟩
  · unfold ixN
    rw [if_pos (by omega), if_pos (by show (k : Int) < 4; omega), Int.toNat_natCast]
  · rw [upd_same, hx]
  · rw [upd_ne (hne_of hd)]
    exact hG
/-- deck[1] = deck[0].pop() -/
theorem r1_dkpop (n : Nat) {y : Int} {gr0 : List Int} {j1 j2 : Nat} {p4 p5 p6 p7 p8 : Pos} (h0 : gtS Γ n = .own (dkC D G hd (gr0 ++ [y]) x m c)) (h : T.nx (stS Γ n (.own (dkC D G hd gr0 y m c))))
    (hN : X.N[n]? = some nm := by rfl) (hv : Vis X.env.scope nm := by first | exact Or.inl rfl | exact Or.inr (Or.inl rfl) | exact Or.inr (Or.inr rfl)) (hdb : (nm == ("__debug__" : Str)) = false := by decide) (hcd : (nm == ("__classdict__" : Str)) = false := by decide)
    (has : ∀ v, assign (.Subscript (.Name nm p1) (.Constant (.int 1) j1 p3) p2) X.env v = (do
      let ov ← holding [v] (eval (.Name nm p1) X.env)
      let iv ← holding [v, ov] (eval (.Constant (.int 1) j1 p3) X.env)
      standAt p2
      holding [v, ov, iv] (setItem ov iv v)
      release [v, ov, iv] []) := by intro _; rfl)
    (hbase : attributeBase (.Subscript (.Name nm p4) (.Constant (.int 0) j2 p5) p6) "pop" X.env (eval (.Subscript (.Name nm p4) (.Constant (.int 0) j2 p5) p6) X.env) = eval (.Subscript (.Name nm p4) (.Constant (.int 0) j2 p5) p6) X.env := by rfl) (hline : (p7.endLine == p8.line) = true := by rfl)
    (hs : swapsWithSole [.Subscript (.Name nm p1) (.Constant (.int 1) j1 p3) p2] (.Call (.Attribute (.Subscript (.Name nm p4) (.Constant (.int 0) j2 p5) p6) "pop" p7) [] [] p8) pos.line X.env = pure false := by rfl) (hw : swappedStores [.Subscript (.Name nm p1) (.Constant (.int 1) j1 p3) p2] (.Call (.Attribute (.Subscript (.Name nm p4) (.Constant (.int 0) j2 p5) p6) "pop" p7) [] [] p8) X.env = pure none := by rfl)
    (h1 : (assignEach [.Subscript (.Name nm p1) (.Constant (.int 1) j1 p3) p2] X.env).map (·.2) = [assign (.Subscript (.Name nm p1) (.Constant (.int 1) j1 p3) p2) X.env] := by rfl) : R1 X S H0 (.Assign [.Subscript (.Name nm p1) (.Constant (.int 1) j1 p3) p2] (.Call (.Attribute (.Subscript (.Name nm p4) (.Constant (.int 0) j2 p5) p6) "pop" p7) [] [] p8) pos) Γ T := fun F0 σ F H l => by
  refine PS.wp (ps_asg (pe_bm0 PySem.F.plainAttrs_list PySem.F.slot_list_pop PySem.F.type_list_pop mt_pop (pe_ix ix_list (pe_var (i := n) hN hv hdb hcd) pe_int (fun _ _ => rfl)) hbase hline) (pg_sub (pe_var (i := n) hN hv hdb hcd) pe_int set_list has) hs hw h1) ?_
  obtain ⟨e1, ⟨hD, hG, hz⟩, hn⟩ := l.wd.sat.own h0
  have hne := hne_of hd
  have hl : (gr0 ++ [y]).map V.int = gr0.map V.int ++ [V.int y] := by rw [List.map_append]; rfl
  refine ⟨.ref D, e1, D, _, 0, .ref G, rfl, rfl, SqL.of hD, atI_0, .inl ⟨rfl, _, SqL.of hG⟩, G, _, .int y, rfl, rfl, hG, ?_, ?_⟩
  · rw [hl]
    simp
  · rw [hl, List.dropLast_concat]
    have hD2 : (upd H G (.lst (gr0.map V.int))) D = some (.lst [.ref G, .int x, .int m, .int c]) := by rw [upd_ne hne.symm]; exact hD
    rw [List.length_append] at hz
    have l1 := l.chg (P' := dkC D G hd gr0 x m c) (D := G) (o := .lst (gr0.map V.int)) h0 (by simp [dkC]) rfl rfl ⟨hD2, upd_same, by omega⟩
    have h01 : gtS (stS Γ n (.own (dkC D G hd gr0 x m c))) n = .own (dkC D G hd gr0 x m c) := by
      have : ∀ {Γ : List Sl} {n : Nat} {P P' : OwnP}, gtS Γ n = .own P → gtS (stS Γ n (.own P')) n = .own P' := by
        intro Γ
        induction Γ with
        | nil => intro n P P' h; cases h
        | cons s Γ ih =>
          intro n P P' h
          cases n with
          | zero => rfl
          | succ n => exact ih (n := n) h
      exact this h0
    have hss : ∀ {Γ : List Sl} {n : Nat} {s t : Sl}, stS (stS Γ n s) n t = stS Γ n t := by
      intro Γ
      induction Γ with
      | nil => intro n s t; rfl
      | cons s0 Γ ih =>
        intro n s t
        cases n with
        | zero => rfl
        | succ n => exact congrArg (s0 :: ·) ih
    refine ⟨.ref D, e1, D, _, 1, 1, rfl, rfl, hD2, rfl, F, _, ?_, h⟩
    have := l1.chg (P' := dkC D G hd gr0 y m c) (D := D) (o := .lst [.ref G, .int y, .int m, .int c]) h01 (by simp [dkC]) rfl rfl ⟨upd_same, by rw [upd_ne hne, upd_same], by omega⟩
    rw [hss] at this
    exact this
end
end PL

/-! part PE1 -/
set_option exponentiation.threshold 256 -- PE1
set_option maxHeartbeats 1000000 -- PE1
set_option maxRecDepth 100000 -- PE1
/-! PE1: draws. -/
namespace PL
open PySem PySem.Spec L2 TL KHd MA PD
variable {P : Program} {w : World} {K : PySem.W.Frag} {mg : Str → Option Value} {base : Heap}
theorem fmod_rng {lim : Int} (h : 0 < lim) (a : Int) : ∃ k : Nat, (k : Int) < lim ∧ a.fmod lim = k := by
  rw [Int.fmod_eq_emod_of_nonneg _ (by omega)]
  have h1 := Int.emod_nonneg a (show lim ≠ 0 by omega)
  have h2 := Int.emod_lt_of_pos a h
  exact ⟨(a % lim).toNat, by omega, by omega⟩
theorem DkN.mono {n n' : Nat} {m c : Int} (h : DkN n m c) (hn : n ≤ n') : DkN n' m c := ⟨h.m0, h.m1, h.c0, by have := h.c1; omega⟩
/-! ### _law_draw -/
abbrev nDw : List Str := ["_law_deck_here", "_law_limit", "_law_found", "_law_stir"]
theorem sc_dw : FnScope nDw ["_law_deck_here", "_law_limit"] (defScope s__law_draw) := ⟨rfl, rfl, rfl, by decide +kernel, rfl, by decide +kernel, by decide +kernel⟩
def drew (D G : Addr) (hd : [D, G].Nodup) (n : Nat) (R : Sl → Prop) : Sl → List Sl → Prop := fun sl Γ => R sl ∧ gtS Γ 0 = .own (dkO D G hd n)
def tb_dw : List Sl → (Sl → List Sl → Prop) → Prop := fun args post => ∃ (D G : Addr) (hd : [D, G].Nodup) (n : Nat) (lim : Int), args = [.own (dkO D G hd n), sI lim] ∧ 0 < lim ∧ lim ≤ 1000 ∧ n ≤ 10000 ∧ post = drew D G hd (n + 1) fun sl => ∃ k : Nat, (k : Int) < lim ∧ sl = sI k
theorem ok_draw (T : TX K mg) : Gn P w K mg base 1 "_law_draw" ["_law_deck_here", "_law_limit"] tb_dw := by
  obtain ⟨fd, F⟩ := T.u__law_draw
  refine ⟨_, fd, fn_eff (N := nDw) F sc_dw ?_ ?_, F.bindsN fun _ _ _ _ _ _ us hl => match us, hl with | [_, _], _ => rfl, T.g__law_draw, F.kp⟩
  · rintro args res ⟨_, _, _, _, _, rfl, _⟩
    rfl
  · rintro cdv A outer s H E args res hr ⟨D, G, hd, n, lim, rfl, hl0, hl1, hn, rfl⟩
    have hN := sc_dw.nd
    have hlim : Bt 8000 lim := bt_mono (a := 20) (show lim.natAbs < 2 ^ 20 by omega) (by decide)
    show RS _ _ _ _ [.own (dkO D G hd n), sI lim, .any, .any] _
    refine rs_open (k := 0) rfl fun gr x m c hdk => ?_
    show RS _ _ _ _ [.own (dkC D G hd gr x m c), sI lim, .any, .any] _
    have rest : ∀ gr x, RS (BX P w K mg base nDw "_law_draw" s__law_draw (He.ga K "_law_draw") cdv A outer s H E) (feetO [.own (dkO D G hd n), sI lim]) H ((defBody s__law_draw).drop 1) [.own (dkC D G hd gr x m c), sI lim, .any, .any] { nx := fun Γ => drew D G hd (n + 1) (fun sl => ∃ k : Nat, (k : Int) < lim ∧ sl = sI k) (.dat RNon ()) Γ, rt := drew D G hd (n + 1) fun sl => ∃ k : Nat, (k : Int) < lim ∧ sl = sI k } := by
      intro gr x
      refine rs_cons (r1_if (et_gt (ex_dk1 (ex_var 0 rfl)) ex_int) (fun h => ?_) (fun h => rs_nil ?_))
      · refine rs_cons (r1_set (sl := sI (x.fmod lim)) 2 (ex_mod (ex_intI T.f_int (ex_dk1 (ex_var 0 rfl))) (ex_var 1 rfl) (by omega)) ?_)
        refine rs_cons (r1_dk 0 1 (x' := x.fdiv lim) (m' := m) (c' := c) rfl (ex_fdiv (ex_dk1 (ex_var 0 rfl)) (ex_var 1 rfl) (dv_div hlim (by omega))) (by decide) rfl ?_)
        refine rs_close (n := n + 1) (k := 0) rfl (hdk.mono (by omega)) ?_
        obtain ⟨k, hk, e⟩ := fmod_rng hl0 x
        exact rs_one (r1_ret (sl := sI k) (ex_to (ex_var 2 rfl) (by rw [e]; rfl)) ⟨⟨k, hk, rfl⟩, rfl⟩)
      · refine rs_cons (r1_dk 0 3 (x' := x) (m' := m) (c' := c + 1) rfl (ex_add (ex_dk3 (ex_var 0 rfl)) ex_int) (by decide) rfl ?_)
        have c0 := hdk.c0
        have c1 := hdk.c1
        have m0 := hdk.m0
        have m1 := hdk.m1
        have q1 : (c + 1) * (c + 1) ≤ 10001 * 10001 := Int.mul_le_mul (by omega) (by omega) (by omega) (by decide)
        have q0 : 0 ≤ (c + 1) * (c + 1) := Int.mul_nonneg (by omega) (by omega)
        have q2 : 7907 * (c + 1) * (c + 1) = 7907 * ((c + 1) * (c + 1)) := Int.mul_assoc _ _ _
        have b1 : Bt 20 (c + 1) := show (c + 1).natAbs < 2 ^ 20 by omega
        have b2 : Bt 40 (7907 * (c + 1)) := show (7907 * (c + 1)).natAbs < 2 ^ 40 by omega
        refine rs_cons (r1_set (sl := sI (((m + 7907 * (c + 1) * (c + 1)) ^ 2).fmod 1000000000000000000000007)) 3 (ex_mod (ex_intI T.f_int (ex_pow (j := 2) (ex_add (ex_dk2 (ex_var 0 rfl)) (ex_mul (ex_mul ex_int (ex_dk3 (ex_var 0 rfl)) (bt_cmul (a := 20) (b := 20) (by unfold Bt; decide) b1 (by decide))) (ex_dk3 (ex_var 0 rfl)) (bt_cmul b2 b1 (by decide)))) ex_int ⟨by decide, by decide, ?_⟩)) ex_int (by decide)) ?_)
        · rw [q2]
          generalize (c + 1) * (c + 1) = z at *
          omega
        obtain ⟨st, hst, est⟩ := fmod_rng (lim := 1000000000000000000000007) (by decide) ((m + 7907 * (c + 1) * (c + 1)) ^ 2)
        rw [est]
        refine rs_close (n := n + 1) (k := 0) rfl ⟨m0, m1, by omega, by omega⟩ ?_
        have b3 : Bt 90 (st : Int) := show (st : Int).natAbs < 2 ^ 90 by omega
        have b4 : Bt 90 ((st : Int) + 41) := show ((st : Int) + 41).natAbs < 2 ^ 90 by omega
        obtain ⟨k, hk, e⟩ := fmod_rng hl0 ((((st : Int) * ((st : Int) + 41)).fmod 1000000000000000000117).fdiv 1009)
        exact rs_one (r1_ret (ex_to (ex_mod (ex_fdiv (ex_mod (ex_intI T.f_int (ex_mul (ex_var 3 rfl) (ex_add (ex_var 3 rfl) ex_int) (bt_cmul b3 b4 (by decide)))) ex_int (by decide)) ex_int (dv_div (bt_mono (a := 20) (by unfold Bt; decide) (by decide)) (by decide))) (ex_var 1 rfl) (by omega)) (by rw [e])) ⟨⟨k, hk, rfl⟩, rfl⟩)
    refine rs_cons (r1_if (et_and (et_eq (ex_dk1 (ex_var 0 rfl)) ex_int) fun _ => et_dk0 hr.units (ex_var 0 rfl)) (fun h => ?_) (fun h => rs_nil (rest gr x)))
    have hne : gr ≠ [] := by
      rw [Bool.and_eq_true] at h
      simpa using h.2
    obtain ⟨gr0, y, rfl⟩ : ∃ gr0 y, gr = gr0 ++ [y] := ⟨gr.dropLast, gr.getLast hne, (List.dropLast_concat_getLast hne).symm⟩
    exact rs_one (r1_dkpop 0 rfl (rest gr0 y))
/-- a draw -/
theorem ee_draw {X : Cx} (n0 : Nat) {xn : Str} {p p1 pos : Pos} {e : Expr} {Γ : List Sl} {Q : Sl → List Sl → Prop} {D G : Addr} {hd : [D, G].Nodup} {n : Nat} (T : TX X.K X.mg) (hr : Room 1 X.A) (hn : gtS Γ n0 = .own (dkO D G hd n))
    (ha : EE X e Γ (fun s Γ1 => ∃ (lim : Int) (n1 : Nat), s = sI lim ∧ gtS Γ1 n0 = .own (dkO D G hd n1) ∧ 0 < lim ∧ lim ≤ 1000 ∧ n1 ≤ 10000 ∧ ∀ k : Nat, (k : Int) < lim → Q (sI k) (stS Γ1 n0 (.own (dkO D G hd (n1 + 1))))))
    (hN : X.N[n0]? = some xn := by rfl) (hv : Vis X.env.scope xn := by first | exact Or.inl rfl | exact Or.inr (Or.inl rfl) | exact Or.inr (Or.inr rfl)) (hdb : (xn == ("__debug__" : Str)) = false := by decide) (hcd : (xn == ("__classdict__" : Str)) = false := by decide)
    (hg : Gl X "_law_draw" := by rfl) (he1 : starEach [e] X.env = (false, eval e X.env) :: starEach [] X.env := by rfl) (he : starEach (.Name xn p1 :: [e]) X.env = (false, eval (.Name xn p1) X.env) :: starEach [e] X.env := by rfl) (hpl : (backTo pos (starEach [e] X.env)).any (·.1) = false := by rfl) : EE X (.Call (.Name "_law_draw" p) [.Name xn p1, e] [] pos) Γ Q :=
  ee_callD n0 (ok_draw T) hr hn (eea_cons (ee_imp ha fun s Γ1 ⟨lim, n1, e1, h1, h2, h3, h4, h5⟩ => ⟨by rw [e1]; rfl, eea_nil ⟨_, _, h1, rfl, ⟨D, G, hd, n1, lim, by rw [e1], h2, h3, h4, rfl⟩, by
    rintro sl Γc ⟨⟨k, hk, rfl⟩, h0⟩
    exact ⟨_, h0, rfl, rfl, rfl, h5 k hk⟩⟩⟩) he1) hN hv hdb hcd hg (by decide) he hpl
/-- a draw below a number that is told -/
theorem ee_drawI {X : Cx} (n0 : Nat) {xn : Str} {p p1 pos : Pos} {e : Expr} {Γ : List Sl} {Q : Sl → List Sl → Prop} {D G : Addr} {hd : [D, G].Nodup} {n : Nat} {lim : Int} (T : TX X.K X.mg) (hr : Room 1 X.A) (hn : gtS Γ n0 = .own (dkO D G hd n)) (ha : EX X e Γ (sI lim)) (h0 : 0 < lim) (h1 : lim ≤ 1000) (h2 : n ≤ 10000) (hq : ∀ k : Nat, (k : Int) < lim → Q (sI k) (stS Γ n0 (.own (dkO D G hd (n + 1)))))
    (hN : X.N[n0]? = some xn := by rfl) (hv : Vis X.env.scope xn := by first | exact Or.inl rfl | exact Or.inr (Or.inl rfl) | exact Or.inr (Or.inr rfl)) (hdb : (xn == ("__debug__" : Str)) = false := by decide) (hcd : (xn == ("__classdict__" : Str)) = false := by decide)
    (hg : Gl X "_law_draw" := by rfl) (he1 : starEach [e] X.env = (false, eval e X.env) :: starEach [] X.env := by rfl) (he : starEach (.Name xn p1 :: [e]) X.env = (false, eval (.Name xn p1) X.env) :: starEach [e] X.env := by rfl) (hpl : (backTo pos (starEach [e] X.env)).any (·.1) = false := by rfl) : EE X (.Call (.Name "_law_draw" p) [.Name xn p1, e] [] pos) Γ Q :=
  ee_draw n0 T hr hn (ee_exP ha ⟨lim, n, rfl, hn, h0, h1, h2, hq⟩) hN hv hdb hcd hg he1 he hpl
end PL

/-! part PE2 -/
set_option exponentiation.threshold 256 -- PE2
set_option maxHeartbeats 1000000 -- PE2
set_option maxRecDepth 100000 -- PE2
/-! PE2: the deck is made. -/
namespace PL
open PySem PySem.Spec PyProof.Rows L2 TL KHd MA PD
/-- the script -/
def RScr (K : PySem.W.Frag) : Rp (List Int) := ⟨fun F v ns => ∃ a, v = .ref a ∧ SqL K F a (ns.map V.int) ∧ ns.length ≤ 63, fun {F F' v ns} s ⟨a, e, h, z⟩ => ⟨a, e, h.imp (fun r => r.imp (fun e => s _ _ e) fun ⟨o, e⟩ => ⟨o, s _ _ e⟩) id, z⟩⟩
theorem scr_up {K : PySem.W.Frag} {F H : Hp} {a : Addr} {xs : List V} (s : Same F H) (h : SqL K F a xs) : SqL K H a xs := h.imp (fun r => r.imp (fun e => s _ _ e) fun ⟨o, e⟩ => ⟨o, s _ _ e⟩) id
section
variable {X : Cx} {S : List Addr} {F0 H0 F H F' H' F1 H1 : Hp} {e o a b tg iter : Expr} {sts : List Stmt} {p pos apos p1 p2 p3 p4 : Pos} {Γ Γ' : List Sl} {T T' : TK} {i j : Int} {nm : Str}
theorem it_scr {l : List Int} (h : EX X iter Γ (.dat (RScr X.K) l)) : IT X tg iter Γ RInt l := by
  refine ⟨_, pi_list pe_wp, fun σ F H w P q => h σ F H w _ fun v F' H' g r => ?_⟩
  obtain ⟨a, rfl, hs, z⟩ := sat_dat r
  have hz : sizeLine = 16777216 := rfl
  refine ⟨a, rfl, ⟨_, scr_up g.sub hs⟩, q (Itl X.K a) F' H' (fun H2 => SqL X.K H2 a (l.map V.int)) (YAt (l.map V.int)) g (by omega) ⟨?_, fun F2 H2 s1 s2 _ => scr_up (s1.trans s2) hs, fun i x F2 H2 H3 s1 s2 hi y => ?_⟩⟩
  · have := walk_list (K := X.K) (a := a) (xs := l.map V.int)
    rw [List.length_map] at this
    exact this
  · obtain ⟨rfl, hx⟩ := y
    rw [List.getElem?_map] at hx
    obtain ⟨c, hc, rfl⟩ := Option.map_eq_some_iff.mp hx
    exact ⟨c, F2, hc, GrS.refl s2, rfl⟩
/-- x.insert(0, e) -/
theorem r1_ins0 (n : Nat) {G : Addr} {l0 : List Int} {v : Int} {jj : Nat} (h0 : gtS Γ n = sO RInt G l0) (he : EX X e Γ (sI v)) (hz : l0.length < sizeLine) (h : T.nx (stS Γ n (sO RInt G (v :: l0)))) (hN : X.N[n]? = some nm := by rfl) (hv : Vis X.env.scope nm := by first | exact Or.inl rfl | exact Or.inr (Or.inl rfl) | exact Or.inr (Or.inr rfl)) (hd : (nm == ("__debug__" : Str)) = false := by decide)
    (hcd : (nm == ("__classdict__" : Str)) = false := by decide) (hbase : attributeBase (.Name nm p1) "insert" X.env (eval (.Name nm p1) X.env) = eval (.Name nm p1) X.env := by rfl)
    (hfew : ((backTo p3 (starEach [.Constant (.int 0) jj p4, e] X.env)).all (fun x => !x.1) && (backToKw p3 (keywordEach [] X.env)).all (fun x => x.1.isSome) && decide (([.Constant (.int 0) jj p4, e] : List Expr).length + ([] : List Keyword).length + (if ([] : List Keyword).isEmpty then 0 else 1) < 30)) = true := by rfl)
    (hline : (p2.endLine == p3.line) = true := by rfl) (hs2 : starEach [e] X.env = (false, eval e X.env) :: starEach [] X.env := by rfl) (hs1 : starEach [.Constant (.int 0) jj p4, e] X.env = (false, eval (.Constant (.int 0) jj p4) X.env) :: starEach [e] X.env := by rfl) (hpl : (backTo p3 (starEach [e] X.env)).any (·.1) = false := by rfl)
    (hs : swapsWith (.Call (.Attribute (.Name nm p1) "insert" p2) [.Constant (.int 0) jj p4, e] [] p3) none pos.line X.env = pure false := by rfl) : R1 X S H0 (.Expr (.Call (.Attribute (.Name nm p1) "insert" p2) [.Constant (.int 0) jj p4, e] [] p3) pos) Γ T := fun F0 σ F H l => by
  refine PS.wp (ps_expr (pe_bm PySem.F.plainAttrs_list PySem.F.slot_list_insert PySem.F.type_list_insert mt_insert (pe_var (i := n) hN hv hd hcd) (pa_cons pe_int (pa_cons pe_wp pa_nil hs2) hs1) hbase hfew hline hs1 hpl) hs) ?_
  obtain ⟨e1, ⟨z, xs, hx, pr⟩, hn⟩ := l.wd.sat.own h0
  refine ⟨.ref G, e1, .inl ⟨rfl, xs, SqL.of hx⟩, he σ F H l.wd _ fun u F1 H1 g1 r1 => ?_⟩
  have l1 := l.grow g1
  have hx1 := g1.hp G _ hx
  have e2 : u = .int v := sat_dat r1
  subst e2
  refine ⟨G, xs, 0, .int v, rfl, rfl, hx1, by rw [Paired.length pr]; exact hz, by decide, by decide, F1, _, l1.chg (P' := accO RInt G (v :: l0)) h0 (by simp [accO]) rfl rfl ⟨hz, _, upd_same, ?_⟩, h⟩
  show Paired _ (xs.take 0 ++ [V.int v] ++ xs.drop 0) _
  rw [List.take_zero, List.drop_zero]
  exact .cons rfl (paired_mono g1.fz pr)
/-- return [great, 0, mark, 0] -/
theorem r1_retDk (n k : Nat) {G : Addr} {gr : List Int} {m : Int} {n1 n2 : Str} {j1 j2 : Nat} (h0 : gtS Γ n = sO RInt G gr) (h1 : gtS Γ k = sI m) (hdk : DkN 0 m 0) (h : ∀ D hd, T.rt (.own (dkO D G hd 0)) Γ) (hN : X.N[n]? = some n1 := by rfl) (hN2 : X.N[k]? = some n2 := by rfl) (hv : Vis X.env.scope n1 := by first | exact Or.inl rfl | exact Or.inr (Or.inl rfl) | exact Or.inr (Or.inr rfl)) (hv2 : Vis X.env.scope n2 := by first | exact Or.inl rfl | exact Or.inr (Or.inl rfl) | exact Or.inr (Or.inr rfl))
    (hd : (n1 == ("__debug__" : Str)) = false := by decide) (hcd : (n1 == ("__classdict__" : Str)) = false := by decide) (hd2 : (n2 == ("__debug__" : Str)) = false := by decide) (hcd2 : (n2 == ("__classdict__" : Str)) = false := by decide)
    (hs4 : starEach [.Constant (.int 0) j2 p4] X.env = (false, eval (.Constant (.int 0) j2 p4) X.env) :: starEach [] X.env := by rfl) (hs3 : starEach [.Name n2 p3, .Constant (.int 0) j2 p4] X.env = (false, eval (.Name n2 p3) X.env) :: starEach [.Constant (.int 0) j2 p4] X.env := by rfl)
    (hs2 : starEach [.Constant (.int 0) j1 p2, .Name n2 p3, .Constant (.int 0) j2 p4] X.env = (false, eval (.Constant (.int 0) j1 p2) X.env) :: starEach [.Name n2 p3, .Constant (.int 0) j2 p4] X.env := by rfl)
    (hs1 : starEach [.Name n1 p1, .Constant (.int 0) j1 p2, .Name n2 p3, .Constant (.int 0) j2 p4] X.env = (false, eval (.Name n1 p1) X.env) :: starEach [.Constant (.int 0) j1 p2, .Name n2 p3, .Constant (.int 0) j2 p4] X.env := by rfl) : R1 X S H0 (.Return (some (.List [.Name n1 p1, .Constant (.int 0) j1 p2, .Name n2 p3, .Constant (.int 0) j2 p4] apos)) pos) Γ T := fun F0 σ F H l => by
  refine PS.wp (ps_ret (pe_lst (pa_cons (pe_var (i := n) hN hv hd hcd) (pa_cons pe_int (pa_cons (pe_var (i := k) hN2 hv2 hd2 hcd2) (pa_cons pe_int pa_nil hs4) hs3) hs2) hs1))) ?_
  obtain ⟨e1, ⟨z, xs, hx, pr⟩, hn⟩ := l.wd.sat.own h0
  obtain ⟨v, e2, rfl⟩ := l.wd.sat.dat h1
  refine ⟨.ref G, e1, .int m, e2, by show 4 ≤ sizeLine; decide, fun D hD => ?_⟩
  have hne : D ≠ G := fun z => by subst z; rw [hx] at hD; cases hD
  have hnd : [D, G].Nodup := by simp; exact hne
  have hFG : F G = none := hn G (by simp [accO])
  have g := Gr.mut (F := F) (o := .lst [.ref G, .int 0, .int m, .int 0]) l.wd.sub hD
  have hpr : xs = gr.map V.int := paired_I pr
  refine ⟨F, Γ, σ, .own (dkO D G hnd 0), l.grow g, ⟨rfl, ⟨gr, 0, m, 0, ⟨upd_same, ?_, z⟩, hdk⟩, fun b hb => ?_⟩, fun b hb => ?_, h D hnd⟩
  · rw [upd_ne (Ne.symm hne), hx, hpr]
  · have : b = D ∨ b = G := by simpa [dkO] using hb
    rcases this with rfl | rfl
    · exact l.wd.sub.free hD
    · exact hFG
  · have : b = D ∨ b = G := by simpa [Sl.foot, dkO] using hb
    rcases this with rfl | rfl
    · exact .inr (fresh_back l hD)
    · exact l.mine _ (feetO_mem h0 (by simp [accO]))
end
variable {P : Program} {w : World} {K : PySem.W.Frag} {mg : Str → Option Value} {base : Heap}
/-! ### _law_deck -/
abbrev nDk : List Str := ["_law_script", "_law_mark", "_law_great", "_law_cell"]
theorem sc_dk : FnScope nDk ["_law_script"] (defScope s__law_deck) := ⟨rfl, rfl, rfl, by decide +kernel, rfl, by decide +kernel, by decide +kernel⟩
def tb_dk (K : PySem.W.Frag) : List Sl → (Sl → List Sl → Prop) → Prop := fun args post => ∃ ns : List Int, args = [.dat (RScr K) ns] ∧ ns.length ≤ 63 ∧ post = fun sl _ => ∃ D G hd, sl = .own (dkO D G hd 0)
theorem ok_deck (T : TX K mg) : Gn P w K mg base 1 "_law_deck" ["_law_script"] (tb_dk K) := by
  obtain ⟨fd, F⟩ := T.u__law_deck
  refine ⟨_, fd, fn_eff (N := nDk) F sc_dk ?_ ?_, F.bindsN fun _ _ _ _ _ _ us hl => match us, hl with | [_], _ => rfl, T.g__law_deck, F.kp⟩
  · rintro args res ⟨_, rfl, _⟩
    rfl
  · rintro cdv A outer s H E args res hr ⟨ns, rfl, hl, rfl⟩
    have hN := sc_dk.nd
    have hz : sizeLine = 16777216 := rfl
    show RS _ _ _ _ [.dat (RScr K) ns, .any, .any, .any] _
    refine rs_cons (r1_par (P := fun s => s = sI 40961) (P' := fun s => ∃ G, s = sO RInt G []) 1 2 (en_ex ex_int) en_lst0 ?_)
    rintro _ _ rfl ⟨G, rfl⟩
    refine rs_cons (r1_for (it_scr (ex_var 0 rfl)) (fun i Γ => ∃ gr m, Γ = [.dat (RScr K) ns, sI m, sO RInt G gr, .any] ∧ gr.length ≤ i ∧ 0 ≤ m ∧ m < 2 ^ 61) ⟨[], 40961, rfl, Nat.le_refl _, by decide, by decide⟩ ?_ ?_)
    · rintro i c _ hi ⟨gr, m, rfl, hgl, m0, m1⟩
      have hil : i < ns.length := (List.getElem?_eq_some_iff.mp hi).1
      refine ⟨_, _, gt_name 3, fun _ h => h, ?_⟩
      refine rs_one (r1_if (et_ge (ex_var 3 rfl) (ex_pow (j := 18) ex_int ex_int ⟨by decide, by decide, by decide⟩)) (fun h => ?_) (fun h => ?_))
      · exact rs_one (r1_ins0 2 rfl (ex_sub (ex_var 3 rfl) (ex_pow (j := 18) ex_int ex_int ⟨by decide, by decide, by decide⟩)) (by omega) ⟨_, .same (.same (.same (.any .nil))), _, m, rfl, by rw [List.length_cons]; omega, m0, m1⟩)
      · obtain ⟨k1, hk1, e1⟩ := fmod_rng (lim := 1000000000039) (by decide) c
        obtain ⟨k2, hk2, e2⟩ := fmod_rng (lim := 1000000000000000003) (by decide) ((m + c.fmod 1000000000039) ^ 3)
        refine rs_one (r1_set 1 (ex_to (ex_add (ex_mod (ex_intI T.f_int (ex_pow (j := 3) (ex_add (ex_var 1 rfl) (ex_mod (ex_intI T.f_int (ex_var 3 rfl)) ex_int (by decide))) ex_int ⟨by decide, by decide, by rw [e1]; omega⟩)) ex_int (by decide)) ex_int) (congrArg (fun z => sI (z + 1)) e2)) ⟨_, .same (.same (.same (.any .nil))), gr, (k2 : Int) + 1, rfl, by omega, by omega, by omega⟩)
    · rintro _ ⟨gr, m, rfl, hgl, m0, m1⟩
      exact rs_one (r1_retDk 2 1 rfl rfl ⟨m0, by omega, by decide, by decide⟩ fun D hd => ⟨D, G, hd, rfl⟩)
end PL

/-! part PE3 -/
set_option exponentiation.threshold 256 -- PE3
set_option maxHeartbeats 1000000 -- PE3
set_option maxRecDepth 100000 -- PE3
/-! PE3: numbers and sizes by draws. -/
namespace TL
open PySem PySem.Spec PyProof.Rows L2 MA
section
variable {X : Cx} {S : List Addr} {F0 H0 F H F' H' F1 H1 : Hp} {e o a b c tg iter elt : Expr} {es : List Expr} {sts : List Stmt} {st : Stmt} {p pos apos : Pos} {Γ Γ' : List Sl} {T T' : TK} {i j : Int} {sl slO res : Sl} {sls : List Sl} {α β γ δ : Type} {R : Rp α} {R' : Rp β} {x : α} {y : β} {l : List α} {is : List Nat} {P : Sl → List Sl → Prop}
theorem sat_list : ∀ {l : List α} {vs : List V}, Sat F H (l.map fun x => Sl.dat R x) (vs.map some) → Paired (R.rel F) vs l
  | [], [], _ => .nil
  | x :: l, v :: vs, ⟨h1, h2⟩ => .cons (sat_dat h1) (sat_list h2)
  | [], _ :: _, h => h.elim
  | _ :: _, [], h => h.elim
/-- a list that is written, any length -/
theorem ex_lstA {l : List α} (ha : EA X es Γ (l.map fun x => .dat R x)) (hz : l.length ≤ 1000 := by decide) : EX X (.List es pos) Γ (sL R l) := fun σ F H w Q q =>
  PE.wp (pe_lst pa_wp) (ha σ F H w _ fun vs F1 H1 g1 r => by
    have pr := sat_list r
    have hz2 : sizeLine = 16777216 := rfl
    refine ⟨by rw [Paired.length pr]; omega, fun p hp => ?_⟩
    have g2 := Gr.alloc (o := .lst vs) g1.sub hp
    exact q _ _ _ (g1.trans g2) (dat_sat ⟨p, vs, rfl, upd_same, by omega, paired_mono g2.fz pr⟩))
/-- a, b = e with effects -/
theorem r1_asgE (he : EE X e Γ (fun s Γ1 => s.foot = [] ∧ ∃ is Γ', GT X tg is s Γ1 Γ' ∧ (∀ b ∈ feetO Γ', b ∈ feetO Γ1) ∧ T.nx Γ')) (hs : swapsWithSole [tg] e pos.line X.env = pure false := by rfl) (hw : swappedStores [tg] e X.env = pure none := by rfl) (h1 : (assignEach [tg] X.env).map (·.2) = [assign tg X.env] := by rfl) : R1 X S H0 (.Assign [tg] e pos) Γ T := fun F0 σ F H l =>
  PS.wp (ps_asg pe_wp pg_wp hs hw h1) (he σ F H l.wd _ fun v F1 H1 sl Γ1 s1 r1 hf1 ⟨hff, is, Γ', hg, hsub, hn⟩ => by
    have l1 := l.sp s1
    exact hg σ F1 H1 v l1.wd r1 _ fun σ' w' _ => ⟨F1, Γ', ⟨l1.gr, w', fun b hb => l1.mine b (hsub b hb)⟩, hn⟩)
theorem ee_tup2 {x1 : Nat} (ha : EEA X [a, b] Γ (fun sls Γ' => ∃ (α β : Type) (R : Rp α) (R' : Rp β) (x : α) (y : β), sls = [.dat R x, .dat R' y] ∧ P (.dat (RT2 R R') (x, y)) Γ')) : EE X (.Tuple [a, b] x1 pos) Γ P := fun σ F H w Q q =>
  PE.wp (pe_tup pa_wp) (ha σ F H w _ fun vs F1 H1 sls Γ1 s1 r hf ⟨α, β, R, R', x, y, e, hP⟩ => by
    subst e
    obtain ⟨v, u, rfl, r1, r2⟩ := sat2 r
    refine ⟨by show 2 ≤ sizeLine; decide, fun p hp => ?_⟩
    have g2 := Gr.alloc (o := .tup [v, u]) s1.gr.sub hp
    exact q _ _ _ _ Γ1 (s1.trans (Sp.of s1.wd g2)) (dat_sat (R := RT2 R R') (x := (x, y)) ⟨p, v, u, rfl, upd_same, R.mono g2.fz (sat_dat r1), R'.mono g2.fz (sat_dat r2)⟩) (fun b hb => by cases hb) hP)
end
end TL
namespace PL
open PySem PySem.Spec L2 TL KHd MA PD
variable {P : Program} {w : World} {K : PySem.W.Frag} {mg : Str → Option Value} {base : Heap}
def NumOk (q : Rat) : Prop := q.num.natAbs ≤ 5 ∧ q.den ≤ 9
theorem num_ok {a b : Int} (ha : a.natAbs ≤ 5) (hb0 : 0 < b) (hb : b ≤ 9) : NumOk (Rat.divInt a b) := by
  have hb1 : b ≠ 0 := by omega
  have e : ((Nat.gcd a.natAbs b.natAbs : Nat) : Int) = lowC a b := (if_neg (by omega)).symm
  have hg : 0 < Nat.gcd a.natAbs b.natAbs := Nat.gcd_pos_of_pos_right _ (by omega)
  refine ⟨?_, ?_⟩
  · rw [← low_num hb1, ← e]
    obtain ⟨k, hk⟩ := gcd_dl a b
    generalize Nat.gcd a.natAbs b.natAbs = g at *
    have : a.fdiv (g : Int) = k := by rw [hk, Int.mul_comm, Int.mul_fdiv_cancel _ (by omega)]
    rw [this]
    have h2 : a.natAbs = g * k.natAbs := by rw [hk, Int.natAbs_mul, Int.natAbs_natCast]
    have h3 : 1 * k.natAbs ≤ g * k.natAbs := Nat.mul_le_mul_right _ hg
    omega
  · have h1 := low_den (a := a) hb1
    rw [← e] at h1
    obtain ⟨k, hk⟩ := gcd_dr a b
    generalize Nat.gcd a.natAbs b.natAbs = g at *
    have : b.fdiv (g : Int) = k := by rw [hk, Int.mul_comm, Int.mul_fdiv_cancel _ (by omega)]
    rw [this] at h1
    have h2 : b.natAbs = g * k.natAbs := by rw [hk, Int.natAbs_mul, Int.natAbs_natCast]
    have h3 : 1 * k.natAbs ≤ g * k.natAbs := Nat.mul_le_mul_right _ hg
    omega
/-! ### _law_number -/
abbrev nNm : List Str := ["_law_deck_here", "_law_great", "_law_above"]
theorem sc_nm : FnScope nNm ["_law_deck_here", "_law_great"] (defScope s__law_number) := ⟨rfl, rfl, rfl, by decide +kernel, rfl, by decide +kernel, by decide +kernel⟩
def tb_nm : List Sl → (Sl → List Sl → Prop) → Prop := fun args post => ∃ (D G : Addr) (hd : [D, G].Nodup) (n : Nat) (gt : Int), args = [.own (dkO D G hd n), sI gt] ∧ 3 ≤ gt ∧ gt ≤ 10 ∧ n ≤ 9000 ∧ post = drew D G hd (n + 3) fun sl => ∃ q : Rat, NumOk q ∧ sl = .dat RQ q
theorem ok_number (T : TX K mg) : Gn P w K mg base 3 "_law_number" ["_law_deck_here", "_law_great"] tb_nm := by
  obtain ⟨fd, F⟩ := T.u__law_number
  refine ⟨_, fd, fn_eff (N := nNm) F sc_nm ?_ ?_, F.bindsN fun _ _ _ _ _ _ us hl => match us, hl with | [_, _], _ => rfl, T.g__law_number, F.kp⟩
  · rintro args res ⟨_, _, _, _, _, rfl, _⟩
    rfl
  · rintro cdv A outer s H E args res hr ⟨D, G, hd, n, gt, rfl, hg0, hg1, hn, rfl⟩
    have hN := sc_nm.nd
    show RS _ _ _ _ [.own (dkO D G hd n), sI gt, .any] _
    refine rs_cons (r1_setE 2 (ee_sub (ee_drawI 0 T (hr.mono (by decide)) rfl (ex_var 1 rfl) (by omega) (by omega) (by omega) fun k hk => ⟨k, rfl, ee_exP (ex_fdiv (ex_var 1 rfl) ex_int (dv_div (bt_mono (a := 20) (by unfold Bt; decide) (by decide)) (by decide))) ⟨_, rfl, rfl, ?_⟩⟩)))
    have hh : gt.fdiv 2 = gt / 2 := Int.fdiv_eq_ediv_of_nonneg _ (by decide)
    have ha : ((k : Int) - gt.fdiv 2).natAbs ≤ 5 := by rw [hh]; omega
    generalize (k : Int) - gt.fdiv 2 = ab at *
    show RS _ _ _ _ [.own (dkO D G hd (n + 1)), sI gt, sI ab] _
    have hab : Sm ab := bt_mono (a := 20) (show ab.natAbs < 2 ^ 20 by omega) (by decide)
    refine rs_one (r1_retE (ee_call (ok_pair T) hr (eea_cons (ee_exP (ex_var 2 rfl) ⟨rfl, eea_cons (ee_add (ee_exP ex_int ⟨1, rfl, ee_draw (n := n + 1) 0 T (hr.mono (by decide)) rfl (ee_ix (l := [1, gt - 1]) (ex_lstA (l := [1, gt - 1]) (ea_cons ex_int (ea_cons (ex_sub (ex_var 1 rfl) ex_int) ea_nil)) (by show 2 ≤ 1000; decide)) (ee_drawI 0 T (hr.mono (by decide)) rfl ex_int (by decide) (by decide) (by omega) fun k2 hk2 => ?_))⟩))⟩))))
    have hx : ∃ x : Int, [1, gt - 1][k2]? = some x ∧ 1 ≤ x ∧ x ≤ 9 := by
      have : k2 = 0 ∨ k2 = 1 := by omega
      rcases this with rfl | rfl
      · exact ⟨1, rfl, by decide, by decide⟩
      · exact ⟨gt - 1, rfl, by omega, by omega⟩
    obtain ⟨x, hx1, hx2, hx3⟩ := hx
    refine ⟨_, x, rfl, atI_nat hx1, x, n + 2, rfl, rfl, by omega, by omega, by omega, fun k3 hk3 => ⟨k3, rfl, rfl, eea_nil ⟨_, ⟨ab, 1 + (k3 : Int), rfl, by omega, hab, bt_mono (a := 20) (show (1 + (k3 : Int)).natAbs < 2 ^ 20 by omega) (by decide), rfl⟩, rfl, rfl, ⟨_, num_ok ha (by omega) (by omega), rfl⟩, rfl⟩⟩⟩
end PL

/-! part PE4 -/
set_option exponentiation.threshold 256 -- PE4
set_option maxHeartbeats 1000000 -- PE4
set_option maxRecDepth 100000 -- PE4
/-! PE4: sizes, machines by draws. -/
namespace TL
open PySem PySem.Spec PyProof.Rows L2 MA
/-- a tuple of one -/
def RT1 {α : Type} (R : Rp α) : Rp α := ⟨fun F v x => ∃ a y, v = .ref a ∧ F a = some (.tup [y]) ∧ R.rel F y x, fun s ⟨a, y, e, t, r⟩ => ⟨a, y, e, s _ _ t, R.mono s r⟩⟩
section
variable {X : Cx} {S : List Addr} {F0 H0 F H F' H' F1 H1 : Hp} {e o a b c tg iter elt : Expr} {es : List Expr} {sts : List Stmt} {st : Stmt} {p pos apos : Pos} {Γ Γ' : List Sl} {T T' : TK} {i j : Int} {sl slO res : Sl} {sls : List Sl} {α β γ δ : Type} {R : Rp α} {R' : Rp β} {R'' : Rp γ} {R3 : Rp δ} {x : α} {y : β} {z : γ} {u : δ} {l : List α} {is : List Nat} {P : Sl → List Sl → Prop}
theorem ee_tup1 {x1 : Nat} (ha : EE X a Γ (fun s Γ1 => ∃ x, s = .dat R x ∧ P (.dat (RT1 R) x) Γ1)) (hs : starEach [a] X.env = (false, eval a X.env) :: starEach [] X.env := by rfl) : EE X (.Tuple [a] x1 pos) Γ P := fun σ F H w Q q => by
  have h2 : EEA X [a] Γ (fun sls Γ1 => ∃ x, sls = [.dat R x] ∧ P (.dat (RT1 R) x) Γ1) := eea_cons (ee_imp ha fun s Γ1 ⟨x, e1, hp⟩ => ⟨by rw [e1]; rfl, eea_nil ⟨x, by rw [e1], hp⟩⟩) hs
  refine PE.wp (pe_tup pa_wp) (h2 σ F H w _ fun vs F1 H1 sls Γ1 s1 r hf ⟨x, e, hP⟩ => ?_)
  subst e
  obtain ⟨v, rfl, r1⟩ := sat1 r
  refine ⟨by show 1 ≤ sizeLine; decide, fun p hp => ?_⟩
  have g2 := Gr.alloc (o := .tup [v]) s1.gr.sub hp
  exact q _ _ _ _ Γ1 (s1.trans (Sp.of s1.wd g2)) (dat_sat (R := RT1 R) (x := x) ⟨p, v, rfl, upd_same, R.mono g2.fz (sat_dat r1)⟩) (fun b hb => by cases hb) hP
/-- a tuple of three and one of one -/
theorem ee_cat31 (ha : EX X a Γ (.dat (RT3 R R' R'') (x, y, z))) (hb : EE X b Γ (fun s Γ1 => ∃ u, s = .dat (RT1 R3) u ∧ P (.dat (RT4 R R' R'' R3) (x, y, z, u)) Γ1)) : EE X (.BinOp a .Add b pos) Γ P := fun σ F H w Q q =>
  PE.wp (pe_op op_catT pe_wp pe_wp) (ha σ F H w _ fun v F1 H1 g1 r1 => hb σ F1 H1 (w.grow g1) _ fun v2 F2 H2 sl2 Γ2 s2 r2 hf2 ⟨u, e2, hP⟩ => by
    subst e2
    obtain ⟨p1, x1, x2, x3, rfl, e1, q1, q2, q3⟩ := (RT3 R R' R'').mono s2.gr.fz (sat_dat r1)
    obtain ⟨p2, y1, rfl, e2, q4⟩ := sat_dat r2
    refine ⟨p1, p2, [x1, x2, x3], [y1], rfl, rfl, SqT.of (s2.gr.sub _ _ e1), SqT.of (s2.gr.sub _ _ e2), by simp, by show 3 + 1 ≤ sizeLine; decide, fun z => (by cases z), fun _ p hp => ?_⟩
    have g3 := Gr.alloc (o := .tup [x1, x2, x3, y1]) s2.gr.sub hp
    exact q _ _ _ _ Γ2 (((Sp.of w g1).trans s2).trans (Sp.of s2.wd g3)) (dat_sat (R := RT4 R R' R'' R3) (x := (x, y, z, u)) ⟨p, x1, x2, x3, y1, rfl, upd_same, R.mono g3.fz q1, R'.mono g3.fz q2, R''.mono g3.fz q3, R3.mono g3.fz q4⟩) (fun b hb => by cases hb) hP)
/-- a place of a list of one's own, by an index with effects on another thing -/
theorem ee_ixO (n : Nat) {D : Addr} (ha : EX X a Γ (sO R D l)) (hb : EE X b Γ (fun s Γ1 => ∃ i x, s = sI i ∧ gtS Γ1 n = sO R D l ∧ atI l i = some x ∧ P (.dat R x) Γ1)) (hs : PlainIx b := by exact fun _ _ => rfl) : EE X (.Subscript a b pos) Γ P := fun σ F H w Q q =>
  PE.wp (pe_ix ix_list pe_wp pe_wp hs) (ha σ F H w _ fun v F1 H1 g1 r1 => hb σ F1 H1 (w.grow g1) _ fun u F2 H2 sl2 Γ2 s2 r2 hf2 ⟨i, x, e2, hn, hx, z⟩ => by
    subst e2
    obtain ⟨e1, _, _⟩ := r1
    have e3 : v = .ref D := Option.some.inj e1
    subst e3
    obtain ⟨_, ⟨zz, xs, e, pr⟩, _⟩ := s2.wd.sat.own hn
    obtain ⟨v, hv, rv⟩ := paired_atI pr hx
    exact ⟨D, xs, i, v, rfl, sat_dat r2, SqL.of e, hv, q v F2 H2 _ Γ2 ((Sp.of w g1).trans s2) (dat_sat rv) (fun b hb => by cases hb) z⟩)
end
end TL
namespace PL
open PySem PySem.Spec L2 TL KHd MA PD
variable {P : Program} {w : World} {K : PySem.W.Frag} {mg : Str → Option Value} {base : Heap}
theorem rs_up {X : Cx} {S : List Addr} {H0 : Hp} {sts : List Stmt} {Γ : List Sl} {T : TK} {D G : Addr} {hd : [D, G].Nodup} {n k : Nat} (n' : Nat) (h0 : gtS Γ k = .own (dkO D G hd n)) (hn : n ≤ n') (h : RS X S H0 sts (stS Γ k (.own (dkO D G hd n'))) T) : RS X S H0 sts Γ T :=
  rs_view (γ := Unit) (P' := fun _ => dkO D G hd n') k h0 (fun _ => rfl) (fun _ => rfl) (fun F H ⟨gr, x, m, c, h1, h2⟩ => ⟨(), gr, x, m, c, h1, h2.mono hn⟩) (fun _ => h)
/-! ### _law_size -/
abbrev nSz : List Str := ["_law_deck_here", "_law_signs_here", "_law_most"]
theorem sc_sz : FnScope nSz ["_law_deck_here", "_law_signs_here"] (defScope s__law_size) := ⟨rfl, rfl, rfl, by decide +kernel, rfl, by decide +kernel, by decide +kernel⟩
def tb_sz : List Sl → (Sl → List Sl → Prop) → Prop := fun args post => ∃ (D G : Addr) (hd : [D, G].Nodup) (n : Nat) (sg : List Nat), args = [.own (dkO D G hd n), .dat RTx sg] ∧ 1 ≤ sg.length ∧ sg.length ≤ 3 ∧ n ≤ 9000 ∧ post = drew D G hd (n + 2) fun sl => ∃ k : Nat, k ≤ 6 ∧ sl = sI k
/-- what the last row gives -/
theorem size_b {v : Int} (v0 : 4 ≤ v) (v1 : v ≤ 6) {k : Nat} (hk : (k : Int) < 7) : ∃ x : Int, atI [2, 3, 4, 1, 5, 0, 6] (k : Int) = some x ∧ v + 1 ≠ 0 ∧ ∃ r : Nat, r ≤ 6 ∧ x.fmod (v + 1) = r := by
  obtain ⟨x, hx⟩ := get_of (l := ([2, 3, 4, 1, 5, 0, 6] : List Int)) (k := k) (by show k < 7; omega)
  obtain ⟨r, hr1, hr2⟩ := fmod_rng (lim := v + 1) (by omega) x
  exact ⟨x, atI_nat hx, by omega, r, by omega, hr2⟩
theorem ok_size (T : TX K mg) : Gn P w K mg base 2 "_law_size" ["_law_deck_here", "_law_signs_here"] tb_sz := by
  obtain ⟨fd, F⟩ := T.u__law_size
  refine ⟨_, fd, fn_eff (N := nSz) F sc_sz ?_ ?_, F.bindsN fun _ _ _ _ _ _ us hl => match us, hl with | [_, _], _ => rfl, T.g__law_size, F.kp⟩
  · rintro args res ⟨_, _, _, _, _, rfl, _⟩
    rfl
  · rintro cdv A outer s H E args res hr ⟨D, G, hd, n, sg, rfl, hl0, hl1, hn, rfl⟩
    have hN := sc_sz.nd
    show RS _ _ _ _ [.own (dkO D G hd n), .dat RTx sg, .any] _
    have hx : ∃ v : Int, atI [6, 5, 4] ((sg.length : Int) - 1) = some v ∧ 4 ≤ v ∧ v ≤ 6 := by
      have : sg.length = 1 ∨ sg.length = 2 ∨ sg.length = 3 := by omega
      rcases this with h | h | h
      · rw [h]; exact ⟨6, atI_0, by decide, by decide⟩
      · rw [h]; exact ⟨5, atI_1, by decide, by decide⟩
      · rw [h]; exact ⟨4, atI_2, by decide, by decide⟩
    obtain ⟨v, hv, v0, v1⟩ := hx
    refine rs_cons (r1_set (sl := sI v) 2 (ex_ixS (R := RInt) (l := [6, 5, 4]) (ex_lstA (l := [6, 5, 4]) (ea_cons ex_int (ea_cons ex_int (ea_cons ex_int ea_nil)))) .dat (ex_sub (ex_lens T.f_len (ex_var 1 rfl)) ex_int) hv) ?_)
    refine rs_cons (r1_ifE (eet_and (k := decide ((sg.length : Int) = 2)) (et_eq (ex_lens T.f_len (ex_var 1 rfl)) ex_int) (fun _ => ?_) fun _ => ⟨fun z => (by cases z), fun _ => rs_nil ?_⟩))
    · refine eet_eqI (ee_drawI (n := n) 0 T (hr.mono (by decide)) rfl ex_int (by decide) (by decide) (by omega) fun k hk => ?_)
      refine ⟨k, rfl, ee_exP ex_int ?_⟩
      refine ⟨7, rfl, fun _ => ?_, fun _ => rs_nil ?_⟩
      · refine rs_one (r1_set (sl := sI 6) 2 ex_int ?_)
        refine rs_one ?_
        refine r1_retE (Γ := [.own (dkO D G hd (n + 1)), .dat RTx sg, sI 6]) ?_
        refine ee_mod ?_
        refine ee_ix (R := RInt) (l := [2, 3, 4, 1, 5, 0, 6]) ?_ ?_
        · exact ex_lstA (l := [2, 3, 4, 1, 5, 0, 6]) (ea_cons ex_int (ea_cons ex_int (ea_cons ex_int (ea_cons ex_int (ea_cons ex_int (ea_cons ex_int (ea_cons ex_int ea_nil)))))))
        refine ee_drawI (n := n + 1) 0 T (hr.mono (by decide)) rfl ex_int (by decide) (by decide) (by omega) fun k hk => ?_
        obtain ⟨x, hx, hne, r, hr6, hr2⟩ := size_b (v := 6) (by omega) (by omega) hk
        refine ⟨k, x, rfl, hx, x, rfl, ?_⟩
        exact ee_exP (sl := sI (6 + 1)) (ex_add (ex_var 2 rfl) ex_int) ⟨6 + 1, rfl, hne, rfl, ⟨r, hr6, congrArg sI hr2⟩, rfl⟩
      · show RS _ _ _ _ [.own (dkO D G hd (n + 1)), .dat RTx sg, sI v] _
        refine rs_one ?_
        refine r1_retE (Γ := [.own (dkO D G hd (n + 1)), .dat RTx sg, sI v]) ?_
        refine ee_mod ?_
        refine ee_ix (R := RInt) (l := [2, 3, 4, 1, 5, 0, 6]) ?_ ?_
        · exact ex_lstA (l := [2, 3, 4, 1, 5, 0, 6]) (ea_cons ex_int (ea_cons ex_int (ea_cons ex_int (ea_cons ex_int (ea_cons ex_int (ea_cons ex_int (ea_cons ex_int ea_nil)))))))
        refine ee_drawI (n := n + 1) 0 T (hr.mono (by decide)) rfl ex_int (by decide) (by decide) (by omega) fun k hk => ?_
        obtain ⟨x, hx, hne, r, hr6, hr2⟩ := size_b (v := v) (by omega) (by omega) hk
        refine ⟨k, x, rfl, hx, x, rfl, ?_⟩
        exact ee_exP (sl := sI (v + 1)) (ex_add (ex_var 2 rfl) ex_int) ⟨v + 1, rfl, hne, rfl, ⟨r, hr6, congrArg sI hr2⟩, rfl⟩
    · show RS _ _ _ _ [.own (dkO D G hd n), .dat RTx sg, sI v] _
      have e : ∀ X S H0 sts T, RS X S H0 sts [.own (dkO D G hd (n + 1)), .dat RTx sg, sI v] T → RS X S H0 sts [.own (dkO D G hd n), .dat RTx sg, sI v] T := fun X S H0 sts T h => rs_up (n + 1) (k := 0) rfl (by omega) h
      refine e _ _ _ _ _ ?_
      show RS _ _ _ _ [.own (dkO D G hd (n + 1)), .dat RTx sg, sI v] _
      refine rs_one ?_
      refine r1_retE (Γ := [.own (dkO D G hd (n + 1)), .dat RTx sg, sI v]) ?_
      refine ee_mod ?_
      refine ee_ix (R := RInt) (l := [2, 3, 4, 1, 5, 0, 6]) ?_ ?_
      · exact ex_lstA (l := [2, 3, 4, 1, 5, 0, 6]) (ea_cons ex_int (ea_cons ex_int (ea_cons ex_int (ea_cons ex_int (ea_cons ex_int (ea_cons ex_int (ea_cons ex_int ea_nil)))))))
      refine ee_drawI (n := n + 1) 0 T (hr.mono (by decide)) rfl ex_int (by decide) (by decide) (by omega) fun k hk => ?_
      obtain ⟨x, hx, hne, r, hr6, hr2⟩ := size_b (v := v) (by omega) (by omega) hk
      refine ⟨k, x, rfl, hx, x, rfl, ?_⟩
      exact ee_exP (sl := sI (v + 1)) (ex_add (ex_var 2 rfl) ex_int) ⟨v + 1, rfl, hne, rfl, ⟨r, hr6, congrArg sI hr2⟩, rfl⟩
end PL

/-! part PE5 -/
set_option exponentiation.threshold 256 -- PE5
set_option maxHeartbeats 1000000 -- PE5
set_option maxRecDepth 100000 -- PE5
/-! PE5: signs by draws. -/
namespace TL
open PySem PySem.Spec PyProof.Rows L2 MA
section
variable {X : Cx} {S : List Addr} {F0 H0 F H F' H' F1 H1 : Hp} {e o a b c tg iter elt : Expr} {es : List Expr} {sts : List Stmt} {st : Stmt} {p pos apos : Pos} {Γ Γ' : List Sl} {T T' : TK} {i j : Int} {sl slO res : Sl} {sls : List Sl} {α β γ δ : Type} {R : Rp α} {R' : Rp β} {x : α} {y : β} {l : List α} {is : List Nat} {P : Sl → List Sl → Prop}
theorem lc_own {scope : Scope} {vs : List Nat} {wi : TI} {l : List α} {Γi : α → List Sl} {f : α → β} {σ : L2.St}
    (it : ∀ σ F H, Wd F H Γ σ → ∀ P : It → Hp → Prop, (∀ J F' H' G Y, Gr F H F' H' → l.length ≤ sizeLine → WalkT R J F' l (fun _ => True) G Y → P J H') → wi σ H P)
    (hg : ∀ a ∈ l, InB X scope fun X' => GT X' tg is (.dat R a) (wpS Γ vs) (Γi a)) (hs : ∀ i ∈ is, i ∈ vs) (he : ∀ a ∈ l, InB X scope fun X' => EX X' elt (Γi a) (.dat R' (f a)))
    (w0 : Wd F H Γ σ) {Q : VK} (q : ∀ D F' H', Gr F H F' H' → H D = none → SlSat F' H' (sO R' D (l.map f)) (some (.ref D)) → Q (.ref D) H') : tLc wi (gAll X scope tg) tYes (eAll X scope elt) vs σ H Q := by
  refine it σ F H w0 _ fun J F' H' G Y g hz wt D hD => ?_
  have hDH : H D = none := by
    cases h : H D with
    | none => rfl
    | some o => exact absurd hD (g.there D (ne_none_of h))
  refine lc_it wt.w (fun i H2 => ∃ F2 acc, Gr F' H' F2 H2 ∧ F2 D = none ∧ H2 D = some (.lst acc) ∧ Paired (R'.rel F2) acc ((l.take i).map f)) ?_ ?_ ?_ ?_
  · exact ⟨F', [], Gr.mut g.sub hD, g.sub.free hD, upd_same, by rw [List.take_zero]; exact .nil⟩
  · rintro i H2 _ ⟨F2, acc, g2, _, _, _⟩
    exact wt.g F2 H2 g2.fz g2.sub trivial
  · rintro i x H2 H3 hi ⟨F2, acc, g2, hn, hd, pr⟩ hy
    obtain ⟨a, F3, ha, g3, ra⟩ := wt.y i x F2 H2 H3 g2.fz g2.sub hi hy
    have hm : a ∈ l := List.mem_of_getElem? ha
    have gT : Gr F H F3 H3 := (g.trans g2).trans g3
    intro s0 H0 C cl fp
    refine hg a hm s0 H0 C cl fp (wipe σ vs) F3 H3 x (wd_wipe (w0.grow gT) vs) (dat_sat ra) _ fun σ2 w2 st => ?_
    refine ⟨wipe_stored st hs, ?_⟩
    unfold tYes
    dsimp only
    rw [if_pos rfl]
    intro s0 H0 C cl fp
    refine he a hm s0 H0 C cl fp σ2 F3 H3 w2 _ fun v F4 H4 g4 r4 => ?_
    have g34 : Gr F2 H2 F4 H4 := g3.trans g4
    have hD4 : H4 D = some (.lst acc) := g34.hp D _ hd
    have hl : acc.length = i := by
      rw [Paired.length pr, List.length_map, List.length_take]
      omega
    refine ⟨acc, hD4, by omega, F4, acc ++ [v], (g2.trans g34).write (g34.new D hn (ne_none_of hd)) (.inr hD), g34.new D hn (ne_none_of hd), upd_same, ?_⟩
    rw [List.take_add_one, ha, List.map_append]
    exact Paired.snoc (paired_mono g34.fz pr) (sat_dat r4)
  · rintro H2 ⟨F2, acc, g2, hn, hd, pr⟩
    rw [List.take_length] at pr
    exact q D F2 H2 (g.trans g2) hDH ⟨rfl, ⟨by simpa using hz, acc, hd, pr⟩, fun b hb => by
      have : b = D := by simpa [accO] using hb
      rw [this]
      exact hn⟩
/-- [elt for tg in it], one's own -/
theorem en_lcO {elt : Expr} {scope : Scope} (own : List (Str × Nat)) {l : List α} {Γi : α → List Sl} {f : α → β} (it : IT X tg iter Γ R l) (ok : BlkOk X.N X.env.scope scope own)
    (hg : ∀ a ∈ l, InB X scope fun X' => GT X' tg is (.dat R a) (wpS Γ (own.map (·.2))) (Γi a)) (he : ∀ a ∈ l, InB X scope fun X' => EX X' elt (Γi a) (.dat R' (f a))) (hs : ∀ i ∈ is, i ∈ own.map (·.2) := by decide) (hN : X.N.Nodup := by assumption) (hc : X.calm = true := by rfl) (hs2 : ∀ x, foldedSetIterable iter X.env x = pure x := by intro _; rfl) :
    EN X (.ListComp elt [⟨tg, iter, [], 0⟩] scope pos) Γ (fun s => ∃ D, s = sO R' D (l.map f)) := fun σ F H w Q q => by
  obtain ⟨wi, hi, hr⟩ := it
  exact PE.wp (pe_lc hc hN hi ok gAll_pg (fun _ _ _ _ _ => pts_nil) eAll_pe hs2)
    (lc_own hr hg hs he w fun D F1 H1 g1 hD r1 => q _ F1 H1 _ g1 r1 (fun b hb => by
      have : b = D := by simpa [Sl.foot, accO] using hb
      rw [this]
      exact hD) ⟨D, rfl⟩)
theorem paired_erase {ρ : Type} {R : V → ρ → Prop} : ∀ {xs : List V} {l : List ρ} (n : Nat), Paired R xs l → Paired R (xs.eraseIdx n) (l.eraseIdx n)
  | _, _, _, .nil => by simp; exact .nil
  | _, _, 0, .cons r t => t
  | _, _, n + 1, .cons r t => .cons r (paired_erase n t)
/-- x.pop(e), x one's own, e with effects on other things -/
theorem ee_popAt (n : Nat) {D : Addr} {l0 : List α} {nm : Str} {p1 p2 p3 : Pos} (h0 : gtS Γ n = sO R D l0) (he : EE X e Γ (fun s Γ1 => ∃ (k : Nat) (y : α), s = sI k ∧ gtS Γ1 n = sO R D l0 ∧ l0[k]? = some y ∧ P (.dat R y) (stS Γ1 n (sO R D (l0.eraseIdx k)))))
    (hN : X.N[n]? = some nm := by rfl) (hv : Vis X.env.scope nm := by first | exact Or.inl rfl | exact Or.inr (Or.inl rfl) | exact Or.inr (Or.inr rfl)) (hdb : (nm == ("__debug__" : Str)) = false := by decide) (hcd : (nm == ("__classdict__" : Str)) = false := by decide)
    (hbase : attributeBase (.Name nm p1) "pop" X.env (eval (.Name nm p1) X.env) = eval (.Name nm p1) X.env := by rfl)
    (hfew : ((backTo p3 (starEach [e] X.env)).all (fun x => !x.1) && (backToKw p3 (keywordEach [] X.env)).all (fun x => x.1.isSome) && decide (([e] : List Expr).length + ([] : List Keyword).length + (if ([] : List Keyword).isEmpty then 0 else 1) < 30)) = true := by rfl)
    (hline : (p2.endLine == p3.line) = true := by rfl) (hs1 : starEach [e] X.env = (false, eval e X.env) :: starEach [] X.env := by rfl) (hpl : (backTo p3 (starEach [] X.env)).any (·.1) = false := by rfl) : EE X (.Call (.Attribute (.Name nm p1) "pop" p2) [e] [] p3) Γ P := fun σ F H w Q q => by
  refine PE.wp (pe_bm PySem.F.plainAttrs_list PySem.F.slot_list_pop PySem.F.type_list_pop mt_popAt (pe_var (i := n) hN hv hdb hcd) (pa_cons pe_wp pa_nil hs1) hbase hfew hline hs1 hpl) ?_
  obtain ⟨e1, ⟨z, xs, hx, pr⟩, hn⟩ := w.sat.own h0
  refine ⟨.ref D, e1, .inl ⟨rfl, xs, SqL.of hx⟩, he σ F H w _ fun u F1 H1 sl1 Γ1 s1 r1 hf1 ⟨k, y, es, h1, hy, hP⟩ => ?_⟩
  subst es
  have e2 : u = .int k := sat_dat r1
  subst e2
  obtain ⟨_, ⟨z1, xs1, hx1, pr1⟩, hn1⟩ := s1.wd.sat.own h1
  obtain ⟨v, hv1, rv⟩ := paired_at pr1 hy
  have hkl : k < xs1.length := (List.getElem?_eq_some_iff.mp hv1).1
  have hz : sizeLine = 16777216 := rfl
  have hlen := Paired.length pr1
  refine ⟨D, xs1, k, k, v, rfl, rfl, hx1, by omega, by omega, ?_, hv1, ?_⟩
  · have e : (if (k : Int) < 0 then (k : Int) + (xs1.length : Int) else (k : Int)) = (k : Int) := if_neg (by omega)
    show (if 0 ≤ (if (k : Int) < 0 then (k : Int) + (xs1.length : Int) else (k : Int)) && (if (k : Int) < 0 then (k : Int) + (xs1.length : Int) else (k : Int)) < (xs1.length : Int) then some (if (k : Int) < 0 then (k : Int) + (xs1.length : Int) else (k : Int)).toNat else none) = some k
    rw [e]
    have h1 : (decide (0 ≤ (k : Int)) && decide ((k : Int) < (xs1.length : Int))) = true := by
      rw [Bool.and_eq_true, decide_eq_true_iff, decide_eq_true_iff]
      omega
    rw [if_pos h1, Int.toNat_natCast]
  · have hFD : F1 D = none := hn1 D (by simp [accO])
    have g2 : GrS (accO R D l0).foot F1 H1 F1 (upd H1 D (.lst (xs1.eraseIdx k))) := (GrS.refl s1.wd.sub).write hFD (.inl (by simp [accO]))
    have s2 := Sp.eff (P' := accO R D (l0.eraseIdx k)) s1.wd h1 rfl rfl g2 ⟨by have := List.length_eraseIdx_le l0 k; omega, _, upd_same, paired_erase k pr1⟩ fun b hb => by
      have : b = D := by simpa [accO] using hb
      rw [this]
      exact hFD
    exact q v F1 _ _ _ (s1.trans s2) (dat_sat rv) (fun b hb => by cases hb) hP
end
end TL

/-! part PE6 -/
set_option exponentiation.threshold 256 -- PE6
set_option maxHeartbeats 1000000 -- PE6
set_option maxRecDepth 100000 -- PE6
/-! PE6: signs by draws, walked. -/
namespace TL
open PySem PySem.Spec PyProof.Rows L2 MA
/-- the text of a sign -/
def sgS (c : Nat) : Str := ⟨[c].toArray⟩
theorem paired_sg {F : Hp} : ∀ {xs : List V} {cs : List Nat}, Paired (RSg.rel F) xs cs → xs = (cs.map sgS).map V.str
  | _, _, .nil => rfl
  | _, _, .cons r t => by
    rw [List.map_cons, List.map_cons, ← paired_sg t]
    obtain ⟨h, _⟩ := r
    rw [h]
    rfl
theorem rise_sg : ∀ (cs : List Nat) (p : Nat), risingS (sgS p) (cs.map sgS) = true → (p :: cs).Pairwise (· ≤ ·)
  | [], p, _ => List.pairwise_singleton _ _
  | x :: r, p, h => by
    have h2 : (!ltCps [x] [p] && risingS (sgS x) (r.map sgS)) = true := h
    rw [Bool.and_eq_true] at h2
    have ih := rise_sg r x h2.2
    have hpx : p ≤ x := by
      refine Classical.byContradiction fun z => ?_
      have : ltCps [x] [p] = true := by
        show (decide (x < p) || (x == p && ltCps [] [])) = true
        rw [decide_eq_true (show x < p by omega)]
        rfl
      rw [this] at h2
      cases h2.1
    refine List.pairwise_cons.mpr ⟨fun y hy => ?_, ih⟩
    rcases List.mem_cons.mp hy with rfl | hy
    · exact hpx
    · exact Nat.le_trans hpx (List.rel_of_pairwise_cons ih hy)
theorem sort_sg {cs : List Nat} (h : sortedS (cs.map sgS) = true) : cs.Pairwise (· ≤ ·) := by
  cases cs with
  | nil => exact .nil
  | cons p r => exact rise_sg r p h
def unSg (s : Str) : Nat := s.cps.toList.headD 0
theorem un_sg (c : Nat) : unSg (sgS c) = c := rfl
theorem back_sg {cs : List Nat} {ys : List Str} (h : ys.Perm (cs.map sgS)) : ys = (ys.map unSg).map sgS ∧ (ys.map unSg).Perm cs := by
  refine ⟨?_, ?_⟩
  · rw [List.map_map]
    conv => lhs; rw [← List.map_id ys]
    refine List.map_congr_left fun y hy => ?_
    obtain ⟨c, _, rfl⟩ := List.mem_map.mp (h.mem_iff.mp hy)
    rfl
  · have := h.map unSg
    rw [List.map_map] at this
    have e : (cs.map (unSg ∘ sgS)) = cs := by
      conv => rhs; rw [← List.map_id cs]
      exact List.map_congr_left fun c _ => rfl
    rw [e] at this
    exact this
theorem joinL_sg : ∀ cs : List Nat, TL.joinL [] (cs.map fun c => [c]) = cs
  | [] => rfl
  | [_] => rfl
  | c :: d :: r => by
    show [c] ++ ([] ++ TL.joinL [] ((d :: r).map fun c => [c])) = c :: d :: r
    rw [joinL_sg (d :: r)]
    rfl
theorem join_sg (cs : List Nat) : Txt.join ⟨#[]⟩ (cs.map sgS) = ⟨cs.toArray⟩ := by
  have h := SX.join_S [] (cs.map fun c => [c])
  rw [List.map_map, joinL_sg] at h
  exact h
theorem nu_min (i j : Int) : nuMin2 (.int i) (.int j) = some (.int (if j < i then j else i)) := by
  show (some (decide (j < i))).map (fun c => if c = true then V.int j else V.int i) = _
  by_cases h : j < i
  · rw [decide_eq_true h, if_pos h]
    rfl
  · rw [decide_eq_false h, if_neg h]
    rfl
section
variable {X : Cx} {e a b c : Expr} {p pos apos p1 p2 p3 p4 : Pos} {Γ : List Sl} {i j k : Int} {P : Sl → List Sl → Prop}
/-- "".join(sorted(x)) -/
theorem ee_sortJoin (n : Nat) {cs : List Nat} {nm : Str} {jj : Nat} {s : Str} (hs0 : s = ⟨#[]⟩) (hm : X.mg "sorted" = none) (h0 : gtS Γ n = sL RSg cs) (hl : cs.length < 64) (hq : ∀ ys, ys.Perm cs → ys.Pairwise (· ≤ ·) → P (.dat RTx ys) Γ)
    (hN : X.N[n]? = some nm := by rfl) (hv : Vis X.env.scope nm := by first | exact Or.inl rfl | exact Or.inr (Or.inl rfl) | exact Or.inr (Or.inr rfl)) (hdb : (nm == ("__debug__" : Str)) = false := by decide) (hcd : (nm == ("__classdict__" : Str)) = false := by decide) (hg : Gl X "sorted" := by rfl)
    (hs1 : starEach [.Name nm p2] X.env = (false, eval (.Name nm p2) X.env) :: starEach [] X.env := by rfl) (hpl : (backTo p3 (starEach [] X.env)).any (·.1) = false := by rfl)
    (hs2 : starEach [.Call (.Name "sorted" p1) [.Name nm p2] [] p3] X.env = [(false, eval (.Call (.Name "sorted" p1) [.Name nm p2] [] p3) X.env)] := by rfl) (hbase : attributeBase (.Constant (.str s) jj pos) "join" X.env (eval (.Constant (.str s) jj pos) X.env) = eval (.Constant (.str s) jj pos) X.env := by rfl) (hline : (apos.endLine == p4.line) = true := by rfl) :
    EE X (.Call (.Attribute (.Constant (.str s) jj pos) "join" apos) [.Call (.Name "sorted" p1) [.Name nm p2] [] p3] [] p4) Γ P := fun σ F H w Q q => by
  refine PE.wp (pe_join pe_str (pe_callB cr_sortedS hg hm PyProof.Rows.boot_sorted (pa_cons (pe_var (i := n) hN hv hdb hcd) pa_nil hs1) (by decide) (by decide) hs1 hpl) hs2 hbase hline) ?_
  obtain ⟨v, e1, p, xs, rfl, hx, hz, pr⟩ := w.sat.dat h0
  have hxs := paired_sg pr
  subst hxs
  refine ⟨⟨s, rfl⟩, .ref p, e1, p, cs.map sgS, rfl, SqL.of (w.sub _ _ hx), by rw [List.length_map]; exact hl, fun ys D hp hso hD => ?_⟩
  obtain ⟨b1, b2⟩ := back_sg hp
  have hlen := b2.length_eq
  rw [List.length_map] at hlen
  subst hs0
  rw [b1] at hso
  refine ⟨⟨#[]⟩, D, ys, rfl, rfl, .inl (SqL.of upd_same), ?_, ?_⟩
  · rw [b1, List.map_map]
    have : (fun x => x.length) ∘ sgS = fun _ => 1 := rfl
    have hsum : ∀ l : List Nat, (l.map ((fun x : Str => x.length) ∘ sgS)).sum = l.length := fun l => by
      induction l with
      | nil => rfl
      | cons x l ih =>
        rw [List.map_cons, List.sum_cons, ih]
        show 1 + l.length = l.length + 1
        omega
    rw [hsum]
    rw [List.length_map, List.length_map, List.length_map]
    show ys.length + ys.length * 0 ≤ 16777216
    omega
  · rw [b1, join_sg]
    have g := Gr.mut (F := F) (o := .lst (ys.map V.str)) w.sub hD
    rw [← b1]
    exact q _ F _ _ Γ (Sp.of w g) (dat_sat (R := RTx) (x := ys.map unSg) ⟨rfl, by
      rw [List.length_map]
      have hz : sizeLine = 16777216 := rfl
      omega⟩) (fun b hb => by cases hb) (hq _ b2 (sort_sg hso))
/-- min(a, b, c) -/
def min3 (i j k : Int) : Int := if k < (if j < i then j else i) then k else (if j < i then j else i)
theorem ex_min3 (hm : X.mg "min" = none) (ha : EX X a Γ (sI i)) (hb : EX X b Γ (sI j)) (hc : EX X c Γ (sI k)) (hcalm : X.calm = true := by rfl) (hg : Gl X "min" := by rfl) (hs2 : starEach [c] X.env = (false, eval c X.env) :: starEach [] X.env := by rfl) (hs1 : starEach [b, c] X.env = (false, eval b X.env) :: starEach [c] X.env := by rfl)
    (hs : starEach [a, b, c] X.env = (false, eval a X.env) :: starEach [b, c] X.env := by rfl) (hpl : (backTo pos (starEach [b, c] X.env)).any (·.1) = false := by rfl) : EX X (.Call (.Name "min" p) [a, b, c] [] pos) Γ (sI (min3 i j k)) := fun σ F H w Q q =>
  PE.wp (pe_callB (call_min3Nu hcalm) hg hm PyProof.Rows.boot_min pa_wp (by decide) (by decide) hs hpl) (ea_cons ha (ea_cons hb (ea_cons hc ea_nil hs2) hs1) hs σ F H w _ fun vs F1 H1 g1 r => by
    obtain ⟨v, u, t, rfl, r1, r2, r3⟩ := sat3 r
    have e1 : v = .int i := sat_dat r1
    have e2 : u = .int j := sat_dat r2
    have e3 : t = .int k := sat_dat r3
    subst e1 e2 e3
    refine ⟨.int i, .int j, .int k, .int (min3 i j k), rfl, ?_, q _ F1 H1 g1 (dat_sat rfl)⟩
    unfold nuMin3
    rw [nu_min, Option.bind_some, nu_min]
    rfl)
end
end TL

/-! part PE7 -/
set_option exponentiation.threshold 256 -- PE7
set_option maxHeartbeats 1000000 -- PE7
set_option maxRecDepth 100000 -- PE7
/-! PE7: _law_signs. -/
namespace PL
open PySem PySem.Spec L2 TL KHd MA PD
variable {P : Program} {w : World} {K : PySem.W.Frag} {mg : Str → Option Value} {base : Heap}
theorem letters_up : letters.Pairwise (· < ·) := by decide
theorem letters_le : ∀ c ∈ letters, 97 ≤ c ∧ c ≤ 122 := by decide
theorem good_of {acc l ys : List Nat} (h : (acc ++ l).Perm letters) (h2 : ys.Perm acc) (h3 : ys.Pairwise (· ≤ ·)) (h0 : 1 ≤ acc.length) : GoodSg ys := by
  have hn : (acc ++ l).Nodup := h.nodup_iff.mpr (letters_up.imp fun h => by omega)
  have hy : ys.Nodup := h2.nodup_iff.mpr (List.nodup_append.mp hn).1
  have hm : ∀ c ∈ ys, c ∈ letters := fun c hc => h.mem_iff.mp (List.mem_append_left _ (h2.mem_iff.mp hc))
  have hl := h.length_eq
  rw [List.length_append] at hl
  have hl2 : letters.length = 26 := by decide
  have hl3 := h2.length_eq
  refine ⟨fun z => ?_, ?_, fun c hc => letters_le c (hm c hc), by omega⟩
  · rw [z] at hl3
    rw [← hl3] at h0
    cases h0
  · refine List.pairwise_iff_getElem.mpr fun i j hi hj hij => ?_
    have a := List.pairwise_iff_getElem.mp h3 i j hi hj hij
    have b := List.pairwise_iff_getElem.mp hy i j hi hj hij
    omega
theorem perm_erase {α : Type} : ∀ {l : List α} {k : Nat} {y : α}, l[k]? = some y → (y :: l.eraseIdx k).Perm l
  | x :: l, 0, y, h => by
    have : x = y := by simpa using h
    subst this
    exact List.Perm.refl _
  | x :: l, k + 1, y, h => (List.Perm.swap x y _).trans (List.Perm.cons x (perm_erase (l := l) (k := k) (by simpa using h)))
theorem perm_pop {acc l : List Nat} {k y : Nat} (h : (acc ++ l).Perm letters) (hy : l[k]? = some y) : (acc ++ [y] ++ l.eraseIdx k).Perm letters := by
  refine List.Perm.trans ?_ h
  rw [List.append_assoc]
  exact List.Perm.append_left acc (perm_erase hy)
abbrev nSg : List Str := ["_law_deck_here", "_law_left", "_law_picked", "_law_letter", "_law_k"]
theorem sc_sgs : FnScope nSg ["_law_deck_here"] (defScope s__law_signs) := ⟨rfl, rfl, rfl, by decide +kernel, rfl, by decide +kernel, by decide +kernel⟩
def tb_sgs : List Sl → (Sl → List Sl → Prop) → Prop := fun args post => ∃ (D G : Addr) (hd : [D, G].Nodup) (n : Nat), args = [.own (dkO D G hd n)] ∧ n ≤ 9000 ∧ post = drew D G hd (n + 4) fun sl => ∃ sg : List Nat, GoodSg sg ∧ 1 ≤ sg.length ∧ sg.length ≤ 3 ∧ sl = .dat RTx sg
theorem ok_signs (T : TX K mg) : Gn P w K mg base 2 "_law_signs" ["_law_deck_here"] tb_sgs := by
  obtain ⟨fd, F⟩ := T.u__law_signs
  refine ⟨_, fd, fn_eff (N := nSg) F sc_sgs ?_ ?_, F.bindsN fun _ _ _ _ _ _ us hl => match us, hl with | [_], _ => rfl, T.g__law_signs, F.kp⟩
  · rintro args res ⟨_, _, _, _, rfl, _⟩
    rfl
  · rintro cdv A outer s H E args res hr ⟨D, G, hd, n, rfl, hn, rfl⟩
    have hN := sc_sgs.nd
    have hz : sizeLine = 16777216 := rfl
    show RS _ _ _ _ [.own (dkO D G hd n), .any, .any, .any, .any] _
    refine rs_cons (r1_setN 1 (en_lcO (R := RSg) (R' := RSg) (f := fun c => c) [("_law_letter", 3)] (it_str (ex_str (l := letters) rfl)) (blkOk_by rfl) (fun _ _ _ _ _ _ _ => gt_name 3) (fun _ _ _ _ _ _ _ => ex_var 3 rfl)) ?_)
    rintro _ ⟨L, rfl⟩
    rw [List.map_id']
    show RS _ _ _ _ [.own (dkO D G hd n), sO RSg L letters, .any, .any, .any] _
    refine rs_cons (r1_setLcR (R' := RSg) 2 4 (fun m i acc Γi => 1 ≤ m ∧ m ≤ 3 ∧ i ≤ m ∧ ∃ l, Γi = [.own (dkO D G hd (n + 1 + i)), sO RSg L l, .any, .any, .any] ∧ (acc ++ l).Perm letters ∧ acc.length = i)
      (itr_range (ee_add (ee_exP ex_int ⟨1, rfl, ee_drawI (n := n) 0 T (hr.mono (by decide)) rfl ex_int (by decide) (by decide) (by omega) fun k hk => ⟨k, rfl, 1 + k, congrArg sI (by omega), by omega, by omega, by omega, by omega, letters, rfl, List.Perm.refl _, rfl⟩⟩)) T.f_range)
      (blkOk_by rfl) ?_ ?_ ?_ ?_)
    · rintro m i acc _ ⟨_, _, _, l, rfl, _, _⟩
      exact ⟨rfl, rfl⟩
    · rintro m i acc _ ⟨_, _, _, l, rfl, _, _⟩ _ _ _ _ _
      exact gt_name 4
    · rintro m i acc _ hi ⟨h1, h2, h3, l, rfl, hp, hl⟩ _ _ _ _ _
      have hlen := hp.length_eq
      rw [List.length_append] at hlen
      have hl2 : letters.length = 26 := by decide
      refine ee_popAt (D := L) (l0 := l) 1 rfl (ee_drawI (n := n + 1 + i) 0 T (hr.mono (by decide)) rfl (ex_len (R := RSg) (l := l) T.f_len (ex_var 1 rfl) .own) (by omega) (by omega) (by omega) fun k hk => ?_)
      obtain ⟨y, hy⟩ := get_of (l := l) (k := k) (by omega)
      exact ⟨k, y, rfl, rfl, hy, y, rfl, h1, h2, by omega, l.eraseIdx k, rfl, perm_pop hp hy, by rw [List.length_append, hl]; rfl⟩
    · rintro m acc _ hm ⟨h1, h2, _, l, rfl, hp, hl⟩
      refine rs_up (n + 4) (k := 0) rfl (by omega) ?_
      refine rs_one (r1_retE (Γ := [.own (dkO D G hd (n + 4)), sO RSg L l, sL RSg acc, .any, .any]) (ee_sortJoin (cs := acc) 2 rfl T.f_sorted rfl (by omega) fun ys q1 q2 => ⟨rfl, ⟨ys, good_of hp q1 q2 (by omega), ?_, ?_, rfl⟩, rfl⟩))
      · have := q1.length_eq
        omega
      · have := q1.length_eq
        omega
end PL

/-! part PE8 -/
set_option exponentiation.threshold 256 -- PE8
set_option maxHeartbeats 1000000 -- PE8
set_option maxRecDepth 100000 -- PE8
/-! PE8: machines by draws: what is lacking. -/
namespace TL
open PySem PySem.Spec PyProof.Rows L2 MA
/-- a road as data -/
def rdD (r : PD.Road) : PyData := .tuple [.int (r.1 : Int), .str ⟨[r.2.1].toArray⟩, .int (r.2.2.1 : Int), .tuple [.int r.2.2.2.num, .int (r.2.2.2.den : Int)]]
theorem rd_rd {K : PySem.W.Frag} {F H : Hp} {v : V} {q : PD.Road} (s : Same F H) (r : PD.RRd.rel F v q) : Dp K H v (rdD q) := by
  obtain ⟨a, x, y, z, u, rfl, e, r1, ⟨r2, _⟩, r3, r4⟩ := r
  cases r1
  cases r2
  cases r3
  exact .tup (SqT.of (s _ _ e)) (.cons (.int _) (.cons (.str _) (.cons (.int _) (.cons (dr_q.rd s r4) .nil))))
theorem rd_can {q : PD.Road} (h : q.2.1 ≤ 122) : (rdD q).canLay0 = true := by
  unfold rdD
  simp [PyData.canLay0, PyData.canLayAll0, PyData.strOk]
  omega
theorem rd_sh {l : List PD.Road} (h : ∀ r ∈ l, r.2.1 ≤ 122) : SeqAt.shaped (.list (l.map rdD)) = true := by
  have h1 : (PyData.list (l.map rdD)).canLay0 = true := by
    simp only [PyData.canLay0]
    induction l with
    | nil => rfl
    | cons x l ih => simp only [List.map_cons, PyData.canLayAll0, rd_can (h x (by simp)), ih fun r hr => h r (by simp [hr]), Bool.and_self]
  have h2 : (PyData.list (l.map rdD)).depth ≤ 3 := by
    simp only [PyData.depth]
    clear h h1
    induction l with
    | nil => simp [PyData.depthAll]
    | cons x l ih =>
      simp only [List.map_cons, PyData.depthAll]
      have : (rdD x).depth ≤ 2 := by simp [rdD, PyData.depth, PyData.depthAll]
      omega
  unfold SeqAt.shaped
  rw [h1, decide_eq_true (show _ ≤ 64 by omega)]
  rfl
section
variable {X : Cx} {S : List Addr} {F0 H0 F H F' H' F1 H1 : Hp} {e o a b c tg iter elt : Expr} {es : List Expr} {sts : List Stmt} {st : Stmt} {p pos apos p3 : Pos} {Γ Γ' : List Sl} {T T' : TK} {i j : Int} {sl slO res : Sl} {sls : List Sl} {α β γ δ : Type} {R : Rp α} {R' : Rp β} {x : α} {y : β} {l : List α} {is : List Nat} {P : Sl → List Sl → Prop}
theorem dp_paired {K : PySem.W.Frag} {F H : Hp} {f : α → PyData} (D : ∀ {v : V} {x : α}, R.rel F v x → Dp K H v (f x)) : ∀ {xs : List V} {l : List α}, Paired (R.rel F) xs l → DpAll K H xs (l.map f)
  | _, _, .nil => .nil
  | _, _, .cons r t => .cons (D r) (dp_paired D t)
/-- x != [], x one's own -/
theorem et_neO [DecidableEq α] {f : α → PyData} {Dl : Addr} (D : ∀ {F H : Hp} {v : V} {x : α}, Same F H → R.rel F v x → Dp X.K H v (f x)) (hsh : SeqAt.shaped (.list (l.map f)) = true) (hu : X.A.units + 64 < cLine) (ha : EX X a Γ (sO R Dl l)) : ET X (.Compare a [.NotEq] [.List [] p3] pos) Γ (!decide (l = [])) := fun σ F H w Q q =>
  PT.wp (pt_cmpR (op_neD hu) pe_wp (pe_lst pa_nil) (nomark _)) (ha σ F H w _ fun u F1 H1 g1 r1 => by
    obtain ⟨e1, ⟨hz, xs, hx, pr⟩, hn⟩ := r1
    have e2 : u = .ref Dl := Option.some.inj e1
    subst e2
    refine ⟨Nat.zero_le _, fun p hp => ?_⟩
    have g2 := Gr.mut (F := F1) (o := .lst []) g1.sub hp
    have hG : (upd H1 p (.lst [])) Dl = some (.lst xs) := by
      rw [upd_ne fun z => by subst z; rw [hx] at hp; cases hp]
      exact hx
    have sh0 : SeqAt.shaped (.list []) = true := by rfl
    refine ⟨.list (l.map f), .list [], .lst (SqL.of hG) (dp_paired (fun r => D g2.sub r) pr), .lst (SqL.of upd_same) .nil, hsh, sh0, ⟨_, rfl, ?_⟩⟩
    have e : PyData.eqv (.list (l.map f)) (.list []) = decide (l = []) := by
      cases l with
      | nil => simp [PyData.eqv, PyData.eqvAll]
      | cons x l => simp [PyData.eqv, PyData.eqvAll]
    rw [e]
    exact q _ _ (g1.trans g2))
/-- what stands apart -/
theorem rs_nd (h : (feet Γ).Nodup → RS X S H0 sts Γ T) : RS X S H0 sts Γ T := fun F0 σ F H l => h l.wd.nd F0 σ F H l
end
end TL
namespace PL
open PySem PySem.Spec L2 TL KHd MA PD
/-- a number by draws -/
theorem ee_number {X : Cx} (n0 : Nat) {xn : Str} {p p1 pos : Pos} {e : Expr} {Γ : List Sl} {Q : Sl → List Sl → Prop} {D G : Addr} {hd : [D, G].Nodup} {n : Nat} {gt : Int} (T : TX X.K X.mg) (hr : Room 3 X.A) (hn : gtS Γ n0 = .own (dkO D G hd n)) (ha : EX X e Γ (sI gt)) (h0 : 3 ≤ gt) (h1 : gt ≤ 10) (h2 : n ≤ 9000) (hq : ∀ q : Rat, NumOk q → Q (.dat RQ q) (stS Γ n0 (.own (dkO D G hd (n + 3)))))
    (hN : X.N[n0]? = some xn := by rfl) (hv : Vis X.env.scope xn := by first | exact Or.inl rfl | exact Or.inr (Or.inl rfl) | exact Or.inr (Or.inr rfl)) (hdb : (xn == ("__debug__" : Str)) = false := by decide) (hcd : (xn == ("__classdict__" : Str)) = false := by decide)
    (hg : Gl X "_law_number" := by rfl) (he1 : starEach [e] X.env = (false, eval e X.env) :: starEach [] X.env := by rfl) (he : starEach (.Name xn p1 :: [e]) X.env = (false, eval (.Name xn p1) X.env) :: starEach [e] X.env := by rfl) (hpl : (backTo pos (starEach [e] X.env)).any (·.1) = false := by rfl) : EE X (.Call (.Name "_law_number" p) [.Name xn p1, e] [] pos) Γ Q :=
  ee_callD n0 (ok_number T) hr hn (eea_cons (ee_exP ha ⟨rfl, eea_nil ⟨_, _, hn, rfl, ⟨D, G, hd, n, gt, rfl, h0, h1, h2, rfl⟩, by
    rintro sl Γc ⟨⟨q, hk, rfl⟩, h0⟩
    exact ⟨_, h0, rfl, rfl, rfl, hq q hk⟩⟩⟩) he1) hN hv hdb hcd hg (by decide) he hpl
end PL

/-! part PE9 -/
set_option exponentiation.threshold 256 -- PE9
set_option maxHeartbeats 1000000 -- PE9
set_option maxRecDepth 100000 -- PE9
/-! PE9: _law_machine. -/
namespace PL
open PySem PySem.Spec L2 TL KHd MA PD
variable {P : Program} {w : World} {K : PySem.W.Frag} {mg : Str → Option Value} {base : Heap}
/-- roads as drawn -/
def RdOk (sg : List Nat) (many : Nat) (r : Road) : Prop := r.1 < many ∧ r.2.1 ∈ sg ∧ r.2.2.1 < many ∧ NumOk r.2.2.2
structure PartsOk (sg : List Nat) (many : Nat) (p : Parts) : Prop where
  sgn : p.1 = sg
  bl : p.2.1.length = many
  fl : p.2.2.2.length = many
  cnt : p.2.2.1.length ≤ 24
  nb : ∀ q ∈ p.2.1, NumOk q
  nf : ∀ q ∈ p.2.2.2, NumOk q
  rd : ∀ r ∈ p.2.2.1, RdOk sg many r
abbrev nMc : List Str := ["_law_deck_here", "_law_signs_here", "_law_many", "_law_most", "_law_great", "_law_begin", "_law_roads", "_law_k", "_law_road"]
theorem sc_mc : FnScope nMc ["_law_deck_here", "_law_signs_here", "_law_many", "_law_most", "_law_great"] (defScope s__law_machine) := ⟨rfl, rfl, rfl, by decide +kernel, rfl, by decide +kernel, by decide +kernel⟩
def tb_mc : List Sl → (Sl → List Sl → Prop) → Prop := fun args post => ∃ (D G : Addr) (hd : [D, G].Nodup) (n : Nat) (sg : List Nat) (many : Nat) (gt : Int), args = [.own (dkO D G hd n), .dat RTx sg, sI many, sI 24, sI gt] ∧ GoodSg sg ∧ sg.length ≤ 3 ∧ many ≤ 6 ∧ 3 ≤ gt ∧ gt ≤ 10 ∧ n ≤ 5000 ∧ post = drew D G hd (n + 300) fun sl => ∃ p, PartsOk sg many p ∧ sl = .dat RParts p
theorem min3_b (m : Nat) : (if (5 * (m : Int)) < (if (24 : Int) < 24 then 24 else 24) then 5 * (m : Int) else (if (24 : Int) < 24 then 24 else 24)) ≤ 24 := by
  split <;> omega
theorem ok_machine (T : TX K mg) : Gn P w K mg base 4 "_law_machine" ["_law_deck_here", "_law_signs_here", "_law_many", "_law_most", "_law_great"] tb_mc := by
  obtain ⟨fd, F⟩ := T.u__law_machine
  refine ⟨_, fd, fn_eff (N := nMc) F sc_mc ?_ ?_, F.bindsN fun _ _ _ _ _ _ us hl => match us, hl with | [_, _, _, _, _], _ => rfl, T.g__law_machine, F.kp⟩
  · rintro args res ⟨_, _, _, _, _, _, _, rfl, _⟩
    rfl
  · rintro cdv A outer s H E args res hr ⟨D, G, hd, n, sg, many, gt, rfl, hsg, hs3, hm, hg0, hg1, hn, rfl⟩
    have hN := sc_mc.nd
    have hz : sizeLine = 16777216 := rfl
    have hsp : 0 < sg.length := List.length_pos_iff.mpr hsg.ne
    show RS _ _ _ _ [.own (dkO D G hd n), .dat RTx sg, sI many, sI 24, sI gt, .any, .any, .any, .any] _
    refine rs_cons (r1_setLcR (R' := RQ) 5 7 (fun m i acc Γi => m = many ∧ i ≤ m ∧ Γi = [.own (dkO D G hd (n + 3 * i)), .dat RTx sg, sI many, sI 24, sI gt, .any, .any, .any, .any] ∧ acc.length = i ∧ ∀ q ∈ acc, NumOk q)
      (itr_range (ee_exP (ex_var 2 rfl) ⟨many, rfl, by omega, rfl, Nat.zero_le _, rfl, rfl, fun q h => (by cases h)⟩) T.f_range) (blkOk_by rfl) ?_ ?_ ?_ ?_)
    · rintro m i acc _ ⟨_, _, rfl, _, _⟩
      exact ⟨rfl, rfl⟩
    · rintro m i acc _ ⟨_, _, rfl, _, _⟩ _ _ _ _ _
      exact gt_name 7
    · rintro m i acc _ hi ⟨h1, h2, rfl, h4, h5⟩ _ _ _ _ _
      refine ee_number (n := n + 3 * i) 0 T (hr.mono (by decide)) rfl (ex_var 4 rfl) hg0 hg1 (by omega) fun q hq => ⟨q, rfl, h1, by omega, rfl, by rw [List.length_append, h4]; rfl, fun q2 h => ?_⟩
      rcases List.mem_append.mp h with h | h
      · exact h5 q2 h
      · have : q2 = q := by simpa using h
        rw [this]
        exact hq
    · rintro m bg _ hbl ⟨rfl, _, rfl, _, hbn⟩
      refine rs_up (n + 18) (k := 0) rfl (by omega) ?_
      show RS _ _ _ _ [.own (dkO D G hd (n + 18)), .dat RTx sg, sI m, sI 24, sI gt, sL RQ bg, .any, .any, .any] _
      refine rs_cons (r1_new RRd 6 fun L => ?_)
      show RS _ _ _ _ [.own (dkO D G hd (n + 18)), .dat RTx sg, sI m, sI 24, sI gt, sL RQ bg, sO RRd L [], .any, .any] _
      have hmin : min3 24 24 (5 * (m : Int)) ≤ 24 ∧ min3 24 24 (5 * (m : Int)) ≤ 5 * m ∧ 0 ≤ min3 24 24 (5 * (m : Int)) := by
        unfold min3
        refine ⟨?_, ?_, ?_⟩ <;> split <;> split <;> omega
      generalize hmi : min3 24 24 (5 * (m : Int)) = mi at *
      refine rs_cons (r1_forR (fun k i Γ => k ≤ 24 ∧ (0 < k → 0 < m) ∧ i ≤ k ∧ ∃ rds, Γ = [.own (dkO D G hd (n + 19 + 8 * i)), .dat RTx sg, sI m, sI 24, sI gt, sL RQ bg, sO RRd L rds, .any, .any] ∧ rds.length = i ∧ ∀ r ∈ rds, RdOk sg m r)
        (itr_range (ee_drawI (n := n + 18) (lim := 1 + mi) 0 T (hr.mono (by decide)) rfl (ex_add ex_int (ex_to (ex_min3 T.f_min (ex_var 3 rfl) ex_int (ex_mul ex_int (ex_var 2 rfl) (bt_cmul (a := 20) (b := 20) (by unfold Bt; decide) (show ((m : Int)).natAbs < 2 ^ 20 by omega) (by decide)))) (by rw [hmi]))) (by omega) (by omega) (by omega) fun k hk => ⟨k, rfl, by omega, by omega, by omega, Nat.zero_le _, [], rfl, rfl, fun r h => (by cases h)⟩) T.f_range) ?_ ?_)
      · rintro k i _ hi ⟨h1, h2, h3, rds, rfl, h5, h6⟩
        have hmp := h2 (by omega)
        refine ⟨_, _, gt_name 7, fun _ h => h, ?_⟩
        show RS _ _ _ _ [.own (dkO D G hd (n + 19 + 8 * i)), .dat RTx sg, sI m, sI 24, sI gt, sL RQ bg, sO RRd L rds, .dat RNat i, .any] _
        refine rs_cons (r1_setE 8 (ee_tup3 (eea_cons (ee_drawI (n := n + 19 + 8 * i) 0 T (hr.mono (by decide)) rfl (ex_var 2 rfl) (by omega) (by omega) (by omega) fun k1 hk1 => ⟨rfl, eea_cons (ee_sIx (l := sg) (ex_var 1 rfl) (ee_drawI (n := n + 19 + 8 * i + 1) 0 T (hr.mono (by decide)) rfl (ex_lens T.f_len (ex_var 1 rfl)) (by omega) (by omega) (by omega) fun k2 hk2 => ?_))⟩))))
        obtain ⟨c, hc⟩ := get_of (l := sg) (k := k2) (by omega)
        refine ⟨k2, c, rfl, atI_nat hc, rfl, eea_cons (ee_drawI (n := n + 19 + 8 * i + 2) 0 T (hr.mono (by decide)) rfl (ex_var 2 rfl) (by omega) (by omega) (by omega) fun k3 hk3 => ⟨rfl, eea_nil ⟨_, _, _, RInt, RSg, RInt, (k1 : Int), c, (k3 : Int), rfl, rfl, ?_⟩⟩)⟩
        show RS _ _ _ _ [.own (dkO D G hd (n + 19 + 8 * i + 3)), .dat RTx sg, sI m, sI 24, sI gt, sL RQ bg, sO RRd L rds, .dat RNat i, .dat (RT3 RInt RSg RInt) ((k1 : Int), c, (k3 : Int))] _
        refine rs_cons (r1_setE 8 (ee_cat31 (ex_var 8 rfl) (ee_tup1 (ee_number (n := n + 19 + 8 * i + 3) 0 T (hr.mono (by decide)) rfl (ex_var 4 rfl) hg0 hg1 (by omega) fun q hq => ⟨q, rfl, q, rfl, rfl, ?_⟩))))
        refine rs_cv (x := ((k1 : Int), c, (k3 : Int), q)) (R' := RRd) (y := (k1, c, k3, q)) 8 rfl (fun F v r => r) ?_
        have hrd : RdOk sg m (k1, c, k3, q) := ⟨by show k1 < m; omega, List.mem_of_getElem? hc, by show k3 < m; omega, hq⟩
        generalize ((k1, c, k3, q) : Road) = rd at *
        show RS _ _ _ _ [.own (dkO D G hd (n + 19 + 8 * i + 6)), .dat RTx sg, sI m, sI 24, sI gt, sL RQ bg, sO RRd L rds, .dat RNat i, .dat RRd rd] _
        have hsh : SeqAt.shaped (.list (rds.map rdD)) = true := rd_sh fun r h => by
          have := hsg.le _ (h6 r h).2.1
          omega
        refine rs_cons (r1_ifE (eet_and (et_neO (f := rdD) (fun s r => rd_rd s r) hsh hr.units (ex_var 6 rfl)) (fun hne => ?_) fun _ => ⟨fun z => (by cases z), fun _ => rs_nil ?_⟩))
        · have hpos : 0 < rds.length := List.length_pos_iff.mpr (by simpa using hne)
          refine eet_eqI (ee_drawI (n := n + 19 + 8 * i + 6) 0 T (hr.mono (by decide)) rfl ex_int (by decide) (by decide) (by omega) fun k4 hk4 => ⟨k4, rfl, ee_exP ex_int ⟨7, rfl, fun _ => ?_, fun _ => rs_nil ?_⟩⟩)
          · refine rs_one (r1_setE 8 (ee_ixO (R := RRd) (l := rds) (D := L) 6 (ex_var 6 rfl) (ee_drawI (n := n + 19 + 8 * i + 7) 0 T (hr.mono (by decide)) rfl (ex_len (R := RRd) (l := rds) T.f_len (ex_var 6 rfl) .own) (by omega) (by omega) (by omega) fun k5 hk5 => ?_)))
            obtain ⟨rd2, hr2⟩ := get_of (l := rds) (k := k5) (by omega)
            refine ⟨k5, rd2, rfl, rfl, atI_nat hr2, rfl, ?_⟩
            have hrd2 := h6 rd2 (List.mem_of_getElem? hr2)
            show RS _ _ _ _ [.own (dkO D G hd (n + 19 + 8 * i + 8)), .dat RTx sg, sI m, sI 24, sI gt, sL RQ bg, sO RRd L rds, .dat RNat i, .dat RRd rd2] _
            refine rs_up (n + 19 + 8 * i + 8) (k := 0) rfl (by omega) ?_
            refine rs_one (r1_app 6 rfl (ex_var 8 rfl) (by omega) ⟨_, .same (.same (.same (.same (.same (.same (.same (.any (.any .nil)))))))), h1, h2, by omega, rds ++ [rd2], rfl, by rw [List.length_append, h5]; rfl, fun r hr => ?_⟩)
            rcases List.mem_append.mp hr with hr | hr
            · exact h6 r hr
            · have : r = rd2 := by simpa using hr
              rw [this]
              exact hrd2
          · show RS _ _ _ _ [.own (dkO D G hd (n + 19 + 8 * i + 7)), .dat RTx sg, sI m, sI 24, sI gt, sL RQ bg, sO RRd L rds, .dat RNat i, .dat RRd rd] _
            refine rs_up (n + 19 + 8 * i + 8) (k := 0) rfl (by omega) ?_
            refine rs_one (r1_app 6 rfl (ex_var 8 rfl) (by omega) ⟨_, .same (.same (.same (.same (.same (.same (.same (.any (.any .nil)))))))), h1, h2, by omega, rds ++ [rd], rfl, by rw [List.length_append, h5]; rfl, fun r hr => ?_⟩)
            rcases List.mem_append.mp hr with hr | hr
            · exact h6 r hr
            · have : r = rd := by simpa using hr
              rw [this]
              exact hrd
        · refine rs_up (n + 19 + 8 * i + 8) (k := 0) rfl (by omega) ?_
          refine rs_one (r1_app 6 rfl (ex_var 8 rfl) (by omega) ⟨_, .same (.same (.same (.same (.same (.same (.same (.any (.any .nil)))))))), h1, h2, by omega, rds ++ [rd], rfl, by rw [List.length_append, h5]; rfl, fun r hr => ?_⟩)
          rcases List.mem_append.mp hr with hr | hr
          · exact h6 r hr
          · have : r = rd := by simpa using hr
            rw [this]
            exact hrd
      · rintro k _ ⟨h1, h2, h3, rds, rfl, h5, h6⟩
        obtain ⟨c0, hc0⟩ : ∃ c0, c0 = n + 300 - 3 * m := ⟨_, rfl⟩
        refine rs_up c0 (k := 0) rfl (by omega) ?_
        refine rs_nd fun hnd => ?_
        have hL : L ∉ feetO [.own (dkO D G hd n), .dat RTx sg, sI m, sI 24, sI gt] := by
          have h : ([D, G] ++ ([] ++ ([] ++ ([] ++ ([] ++ ([] ++ ([L] ++ ([] ++ ([] ++ []))))))))).Nodup := hnd
          simp at h
          intro z
          have z2 : L ∈ [D, G] ++ ([] ++ ([] ++ ([] ++ ([] ++ [])))) := z
          simp at z2
          rcases z2 with z2 | z2
          · exact h.1.2 z2.symm
          · exact h.2 z2.symm
        refine rs_frz 6 rfl hL ?_
        show RS _ _ _ _ [.own (dkO D G hd (c0)), .dat RTx sg, sI m, sI 24, sI gt, sL RQ bg, sL RRd rds, .any, .any] _
        refine rs_one (r1_retE (Γ := [.own (dkO D G hd (c0)), .dat RTx sg, sI m, sI 24, sI gt, sL RQ bg, sL RRd rds, .any, .any]) (ee_h4 (eea_cons (ee_exP (ex_var 1 rfl) ⟨rfl, eea_cons (ee_exP (ex_var 5 rfl) ⟨rfl, eea_cons (ee_exP (ex_var 6 rfl) ⟨rfl, eea_cons (ee_lcR (R' := RQ) 7 (fun m2 i acc Γi => m2 = m ∧ i ≤ m2 ∧ Γi = [.own (dkO D G hd (c0 + 3 * i)), .dat RTx sg, sI m, sI 24, sI gt, sL RQ bg, sL RRd rds, .any, .any] ∧ acc.length = i ∧ ∀ q ∈ acc, NumOk q)
          (itr_range (ee_exP (ex_var 2 rfl) ⟨m, rfl, by omega, rfl, Nat.zero_le _, rfl, rfl, fun q h => (by cases h)⟩) T.f_range) (blkOk_by rfl) ?_ ?_ ?_ ?_)⟩)⟩)⟩))))
        · rintro m2 i acc _ ⟨_, _, rfl, _, _⟩
          exact ⟨rfl, rfl⟩
        · rintro m2 i acc _ ⟨_, _, rfl, _, _⟩ _ _ _ _ _
          exact gt_name 7
        · rintro m2 i acc _ hi ⟨q1, q2, rfl, q4, q5⟩ _ _ _ _ _
          refine ee_number (n := c0 + 3 * i) 0 T (hr.mono (by decide)) rfl (ex_var 4 rfl) hg0 hg1 (by omega) fun q hq => ⟨q, rfl, q1, by omega, rfl, by rw [List.length_append, q4]; rfl, fun q2 h => ?_⟩
          rcases List.mem_append.mp h with h | h
          · exact q5 q2 h
          · have : q2 = q := by simpa using h
            rw [this]
            exact hq
        · rintro m2 fi _ hfl ⟨rfl, _, rfl, _, hfn⟩
          refine ⟨rfl, eea_nil ⟨_, _, _, _, RTx, RL RQ, RL RRd, RL RQ, sg, bg, rds, fi, rfl, rfl, ⟨(sg, bg, rds, fi), ⟨rfl, hbl, hfl, by show rds.length ≤ 24; omega, hbn, hfn, h6⟩, rfl⟩, ?_⟩⟩
          have e : c0 + 3 * m2 = n + 300 := by omega
          rw [e]
          rfl
end PL

/-! part PE10 -/
set_option exponentiation.threshold 256 -- PE10
set_option maxHeartbeats 1000000 -- PE10
set_option maxRecDepth 100000 -- PE10
/-! PE10: _law_some_machine. -/
namespace PL
open PySem PySem.Spec L2 TL KHd MA PD
variable {P : Program} {w : World} {K : PySem.W.Frag} {mg : Str → Option Value} {base : Heap}
theorem num_unit (b : Bool) : NumOk (unitQ b) := by
  unfold unitQ
  split <;> exact ⟨by decide, by decide⟩
theorem num_neg {q : Rat} (h : NumOk q) : NumOk (-q) := ⟨by show (-q.num).natAbs ≤ 5; rw [Int.natAbs_neg]; exact h.1, h.2⟩
theorem take_mem {α : Type} {l : List α} {n : Nat} {x : α} (h : x ∈ l.take n) : x ∈ l := List.mem_of_mem_take h
abbrev nSm : List Str := ["_law_deck_here", "_law_signs_here", "_law_many", "_law_great", "_law_parts", "_law_kind", "_law_last", "_law_begin", "_law_roads", "_law_end", "_law_state", "_law_number_here", "_law_road"]
theorem sc_sm : FnScope nSm ["_law_deck_here", "_law_signs_here", "_law_many", "_law_great"] (defScope s__law_some_machine) := ⟨rfl, rfl, rfl, by decide +kernel, rfl, by decide +kernel, by decide +kernel⟩
def tb_sm : List Sl → (Sl → List Sl → Prop) → Prop := fun args post => ∃ (D G : Addr) (hd : [D, G].Nodup) (n : Nat) (sg : List Nat) (many : Nat) (gt : Int), args = [.own (dkO D G hd n), .dat RTx sg, sI many, sI gt] ∧ GoodSg sg ∧ sg.length ≤ 3 ∧ many ≤ 6 ∧ 3 ≤ gt ∧ gt ≤ 10 ∧ n ≤ 5000 ∧ post = drew D G hd (n + 301) fun sl => ∃ p, PartsOk sg many p ∧ sl = .dat RParts p
theorem ok_some_machine (T : TX K mg) : Gn P w K mg base 5 "_law_some_machine" ["_law_deck_here", "_law_signs_here", "_law_many", "_law_great"] tb_sm := by
  obtain ⟨fd, F⟩ := T.u__law_some_machine
  refine ⟨_, fd, fn_eff (N := nSm) F sc_sm ?_ ?_, F.bindsN fun _ _ _ _ _ _ us hl => match us, hl with | [_, _, _, _], _ => rfl, T.g__law_some_machine, F.kp⟩
  · rintro args res ⟨_, _, _, _, _, _, _, rfl, _⟩
    rfl
  · rintro cdv A outer s H E args res hr ⟨D, G, hd, n, sg, many, gt, rfl, hsg, hs3, hm, hg0, hg1, hn, rfl⟩
    have hN := sc_sm.nd
    have hz : sizeLine = 16777216 := rfl
    have q0n : (0 : Rat).num = 0 := rfl
    have q0d : (((0 : Rat).den : Nat) : Int) = 1 := rfl
    show RS _ _ _ _ [.own (dkO D G hd n), .dat RTx sg, sI many, sI gt, .any, .any, .any, .any, .any, .any, .any, .any, .any] _
    refine rs_cons (r1_setE 4 (ee_callD 0 (ok_machine T) hr rfl (eea_cons (ee_exP (ex_var 1 rfl) ⟨rfl, eea_cons (ee_exP (ex_var 2 rfl) ⟨rfl, eea_cons (ee_exP ex_int ⟨rfl, eea_cons (ee_exP (ex_var 3 rfl) ⟨rfl, eea_nil ⟨_, _, rfl, rfl, ⟨D, G, hd, n, sg, many, gt, rfl, hsg, hs3, hm, hg0, hg1, hn, rfl⟩, ?_⟩⟩)⟩)⟩)⟩))))
    rintro sl Γc ⟨⟨⟨sg', bg, rds, fi⟩, hp, rfl⟩, h0⟩
    have hsg' : sg' = sg := hp.sgn
    subst hsg'
    refine ⟨_, h0, rfl, rfl, rfl, rfl, ?_⟩
    show RS _ _ _ _ [.own (dkO D G hd (n + 300)), .dat RTx sg', sI many, sI gt, .dat RParts (sg', bg, rds, fi), .any, .any, .any, .any, .any, .any, .any, .any] _
    refine rs_cons (r1_asgE (ee_tup2 (eea_cons (ee_drawI (n := n + 300) 0 T (hr.mono (by decide)) rfl ex_int (by decide) (by decide) (by omega) fun kind hk => ⟨rfl, eea_cons (ee_exP (ex_sub (ex_var 2 rfl) ex_int) ⟨rfl, eea_nil ⟨_, _, RInt, RInt, (kind : Int), (many : Int) - 1, rfl, rfl, _, _, gt_tup2 (gts_cons (gt_name 5) (gts_cons (gt_name 6) gts_nil)), fun _ h => h, ?_⟩⟩)⟩))))
    show RS _ _ _ _ [.own (dkO D G hd (n + 301)), .dat RTx sg', sI many, sI gt, .dat RParts (sg', bg, rds, fi), sI kind, sI ((many : Int) - 1), .any, .any, .any, .any, .any, .any] _
    refine rs_cons (r1_if (et_or (et_lt (ex_var 2 rfl) ex_int) fun _ => et_lt (ex_var 5 rfl) ex_int) (fun _ => ?_) (fun hkm => rs_nil ?_))
    · exact rs_one (r1_ret (ex_var 4 rfl) ⟨⟨_, hp, rfl⟩, rfl⟩)
    have hm2 : 2 ≤ many := by
      rw [Bool.or_eq_false_iff] at hkm
      have := of_decide_eq_false hkm.1
      omega
    have elast : ((many : Int) - 1) = ((many - 1 : Nat) : Int) := by omega
    rw [elast]
    refine rs_cons (r1_asg (ex_var 4 rfl) (gt_h4 (gts_cons (gt_name 1) (gts_cons (gt_name 7) (gts_cons (gt_name 8) (gts_cons (gt_name 9) gts_nil))))) ?_)
    show RS _ _ _ _ [.own (dkO D G hd (n + 301)), .dat RTx sg', sI many, sI gt, .dat RParts (sg', bg, rds, fi), sI kind, sI ((many - 1 : Nat) : Int), sL RQ bg, sL RRd rds, sL RQ fi, .any, .any, .any] _
    have hbl : bg.length = many := hp.bl
    have hfl : fi.length = many := hp.fl
    have hcnt : rds.length ≤ 24 := hp.cnt
    have hnb : ∀ q ∈ bg, NumOk q := hp.nb
    have hnf : ∀ q ∈ fi, NumOk q := hp.nf
    have hrd : ∀ r ∈ rds, RdOk sg' many r := hp.rd
    refine rs_cons (r1_if (et_eq (ex_var 5 rfl) ex_int) (fun _ => ?_) (fun _ => ?_))
    · -- one state begins and one ends
      refine rs_cons (r1_setLc (R' := RQ) (f := fun k : Nat => unitQ (decide ((k : Int) = 0))) 7 [("_law_state", 10)] (it_range (n := many) (ex_var 2 rfl) (by omega) rfl T.f_range) (blkOk_by rfl) (fun _ _ _ _ _ _ _ => gt_name 10)
        (fun k _ _ _ _ _ _ => ex_uq (ex_intB T.f_int (ex_eq (ex_nat (ex_var 10 rfl)) ex_int))) ?_)
      refine rs_one (r1_setLc (R' := RQ) (f := fun k : Nat => unitQ (decide ((k : Int) = ((many - 1 : Nat) : Int)))) 9 [("_law_state", 10)] (it_range (n := many) (ex_var 2 rfl) (by omega) rfl T.f_range) (blkOk_by rfl) (fun _ _ _ _ _ _ _ => gt_name 10)
        (fun k _ _ _ _ _ _ => ex_uq (ex_intB T.f_int (ex_eq (ex_nat (ex_var 10 rfl)) (ex_var 6 rfl)))) ?_)
      exact rs_one (r1_ret (ex_h4 (ex_var 1 rfl) (ex_var 7 rfl) (ex_var 8 rfl) (ex_var 9 rfl)) ⟨⟨_, ⟨rfl, by simp, by simp, hcnt, fun q hq => by
        obtain ⟨k, _, rfl⟩ := List.mem_map.mp hq
        exact num_unit _, fun q hq => by
        obtain ⟨k, _, rfl⟩ := List.mem_map.mp hq
        exact num_unit _, hrd⟩, rfl⟩, rfl⟩)
    · refine rs_one (r1_if (et_eq (ex_var 5 rfl) ex_int) (fun _ => ?_) (fun _ => ?_))
      · -- none begins
        refine rs_one (r1_setLc (R := RQ) (R' := RQ) (f := fun _ : Rat => (0 : Rat)) 7 [("_law_number_here", 11)] (it_list (ex_var 7 rfl)) (blkOk_by rfl) (fun _ _ _ _ _ _ _ => gt_name 11) (fun _ _ _ _ _ _ _ => ex_q q0n q0d) ?_)
        exact rs_one (r1_ret (ex_h4 (ex_var 1 rfl) (ex_var 7 rfl) (ex_var 8 rfl) (ex_var 9 rfl)) ⟨⟨_, ⟨rfl, by simp [hbl], hfl, hcnt, fun q hq => by
          obtain ⟨k, _, rfl⟩ := List.mem_map.mp hq
          exact ⟨by decide, by decide⟩, hnf, hrd⟩, rfl⟩, rfl⟩)
      · -- one state is like the first one
        refine rs_cons (r1_set (sl := sL RRd ((((rds.filter fun r => !decide ((r.1 : Int) = ((many - 1 : Nat) : Int))).map id)).take 12)) 8 (ex_pre (n := 12) (ex_lcf (R := RRd) (R' := RRd) (f := id) [("_law_road", 12)] (fun r => !decide ((r.1 : Int) = ((many - 1 : Nat) : Int))) (it_list (ex_var 8 rfl)) (blkOk_by rfl) (fun _ _ _ _ _ _ _ => gt_name 12) (fun r _ _ _ _ _ _ => et_ne (ex_nat (ex_ix4a (ex_var 12 rfl))) (ex_var 6 rfl)) (fun r _ _ _ _ _ _ _ => ex_var 12 rfl)) .dat ex_int) ?_)
        have hr1 : ∀ r ∈ ((rds.filter fun r => !decide ((r.1 : Int) = ((many - 1 : Nat) : Int))).map id).take 12, RdOk sg' many r := fun r hr => by
          have := take_mem hr
          rw [List.map_id] at this
          exact hrd r (List.mem_filter.mp this).1
        have hl1 : (((rds.filter fun r => !decide ((r.1 : Int) = ((many - 1 : Nat) : Int))).map id).take 12).length ≤ 12 := by
          rw [List.length_take]
          omega
        generalize ((rds.filter fun r => !decide ((r.1 : Int) = ((many - 1 : Nat) : Int))).map id).take 12 = rd1 at *
        show RS _ _ _ _ [.own (dkO D G hd (n + 301)), .dat RTx sg', sI many, sI gt, .dat RParts (sg', bg, rds, fi), sI kind, sI ((many - 1 : Nat) : Int), sL RQ bg, sL RRd rd1, sL RQ fi, .any, .any, .any] _
        refine rs_cons (r1_set (sl := sL RRd (rd1 ++ (rd1.filter fun r => decide ((r.1 : Int) = 0)).map fun r => (many - 1, r.2.1, r.2.2.1, r.2.2.2))) 8 (ex_cat (ex_var 8 rfl) (ex_lcf (R := RRd) (R' := RRd) (f := fun r => (many - 1, r.2.1, r.2.2.1, r.2.2.2)) [("_law_road", 12)] (fun r => decide ((r.1 : Int) = 0)) (it_list (ex_var 8 rfl)) (blkOk_by rfl) (fun _ _ _ _ _ _ _ => gt_name 12) (fun r _ _ _ _ _ _ => et_eq (ex_nat (ex_ix4a (ex_var 12 rfl))) ex_int) (fun r _ _ _ _ _ _ _ => ex_conv (ex_tup4 (ex_var 6 rfl) (ex_ix4b (ex_var 12 rfl)) (ex_ix4c (ex_var 12 rfl)) (ex_ix4d (ex_var 12 rfl))) fun F v r => r)) ?_) ?_)
        · rw [List.length_map]
          have := List.length_filter_le (fun r : Road => decide ((r.1 : Int) = 0)) rd1
          omega
        have hr2 : ∀ r ∈ rd1 ++ (rd1.filter fun r => decide ((r.1 : Int) = 0)).map fun r => (many - 1, r.2.1, r.2.2.1, r.2.2.2), RdOk sg' many r := fun r hr => by
          rcases List.mem_append.mp hr with h | h
          · exact hr1 r h
          · obtain ⟨r0, h0, rfl⟩ := List.mem_map.mp h
            obtain ⟨_, q2, q3, q4⟩ := hr1 r0 (List.mem_filter.mp h0).1
            exact ⟨by show many - 1 < many; omega, q2, q3, q4⟩
        have hl2 : (rd1 ++ (rd1.filter fun r => decide ((r.1 : Int) = 0)).map fun r => ((many - 1, r.2.1, r.2.2.1, r.2.2.2) : Road)).length ≤ 24 := by
          rw [List.length_append, List.length_map]
          have := List.length_filter_le (fun r : Road => decide ((r.1 : Int) = 0)) rd1
          omega
        generalize (rd1 ++ (rd1.filter fun r => decide ((r.1 : Int) = 0)).map fun r => ((many - 1, r.2.1, r.2.2.1, r.2.2.2) : Road)) = rd2 at *
        obtain ⟨f0, hf0⟩ := get_of (l := fi) (k := 0) (by omega)
        obtain ⟨b0, hb0⟩ := get_of (l := bg) (k := 0) (by omega)
        refine rs_cons (r1_set (sl := sL RQ (fi.take (many - 1) ++ [f0])) 9 (ex_cat (ex_pre (ex_var 9 rfl) .dat (ex_var 6 rfl)) (ex_lst1 (ex_ixS (ex_var 9 rfl) .dat ex_int (atI_nat hf0))) ?_) ?_)
        · rw [List.length_take]
          show _ + 1 ≤ _
          omega
        have hn2 : ∀ q ∈ fi.take (many - 1) ++ [f0], NumOk q := fun q hq => by
          rcases List.mem_append.mp hq with h | h
          · exact hnf q (take_mem h)
          · have : q = f0 := by simpa using h
            rw [this]
            exact hnf f0 (List.mem_of_getElem? hf0)
        have hl3 : (fi.take (many - 1) ++ [f0]).length = many := by
          rw [List.length_append, List.length_take]
          show _ + 1 = _
          omega
        generalize fi.take (many - 1) ++ [f0] = fi2 at *
        show RS _ _ _ _ [.own (dkO D G hd (n + 301)), .dat RTx sg', sI many, sI gt, .dat RParts (sg', bg, rds, fi), sI kind, sI ((many - 1 : Nat) : Int), sL RQ bg, sL RRd rd2, sL RQ fi2, .any, .any, .any] _
        refine rs_one (r1_if (et_eq (ex_var 5 rfl) ex_int) (fun _ => ?_) (fun _ => rs_nil ?_))
        · refine rs_one (r1_set (sl := sL RQ (bg.take (many - 1) ++ [-b0])) 7 (ex_cat (ex_pre (ex_var 7 rfl) .dat (ex_var 6 rfl)) (ex_lst1 (R := RQ) (x := -b0) (ex_conv (ex_tup2 (ex_to (ex_sub ex_int (ex_num (ex_ixS (x := b0) (ex_var 7 rfl) .dat ex_int (atI_nat hb0)))) (congrArg sI (Int.zero_sub _))) (ex_den (ex_ixS (x := b0) (ex_var 7 rfl) .dat ex_int (atI_nat hb0)))) fun F v r => r)) ?_) ?_)
          · rw [List.length_take]
            show _ + 1 ≤ _
            omega
          · exact rs_one (r1_ret (ex_h4 (ex_var 1 rfl) (ex_var 7 rfl) (ex_var 8 rfl) (ex_var 9 rfl)) ⟨⟨_, ⟨rfl, by
              rw [List.length_append, List.length_take]
              show _ + 1 = _
              omega, hl3, hl2, fun q hq => by
              rcases List.mem_append.mp hq with h | h
              · exact hnb q (take_mem h)
              · have : q = -b0 := by simpa using h
                rw [this]
                exact num_neg (hnb b0 (List.mem_of_getElem? hb0)), hn2, hr2⟩, rfl⟩, rfl⟩)
        · exact rs_one (r1_ret (ex_h4 (ex_var 1 rfl) (ex_var 7 rfl) (ex_var 8 rfl) (ex_var 9 rfl)) ⟨⟨_, ⟨rfl, hbl, hl3, hl2, hnb, hn2, hr2⟩, rfl⟩, rfl⟩)
end PL

/-! part MB1 -/
set_option exponentiation.threshold 256 -- MB1
set_option maxHeartbeats 200000 -- MB1
set_option maxRecDepth 100000 -- MB1
/-! MB1: sums, relations, small relations. -/
namespace MB
def S : Nat → (Nat → Rat) → Rat
  | 0, _ => 0
  | n + 1, f => S n f + f n
theorem S_congr {f g : Nat → Rat} : ∀ {n : Nat}, (∀ i, i < n → f i = g i) → S n f = S n g
  | 0, _ => rfl
  | n + 1, h => by
    show S n f + f n = S n g + g n
    rw [S_congr fun i hi => h i (by omega), h n (by omega)]
theorem S_add (n : Nat) (f g : Nat → Rat) : S n (fun i => f i + g i) = S n f + S n g := by
  induction n with
  | zero => exact (Rat.add_zero 0).symm
  | succ n ih =>
    show S n _ + (f n + g n) = (S n f + f n) + (S n g + g n)
    rw [ih]
    grind
theorem S_mul (n : Nat) (c : Rat) (f : Nat → Rat) : S n (fun i => c * f i) = c * S n f := by
  induction n with
  | zero => exact (Rat.mul_zero c).symm
  | succ n ih =>
    show S n _ + c * f n = c * (S n f + f n)
    rw [ih]
    grind
theorem S_zero {n : Nat} {f : Nat → Rat} (h : ∀ i, i < n → f i = 0) : S n f = 0 := by
  induction n with
  | zero => rfl
  | succ n ih =>
    show S n f + f n = 0
    rw [ih fun i hi => h i (by omega), h n (by omega)]
    exact Rat.add_zero 0
theorem S_comm (n m : Nat) (f : Nat → Nat → Rat) : S n (fun i => S m fun j => f i j) = S m (fun j => S n fun i => f i j) := by
  induction n with
  | zero => exact (S_zero fun _ _ => rfl).symm
  | succ n ih =>
    show S n (fun i => S m fun j => f i j) + S m (fun j => f n j) = S m (fun j => S n (fun i => f i j) + f n j)
    rw [ih, ← S_add]
theorem S_more {n m : Nat} {f : Nat → Rat} (h : n ≤ m) (hz : ∀ i, n ≤ i → i < m → f i = 0) : S m f = S n f := by
  induction m with
  | zero => have : n = 0 := by omega
            subst this; rfl
  | succ m ih =>
    by_cases e : n = m + 1
    · subst e; rfl
    · show S m f + f m = S n f
      rw [hz m (by omega) (by omega), ih (by omega) fun i h1 h2 => hz i h1 (by omega)]
      exact Rat.add_zero _
theorem S_one {n k : Nat} {f : Nat → Rat} (hk : k < n) (h : ∀ i, i < n → i ≠ k → f i = 0) : S n f = f k := by
  induction n with
  | zero => omega
  | succ n ih =>
    show S n f + f n = f k
    by_cases e : k = n
    · subst e
      rw [S_zero fun i hi => h i (by omega) (by omega)]
      exact Rat.zero_add _
    · rw [ih (by omega) fun i hi => h i (by omega), h n (by omega) (by omega)]
      exact Rat.add_zero _
theorem S_skip (f : Nat → Rat) (j0 : Nat) : ∀ {n : Nat}, j0 ≤ n → S (n + 1) f = f j0 + S n (fun j => f (if j < j0 then j else j + 1))
  | 0, h => by
    have : j0 = 0 := by omega
    subst this
    show 0 + f 0 = f 0 + 0
    grind
  | n + 1, h => by
    by_cases e : j0 = n + 1
    · subst e
      show S (n + 1) f + f (n + 1) = f (n + 1) + S (n + 1) _
      rw [S_congr (f := fun j => f (if j < n + 1 then j else j + 1)) (g := f) fun i hi => by rw [if_pos hi]]
      grind
    · show S (n + 1) f + f (n + 1) = f j0 + (S n _ + f (if n < j0 then n else n + 1))
      rw [S_skip f j0 (n := n) (by omega), if_neg (by omega)]
      grind
/-- fewer equations than unknowns -/
theorem dep : ∀ (k n : Nat), k < n → ∀ M : Nat → Nat → Rat, ∃ x : Nat → Rat, (∃ j, j < n ∧ x j ≠ 0) ∧ ∀ i, i < k → S n (fun j => M i j * x j) = 0
  | 0, n, h, M => ⟨fun _ => 1, ⟨0, h, by decide⟩, fun i hi => by omega⟩
  | k + 1, n, h, M => by
    by_cases hz : ∀ j, j < n → M k j = 0
    · obtain ⟨x, hx, he⟩ := dep k n (by omega) M
      refine ⟨x, hx, fun i hi => ?_⟩
      by_cases e : i = k
      · subst e
        exact S_zero fun j hj => by rw [hz j hj]; exact Rat.zero_mul _
      · exact he i (by omega)
    · have : ∃ j0, j0 < n ∧ M k j0 ≠ 0 := by
        refine Classical.byContradiction fun z => hz fun j hj => Classical.byContradiction fun z2 => z ⟨j, hj, z2⟩
      obtain ⟨j0, hj0, hp⟩ := this
      obtain ⟨n, rfl⟩ : ∃ n', n = n' + 1 := ⟨n - 1, by omega⟩
      obtain ⟨y, ⟨j1, hj1, hy⟩, he⟩ := dep k n (by omega) fun i j => M i (if j < j0 then j else j + 1) - M i j0 / M k j0 * M k (if j < j0 then j else j + 1)
      let c : Rat := -(S n fun j => M k (if j < j0 then j else j + 1) * y j) / M k j0
      let x : Nat → Rat := fun j => if j = j0 then c else y (if j < j0 then j else j - 1)
      have hx0 : x j0 = c := if_pos rfl
      have hxs : ∀ j, x (if j < j0 then j else j + 1) = y j := fun j => by
        by_cases e : j < j0
        · rw [if_pos e]
          show (if j = j0 then c else y (if j < j0 then j else j - 1)) = y j
          rw [if_neg (by omega), if_pos e]
        · rw [if_neg e]
          show (if j + 1 = j0 then c else y (if j + 1 < j0 then j + 1 else j + 1 - 1)) = y j
          rw [if_neg (by omega), if_neg (by omega)]
          rfl
      have hS : ∀ i, S (n + 1) (fun j => M i j * x j) = M i j0 * c + S n (fun j => M i (if j < j0 then j else j + 1) * y j) := fun i => by
        rw [S_skip (fun j => M i j * x j) j0 (n := n) (by omega)]
        show M i j0 * x j0 + _ = _
        rw [hx0]
        congr 1
        refine S_congr fun j hj => ?_
        show M i (if j < j0 then j else j + 1) * x (if j < j0 then j else j + 1) = _
        rw [hxs]
      have hk : M k j0 * c = -(S n fun j => M k (if j < j0 then j else j + 1) * y j) := by
        show M k j0 * (-(S n fun j => M k (if j < j0 then j else j + 1) * y j) / M k j0) = _
        grind
      refine ⟨x, ⟨if j1 < j0 then j1 else j1 + 1, ?_, by rw [hxs]; exact hy⟩, fun i hi => ?_⟩
      · split <;> omega
      · rw [hS]
        by_cases e : i = k
        · subst e
          rw [hk]
          grind
        · have h1 := he i (by omega)
          have h2 : S n (fun j => (M i (if j < j0 then j else j + 1) - M i j0 / M k j0 * M k (if j < j0 then j else j + 1)) * y j) = S n (fun j => M i (if j < j0 then j else j + 1) * y j) + (-(M i j0 / M k j0)) * S n (fun j => M k (if j < j0 then j else j + 1) * y j) := by
            rw [← S_mul, ← S_add]
            refine S_congr fun j hj => ?_
            grind
          rw [h2] at h1
          generalize (S n fun j => M k (if j < j0 then j else j + 1) * y j) = u at *
          generalize (S n fun j => M i (if j < j0 then j else j + 1) * y j) = v at *
          have h3 : M i j0 * c = (M i j0 / M k j0) * (M k j0 * c) := by grind
          rw [h3, hk]
          grind
end MB

/-! part MB2 -/
set_option exponentiation.threshold 256 -- MB2
set_option maxHeartbeats 200000 -- MB2
set_option maxRecDepth 100000 -- MB2
/-! MB2: small integer relations, by pigeonholes. -/
namespace MB
theorem pigeon : ∀ (n : Nat) (f : Nat → Nat), (∀ i, i ≤ n → f i < n) → ∃ i j, i < j ∧ j ≤ n ∧ f i = f j
  | 0, f, h => by have := h 0 (Nat.le_refl _); omega
  | n + 1, f, h => by
    by_cases e : ∃ i, i ≤ n ∧ f i = f (n + 1)
    · obtain ⟨i, hi, he⟩ := e
      exact ⟨i, n + 1, by omega, by omega, he⟩
    · have hne : ∀ i, i ≤ n → f i ≠ f (n + 1) := fun i hi z => e ⟨i, hi, z⟩
      obtain ⟨i, j, hij, hj, he⟩ := pigeon n (fun i => if f i < f (n + 1) then f i else f i - 1) fun i hi => by
        have h1 := h i (by omega)
        have h2 := h (n + 1) (by omega)
        have h3 := hne i hi
        show (if f i < f (n + 1) then f i else f i - 1) < n
        split <;> omega
      have h3 := hne i (by omega)
      have h4 := hne j hj
      refine ⟨i, j, hij, by omega, ?_⟩
      split at he <;> split at he <;> omega
/-- digits -/
def dig (B t j : Nat) : Nat := t / B ^ j % B
theorem dig_eq {B : Nat} (hB : 0 < B) : ∀ (k s t : Nat), s < B ^ k → t < B ^ k → (∀ j, j < k → dig B s j = dig B t j) → s = t
  | 0, s, t, hs, ht, _ => by simp at hs ht; omega
  | k + 1, s, t, hs, ht, h => by
    have h0 := h 0 (by omega)
    have e0 : ∀ t, dig B t 0 = t % B := fun t => by unfold dig; rw [Nat.pow_zero, Nat.div_one]
    rw [e0, e0] at h0
    have ih := dig_eq hB k (s / B) (t / B) (by rw [Nat.pow_succ] at hs; exact Nat.div_lt_of_lt_mul (by rw [Nat.mul_comm]; exact hs)) (by rw [Nat.pow_succ] at ht; exact Nat.div_lt_of_lt_mul (by rw [Nat.mul_comm]; exact ht)) fun j hj => by
      have := h (j + 1) (by omega)
      unfold dig at this ⊢
      rw [Nat.pow_succ, Nat.mul_comm, ← Nat.div_div_eq_div_mul, ← Nat.div_div_eq_div_mul] at this
      exact this
    have a := Nat.div_add_mod s B
    have b := Nat.div_add_mod t B
    rw [ih, h0] at a
    omega
def code (B : Nat) (a : Nat → Nat) : Nat → Nat
  | 0 => 0
  | k + 1 => code B a k * B + a k
theorem code_lt {B : Nat} {a : Nat → Nat} : ∀ {k : Nat}, (∀ i, i < k → a i < B) → code B a k < B ^ k
  | 0, _ => by simp [code]
  | k + 1, h => by
    have h1 := code_lt (k := k) fun i hi => h i (by omega)
    have h2 := h k (by omega)
    rw [Nat.pow_succ]
    show code B a k * B + a k < _
    have : (code B a k + 1) * B ≤ B ^ k * B := Nat.mul_le_mul_right B h1
    rw [Nat.add_mul] at this
    omega
theorem code_inj {B : Nat} {a b : Nat → Nat} : ∀ {k : Nat}, (∀ i, i < k → a i < B) → (∀ i, i < k → b i < B) → code B a k = code B b k → ∀ i, i < k → a i = b i
  | 0, _, _, _, i, hi => by omega
  | k + 1, ha, hb, h, i, hi => by
    have h1 : code B a k * B + a k = code B b k * B + b k := h
    have ha0 := ha k (by omega)
    have hb0 := hb k (by omega)
    have hB : 0 < B := by omega
    have e1 : (code B a k * B + a k) / B = code B a k := by rw [Nat.mul_comm, Nat.mul_add_div hB, Nat.div_eq_of_lt ha0, Nat.add_zero]
    have e2 : (code B b k * B + b k) / B = code B b k := by rw [Nat.mul_comm, Nat.mul_add_div hB, Nat.div_eq_of_lt hb0, Nat.add_zero]
    have hc : code B a k = code B b k := by rw [← e1, ← e2, h1]
    by_cases e : i = k
    · subst e
      rw [hc] at h1
      omega
    · exact code_inj (fun i hi => ha i (by omega)) (fun i hi => hb i (by omega)) hc i (by omega)
def SI : Nat → (Nat → Int) → Int
  | 0, _ => 0
  | n + 1, f => SI n f + f n
theorem SI_sub (n : Nat) (f g : Nat → Int) : SI n (fun i => f i - g i) = SI n f - SI n g := by
  induction n with
  | zero => rfl
  | succ n ih =>
    show SI n _ + (f n - g n) = (SI n f + f n) - (SI n g + g n)
    rw [ih]
    omega
theorem SI_congr {f g : Nat → Int} : ∀ {n : Nat}, (∀ i, i < n → f i = g i) → SI n f = SI n g
  | 0, _ => rfl
  | n + 1, h => by
    show SI n f + f n = SI n g + g n
    rw [SI_congr fun i hi => h i (by omega), h n (by omega)]
theorem SI_abs {n B : Nat} {f : Nat → Int} (h : ∀ i, i < n → (f i).natAbs ≤ B) : (SI n f).natAbs ≤ n * B := by
  induction n with
  | zero => simp [SI]
  | succ n ih =>
    show (SI n f + f n).natAbs ≤ _
    have h1 := ih fun i hi => h i (by omega)
    have h2 := h n (by omega)
    have h3 := Int.natAbs_add_le (SI n f) (f n)
    rw [Nat.add_mul, Nat.one_mul]
    omega
theorem siegel (k A : Nat) (M : Nat → Nat → Int) (hM : ∀ i, i < k → ∀ j, j < k + 1 → (M i j).natAbs ≤ A) :
    ∃ x : Nat → Int, (∃ j, j < k + 1 ∧ x j ≠ 0) ∧ (∀ j, j < k + 1 → (x j).natAbs ≤ (2 * (k + 1) * A + 1) ^ k) ∧ ∀ i, i < k → SI (k + 1) (fun j => M i j * x j) = 0 := by
  let C := (2 * (k + 1) * A + 1) ^ k
  let X := C + 1
  let B := 2 * ((k + 1) * (A * C)) + 1
  let y : Nat → Nat → Int := fun t i => SI (k + 1) fun j => M i j * (dig X t j : Int)
  let a : Nat → Nat → Nat := fun t i => (y t i + ((k + 1) * (A * C) : Nat)).toNat
  have hX : 0 < X := Nat.succ_pos C
  have hd : ∀ t j, dig X t j ≤ C := fun t j => by
    have : dig X t j < X := Nat.mod_lt _ hX
    show dig X t j ≤ C
    omega
  have hy : ∀ t i, i < k → (y t i).natAbs ≤ (k + 1) * (A * C) := fun t i hi => SI_abs fun j hj => by
    rw [Int.natAbs_mul, Int.natAbs_natCast]
    exact Nat.mul_le_mul (hM i hi j hj) (hd t j)
  have ha : ∀ t i, i < k → a t i < B := fun t i hi => by
    have := hy t i hi
    show (y t i + ((k + 1) * (A * C) : Nat)).toNat < 2 * ((k + 1) * (A * C)) + 1
    omega
  have hBX : B ≤ (2 * (k + 1) * A + 1) * X := by
    show 2 * ((k + 1) * (A * C)) + 1 ≤ (2 * (k + 1) * A + 1) * (C + 1)
    have : (2 * (k + 1) * A + 1) * (C + 1) = 2 * ((k + 1) * (A * C)) + C + 2 * (k + 1) * A + 1 := by grind
    omega
  have hlt : B ^ k < X ^ (k + 1) := by
    have h1 : B ^ k ≤ ((2 * (k + 1) * A + 1) * X) ^ k := Nat.pow_le_pow_left hBX k
    rw [Nat.mul_pow] at h1
    have h2 : C * X ^ k < X * X ^ k := Nat.mul_lt_mul_of_pos_right (Nat.lt_succ_self C) (Nat.pow_pos hX)
    rw [Nat.pow_succ, Nat.mul_comm]
    exact Nat.lt_of_le_of_lt h1 h2
  obtain ⟨s, t, hst, ht, he⟩ := pigeon (B ^ k) (fun t => code B (a t) k) fun t _ => code_lt (ha t)
  have hai := code_inj (ha s) (ha t) he
  have hyi : ∀ i, i < k → y s i = y t i := fun i hi => by
    have h1 := hai i hi
    have h2 := hy s i hi
    have h3 := hy t i hi
    have h4 : (y s i + ((k + 1) * (A * C) : Nat)).toNat = (y t i + ((k + 1) * (A * C) : Nat)).toNat := h1
    omega
  refine ⟨fun j => (dig X s j : Int) - dig X t j, ?_, fun j hj => ?_, fun i hi => ?_⟩
  · refine Classical.byContradiction fun z => ?_
    have : s = t := dig_eq hX (k + 1) s t (by omega) (by omega) fun j hj => by
      have : ¬ ((dig X s j : Int) - dig X t j ≠ 0) := fun z2 => z ⟨j, hj, z2⟩
      omega
    omega
  · have h1 := hd s j
    have h2 := hd t j
    show ((dig X s j : Int) - dig X t j).natAbs ≤ C
    omega
  · have h1 := hyi i hi
    have h2 : SI (k + 1) (fun j => M i j * ((dig X s j : Int) - dig X t j)) = y s i - y t i := by
      show _ = SI (k + 1) (fun j => M i j * (dig X s j : Int)) - SI (k + 1) (fun j => M i j * (dig X t j : Int))
      rw [← SI_sub]
      exact SI_congr fun j hj => Int.mul_sub _ _ _
    rw [h2, h1]
    omega
end MB

/-! part MB3 -/
set_option exponentiation.threshold 256 -- MB3
set_option maxHeartbeats 200000 -- MB3
set_option maxRecDepth 100000 -- MB3
/-! MB3: free rows: what is left of a row. -/
namespace MB
open MA PD
abbrev rr (R : List (List Rat)) (l j : Nat) : Rat := (R.getD l []).getD j 0
def ii (l : List Int) (j : Nat) : Rat := ((l.getD j 0 : Int) : Rat)
def pv (kept : List K3) (k : Nat) : Nat := (kept.getD k (0, [], [])).1
def kI (kept : List K3) (k : Nat) : List Int := (kept.getD k (0, [], [])).2.1
def kP (kept : List K3) (k : Nat) : List Int := (kept.getD k (0, [], [])).2.2
structure KAt (n : Nat) (kept : List K3) (R : List (List Rat)) (k : Nat) : Prop where
  pn : pv kept k < n
  il : (kI kept k).length = n
  pl : (kP kept k).length = k + 1
  ip : ii (kI kept k) (pv kept k) ≠ 0
  own : ii (kP kept k) k ≠ 0
  zer : ∀ j, j < k → ii (kI kept k) (pv kept j) = 0
  comb : ∀ j, j < n → ii (kI kept k) j = S (k + 1) (fun l => ii (kP kept k) l * rr R l j)
structure KInv (n : Nat) (kept : List K3) (R : List (List Rat)) : Prop where
  len : kept.length = R.length
  rl : ∀ r ∈ R, r.length = n
  at_ : ∀ k, k < kept.length → KAt n kept R k
variable {n : Nat} {kept : List K3} {R : List (List Rat)}
theorem uniq (hK : KInv n kept R) : ∀ m, m ≤ kept.length → ∀ d : Nat → Rat, (∀ j, j < m → S m (fun l => d l * rr R l (pv kept j)) = 0) → ∀ l, l < m → d l = 0
  | 0, _, _, _, l, hl => by omega
  | m + 1, hm, d, h, l, hl => by
    have A := hK.at_ m (by omega)
    let own := ii (kP kept m) m
    let t := d m / own
    have ht : t * own = d m := by
      have := A.own
      show d m / own * own = d m
      grind
    have key : ∀ c, c < n → S (m + 1) (fun l => d l * rr R l c) = S m (fun l => (d l - t * ii (kP kept m) l) * rr R l c) + t * ii (kI kept m) c := fun c hc => by
      rw [A.comb c hc]
      show S m (fun l => d l * rr R l c) + d m * rr R m c = _ + t * (S m (fun l => ii (kP kept m) l * rr R l c) + own * rr R m c)
      have e : S m (fun l => (d l - t * ii (kP kept m) l) * rr R l c) = S m (fun l => d l * rr R l c) + (-t) * S m (fun l => ii (kP kept m) l * rr R l c) := by
        rw [← S_mul, ← S_add]
        exact S_congr fun i hi => by grind
      rw [e, ← ht]
      grind
    have hz : ∀ l, l < m → d l - t * ii (kP kept m) l = 0 := uniq hK m (by omega) (fun l => d l - t * ii (kP kept m) l) fun j hj => by
      have h1 := h j (by omega)
      rw [key _ (hK.at_ j (by omega)).pn, A.zer j hj] at h1
      grind
    have h2 := h m (by omega)
    rw [key _ A.pn, S_zero fun i hi => by rw [hz i hi]; exact Rat.zero_mul _] at h2
    have t0 : t = 0 := by
      have := A.ip
      grind
    by_cases e : l = m
    · subst e
      rw [← ht, t0]
      exact Rat.zero_mul _
    · have := hz l (by omega)
      rw [t0] at this
      grind
/-- the rows kept are free -/
theorem KInv.free (hK : KInv n kept R) (d : Nat → Rat) (h : ∀ j, j < n → S R.length (fun l => d l * rr R l j) = 0) : ∀ l, l < R.length → d l = 0 := by
  rw [← hK.len] at *
  exact uniq hK _ (Nat.le_refl _) d fun j hj => h _ (hK.at_ j hj).pn
/-- no more free rows than places -/
theorem KInv.le (hK : KInv n kept R) : R.length ≤ n := by
  refine Classical.byContradiction fun z => ?_
  obtain ⟨x, ⟨j, hj, hx⟩, he⟩ := dep n R.length (by omega) fun i l => rr R l i
  refine hx (hK.free x (fun i hi => ?_) j hj)
  have := he i hi
  rw [← this]
  exact S_congr fun l _ => Rat.mul_comm _ _
/-! ### lists -/
theorem getD_map {α β : Type} (f : α → β) (l : List α) (j : Nat) (a : α) (b : β) (h : f a = b) : (l.map f).getD j b = f (l.getD j a) := by
  rw [List.getD_eq_getElem?_getD, List.getD_eq_getElem?_getD, List.getElem?_map]
  cases l[j]? with
  | none => exact h.symm
  | some x => rfl
theorem getD_lt {α : Type} {l : List α} {j : Nat} {d : α} (h : j < l.length) : l.getD j d = l[j] := by
  rw [List.getD_eq_getElem?_getD, List.getElem?_eq_getElem h]
  rfl
theorem getD_ge {α : Type} {l : List α} {j : Nat} {d : α} (h : l.length ≤ j) : l.getD j d = d := by
  rw [List.getD_eq_getElem?_getD, List.getElem?_eq_none h]
  rfl
theorem getD_zipI {α : Type} (f : Int × Int → α) (d : α) (hf : f (0, 0) = d) {a b : List Int} (h : a.length = b.length) (j : Nat) : ((a.zip b).map f).getD j d = f (a.getD j 0, b.getD j 0) := by
  by_cases hj : j < a.length
  · rw [getD_lt (by simpa [h] using (h ▸ hj)), List.getElem_map, List.getElem_zip, getD_lt hj, getD_lt (h ▸ hj)]
  · rw [getD_ge (by simpa [← h] using hj), getD_ge (by omega), getD_ge (by omega), hf]
theorem getD_pad (l : List Int) (k j : Nat) : (l ++ List.replicate k 0).getD j 0 = l.getD j 0 := by
  by_cases hj : j < l.length
  · rw [List.getD_eq_getElem?_getD, List.getD_eq_getElem?_getD, List.getElem?_append_left hj]
  · rw [getD_ge (l := l) (by omega)]
    by_cases h2 : j < (l ++ List.replicate k (0 : Int)).length
    · rw [getD_lt h2, List.getElem_append_right (by omega), List.getElem_replicate]
    · rw [getD_ge (by omega)]
/-! ### gcd -/
theorem gcdL_mul (g : Nat) : ∀ (l : List Int) (a : Nat), gcdL (g * a) (l.map fun x => (g : Int) * x) = g * gcdL a l
  | [], a => rfl
  | x :: l, a => by
    show gcdL (Nat.gcd (g * a) ((g : Int) * x).natAbs) (l.map fun x => (g : Int) * x) = g * gcdL (Nat.gcd a x.natAbs) l
    rw [Int.natAbs_mul, Int.natAbs_natCast, Nat.gcd_mul_left, gcdL_mul g l]
theorem gcdL_mem : ∀ {l : List Int} {a : Nat} {x : Int}, x ∈ l → ((gcdL a l : Nat) : Int) ∣ x
  | y :: l, a, x, h => by
    rcases List.mem_cons.mp h with rfl | h
    · have h1 : gcdL (Nat.gcd a x.natAbs) l ∣ x.natAbs := Nat.dvd_trans (gcdL_dvd l _) (Nat.gcd_dvd_right _ _)
      exact Int.natAbs_dvd_natAbs.mp h1
    · exact gcdL_mem (a := Nat.gcd a y.natAbs) h
theorem dvd_gcdL {o d : Nat} : ∀ (l : List Int) (a : Nat), o ∣ d * a → (∀ x ∈ l, o ∣ d * x.natAbs) → o ∣ d * gcdL a l
  | [], a, h, _ => h
  | x :: l, a, h, h2 => dvd_gcdL l _ (by
    rw [← Nat.gcd_mul_left]
    exact Nat.dvd_gcd h (h2 x (by simp))) fun y hy => h2 y (by simp [hy])
/-- what is divided -/
structure Dvd (p q : S3) (g : Nat) : Prop where
  pos : 0 < g
  i : p.1 = q.1.map fun x => (g : Int) * x
  o : p.2.1 = (g : Int) * q.2.1
  s : p.2.2 = q.2.2.map fun x => (g : Int) * x
  one : gcdL q.2.1.natAbs (q.1 ++ q.2.2) = 1
theorem dvd3_ok (p : S3) (h : p.2.1 ≠ 0) : ∃ g, Dvd p (dvd3 p) g := by
  have hg : 0 < gcdL p.2.1.natAbs (p.1 ++ p.2.2) := gcdL_pos _ (Int.natAbs_pos.mpr h)
  have hx : ∀ x ∈ p.1 ++ p.2.2, x = ((gcdL p.2.1.natAbs (p.1 ++ p.2.2) : Nat) : Int) * x.fdiv ((gcdL p.2.1.natAbs (p.1 ++ p.2.2) : Nat) : Int) := fun x hx => by
    obtain ⟨k, hk⟩ := gcdL_mem (a := p.2.1.natAbs) hx
    generalize gcdL p.2.1.natAbs (p.1 ++ p.2.2) = g at *
    rw [hk, Int.mul_comm, Int.mul_fdiv_cancel _ (by omega), Int.mul_comm]
  have ho : p.2.1 = ((gcdL p.2.1.natAbs (p.1 ++ p.2.2) : Nat) : Int) * p.2.1.fdiv ((gcdL p.2.1.natAbs (p.1 ++ p.2.2) : Nat) : Int) := by
    obtain ⟨k, hk⟩ : ((gcdL p.2.1.natAbs (p.1 ++ p.2.2) : Nat) : Int) ∣ p.2.1 := Int.natAbs_dvd_natAbs.mp (gcdL_dvd _ _)
    generalize gcdL p.2.1.natAbs (p.1 ++ p.2.2) = g at *
    rw [hk, Int.mul_comm, Int.mul_fdiv_cancel _ (by omega), Int.mul_comm]
  obtain ⟨is, o, ss⟩ := p
  dsimp only at *
  refine ⟨gcdL o.natAbs (is ++ ss), hg, ?_, ho, ?_, ?_⟩
  · show is = (is.map _).map _
    rw [List.map_map]
    conv => lhs; rw [← List.map_id is]
    exact List.map_congr_left fun x h => hx x (by simp [h])
  · show ss = (ss.map _).map _
    rw [List.map_map]
    conv => lhs; rw [← List.map_id ss]
    exact List.map_congr_left fun x h => hx x (by simp [h])
  · have h1 := gcdL_mul (gcdL o.natAbs (is ++ ss)) ((dvd3 (is, o, ss)).1 ++ (dvd3 (is, o, ss)).2.2) (dvd3 (is, o, ss)).2.1.natAbs
    have e1 : ((dvd3 (is, o, ss)).1 ++ (dvd3 (is, o, ss)).2.2).map (fun x => ((gcdL o.natAbs (is ++ ss) : Nat) : Int) * x) = is ++ ss := by
      show ((is.map _) ++ (ss.map _)).map _ = _
      rw [← List.map_append, List.map_map]
      conv => rhs; rw [← List.map_id (is ++ ss)]
      exact List.map_congr_left fun x h => (hx x h).symm
    have e2 : gcdL o.natAbs (is ++ ss) * (dvd3 (is, o, ss)).2.1.natAbs = o.natAbs := by
      conv => rhs; rw [ho]
      rw [Int.natAbs_mul, Int.natAbs_natCast]
      rfl
    rw [e1, e2] at h1
    have h2 : gcdL o.natAbs (is ++ ss) * 1 = gcdL o.natAbs (is ++ ss) * gcdL (dvd3 (is, o, ss)).2.1.natAbs ((dvd3 (is, o, ss)).1 ++ (dvd3 (is, o, ss)).2.2) := by rw [Nat.mul_one]; exact h1
    exact (Nat.eq_of_mul_eq_mul_left hg h2).symm
end MB

/-! part MB4 -/
set_option exponentiation.threshold 256 -- MB4
set_option maxHeartbeats 200000 -- MB4
set_option maxRecDepth 100000 -- MB4
/-! MB4: left. -/
namespace MB
open MA PD
variable {n : Nat} {kept : List K3} {R : List (List Rat)} {row : List Rat}
theorem ii_map (f : Int → Int) (l : List Int) (j : Nat) (h : f 0 = 0) : ii (l.map f) j = ((f (l.getD j 0) : Int) : Rat) := by
  unfold ii
  rw [getD_map f l j 0 0 h]
theorem rat_den (q : Rat) : (q.den : Rat) * q = (q.num : Rat) := by
  have h1 : Rat.divInt q.num q.den = (q.num : Rat) / ((q.den : Int) : Rat) := Rat.divInt_eq_div _ _
  rw [Rat.num_divInt_den] at h1
  have h2 : ((q.den : Int) : Rat) ≠ 0 := fun z => q.den_nz (by
    have : (((q.den : Nat) : Int) : Rat) = ((0 : Int) : Rat) := z
    have := Rat.intCast_inj.mp this
    omega)
  have h3 : (q.den : Rat) = ((q.den : Int) : Rat) := rfl
  rw [h3]
  generalize ((q.den : Int) : Rat) = d at *
  generalize (q.num : Rat) = m at *
  rw [h1, Rat.mul_comm]
  exact Rat.div_mul_cancel h2
theorem ints_at (l : List Rat) (j : Nat) : ii (intsL l) j = (lcmL l : Rat) * l.getD j 0 := by
  by_cases hj : j < l.length
  · unfold ii intsL
    rw [getD_lt (by rw [List.length_map]; exact hj), List.getElem_map, getD_lt hj]
    have hm := lcmL_mem (List.getElem_mem hj)
    generalize l[j] = q at *
    obtain ⟨k, hk⟩ := hm
    have hd := q.den_nz
    have e : ((lcmL l : Nat) : Int).fdiv (q.den : Int) = (k : Int) := by
      rw [hk, Int.natCast_mul, Int.mul_comm, Int.mul_fdiv_cancel _ (by omega)]
    rw [e, hk]
    have h2 : (q.den : Rat) * q = (q.num : Rat) := rat_den q
    rw [Rat.intCast_mul, Rat.natCast_mul, ← h2]
    have : ((k : Int) : Rat) = (k : Rat) := rfl
    rw [this]
    grind
  · rw [getD_ge (by omega)]
    unfold ii
    rw [getD_ge (by rw [intsL_len]; omega), Rat.mul_zero]
    rfl
/-- what a state tells -/
structure SInv (n : Nat) (kept : List K3) (R : List (List Rat)) (row : List Rat) (i : Nat) (st : S3) : Prop where
  il : st.1.length = n
  sl : st.2.2.length = kept.length
  o : st.2.1 ≠ 0
  comb : ∀ j, j < n → ii st.1 j = (st.2.1 : Rat) * row.getD j 0 + S kept.length (fun l => ii st.2.2 l * rr R l j)
  zer : ∀ j, j < i → ii st.1 (pv kept j) = 0
  tl : ∀ l, i ≤ l → ii st.2.2 l = 0
  prim : gcdL st.2.1.natAbs (st.1 ++ st.2.2) = 1 ∨ st = (intsL row, (lcmL row : Int), List.replicate kept.length 0)
theorem cast_ne {i : Int} (h : i ≠ 0) : (i : Rat) ≠ 0 := fun z => h (by
  have : (i : Rat) = ((0 : Int) : Rat) := z
  exact Rat.intCast_inj.mp this)
theorem ne_cast {i : Int} (h : (i : Rat) ≠ 0) : i ≠ 0 := fun z => h (by rw [z]; rfl)
theorem kept_at {k : Nat} {e : K3} (h : kept[k]? = some e) : pv kept k = e.1 ∧ kI kept k = e.2.1 ∧ kP kept k = e.2.2 := by
  unfold pv kI kP
  rw [List.getD_eq_getElem?_getD, h]
  exact ⟨rfl, rfl, rfl⟩
theorem sinv0 (hr : row.length = n) : SInv n kept R row 0 (stF kept row 0) := by
  have e : stF kept row 0 = (intsL row, (lcmL row : Int), List.replicate kept.length 0) := rfl
  rw [e]
  have hz : ∀ l, ii (List.replicate kept.length 0) l = 0 := fun l => by
    have := getD_pad [] kept.length l
    unfold ii
    rw [List.nil_append] at this
    rw [this]
    rfl
  refine ⟨by show (intsL row).length = n; rw [intsL_len, hr], List.length_replicate .., ?_, fun j hj => ?_, fun j hj => by omega, fun l _ => hz l, .inr rfl⟩
  · have := lcmL_pos row
    show ((lcmL row : Nat) : Int) ≠ 0
    omega
  · show ii (intsL row) j = ((lcmL row : Int) : Rat) * row.getD j 0 + S kept.length (fun l => ii (List.replicate kept.length 0) l * rr R l j)
    rw [ints_at, S_zero fun l _ => by rw [hz]; exact Rat.zero_mul _]
    have : (((lcmL row : Nat) : Int) : Rat) = ((lcmL row : Nat) : Rat) := rfl
    rw [this]
    grind
theorem sinv_step (hK : KInv n kept R) {i : Nat} {e : K3} {st : S3} (he : kept[i]? = some e) (h : SInv n kept R row i st) : SInv n kept R row (i + 1) (lstep st e) := by
  obtain ⟨hi, _⟩ := List.getElem?_eq_some_iff.mp he
  obtain ⟨e1, e2, e3⟩ := kept_at he
  have A := hK.at_ i hi
  have apn := A.pn
  have ail := A.il
  have apl := A.pl
  have aip := A.ip
  have azer := A.zer
  have acomb := A.comb
  rw [e1] at apn aip
  rw [e2] at ail aip
  rw [e3] at apl
  have azer' : ∀ j, j < i → ii e.2.1 (pv kept j) = 0 := fun j hj => by rw [← e2]; exact azer j hj
  have acomb' : ∀ j, j < n → ii e.2.1 j = S (i + 1) (fun l => ii e.2.2 l * rr R l j) := fun j hj => by rw [← e2, ← e3]; exact acomb j hj
  clear azer acomb A
  unfold lstep
  by_cases hz : st.1.getD e.1 0 = 0
  · rw [if_pos hz]
    refine ⟨h.il, h.sl, h.o, h.comb, fun j hj => ?_, fun l hl => h.tl l (by omega), h.prim⟩
    by_cases ej : j = i
    · subst ej
      rw [e1]
      show ((st.1.getD e.1 0 : Int) : Rat) = 0
      rw [hz]
      rfl
    · exact h.zer j (by omega)
  · rw [if_neg hz]
    have hk0 : e.2.1.getD e.1 0 ≠ 0 := ne_cast aip
    have hg := gcd_pos_right (st.1.getD e.1 0) hk0
    have hsc := fdiv_gcd_ne (a := st.1.getD e.1 0) hk0
    have hs : e.2.1.getD e.1 0 = ((Nat.gcd (st.1.getD e.1 0).natAbs (e.2.1.getD e.1 0).natAbs : Nat) : Int) * (e.2.1.getD e.1 0).fdiv ((Nat.gcd (st.1.getD e.1 0).natAbs (e.2.1.getD e.1 0).natAbs : Nat) : Int) := by
      obtain ⟨k, hk⟩ := gcd_dr (st.1.getD e.1 0) (e.2.1.getD e.1 0)
      generalize Nat.gcd (st.1.getD e.1 0).natAbs (e.2.1.getD e.1 0).natAbs = g at *
      rw [hk, Int.mul_comm, Int.mul_fdiv_cancel _ (by omega), Int.mul_comm]
    have hl : st.1.getD e.1 0 = ((Nat.gcd (st.1.getD e.1 0).natAbs (e.2.1.getD e.1 0).natAbs : Nat) : Int) * (st.1.getD e.1 0).fdiv ((Nat.gcd (st.1.getD e.1 0).natAbs (e.2.1.getD e.1 0).natAbs : Nat) : Int) := by
      obtain ⟨k, hk⟩ := gcd_dl (st.1.getD e.1 0) (e.2.1.getD e.1 0)
      generalize Nat.gcd (st.1.getD e.1 0).natAbs (e.2.1.getD e.1 0).natAbs = g at *
      rw [hk, Int.mul_comm, Int.mul_fdiv_cancel _ (by omega), Int.mul_comm]
    generalize (e.2.1.getD e.1 0).fdiv ((Nat.gcd (st.1.getD e.1 0).natAbs (e.2.1.getD e.1 0).natAbs : Nat) : Int) = sc at *
    generalize (st.1.getD e.1 0).fdiv ((Nat.gcd (st.1.getD e.1 0).natAbs (e.2.1.getD e.1 0).natAbs : Nat) : Int) = ld at *
    generalize Nat.gcd (st.1.getD e.1 0).natAbs (e.2.1.getD e.1 0).natAbs = g at *
    have hpl : (e.2.2 ++ List.replicate ((st.2.2.length : Int) - (e.2.2.length : Int)).toNat 0).length = st.2.2.length := by
      rw [List.length_append, List.length_replicate, apl, h.sl]
      omega
    obtain ⟨g2, D⟩ := dvd3_ok ((st.1.zip e.2.1).map (fun p => sc * p.1 - ld * p.2), st.2.1 * sc, (st.2.2.zip (e.2.2 ++ List.replicate ((st.2.2.length : Int) - (e.2.2.length : Int)).toNat 0)).map (fun p => sc * p.1 - ld * p.2)) (Int.mul_ne_zero h.o hsc)
    generalize hq : dvd3 ((st.1.zip e.2.1).map (fun p => sc * p.1 - ld * p.2), st.2.1 * sc, (st.2.2.zip (e.2.2 ++ List.replicate ((st.2.2.length : Int) - (e.2.2.length : Int)).toNat 0)).map (fun p => sc * p.1 - ld * p.2)) = q at *
    obtain ⟨dp, di, d0, ds, d1⟩ := D
    dsimp only at di d0 ds
    have g0 : ((g2 : Int) : Rat) ≠ 0 := cast_ne (by omega)
    have mi : ∀ j, ((g2 : Int) : Rat) * ii q.1 j = (sc : Rat) * ii st.1 j - (ld : Rat) * ii e.2.1 j := fun j => by
      have h1 : ii ((st.1.zip e.2.1).map (fun p => sc * p.1 - ld * p.2)) j = ((sc * st.1.getD j 0 - ld * e.2.1.getD j 0 : Int) : Rat) := by
        unfold ii
        rw [getD_zipI (fun p => sc * p.1 - ld * p.2) 0 (by simp) (by rw [h.il, ail])]
      rw [di, ii_map _ _ _ (Int.mul_zero _), Rat.intCast_mul] at h1
      rw [Rat.intCast_sub, Rat.intCast_mul, Rat.intCast_mul] at h1
      exact h1
    have ms : ∀ j, ((g2 : Int) : Rat) * ii q.2.2 j = (sc : Rat) * ii st.2.2 j - (ld : Rat) * ii e.2.2 j := fun j => by
      have h1 : ii ((st.2.2.zip (e.2.2 ++ List.replicate ((st.2.2.length : Int) - (e.2.2.length : Int)).toNat 0)).map (fun p => sc * p.1 - ld * p.2)) j = ((sc * st.2.2.getD j 0 - ld * e.2.2.getD j 0 : Int) : Rat) := by
        unfold ii
        rw [getD_zipI (fun p => sc * p.1 - ld * p.2) 0 (by simp) hpl.symm, getD_pad]
      rw [ds, ii_map _ _ _ (Int.mul_zero _), Rat.intCast_mul] at h1
      rw [Rat.intCast_sub, Rat.intCast_mul, Rat.intCast_mul] at h1
      exact h1
    have mo : ((g2 : Int) : Rat) * (q.2.1 : Rat) = (st.2.1 : Rat) * (sc : Rat) := by
      rw [← Rat.intCast_mul, ← Rat.intCast_mul, d0]
    refine ⟨?_, ?_, ?_, fun j hj => ?_, fun j hj => ?_, fun l hl => ?_, .inl d1⟩
    · have := congrArg List.length di
      rw [List.length_map, List.length_map, List.length_zip, h.il, ail] at this
      omega
    · have := congrArg List.length ds
      rw [List.length_map, List.length_map, List.length_zip, hpl, h.sl] at this
      omega
    · intro z
      rw [z, Int.mul_zero] at d0
      exact Int.mul_ne_zero h.o hsc d0
    · have c1 := h.comb j hj
      have c2 : ii e.2.1 j = S kept.length (fun l => ii e.2.2 l * rr R l j) := by
        rw [acomb' j hj]
        refine (S_more (by omega) fun l h1 h2 => ?_).symm
        have : ii e.2.2 l = 0 := by unfold ii; rw [getD_ge (by omega)]; rfl
        rw [this]
        exact Rat.zero_mul _
      have c3 : ((g2 : Int) : Rat) * S kept.length (fun l => ii q.2.2 l * rr R l j) = (sc : Rat) * S kept.length (fun l => ii st.2.2 l * rr R l j) + (-(ld : Rat)) * S kept.length (fun l => ii e.2.2 l * rr R l j) := by
        rw [← S_mul, ← S_mul, ← S_mul, ← S_add]
        refine S_congr fun l _ => ?_
        have := ms l
        grind
      have c4 := mi j
      rw [← c2] at c3
      generalize S kept.length (fun l => ii q.2.2 l * rr R l j) = u at *
      generalize S kept.length (fun l => ii st.2.2 l * rr R l j) = v at *
      have : ((g2 : Int) : Rat) * ii q.1 j = ((g2 : Int) : Rat) * ((q.2.1 : Rat) * row.getD j 0 + u) := by
        rw [c4, Rat.mul_add, c3, ← Rat.mul_assoc, mo, c1]
        grind
      grind
    · have c4 := mi (pv kept j)
      have : ((g2 : Int) : Rat) * ii q.1 (pv kept j) = 0 := by
        rw [c4]
        by_cases ej : j = i
        · subst ej
          rw [e1]
          show (sc : Rat) * ((st.1.getD e.1 0 : Int) : Rat) - (ld : Rat) * ((e.2.1.getD e.1 0 : Int) : Rat) = 0
          rw [← Rat.intCast_mul, ← Rat.intCast_mul, ← Rat.intCast_sub]
          have : sc * st.1.getD e.1 0 - ld * e.2.1.getD e.1 0 = 0 := by
            rw [hs, hl]
            grind
          rw [this]
          rfl
        · rw [h.zer j (by omega), azer' j (by omega)]
          grind
      grind
    · have c4 := ms l
      have e4 : ii e.2.2 l = 0 := by unfold ii; rw [getD_ge (by omega)]; rfl
      rw [h.tl l (by omega), e4] at c4
      grind
theorem sinv (hK : KInv n kept R) (hr : row.length = n) : ∀ i, i ≤ kept.length → SInv n kept R row i (stF kept row i)
  | 0, _ => sinv0 hr
  | i + 1, h => by
    have he : kept[i]? = some kept[i] := List.getElem?_eq_getElem (by omega)
    rw [stF_succ he]
    exact sinv_step hK he (sinv hK hr i (by omega))
end MB

/-! part MB5 -/
set_option exponentiation.threshold 256 -- MB5
set_option maxHeartbeats 200000 -- MB5
set_option maxRecDepth 100000 -- MB5
/-! MB5: how big what is left can be. -/
namespace MB
open MA PD
variable {n : Nat} {kept : List K3} {R : List (List Rat)} {row : List Rat} {D A : Nat}
/-- D times the number is an integer of size A at most -/
def Fit1 (D A : Nat) (q : Rat) : Prop := ∃ z : Int, (D : Rat) * q = (z : Rat) ∧ z.natAbs ≤ A
def Fit (D A : Nat) (r : List Rat) : Prop := ∀ q ∈ r, Fit1 D A q
theorem Fit1.num {q : Rat} (h : Fit1 D A q) : (D : Rat) * q = ((((D : Rat) * q).num : Int) : Rat) ∧ ((D : Rat) * q).num.natAbs ≤ A := by
  obtain ⟨z, h1, h2⟩ := h
  rw [h1, Rat.num_intCast]
  exact ⟨rfl, h2⟩
theorem Fit1.zero : Fit1 D A 0 := ⟨0, Rat.mul_zero _, Nat.zero_le _⟩
theorem Fit.at_ {r : List Rat} (h : Fit D A r) (j : Nat) : Fit1 D A (r.getD j 0) := by
  by_cases hj : j < r.length
  · rw [getD_lt hj]
    exact h _ (List.getElem_mem hj)
  · rw [getD_ge (by omega)]
    exact Fit1.zero
theorem Fit1.den {q : Rat} (h : Fit1 D A q) : q.den ∣ D := by
  obtain ⟨z, h1, h2⟩ := h
  have h3 := rat_den q
  have h4 : ((D : Int) : Rat) * (q.num : Rat) = (z : Rat) * ((q.den : Int) : Rat) := by
    rw [← h1, ← h3]
    show (D : Rat) * ((q.den : Rat) * q) = (D : Rat) * q * (q.den : Rat)
    grind
  rw [← Rat.intCast_mul, ← Rat.intCast_mul] at h4
  have h5 : (D : Int) * q.num = z * (q.den : Int) := Rat.intCast_inj.mp h4
  have h6 : q.den ∣ D * q.num.natAbs := by
    have := congrArg Int.natAbs h5
    rw [Int.natAbs_mul, Int.natAbs_mul, Int.natAbs_natCast, Int.natAbs_natCast] at this
    exact ⟨z.natAbs, by rw [this, Nat.mul_comm]⟩
  exact Nat.Coprime.dvd_of_dvd_mul_right (Nat.Coprime.symm q.reduced) h6
theorem lcm_dvd_all : ∀ (l : List Rat) (b : Nat), b ∣ D → (∀ q ∈ l, q.den ∣ D) → l.foldl (fun b q => Nat.lcm b q.den) b ∣ D
  | [], b, h, _ => h
  | q :: l, b, h, h2 => lcm_dvd_all l _ (Nat.lcm_dvd h (h2 q (by simp))) fun r hr => h2 r (by simp [hr])
theorem Fit.lcm {r : List Rat} (h : Fit D A r) : lcmL r ∣ D := lcm_dvd_all r 1 (Nat.one_dvd _) fun q hq => (h q hq).den
theorem Fit.ints {r : List Rat} (hD : 0 < D) (h : Fit D A r) (j : Nat) : ((intsL r).getD j 0).natAbs ≤ A := by
  obtain ⟨k, hk⟩ := h.lcm
  obtain ⟨h1, h2⟩ := (h.at_ j).num
  have h3 := ints_at r j
  have h4 : ((k : Int) : Rat) * (((intsL r).getD j 0 : Int) : Rat) = ((((D : Rat) * r.getD j 0).num : Int) : Rat) := by
    rw [← h1]
    show ((k : Int) : Rat) * ii (intsL r) j = _
    rw [h3, hk, Rat.natCast_mul]
    have : ((k : Int) : Rat) = (k : Rat) := rfl
    rw [this]
    grind
  rw [← Rat.intCast_mul] at h4
  have h5 := congrArg Int.natAbs (Rat.intCast_inj.mp h4)
  rw [Int.natAbs_mul, Int.natAbs_natCast] at h5
  have hk0 : 0 < k := Nat.pos_of_ne_zero fun z => by
    rw [z, Nat.mul_zero] at hk
    omega
  have : 1 * ((intsL r).getD j 0).natAbs ≤ k * ((intsL r).getD j 0).natAbs := Nat.mul_le_mul_right _ hk0
  omega
theorem SI_cast (m : Nat) (f : Nat → Int) : ((SI m f : Int) : Rat) = S m (fun i => ((f i : Int) : Rat)) := by
  induction m with
  | zero => rfl
  | succ m ih =>
    show ((SI m f + f m : Int) : Rat) = S m _ + ((f m : Int) : Rat)
    rw [Rat.intCast_add, ih]
structure StB (D A i : Nat) (st : S3) : Prop where
  is : ∀ j, (st.1.getD j 0).natAbs ≤ (i + 1) * (A * (2 * (i + 1) * A + 1) ^ i)
  o : st.2.1.natAbs ≤ D * (2 * (i + 1) * A + 1) ^ i
  ss : ∀ j, (st.2.2.getD j 0).natAbs ≤ D * (2 * (i + 1) * A + 1) ^ i
theorem one_le_pow (a i : Nat) : 1 ≤ (2 * (i + 1) * a + 1) ^ i := Nat.pow_pos (by omega)
theorem st_bound (hK : KInv n kept R) (hr : row.length = n) (hD : 0 < D) (hR : ∀ r ∈ R, Fit D A r) (hrow : Fit D A row) {i : Nat} (hi : i ≤ kept.length) {st : S3} (h : SInv n kept R row i st) : StB D A i st := by
  have hX := one_le_pow A i
  rcases h.prim with hp | hp
  · -- the primitive one
    have fitR : ∀ l j, Fit1 D A (rr R l j) := fun l j => by
      show Fit1 D A ((R.getD l []).getD j 0)
      by_cases hl : l < R.length
      · rw [getD_lt hl]
        exact (hR _ (List.getElem_mem hl)).at_ j
      · rw [getD_ge (l := R) (by omega)]
        exact Fit1.zero
    let V : Nat → Nat → Rat := fun j c => if j < i then rr R j c else row.getD c 0
    have fitV : ∀ j c, Fit1 D A (V j c) := fun j c => by
      show Fit1 D A (if j < i then rr R j c else row.getD c 0)
      split
      · exact fitR j c
      · exact hrow.at_ c
    obtain ⟨x, ⟨j0, hj0, hx0⟩, hxb, hx⟩ := siegel i A (fun e j => ((D : Rat) * V j (pv kept e)).num) fun e he j hj => (fitV j _).num.2
    generalize hXX : (2 * (i + 1) * A + 1) ^ i = X at *
    have hD0 : (D : Rat) ≠ 0 := fun z => by
      have : ((D : Nat) : Rat) = ((0 : Nat) : Rat) := z
      have := Rat.natCast_inj.mp this
      omega
    -- the number z c
    let z : Nat → Int := fun c => SI (i + 1) fun j => ((D : Rat) * V j c).num * x j
    have hz : ∀ c, ((z c : Int) : Rat) = (D : Rat) * (S i (fun l => (x l : Rat) * rr R l c) + (x i : Rat) * row.getD c 0) := fun c => by
      show ((SI (i + 1) _ : Int) : Rat) = _
      rw [SI_cast]
      show S i (fun j => (((((D : Rat) * V j c).num * x j : Int)) : Rat)) + (((((D : Rat) * V i c).num * x i : Int)) : Rat) = _
      have e1 : ∀ j, (((((D : Rat) * V j c).num * x j : Int)) : Rat) = (D : Rat) * ((x j : Rat) * V j c) := fun j => by
        rw [Rat.intCast_mul, ← (fitV j c).num.1]
        grind
      rw [e1, S_congr (g := fun j => (D : Rat) * ((x j : Rat) * V j c)) fun j _ => e1 j, S_mul]
      have e2 : V i c = row.getD c 0 := if_neg (by omega)
      rw [e2, S_congr (g := fun l => (x l : Rat) * rr R l c) fun j hj => by
        show (x j : Rat) * (if j < i then rr R j c else row.getD c 0) = _
        rw [if_pos hj]]
      grind
    have hzb : ∀ c, (z c).natAbs ≤ (i + 1) * (A * X) := fun c => SI_abs fun j hj => by
      rw [Int.natAbs_mul]
      exact Nat.mul_le_mul (fitV j c).num.2 (hxb j hj)
    have hz0 : ∀ e, e < i → S i (fun l => (x l : Rat) * rr R l (pv kept e)) + (x i : Rat) * row.getD (pv kept e) 0 = 0 := fun e he => by
      have h1 : z (pv kept e) = 0 := hx e he
      have h2 := hz (pv kept e)
      rw [h1] at h2
      have h3 : ((0 : Int) : Rat) = 0 := rfl
      rw [h3] at h2
      have := Rat.mul_eq_zero.mp h2.symm
      exact this.resolve_left hD0
    have hS : ∀ c, S kept.length (fun l => ii st.2.2 l * rr R l c) = S i (fun l => ii st.2.2 l * rr R l c) := fun c => S_more hi fun l h1 _ => by rw [h.tl l h1]; exact Rat.zero_mul _
    have hd : ∀ l, l < i → (x i : Rat) * ii st.2.2 l - (st.2.1 : Rat) * (x l : Rat) = 0 := uniq hK i hi _ fun e he => by
      have h1 := h.zer e he
      rw [h.comb _ (hK.at_ e (by omega)).pn, hS] at h1
      have h2 := hz0 e he
      have h3 : S i (fun l => ((x i : Rat) * ii st.2.2 l - (st.2.1 : Rat) * (x l : Rat)) * rr R l (pv kept e)) = (x i : Rat) * S i (fun l => ii st.2.2 l * rr R l (pv kept e)) + (-(st.2.1 : Rat)) * S i (fun l => (x l : Rat) * rr R l (pv kept e)) := by
        rw [← S_mul, ← S_mul, ← S_add]
        exact S_congr fun l _ => by grind
      rw [h3]
      generalize S i (fun l => ii st.2.2 l * rr R l (pv kept e)) = u at *
      generalize S i (fun l => (x l : Rat) * rr R l (pv kept e)) = v at *
      grind
    have ho : (st.2.1 : Rat) ≠ 0 := cast_ne h.o
    have hxi : x i ≠ 0 := fun zz => hx0 (by
      by_cases e : j0 = i
      · rw [e]; exact zz
      · have h1 := hd j0 (by omega)
        rw [zz] at h1
        have h2 : ((0 : Int) : Rat) = 0 := rfl
        rw [h2] at h1
        have h3 : (st.2.1 : Rat) * (x j0 : Rat) = 0 := by grind
        have h4 := (Rat.mul_eq_zero.mp h3).resolve_left ho
        exact Classical.byContradiction fun z2 => cast_ne z2 h4)
    -- o divides
    have hi1 : ∀ c, c < n → (D : Int) * x i * st.1.getD c 0 = st.2.1 * z c := fun c hc => by
      refine Rat.intCast_inj.mp ?_
      rw [Rat.intCast_mul, Rat.intCast_mul, Rat.intCast_mul, hz]
      have h1 := h.comb c hc
      rw [hS] at h1
      have e1 : ((st.1.getD c 0 : Int) : Rat) = ii st.1 c := rfl
      rw [e1, h1]
      have h3 : (x i : Rat) * S i (fun l => ii st.2.2 l * rr R l c) = (st.2.1 : Rat) * S i (fun l => (x l : Rat) * rr R l c) := by
        rw [← S_mul, ← S_mul]
        refine S_congr fun l hl => ?_
        have := hd l hl
        have e : (x i : Rat) * ii st.2.2 l = (st.2.1 : Rat) * (x l : Rat) := by grind
        rw [← Rat.mul_assoc, e, Rat.mul_assoc]
      have e3 : ((D : Int) : Rat) = (D : Rat) := rfl
      rw [e3]
      generalize S i (fun l => ii st.2.2 l * rr R l c) = u at *
      generalize S i (fun l => (x l : Rat) * rr R l c) = v at *
      have : (D : Rat) * (x i : Rat) * ((st.2.1 : Rat) * row.getD c 0 + u) = (D : Rat) * ((st.2.1 : Rat) * ((x i : Rat) * row.getD c 0) + (x i : Rat) * u) := by grind
      rw [this, h3]
      grind
    have hs1 : ∀ l, l < i → (D : Int) * x i * st.2.2.getD l 0 = st.2.1 * ((D : Int) * x l) := fun l hl => by
      refine Rat.intCast_inj.mp ?_
      rw [Rat.intCast_mul, Rat.intCast_mul, Rat.intCast_mul, Rat.intCast_mul]
      have := hd l hl
      have e1 : ((st.2.2.getD l 0 : Int) : Rat) = ii st.2.2 l := rfl
      rw [e1]
      have e : (x i : Rat) * ii st.2.2 l = (st.2.1 : Rat) * (x l : Rat) := by grind
      rw [Rat.mul_assoc, e]
      grind
    have hsz : ∀ l, i ≤ l → st.2.2.getD l 0 = 0 := fun l hl => Rat.intCast_inj.mp (h.tl l hl)
    have hdiv : st.2.1.natAbs ∣ ((D : Int) * x i).natAbs := by
      have := dvd_gcdL (o := st.2.1.natAbs) (d := ((D : Int) * x i).natAbs) (st.1 ++ st.2.2) st.2.1.natAbs (Nat.dvd_mul_left _ _) fun y hy => by
        rcases List.mem_append.mp hy with hy | hy
        · obtain ⟨c, hc, rfl⟩ := List.getElem_of_mem hy
          have h1 := hi1 c (by rw [← h.il]; exact hc)
          rw [getD_lt hc] at h1
          rw [← Int.natAbs_mul, h1, Int.natAbs_mul]
          exact Nat.dvd_mul_right _ _
        · obtain ⟨l, hl, rfl⟩ := List.getElem_of_mem hy
          by_cases e : l < i
          · have h1 := hs1 l e
            rw [getD_lt hl] at h1
            rw [← Int.natAbs_mul, h1, Int.natAbs_mul]
            exact Nat.dvd_mul_right _ _
          · have h1 := hsz l (by omega)
            rw [getD_lt hl] at h1
            rw [h1]
            exact Nat.dvd_zero _
      rw [hp, Nat.mul_one] at this
      exact this
    obtain ⟨t, ht⟩ : st.2.1 ∣ (D : Int) * x i := Int.natAbs_dvd_natAbs.mp hdiv
    have ht0 : t ≠ 0 := fun zz => by
      rw [zz, Int.mul_zero] at ht
      exact Int.mul_ne_zero (show (D : Int) ≠ 0 by omega) hxi ht
    have hle : ∀ a b : Int, t * a = b → a.natAbs ≤ b.natAbs := fun a b hab => by
      rw [← hab, Int.natAbs_mul]
      have h1 : 0 < t.natAbs := Int.natAbs_pos.mpr ht0
      have : 1 * a.natAbs ≤ t.natAbs * a.natAbs := Nat.mul_le_mul_right _ h1
      omega
    have hDx : ∀ l, l < i + 1 → ((D : Int) * x l).natAbs ≤ D * X := fun l hl => by
      rw [Int.natAbs_mul, Int.natAbs_natCast]
      exact Nat.mul_le_mul_left D (hxb l hl)
    refine ⟨fun c => ?_, ?_, fun l => ?_⟩
    · rw [hXX]
      by_cases hc : c < n
      · have h1 := hi1 c hc
        rw [ht, Int.mul_assoc] at h1
        exact Nat.le_trans (hle _ _ (Int.eq_of_mul_eq_mul_left h.o h1)) (hzb c)
      · rw [getD_ge (by rw [h.il]; omega)]
        exact Nat.zero_le _
    · rw [hXX]
      exact Nat.le_trans (Nat.le_of_dvd (Int.natAbs_pos.mpr (by rw [ht]; exact Int.mul_ne_zero h.o ht0)) hdiv) (hDx i (by omega))
    · rw [hXX]
      by_cases e : l < i
      · have h1 := hs1 l e
        rw [ht, Int.mul_assoc] at h1
        exact Nat.le_trans (hle _ _ (Int.eq_of_mul_eq_mul_left h.o h1)) (hDx l (by omega))
      · rw [hsz l (by omega)]
        exact Nat.zero_le _
  · -- the first one
    subst hp
    generalize hXX : (2 * (i + 1) * A + 1) ^ i = X at *
    refine ⟨fun j => ?_, ?_, fun j => ?_⟩
    · rw [hXX]
      have h1 := hrow.ints hD j
      have h2 : 1 * A ≤ (i + 1) * A := Nat.mul_le_mul_right _ (by omega)
      have h3 : (i + 1) * A * 1 ≤ (i + 1) * A * X := Nat.mul_le_mul_left _ hX
      rw [Nat.mul_assoc (i + 1) A X] at h3
      show ((intsL row).getD j 0).natAbs ≤ _
      omega
    · rw [hXX]
      have h1 := Nat.le_of_dvd hD hrow.lcm
      have h3 : D * 1 ≤ D * X := Nat.mul_le_mul_left _ hX
      show (((lcmL row : Nat) : Int)).natAbs ≤ _
      rw [Int.natAbs_natCast]
      omega
    · have := getD_pad [] kept.length j
      rw [List.nil_append] at this
      show ((List.replicate kept.length (0 : Int)).getD j 0).natAbs ≤ _
      rw [this]
      exact Nat.zero_le _
end MB

/-! part MB6 -/
set_option exponentiation.threshold 200000 -- MB6
set_option maxHeartbeats 200000 -- MB6
set_option maxRecDepth 100000 -- MB6
/-! MB6: put and told. -/
namespace MB
open MA PD
variable {n : Nat} {kept : List K3} {R : List (List Rat)} {row : List Rat}
def DN : Nat := 2520 ^ 13
def AN : Nat := 6 * (12600 * 302400 ^ 6) * (12600 * 302400 ^ 5)
def XN : Nat := (14 * AN + 1) ^ 6
def ON : Nat := DN * XN
theorem dn_pos : 0 < DN := by decide +kernel
theorem an_bt : AN < 2 ^ 231 := by decide +kernel
theorem dn_bt : DN < 2 ^ 148 := by decide +kernel
theorem on_bt : ON < 2 ^ 1558 := by decide +kernel
theorem is_bt : 7 * (AN * XN) < 2 ^ 1900 := by decide +kernel
theorem xn_le {i : Nat} (h : i ≤ 6) : (2 * (i + 1) * AN + 1) ^ i ≤ XN := by
  have h1 : 2 * (i + 1) * AN ≤ 14 * AN := Nat.mul_le_mul_right _ (by omega)
  exact Nat.le_trans (Nat.pow_le_pow_left (show 2 * (i + 1) * AN + 1 ≤ 14 * AN + 1 by omega) i) (Nat.pow_le_pow_right (by omega) h)
structure StC (st : S3) : Prop where
  is : ∀ x ∈ st.1, Bt 1900 x
  o : st.2.1.natAbs ≤ ON
  ss : ∀ x ∈ st.2.2, x.natAbs ≤ ON
theorem bt_on {x : Int} (h : x.natAbs ≤ ON) : Bt 1900 x := by
  have h1 := on_bt
  have h2 : (2 : Nat) ^ 1558 ≤ 2 ^ 1900 := Nat.pow_le_pow_right (by decide) (by decide)
  unfold Bt
  omega
theorem stC {i : Nat} {st : S3} (h : StB DN AN i st) (hi : i ≤ 6) : StC st := by
  have h1 := xn_le hi
  have h2 : (i + 1) * (AN * (2 * (i + 1) * AN + 1) ^ i) ≤ 7 * (AN * XN) := Nat.mul_le_mul (by omega) (Nat.mul_le_mul_left _ h1)
  have h3 : DN * (2 * (i + 1) * AN + 1) ^ i ≤ ON := Nat.mul_le_mul_left _ h1
  refine ⟨fun x hx => ?_, Nat.le_trans h.o h3, fun x hx => ?_⟩
  · obtain ⟨j, hj, rfl⟩ := List.getElem_of_mem hx
    have h4 := h.is j
    rw [getD_lt hj] at h4
    exact Nat.lt_of_le_of_lt (Nat.le_trans h4 h2) is_bt
  · obtain ⟨j, hj, rfl⟩ := List.getElem_of_mem hx
    have h4 := h.ss j
    rw [getD_lt hj] at h4
    exact Nat.le_trans h4 h3
theorem Fit1.numb {D A : Nat} {q : Rat} (h : Fit1 D A q) (hD : 0 < D) : q.num.natAbs ≤ A := by
  obtain ⟨k, hk⟩ := h.den
  obtain ⟨z, h1, h2⟩ := h
  have h3 := rat_den q
  have h4 : ((k : Int) : Rat) * (q.num : Rat) = (z : Rat) := by
    rw [← h1, ← h3, hk, Rat.natCast_mul]
    show (k : Rat) * _ = _
    grind
  rw [← Rat.intCast_mul] at h4
  have h5 := congrArg Int.natAbs (Rat.intCast_inj.mp h4)
  rw [Int.natAbs_mul, Int.natAbs_natCast] at h5
  have hk0 : 0 < k := Nat.pos_of_ne_zero fun z => by
    rw [z, Nat.mul_zero] at hk
    omega
  have : 1 * q.num.natAbs ≤ k * q.num.natAbs := Nat.mul_le_mul_right _ hk0
  omega
theorem Fit1.denb {D A : Nat} {q : Rat} (h : Fit1 D A q) (hD : 0 < D) : q.den ≤ D := Nat.le_of_dvd hD h.den
structure BInv (n : Nat) (kept : List K3) (R : List (List Rat)) : Prop where
  k : KInv n kept R
  fit : ∀ r ∈ R, Fit DN AN r
  kb : ∀ e ∈ kept, (∀ x ∈ e.2.1, Bt 1900 x) ∧ ∀ x ∈ e.2.2, Bt 1900 x
theorem BInv.nil : BInv n [] [] := ⟨⟨rfl, fun r h => (by cases h), fun k h => absurd h (by simp)⟩, fun r h => (by cases h), fun r h => (by cases h)⟩
theorem BInv.six (hB : BInv n kept R) (hn : n ≤ 6) : kept.length ≤ 6 := by
  have h1 := hB.k.le
  have h2 := hB.k.len
  omega
theorem BInv.stc (hB : BInv n kept R) (hn : n ≤ 6) (hr : row.length = n) (hf : Fit DN AN row) {i : Nat} (hi : i ≤ kept.length) : StC (stF kept row i) :=
  stC (st_bound hB.k hr dn_pos hB.fit hf hi (sinv hB.k hr i hi)) (by have := hB.six hn; omega)
theorem BInv.left (hB : BInv n kept R) (hn : n ≤ 6) (hr : row.length = n) (hf : Fit DN AN row) : LeftOk kept row := by
  have h6 := hB.six hn
  refine ⟨?_, fun q hq => ?_, by omega, by omega, fun i hi => ?_, fun e he => ?_⟩
  · have h1 := Nat.le_of_dvd dn_pos hf.lcm
    have h2 := dn_bt
    have h3 : (2 : Nat) ^ 148 ≤ 2 ^ 13500 := Nat.pow_le_pow_right (by decide) (by decide)
    unfold Sm
    rw [Int.natAbs_natCast]
    omega
  · have h1 := (hf q hq).numb dn_pos
    have h2 := an_bt
    have h3 : (2 : Nat) ^ 231 ≤ 2 ^ 100000 := Nat.pow_le_pow_right (by decide) (by decide)
    unfold Bt
    omega
  · have hs := sinv hB.k hr i hi
    have hc := hB.stc hn hr hf hi
    exact ⟨hc.is, bt_on hc.o, fun x hx => bt_on (hc.ss x hx), hs.o, by rw [hr]; exact hs.il, hs.sl⟩
  · obtain ⟨k, hk⟩ := List.getElem?_of_mem he
    obtain ⟨hkl, _⟩ := List.getElem?_eq_some_iff.mp hk
    obtain ⟨e1, e2, e3⟩ := kept_at hk
    have A := hB.k.at_ k hkl
    obtain ⟨b1, b2⟩ := hB.kb e he
    have apn := A.pn
    have ail := A.il
    have apl := A.pl
    have aip := A.ip
    rw [e1] at apn aip
    rw [e2] at ail aip
    rw [e3] at apl
    exact ⟨by omega, by omega, by omega, b1, b2, ne_cast aip⟩
/-- a sum of multiples -/
def InS (n : Nat) (R : List (List Rat)) (v : List Rat) : Prop := ∃ c : Nat → Rat, ∀ j, j < n → v.getD j 0 = S R.length (fun l => c l * rr R l j)
theorem getD_app {α : Type} {R R' : List α} {l : Nat} {d : α} (h : l < R.length) : (R ++ R').getD l d = R.getD l d := by
  rw [List.getD_eq_getElem?_getD, List.getElem?_append_left h, ← List.getD_eq_getElem?_getD]
theorem rr_app {R R' : List (List Rat)} {l j : Nat} (h : l < R.length) : rr (R ++ R') l j = rr R l j := by
  unfold rr
  rw [getD_app h]
theorem InS.more {v : List Rat} (R' : List (List Rat)) (h : InS n R v) : InS n (R ++ R') v := by
  obtain ⟨c, hc⟩ := h
  refine ⟨fun l => if l < R.length then c l else 0, fun j hj => ?_⟩
  rw [hc j hj, List.length_append]
  refine ((S_more (n := R.length) (by omega) fun i h1 _ => ?_).trans (S_congr fun i hi => ?_)).symm
  · show (if i < R.length then c i else 0) * _ = 0
    rw [if_neg (by omega)]
    exact Rat.zero_mul _
  · show (if i < R.length then c i else 0) * _ = _
    rw [if_pos hi, rr_app hi]
theorem InS.mem {v : List Rat} (h : v ∈ R) : InS n R v := by
  obtain ⟨k, hk, rfl⟩ := List.getElem_of_mem h
  refine ⟨fun l => if l = k then 1 else 0, fun j hj => ?_⟩
  refine ((S_one hk fun i hi hne => ?_).trans ?_).symm
  · show (if i = k then (1 : Rat) else 0) * _ = 0
    rw [if_neg hne]
    exact Rat.zero_mul _
  · show (if k = k then (1 : Rat) else 0) * (R.getD k []).getD j 0 = _
    rw [if_pos rfl, Rat.one_mul, getD_lt hk]
theorem leftF_sinv (hB : BInv n kept R) (hr : row.length = n) : SInv n kept R row kept.length (leftF kept row) := sinv hB.k hr _ (Nat.le_refl _)
theorem firstNZ_some {l : List Int} {p : Nat} (h : firstNZ l = some p) : p < l.length ∧ l.getD p 0 ≠ 0 := by
  unfold firstNZ at h
  obtain ⟨h1, h2, _⟩ := List.findIdx?_eq_some_iff_getElem.mp h
  refine ⟨h1, ?_⟩
  rw [getD_lt h1]
  simpa using h2
theorem firstNZ_none {l : List Int} (h : firstNZ l = none) : ∀ j, l.getD j 0 = 0 := fun j => by
  unfold firstNZ at h
  rw [List.findIdx?_eq_none_iff] at h
  by_cases hj : j < l.length
  · rw [getD_lt hj]
    have := h _ (List.getElem_mem hj)
    simpa using this
  · exact getD_ge (by omega)
theorem pv_app {e : K3} {k : Nat} (h : k < kept.length) : pv (kept ++ [e]) k = pv kept k ∧ kI (kept ++ [e]) k = kI kept k ∧ kP (kept ++ [e]) k = kP kept k := by
  unfold pv kI kP
  rw [List.getD_eq_getElem?_getD, List.getElem?_append_left h, ← List.getD_eq_getElem?_getD]
  exact ⟨rfl, rfl, rfl⟩
theorem pv_new {e : K3} : pv (kept ++ [e]) kept.length = e.1 ∧ kI (kept ++ [e]) kept.length = e.2.1 ∧ kP (kept ++ [e]) kept.length = e.2.2 := kept_at (by simp)
theorem ii_snoc (l : List Int) (o : Int) {j : Nat} (h : j < l.length) : ii (l ++ [o]) j = ii l j := by
  unfold ii
  rw [List.getD_eq_getElem?_getD, List.getElem?_append_left h, ← List.getD_eq_getElem?_getD]
theorem ii_last (l : List Int) (o : Int) : ii (l ++ [o]) l.length = (o : Rat) := by
  unfold ii
  rw [List.getD_eq_getElem?_getD]
  simp
theorem BInv.put (hB : BInv n kept R) (hn : n ≤ 6) (hr : row.length = n) (hf : Fit DN AN row) (hp : putB kept row = true) : BInv n (putK kept row) (R ++ [row]) := by
  have hs := leftF_sinv hB hr
  have hc : StC (leftF kept row) := hB.stc hn hr hf (Nat.le_refl _)
  unfold putB at hp
  unfold putK
  cases hq : firstNZ (leftF kept row).1 with
  | none => rw [hq] at hp; cases hp
  | some p =>
    obtain ⟨p1, p2⟩ := firstNZ_some hq
    generalize leftF kept row = st at *
    dsimp only
    have hlen := hB.k.len
    refine ⟨⟨by simp [hlen], fun r h => ?_, fun k hk => ?_⟩, fun r h => ?_, fun e he => ?_⟩
    · rcases List.mem_append.mp h with h | h
      · exact hB.k.rl r h
      · have : r = row := by simpa using h
        rw [this, hr]
    · by_cases e : k < kept.length
      · have A := hB.k.at_ k e
        obtain ⟨q1, q2, q3⟩ := pv_app (e := (p, st.1, st.2.2 ++ [st.2.1])) e
        refine ⟨by rw [q1]; exact A.pn, by rw [q2]; exact A.il, by rw [q3]; exact A.pl, by rw [q1, q2]; exact A.ip, by rw [q3]; exact A.own, fun j hj => ?_, fun j hj => ?_⟩
        · rw [q2, (pv_app (e := (p, st.1, st.2.2 ++ [st.2.1])) (by omega)).1]
          exact A.zer j hj
        · rw [q2, q3, A.comb j hj]
          exact S_congr fun l hl => by rw [rr_app (by omega)]
      · have ek : k = kept.length := by
          rw [List.length_append] at hk
          have : k < kept.length + 1 := hk
          omega
        subst ek
        obtain ⟨q1, q2, q3⟩ := pv_new (kept := kept) (e := (p, st.1, st.2.2 ++ [st.2.1]))
        refine ⟨by rw [q1, ← hs.il]; exact p1, by rw [q2]; exact hs.il, by rw [q3, List.length_append, hs.sl]; rfl, by rw [q1, q2]; exact cast_ne p2, ?_, fun j hj => ?_, fun j hj => ?_⟩
        · rw [q3]
          show ii (st.2.2 ++ [st.2.1]) kept.length ≠ 0
          rw [← hs.sl, ii_last]
          exact cast_ne hs.o
        · rw [q2, (pv_app (e := (p, st.1, st.2.2 ++ [st.2.1])) hj).1]
          exact hs.zer j hj
        · rw [q2, q3]
          show ii st.1 j = S kept.length (fun l => ii (st.2.2 ++ [st.2.1]) l * rr (R ++ [row]) l j) + ii (st.2.2 ++ [st.2.1]) kept.length * rr (R ++ [row]) kept.length j
          have e1 : ii (st.2.2 ++ [st.2.1]) kept.length = (st.2.1 : Rat) := by rw [← hs.sl, ii_last]
          have e2 : rr (R ++ [row]) kept.length j = row.getD j 0 := by
            unfold rr
            rw [hlen, List.getD_eq_getElem?_getD]
            simp
          have e3 : S kept.length (fun l => ii (st.2.2 ++ [st.2.1]) l * rr (R ++ [row]) l j) = S kept.length (fun l => ii st.2.2 l * rr R l j) := S_congr fun l hl => by rw [ii_snoc _ _ (by rw [hs.sl]; exact hl), rr_app (by omega)]
          rw [e1, e2, e3, hs.comb j hj]
          exact Rat.add_comm _ _
    · rcases List.mem_append.mp h with h | h
      · exact hB.fit r h
      · have : r = row := by simpa using h
        rw [this]
        exact hf
    · rcases List.mem_append.mp he with he | he
      · exact hB.kb e he
      · have : e = (p, st.1, st.2.2 ++ [st.2.1]) := by simpa using he
        rw [this]
        refine ⟨hc.is, fun x hx => ?_⟩
        rcases List.mem_append.mp hx with hx | hx
        · exact bt_on (hc.ss x hx)
        · have : x = st.2.1 := by simpa using hx
          rw [this]
          exact bt_on hc.o
theorem div_rat (s o : Int) (ho : o ≠ 0) : (o : Rat) * Rat.divInt (-s) o = -(s : Rat) := by
  rw [Rat.divInt_eq_div, Rat.mul_comm, Rat.div_mul_cancel (cast_ne ho)]
  rfl
/-- the row is a sum: with which numbers -/
theorem left_told (hB : BInv n kept R) (hr : row.length = n) (hz : ∀ j, (leftF kept row).1.getD j 0 = 0) : ((leftF kept row).2.2.map fun s => Rat.divInt (-s) (leftF kept row).2.1).length = R.length ∧ ∀ j, j < n → row.getD j 0 = S R.length (fun l => ((leftF kept row).2.2.map fun s => Rat.divInt (-s) (leftF kept row).2.1).getD l 0 * rr R l j) := by
  have hs := leftF_sinv hB hr
  generalize leftF kept row = st at *
  have hlen := hB.k.len
  refine ⟨by rw [List.length_map, hs.sl, hlen], fun j hj => ?_⟩
  have h1 := hs.comb j hj
  have h2 : ii st.1 j = 0 := by unfold ii; rw [hz j]; rfl
  rw [h2, hlen] at h1
  have ho := cast_ne hs.o
  have e : (st.2.1 : Rat) * S R.length (fun l => (st.2.2.map fun s => Rat.divInt (-s) st.2.1).getD l 0 * rr R l j) = -S R.length (fun l => ii st.2.2 l * rr R l j) := by
    have : -S R.length (fun l => ii st.2.2 l * rr R l j) = (-1 : Rat) * S R.length (fun l => ii st.2.2 l * rr R l j) := by grind
    rw [this, ← S_mul, ← S_mul]
    refine S_congr fun l _ => ?_
    rw [getD_map (fun s => Rat.divInt (-s) st.2.1) st.2.2 l 0 0 (by simp), ← Rat.mul_assoc, div_rat _ _ hs.o]
    unfold ii
    grind
  generalize S R.length (fun l => ii st.2.2 l * rr R l j) = u at *
  generalize S R.length (fun l => (st.2.2.map fun s => Rat.divInt (-s) st.2.1).getD l 0 * rr R l j) = v at *
  have : (st.2.1 : Rat) * row.getD j 0 = (st.2.1 : Rat) * v := by grind
  grind
theorem BInv.skip (hB : BInv n kept R) (hr : row.length = n) (hp : putB kept row = false) : putK kept row = kept ∧ InS n R row := by
  unfold putB at hp
  unfold putK
  cases hq : firstNZ (leftF kept row).1 with
  | some p => rw [hq] at hp; cases hp
  | none =>
    obtain ⟨_, h⟩ := left_told hB hr (firstNZ_none hq)
    exact ⟨rfl, _, h⟩
structure ToldB (t : List Rat) : Prop where
  at_ : ∃ o : Int, o ≠ 0 ∧ o.natAbs ≤ ON ∧ ∀ q ∈ t, ∃ s : Int, q = Rat.divInt s o ∧ s.natAbs ≤ ON
theorem BInv.told (hB : BInv n kept R) (hn : n ≤ 6) (hr : row.length = n) (hf : Fit DN AN row) {t : List Rat} (h : toldF kept row = some t) : t.length = R.length ∧ (∀ j, j < n → row.getD j 0 = S R.length (fun l => t.getD l 0 * rr R l j)) ∧ ToldB t := by
  have hs := leftF_sinv hB hr
  have hc : StC (leftF kept row) := hB.stc hn hr hf (Nat.le_refl _)
  unfold toldF at h
  split at h
  · cases h
  · rename_i hz
    cases h
    have hz2 : ∀ j, (leftF kept row).1.getD j 0 = 0 := fun j => by
      by_cases hj : j < (leftF kept row).1.length
      · rw [getD_lt hj]
        refine Classical.byContradiction fun z => hz ?_
        rw [List.any_map, List.any_eq_true]
        exact ⟨_, List.getElem_mem hj, by simpa using z⟩
      · exact getD_ge (by omega)
    obtain ⟨h1, h2⟩ := left_told hB hr hz2
    refine ⟨h1, h2, ⟨_, hs.o, hc.o, fun q hq => ?_⟩⟩
    obtain ⟨s, hs2, rfl⟩ := List.mem_map.mp hq
    exact ⟨-s, rfl, by rw [Int.natAbs_neg]; exact hc.ss s hs2⟩
theorem told_none (h : toldF kept row = none) : putB kept row = true := by
  unfold toldF at h
  split at h
  · rename_i hz
    unfold putB
    cases hq : firstNZ (leftF kept row).1 with
    | some p => rfl
    | none =>
      have := firstNZ_none hq
      rw [List.any_map, List.any_eq_true] at hz
      obtain ⟨x, hx, hz⟩ := hz
      obtain ⟨j, hj, rfl⟩ := List.getElem_of_mem hx
      have h1 := this j
      rw [getD_lt hj] at h1
      simp [h1] at hz
  · cases h
end MB

/-! part MB7 -/
set_option exponentiation.threshold 256 -- MB7
set_option maxHeartbeats 200000 -- MB7
set_option maxRecDepth 100000 -- MB7
/-! MB7: steps of machines as sums. -/
namespace MB
open MA PD
def LS {α : Type} : List α → (α → Rat) → Rat
  | [], _ => 0
  | x :: l, f => f x + LS l f
section
variable {α β : Type} {l : List α} {f g : α → Rat}
theorem LS_congr : ∀ {l : List α}, (∀ x ∈ l, f x = g x) → LS l f = LS l g
  | [], _ => rfl
  | x :: l, h => by
    show f x + LS l f = g x + LS l g
    rw [h x (by simp), LS_congr fun y hy => h y (by simp [hy])]
theorem LS_mul (c : Rat) : ∀ (l : List α), LS l (fun x => c * f x) = c * LS l f
  | [] => (Rat.mul_zero c).symm
  | x :: l => by
    show c * f x + LS l _ = c * (f x + LS l f)
    rw [LS_mul c l, Rat.mul_add]
theorem LS_add : ∀ (l : List α), LS l (fun x => f x + g x) = LS l f + LS l g
  | [] => (Rat.add_zero 0).symm
  | x :: l => by
    show f x + g x + LS l _ = f x + LS l f + (g x + LS l g)
    rw [LS_add l]
    grind
theorem LS_map (h : β → α) : ∀ (l : List β), LS (l.map h) f = LS l (fun x => f (h x))
  | [] => rfl
  | x :: l => by
    show f (h x) + LS (l.map h) f = _
    rw [LS_map h l]
    rfl
theorem LS_filter (p : α → Bool) : ∀ (l : List α), LS (l.filter p) f = LS l (fun x => if p x = true then f x else 0)
  | [] => rfl
  | x :: l => by
    rw [List.filter_cons]
    show _ = (if p x = true then f x else 0) + LS l _
    split
    · show f x + LS (l.filter p) f = _
      rw [LS_filter p l]
    · rw [LS_filter p l, Rat.zero_add]
theorem S_LS (n : Nat) (f : Nat → α → Rat) : ∀ (l : List α), S n (fun j => LS l (f j)) = LS l (fun x => S n fun j => f j x)
  | [] => S_zero fun _ _ => rfl
  | x :: l => by
    show S n (fun j => f j x + LS l (f j)) = S n (fun j => f j x) + LS l _
    rw [S_add, S_LS n f l]
end
/-- ahead -/
def stepV (rds : List Road) (s : Nat) (v : Nat → Rat) (j : Nat) : Rat := LS rds fun r => if r.2.1 = s ∧ r.2.2.1 = j then v r.1 * r.2.2.2 else 0
/-- back -/
def backV (rds : List Road) (s : Nat) (v : Nat → Rat) (i : Nat) : Rat := LS rds fun r => if r.2.1 = s ∧ r.1 = i then r.2.2.2 * v r.2.2.1 else 0
theorem dual {rds : List Road} {N s : Nat} (h : ∀ r ∈ rds, r.1 < N ∧ r.2.2.1 < N) (v c : Nat → Rat) : S N (fun j => stepV rds s v j * c j) = S N (fun i => v i * backV rds s c i) := by
  have e1 : S N (fun j => stepV rds s v j * c j) = LS rds fun r => if r.2.1 = s then v r.1 * r.2.2.2 * c r.2.2.1 else 0 := by
    have : S N (fun j => stepV rds s v j * c j) = S N (fun j => LS rds fun r => c j * if r.2.1 = s ∧ r.2.2.1 = j then v r.1 * r.2.2.2 else 0) := S_congr fun j _ => by
      rw [LS_mul, Rat.mul_comm]
      rfl
    rw [this, S_LS]
    refine LS_congr fun r hr => ?_
    by_cases e : r.2.1 = s
    · rw [if_pos e]
      refine (S_one (h r hr).2 fun i _ hne => ?_).trans ?_
      · show c i * (if r.2.1 = s ∧ r.2.2.1 = i then v r.1 * r.2.2.2 else 0) = 0
        rw [if_neg fun z => hne z.2.symm, Rat.mul_zero]
      · show c r.2.2.1 * (if r.2.1 = s ∧ r.2.2.1 = r.2.2.1 then v r.1 * r.2.2.2 else 0) = _
        rw [if_pos ⟨e, rfl⟩, Rat.mul_comm]
    · rw [if_neg e]
      refine S_zero fun i _ => ?_
      show c i * (if r.2.1 = s ∧ r.2.2.1 = i then v r.1 * r.2.2.2 else 0) = 0
      rw [if_neg fun z => e z.1, Rat.mul_zero]
  have e2 : S N (fun i => v i * backV rds s c i) = LS rds fun r => if r.2.1 = s then v r.1 * r.2.2.2 * c r.2.2.1 else 0 := by
    have : S N (fun i => v i * backV rds s c i) = S N (fun i => LS rds fun r => v i * if r.2.1 = s ∧ r.1 = i then r.2.2.2 * c r.2.2.1 else 0) := S_congr fun i _ => by
      rw [LS_mul]
      rfl
    rw [this, S_LS]
    refine LS_congr fun r hr => ?_
    by_cases e : r.2.1 = s
    · rw [if_pos e]
      refine (S_one (h r hr).1 fun i _ hne => ?_).trans ?_
      · show v i * (if r.2.1 = s ∧ r.1 = i then r.2.2.2 * c r.2.2.1 else 0) = 0
        rw [if_neg fun z => hne z.2.symm, Rat.mul_zero]
      · show v r.1 * (if r.2.1 = s ∧ r.1 = r.1 then r.2.2.2 * c r.2.2.1 else 0) = _
        rw [if_pos ⟨e, rfl⟩, Rat.mul_assoc]
    · rw [if_neg e]
      refine S_zero fun i _ => ?_
      show v i * (if r.2.1 = s ∧ r.1 = i then r.2.2.2 * c r.2.2.1 else 0) = 0
      rw [if_neg fun z => e z.1, Rat.mul_zero]
  rw [e1, e2]
/-! ### what the lists tell -/
theorem getD_set {α : Type} (l : List α) (k j : Nat) (x d : α) (hk : k < l.length) : (l.set k x).getD j d = if k = j then x else l.getD j d := by
  rw [List.getD_eq_getElem?_getD, List.getD_eq_getElem?_getD]
  by_cases e : k = j
  · subst e
    rw [if_pos rfl, List.getElem?_set_self hk]
    rfl
  · rw [if_neg e, List.getElem?_set_ne e]
theorem bh_at (iv : List Int) (j : Nat) : ∀ (steps : List Step) (f : List Int), (∀ t ∈ steps, t.2.1 < f.length) → ii (steps.foldl (bhStep iv) f) j = ii f j + LS steps fun t => if t.2.1 = j then ii iv t.1 * (t.2.2 : Rat) else 0
  | [], f, _ => (Rat.add_zero _).symm
  | t :: steps, f, h => by
    rw [List.foldl_cons, bh_at iv j steps (bhStep iv f t) (by
      intro u hu
      unfold bhStep
      rw [List.length_set]
      exact h u (by simp [hu]))]
    show _ = ii f j + ((if t.2.1 = j then ii iv t.1 * (t.2.2 : Rat) else 0) + LS steps _)
    have e : ii (bhStep iv f t) j = ii f j + if t.2.1 = j then ii iv t.1 * (t.2.2 : Rat) else 0 := by
      unfold bhStep ii
      rw [getD_set _ _ _ _ _ (h t (by simp))]
      by_cases e : t.2.1 = j
      · subst e
        rw [if_pos rfl, if_pos rfl, Rat.intCast_add, Rat.intCast_mul]
      · rw [if_neg e, if_neg e, Rat.add_zero]
    rw [e, Rat.add_assoc]
theorem ii_zero (k j : Nat) : ii (List.replicate k 0) j = 0 := by
  have := getD_pad [] k j
  unfold ii
  rw [List.nil_append] at this
  rw [this]
  rfl
theorem bhF_at {steps : List Step} {iv : List Int} (h : ∀ t ∈ steps, t.2.1 < iv.length) (j : Nat) : ii (bhF steps iv) j = LS steps fun t => if t.2.1 = j then ii iv t.1 * (t.2.2 : Rat) else 0 := by
  unfold bhF
  rw [bh_at iv j steps _ (by rw [List.length_replicate]; exact h), ii_zero, Rat.zero_add]
/-- over one integer below -/
theorem over_at {q : Rat} {L : Nat} (h : q.den ∣ L) : ((q.num * (L : Int).fdiv (q.den : Int) : Int) : Rat) = (L : Rat) * q := by
  obtain ⟨k, hk⟩ := h
  have hd := q.den_nz
  have e : ((L : Nat) : Int).fdiv (q.den : Int) = (k : Int) := by
    rw [hk, Int.natCast_mul, Int.mul_comm, Int.mul_fdiv_cancel _ (by omega)]
  have h2 := rat_den q
  rw [e, hk, Rat.intCast_mul, Rat.natCast_mul, ← h2]
  have : ((k : Int) : Rat) = (k : Rat) := rfl
  rw [this]
  grind
theorem nums_at (l : List Int) {b : Int} (hb : b ≠ 0) (j : Nat) : (b : Rat) * (numsL l b).getD j 0 = ii l j := by
  unfold numsL ii
  rw [getD_map (fun i => Rat.divInt i b) l j 0 0 (by simp), Rat.divInt_eq_div, Rat.mul_comm, Rat.div_mul_cancel (cast_ne hb)]
theorem lcmS_pos (rds : List Road) (s : Nat) : 0 < lcmS rds s := lcmL_pos _
/-- the sum over the steps is one over the roads -/
theorem steps_LS (rds : List Road) (s : Nat) (f : Nat → Nat → Rat → Rat) (f0 : ∀ i j, f i j 0 = 0) : LS (stepsF rds s (lcmS rds s)) (fun t => f t.1 t.2.1 (t.2.2 : Rat)) = LS rds fun r => if r.2.1 = s then f r.1 r.2.2.1 ((lcmS rds s : Rat) * r.2.2.2) else 0 := by
  unfold stepsF
  rw [LS_map, LS_filter]
  refine LS_congr fun r hr => ?_
  by_cases e : r.2.1 = s
  · rw [if_pos e]
    by_cases z : r.2.2.2.num = 0
    · rw [num_zero z, if_neg (by simp), Rat.mul_zero, f0]
    · rw [if_pos (by simp [e, z])]
      have := over_at (lcmL_mem (rqs_mem hr e))
      show f r.1 r.2.2.1 ((r.2.2.2.num * ((lcmL (rqs rds s) : Nat) : Int).fdiv (r.2.2.2.den : Int) : Int) : Rat) = _
      rw [this]
      rfl
  · rw [if_neg e, if_neg (by simp [e])]
theorem stepsF_mem {rds : List Road} {s L : Nat} {t : Step} (h : t ∈ stepsF rds s L) : ∃ r ∈ rds, r.2.1 = s ∧ t = (r.1, r.2.2.1, r.2.2.2.num * (L : Int).fdiv r.2.2.2.den) := by
  unfold stepsF at h
  obtain ⟨r, hr, rfl⟩ := List.mem_map.mp h
  obtain ⟨h1, h2⟩ := List.mem_filter.mp hr
  refine ⟨r, h1, ?_, rfl⟩
  simp at h2
  exact h2.1
section
variable {m : Mach} {N : Nat}
/-- roads within N states -/
def Rds (rds : List Road) (N : Nat) : Prop := ∀ r ∈ rds, r.1 < N ∧ r.2.2.1 < N
theorem stepQ_len (m : Mach) (row : List Rat) (s : Nat) : (stepQ m row s).length = row.length := by
  unfold stepQ numsL
  rw [List.length_map, bhF_len, intsL_len]
theorem backQ_len (m : Mach) (row : List Rat) (s : Nat) : (backQ m row s).length = row.length := by
  unfold backQ numsL
  rw [List.length_map, bhF_len, intsL_len]
theorem stepQ_at (h : Rds m.roads N) {row : List Rat} (hl : row.length = N) (s j : Nat) : (stepQ m row s).getD j 0 = stepV m.roads s (fun i => row.getD i 0) j := by
  have hL : ((lcmL row : Int) * (stPair m s).2 : Int) ≠ 0 := by
    have h1 := lcmL_pos row
    have h2 := lcmS_pos m.roads s
    exact Int.mul_ne_zero (by omega) (show ((lcmS m.roads s : Nat) : Int) ≠ 0 by omega)
  have h1 := nums_at (bhF (stPair m s).1 (intsL row)) hL j
  rw [bhF_at (fun t ht => by
    obtain ⟨r, hr, _, rfl⟩ := stepsF_mem ht
    rw [intsL_len, hl]
    exact (h r hr).2)] at h1
  have h2 : LS (stPair m s).1 (fun t => if t.2.1 = j then ii (intsL row) t.1 * (t.2.2 : Rat) else 0) = ((lcmL row : Int) * (stPair m s).2 : Int) * stepV m.roads s (fun i => row.getD i 0) j := by
    refine (steps_LS m.roads s (fun i k q => if k = j then ii (intsL row) i * q else 0) fun i k => ?_).trans ?_
    · split
      · exact Rat.mul_zero _
      · rfl
    · unfold stepV
      rw [← LS_mul]
      refine LS_congr fun r hr => ?_
      by_cases e : r.2.1 = s
      · by_cases e2 : r.2.2.1 = j
        · rw [if_pos e, if_pos e2, if_pos ⟨e, e2⟩, ints_at, Rat.intCast_mul]
          show _ = ((lcmL row : Int) : Rat) * ((lcmS m.roads s : Int) : Rat) * (row.getD r.1 0 * r.2.2.2)
          have : ((lcmL row : Int) : Rat) = (lcmL row : Rat) := rfl
          rw [this]
          have : ((lcmS m.roads s : Int) : Rat) = (lcmS m.roads s : Rat) := rfl
          rw [this]
          grind
        · rw [if_pos e, if_neg e2, if_neg fun z => e2 z.2, Rat.mul_zero]
      · rw [if_neg e, if_neg fun z => e z.1, Rat.mul_zero]
  rw [h2] at h1
  have h3 := cast_ne hL
  generalize stepV m.roads s (fun i => row.getD i 0) j = u at *
  have e : (stepQ m row s).getD j 0 = (numsL (bhF (stPair m s).1 (intsL row)) ((lcmL row : Int) * (stPair m s).2)).getD j 0 := rfl
  rw [e]
  generalize (numsL (bhF (stPair m s).1 (intsL row)) ((lcmL row : Int) * (stPair m s).2)).getD j 0 = x at *
  grind
theorem backQ_at (h : Rds m.roads N) {col : List Rat} (hl : col.length = N) (s j : Nat) : (backQ m col s).getD j 0 = backV m.roads s (fun i => col.getD i 0) j := by
  have hL : ((lcmL col : Int) * (stPair m s).2 : Int) ≠ 0 := by
    have h1 := lcmL_pos col
    have h2 := lcmS_pos m.roads s
    exact Int.mul_ne_zero (by omega) (show ((lcmS m.roads s : Nat) : Int) ≠ 0 by omega)
  have h1 := nums_at (bhF (turnF (stPair m s).1) (intsL col)) hL j
  rw [bhF_at (fun t ht => by
    obtain ⟨t0, ht0, rfl⟩ := List.mem_map.mp ht
    obtain ⟨r, hr, _, rfl⟩ := stepsF_mem ht0
    rw [intsL_len, hl]
    exact (h r hr).1)] at h1
  have h2 : LS (turnF (stPair m s).1) (fun t => if t.2.1 = j then ii (intsL col) t.1 * (t.2.2 : Rat) else 0) = ((lcmL col : Int) * (stPair m s).2 : Int) * backV m.roads s (fun i => col.getD i 0) j := by
    unfold turnF
    rw [LS_map]
    refine (steps_LS m.roads s (fun i k q => if i = j then ii (intsL col) k * q else 0) fun i k => ?_).trans ?_
    · split
      · exact Rat.mul_zero _
      · rfl
    · unfold backV
      rw [← LS_mul]
      refine LS_congr fun r hr => ?_
      by_cases e : r.2.1 = s
      · by_cases e2 : r.1 = j
        · rw [if_pos e, if_pos e2, if_pos ⟨e, e2⟩, ints_at, Rat.intCast_mul]
          show _ = ((lcmL col : Int) : Rat) * ((lcmS m.roads s : Int) : Rat) * (r.2.2.2 * col.getD r.2.2.1 0)
          have : ((lcmL col : Int) : Rat) = (lcmL col : Rat) := rfl
          rw [this]
          have : ((lcmS m.roads s : Int) : Rat) = (lcmS m.roads s : Rat) := rfl
          rw [this]
          grind
        · rw [if_pos e, if_neg e2, if_neg fun z => e2 z.2, Rat.mul_zero]
      · rw [if_neg e, if_neg fun z => e z.1, Rat.mul_zero]
  rw [h2] at h1
  have h3 := cast_ne hL
  generalize backV m.roads s (fun i => col.getD i 0) j = u at *
  have e : (backQ m col s).getD j 0 = (numsL (bhF (turnF (stPair m s).1) (intsL col)) ((lcmL col : Int) * (stPair m s).2)).getD j 0 := rfl
  rw [e]
  generalize (numsL (bhF (turnF (stPair m s).1) (intsL col)) ((lcmL col : Int) * (stPair m s).2)).getD j 0 = x at *
  grind
/-! ### dot -/
theorem dotP_at : ∀ (l r : List Rat) (i : Nat), l.length = r.length → dotP ((l.zip r).take i) = S (min i l.length) (fun j => l.getD j 0 * r.getD j 0)
  | l, r, 0, h => by
    rw [Nat.zero_min]
    rfl
  | l, r, i + 1, h => by
    by_cases hi : i < l.length
    · have e : (l.zip r)[i]? = some (l.getD i 0, r.getD i 0) := by
        rw [getD_lt hi, getD_lt (h ▸ hi)]
        exact List.getElem?_zip_eq_some.mpr ⟨List.getElem?_eq_getElem hi, List.getElem?_eq_getElem (h ▸ hi)⟩
      rw [dotP_succ e, dotP_at l r i h, Nat.min_eq_left (by omega), Nat.min_eq_left (by omega)]
      rfl
    · have h1 := dotP_at l r i h
      rw [Nat.min_eq_right (by omega)] at h1 ⊢
      rw [List.take_of_length_le (by rw [List.length_zip]; omega)] at h1 ⊢
      exact h1
theorem dot_at {l r : List Rat} (h : l.length = r.length) : dotQ l r = S l.length (fun j => l.getD j 0 * r.getD j 0) := by
  have h1 := dotP_at l r l.length h
  rw [Nat.min_self, List.take_of_length_le (by rw [List.length_zip]; omega)] at h1
  exact h1
/-! ### messages -/
def rowL (m : Mach) (w : List Nat) : List Rat := w.foldl (stepQ m) m.bg
def colL (m : Mach) (w : List Nat) : List Rat := w.foldr (fun s c => backQ m c s) m.fin
theorem rowL_len (m : Mach) (w : List Nat) : (rowL m w).length = m.bg.length := by
  unfold rowL
  generalize m.bg = r
  induction w generalizing r with
  | nil => rfl
  | cons c w ih => rw [List.foldl_cons, ih, stepQ_len]
theorem colL_len (m : Mach) (w : List Nat) : (colL m w).length = m.fin.length := by
  induction w with
  | nil => rfl
  | cons c w ih => exact (backQ_len m _ c).trans ih
theorem rowL_snoc (m : Mach) (w : List Nat) (s : Nat) : rowL m (w ++ [s]) = stepQ m (rowL m w) s := by
  unfold rowL
  rw [List.foldl_append]
  rfl
theorem colL_cons (m : Mach) (w : List Nat) (s : Nat) : colL m (s :: w) = backQ m (colL m w) s := rfl
theorem step_dot (h : Rds m.roads N) {row col : List Rat} (hr : row.length = N) (hc : col.length = N) (s : Nat) : S N (fun j => (stepQ m row s).getD j 0 * col.getD j 0) = S N (fun j => row.getD j 0 * (backQ m col s).getD j 0) := by
  have := dual (s := s) h (fun i => row.getD i 0) (fun i => col.getD i 0)
  refine Eq.trans (S_congr fun j _ => ?_) (this.trans (S_congr fun j _ => ?_))
  · rw [stepQ_at h hr]
  · rw [backQ_at h hc]
end
end MB

/-! part MB8 -/
set_option exponentiation.threshold 256 -- MB8
set_option maxHeartbeats 200000 -- MB8
set_option maxRecDepth 100000 -- MB8
/-! MB8: the free columns. -/
namespace MB
open MA PD
/-- of the signs -/
abbrev Ov (m : Mach) (w : List Nat) : Prop := ∀ c ∈ w, c ∈ m.signs
theorem InS.sum {n : Nat} {R : List (List Rat)} {v : List Rat} (k : Nat) (c : Nat → Rat) (u : Nat → List Rat) (hu : ∀ l, l < k → InS n R (u l)) (h : ∀ j, j < n → v.getD j 0 = S k (fun l => c l * (u l).getD j 0)) : InS n R v := by
  have : ∀ l, ∃ d : Nat → Rat, l < k → ∀ j, j < n → (u l).getD j 0 = S R.length (fun i => d i * rr R i j) := fun l => by
    by_cases e : l < k
    · obtain ⟨d, hd⟩ := hu l e
      exact ⟨d, fun _ => hd⟩
    · exact ⟨fun _ => 0, fun z => absurd z e⟩
  obtain ⟨d, hd⟩ := Classical.axiomOfChoice this
  refine ⟨fun i => S k fun l => c l * d l i, fun j hj => ?_⟩
  rw [h j hj, S_congr (g := fun l => S R.length fun i => c l * d l i * rr R i j) fun l hl => by
    rw [hd l hl j hj, ← S_mul]
    exact S_congr fun i _ => (Rat.mul_assoc _ _ _).symm, S_comm]
  refine S_congr fun i _ => ?_
  show _ = (S k fun l => c l * d l i) * rr R i j
  rw [Rat.mul_comm, ← S_mul]
  exact S_congr fun l _ => Rat.mul_comm _ _
theorem backV_sum (rds : List Road) (s : Nat) (k : Nat) (c : Nat → Rat) (u : Nat → Nat → Rat) (i : Nat) : backV rds s (fun j => S k fun l => c l * u l j) i = S k (fun l => c l * backV rds s (u l) i) := by
  unfold backV
  have : ∀ l, c l * LS rds (fun r => if r.2.1 = s ∧ r.1 = i then r.2.2.2 * u l r.2.2.1 else 0) = LS rds (fun r => c l * if r.2.1 = s ∧ r.1 = i then r.2.2.2 * u l r.2.2.1 else 0) := fun l => (LS_mul _ _).symm
  rw [S_congr fun l _ => this l, S_LS]
  refine LS_congr fun r _ => ?_
  by_cases e : r.2.1 = s ∧ r.1 = i
  · rw [if_pos e, ← S_mul]
    exact S_congr fun l _ => by rw [if_pos e]; grind
  · rw [if_neg e]
    exact (S_zero fun l _ => by rw [if_neg e, Rat.mul_zero]).symm
theorem InS.back {m : Mach} {N : Nat} (h : Rds m.roads N) {R : List (List Rat)} (hR : ∀ r ∈ R, r.length = N) {v : List Rat} (hl : v.length = N) (hv : InS N R v) {s : Nat} (hb : ∀ r ∈ R, InS N R (backQ m r s)) : InS N R (backQ m v s) := by
  obtain ⟨c, hc⟩ := hv
  refine InS.sum R.length c (fun l => backQ m (R.getD l []) s) (fun l hl => hb _ (by rw [getD_lt hl]; exact List.getElem_mem hl)) fun j hj => ?_
  rw [backQ_at h hl]
  have e1 : backV m.roads s (fun i => v.getD i 0) j = backV m.roads s (fun i => S R.length fun l => c l * rr R l i) j := by
    unfold backV
    refine LS_congr fun r hr => ?_
    by_cases e : r.2.1 = s ∧ r.1 = j
    · rw [if_pos e, if_pos e]
      exact congrArg (r.2.2.2 * ·) (hc _ (h r hr).2)
    · rw [if_neg e, if_neg e]
  rw [e1, backV_sum]
  refine S_congr fun l hl => ?_
  rw [backQ_at h (hR _ (by rw [getD_lt hl]; exact List.getElem_mem hl))]
/-- what is asked of a machine -/
structure Ask (m : Mach) (N : Nat) : Prop where
  sg : GoodSg m.signs
  rd : Rds m.roads N
  fl : m.fin.length = N
  n6 : N ≤ 6
  fit : ∀ w, w.length ≤ N → Ov m w → Fit DN AN (colL m w)
  stp : ∀ w, w.length < N → Ov m w → ∀ s ∈ m.signs, StepOk m (colL m w) s ∧ ∀ x ∈ bhF (turnF (stPair m s).1) (intsL (colL m w)), Sm x
structure InR (m : Mach) (N i : Nat) (ro : List (List Rat)) (st : FcS) : Prop where
  b : BInv N st.1 st.2.1
  ge : i ≤ st.2.1.length
  fw : ∀ c ∈ st.2.1, ∃ w, w.length < N ∧ Ov m w ∧ c = colL m w
  ow : ∀ c ∈ st.2.2, ∃ w, w.length = i + 1 ∧ Ov m w ∧ c = colL m w
  og : st.2.2 ≠ [] → i + 1 ≤ st.2.1.length
  ol : st.2.2.length ≤ st.2.1.length * m.signs.length
  cl : ∀ c ∈ st.2.1, ∀ s ∈ m.signs, backQ m c s ∈ ro ∨ backQ m c s ∈ st.2.2 ∨ InS N st.2.1 (backQ m c s)
  ini : m.fin ∈ ro ∨ InS N st.2.1 m.fin
variable {m : Mach} {N : Nat}
theorem InR.step (A : Ask m N) {i : Nat} {ro : List (List Rat)} {c : List Rat} {st : FcS} (h : InR m N i (c :: ro) st) (hw : ∃ w, w.length = i ∧ Ov m w ∧ c = colL m w) :
    InR m N i ro (fcStep m st c) ∧ LeftOk st.1 c ∧ (putB st.1 c = true → ∀ s ∈ m.signs, StepOk m c s ∧ ∀ x ∈ bhF (turnF (stPair m s).1) (intsL c), Sm x) := by
  obtain ⟨w, hwl, hwo, hc⟩ := hw
  have hle := h.b.k.le
  have hge := h.ge
  have hcl : c.length = N := by rw [hc, colL_len, A.fl]
  have hf : Fit DN AN c := by rw [hc]; exact A.fit w (by omega) hwo
  have hleft := h.b.left A.n6 hcl hf
  unfold fcStep
  by_cases hp : putB st.1 c = true
  · rw [if_pos hp]
    have hb := h.b.put A.n6 hcl hf hp
    have hle2 := hb.k.le
    have hln : (st.2.1 ++ [c]).length = st.2.1.length + 1 := by simp
    have hwN : w.length < N := by omega
    refine ⟨⟨hb, ?_, fun d hd => ?_, fun d hd => ?_, fun _ => ?_, ?_, fun d hd s hs => ?_, ?_⟩, hleft, fun _ s hs => by rw [hc]; exact A.stp w hwN hwo s hs⟩
    · show i ≤ (st.2.1 ++ [c]).length
      omega
    · rcases List.mem_append.mp hd with hd | hd
      · exact h.fw d hd
      · have : d = c := by simpa using hd
        rw [this]
        exact ⟨w, hwN, hwo, hc⟩
    · rcases List.mem_append.mp hd with hd | hd
      · exact h.ow d hd
      · obtain ⟨s, hs, rfl⟩ := List.mem_map.mp hd
        refine ⟨s :: w, by rw [List.length_cons, hwl], fun x hx => ?_, by rw [colL_cons, ← hc]⟩
        rcases List.mem_cons.mp hx with rfl | hx
        · exact hs
        · exact hwo x hx
    · show i + 1 ≤ (st.2.1 ++ [c]).length
      omega
    · have := h.ol
      show (st.2.2 ++ m.signs.map (backQ m c)).length ≤ (st.2.1 ++ [c]).length * m.signs.length
      rw [hln, List.length_append, List.length_map, Nat.add_mul, Nat.one_mul]
      omega
    · show backQ m d s ∈ ro ∨ backQ m d s ∈ st.2.2 ++ m.signs.map (backQ m c) ∨ InS N (st.2.1 ++ [c]) (backQ m d s)
      rcases List.mem_append.mp hd with hd | hd
      · rcases h.cl d hd s hs with z | z | z
        · rcases List.mem_cons.mp z with z | z
          · exact .inr (.inr (by rw [z]; exact InS.mem (by simp)))
          · exact .inl z
        · exact .inr (.inl (List.mem_append_left _ z))
        · exact .inr (.inr (z.more _))
      · have : d = c := by simpa using hd
        rw [this]
        exact .inr (.inl (List.mem_append_right _ (List.mem_map.mpr ⟨s, hs, rfl⟩)))
    · show m.fin ∈ ro ∨ InS N (st.2.1 ++ [c]) m.fin
      rcases h.ini with z | z
      · rcases List.mem_cons.mp z with z | z
        · exact .inr (by rw [z]; exact InS.mem (by simp))
        · exact .inl z
      · exact .inr (z.more _)
  · rw [if_neg hp]
    obtain ⟨hk, hin⟩ := h.b.skip hcl (by simpa using hp)
    rw [hk]
    refine ⟨⟨h.b, h.ge, h.fw, h.ow, h.og, h.ol, fun d hd s hs => ?_, ?_⟩, hleft, fun z => absurd z hp⟩
    · rcases h.cl d hd s hs with z | z | z
      · rcases List.mem_cons.mp z with z | z
        · exact .inr (.inr (by rw [z]; exact hin))
        · exact .inl z
      · exact .inr (.inl z)
      · exact .inr (.inr z)
    · rcases h.ini with z | z
      · rcases List.mem_cons.mp z with z | z
        · exact .inr (by rw [z]; exact hin)
        · exact .inl z
      · exact .inr z
/-- at the beginning of a round -/
structure RInv (m : Mach) (N i : Nat) (st : FcS) : Prop where
  b : BInv N st.1 st.2.1
  ge : st.2.2 ≠ [] → i ≤ st.2.1.length
  fw : ∀ c ∈ st.2.1, ∃ w, w.length < N ∧ Ov m w ∧ c = colL m w
  rw_ : ∀ c ∈ st.2.2, ∃ w, w.length = i ∧ Ov m w ∧ c = colL m w
  cl : ∀ c ∈ st.2.1, ∀ s ∈ m.signs, backQ m c s ∈ st.2.2 ∨ InS N st.2.1 (backQ m c s)
  ini : m.fin ∈ st.2.2 ∨ InS N st.2.1 m.fin
theorem inr_all (A : Ask m N) {i : Nat} {st : FcS} (h : RInv m N i st) (hne : st.2.2 ≠ []) : ∀ j, j ≤ st.2.2.length → InR m N i (st.2.2.drop j) (fcIn m st j)
  | 0, _ => ⟨h.b, h.ge hne, h.fw, fun c hc => (by cases hc), fun z => absurd rfl z, Nat.zero_le _, fun c hc s hs => (h.cl c hc s hs).imp id .inr, h.ini⟩
  | j + 1, hj => by
    have hc : st.2.2[j]? = some st.2.2[j] := List.getElem?_eq_getElem hj
    have ih := inr_all A h hne j (by omega)
    rw [List.drop_eq_getElem_cons hj] at ih
    rw [fcIn_succ hc]
    exact (InR.step A ih (h.rw_ _ (List.getElem_mem hj))).1
theorem rinv (A : Ask m N) : ∀ i, RInv m N i (fcR m i)
  | 0 => ⟨BInv.nil, fun _ => Nat.zero_le _, fun c hc => (by cases hc), fun c hc => ⟨[], rfl, fun _ h => (by cases h), by
      have : c = m.fin := by simpa [fcR] using hc
      rw [this]
      rfl⟩, fun c hc => (by cases hc), .inl (by simp [fcR])⟩
  | i + 1 => by
    have ih := rinv A i
    by_cases hne : (fcR m i).2.2 = []
    · have e : fcR m (i + 1) = ((fcR m i).1, (fcR m i).2.1, []) := by
        show fcIn m (fcR m i) (fcR m i).2.2.length = _
        rw [hne]
        rfl
      rw [e]
      refine ⟨ih.b, fun z => absurd rfl z, ih.fw, fun c hc => (by cases hc), fun c hc s hs => .inr ?_, .inr ?_⟩
      · rcases ih.cl c hc s hs with z | z
        · rw [hne] at z; cases z
        · exact z
      · rcases ih.ini with z | z
        · rw [hne] at z; cases z
        · exact z
    · have h1 := inr_all A ih hne _ (Nat.le_refl _)
      rw [List.drop_length] at h1
      refine ⟨h1.b, h1.og, h1.fw, h1.ow, fun c hc s hs => ?_, ?_⟩
      · rcases h1.cl c hc s hs with z | z | z
        · cases z
        · exact .inl z
        · exact .inr z
      · rcases h1.ini with z | z
        · cases z
        · exact .inr z
theorem least {P : Nat → Prop} : ∀ n, P n → ∃ k, k ≤ n ∧ P k ∧ ∀ i, i < k → ¬ P i
  | 0, h => ⟨0, Nat.le_refl _, h, fun i hi => by omega⟩
  | n + 1, h => by
    by_cases e : ∃ i, i ≤ n ∧ P i
    · obtain ⟨i, hi, hp⟩ := e
      obtain ⟨k, h1, h2, h3⟩ := least i hp
      exact ⟨k, by omega, h2, h3⟩
    · exact ⟨n + 1, Nat.le_refl _, h, fun i hi hp => e ⟨i, by omega, hp⟩⟩
/-- free columns: all goes well, and what they are -/
structure Cols (m : Mach) (N : Nat) (R : List (List Rat)) : Prop where
  b : ∃ kept, BInv N kept R
  fw : ∀ c ∈ R, ∃ w, w.length < N ∧ Ov m w ∧ c = colL m w
  all : ∀ w, Ov m w → InS N R (colL m w)
theorem free_columns (A : Ask m N) : ∃ k, FcOk m k ∧ Cols m N (fcF m k) := by
  have hend : (fcR m (N + 1)).2.2 = [] := Classical.byContradiction fun z => by
    have h := rinv A (N + 1)
    have h1 := h.ge z
    have h2 := h.b.k.le
    omega
  obtain ⟨k, _, hk, hmin⟩ := least (P := fun i => (fcR m i).2.2 = []) (N + 1) hend
  have hsg := A.sg.len
  refine ⟨k, ⟨hk, hmin, fun i j c hi hj => ?_, fun i j hi => ?_⟩, ?_⟩
  · have h1 := inr_all A (rinv A i) (hmin i hi) j (Nat.le_of_lt (List.getElem?_eq_some_iff.mp hj).1)
    obtain ⟨hjl, hje⟩ := List.getElem?_eq_some_iff.mp hj
    rw [List.drop_eq_getElem_cons hjl, hje] at h1
    exact (InR.step A h1 ((rinv A i).rw_ c (List.mem_of_getElem? hj))).2
  · have key : ∀ j, j ≤ (fcR m i).2.2.length → (fcIn m (fcR m i) j).2.1.length < 1000 ∧ (fcIn m (fcR m i) j).2.2.length + m.signs.length < 100000 := fun j hj => by
      have h1 := inr_all A (rinv A i) (hmin i hi) j hj
      have h2 := h1.b.k.le
      have h3 := h1.ol
      have h4 := A.n6
      have h5 : (fcIn m (fcR m i) j).2.1.length * m.signs.length ≤ 6 * 26 := Nat.mul_le_mul (by omega) hsg
      omega
    by_cases hj : j ≤ (fcR m i).2.2.length
    · exact key j hj
    · have e : fcIn m (fcR m i) j = fcIn m (fcR m i) (fcR m i).2.2.length := by
        unfold fcIn
        rw [List.take_of_length_le (by omega), List.take_length]
      rw [e]
      exact key _ (Nat.le_refl _)
  · have h := rinv A k
    refine ⟨⟨_, h.b⟩, h.fw, fun w hw => ?_⟩
    have hb : ∀ r ∈ fcF m k, ∀ s ∈ m.signs, InS N (fcF m k) (backQ m r s) := fun r hr s hs => by
      rcases h.cl r hr s hs with z | z
      · rw [hk] at z; cases z
      · exact z
    induction w with
    | nil =>
      rcases h.ini with z | z
      · rw [hk] at z; cases z
      · exact z
    | cons s w ih =>
      rw [colL_cons]
      exact (ih fun c hc => hw c (by simp [hc])).back A.rd (fun r hr => h.b.k.rl r hr) (by rw [colL_len, A.fl]) fun r hr => hb r hr s (hw s (by simp))
end MB

/-! part MB9 -/
set_option exponentiation.threshold 256 -- MB9
set_option maxHeartbeats 200000 -- MB9
set_option maxRecDepth 100000 -- MB9
/-! MB9: the order of messages; how a form grows. -/
namespace MB
open MA PD
/-- ahead, in the order of messages -/
def KL (g h : List Nat) : Prop := TL.keyLt ((g.length : Int), g) ((h.length : Int), h) = true
theorem kl_iff {g h : List Nat} : KL g h ↔ g.length < h.length ∨ g.length = h.length ∧ g < h := by
  unfold KL TL.keyLt
  dsimp only
  by_cases e : (g.length : Int) = (h.length : Int)
  · rw [if_pos e, decide_eq_true_iff]
    constructor
    · intro z
      exact .inr ⟨by omega, z⟩
    · rintro (z | z)
      · omega
      · exact z.2
  · rw [if_neg e, decide_eq_true_iff]
    constructor
    · intro z
      exact .inl (by omega)
    · rintro (z | z)
      · omega
      · omega
theorem kl_irrefl (g : List Nat) : ¬ KL g g := fun h => by
  rcases kl_iff.mp h with z | z
  · omega
  · exact absurd z.2 (List.lt_irrefl g)
theorem kl_ne {g h : List Nat} (z : KL g h) : g ≠ h := fun e => by
  subst e
  exact kl_irrefl g z
theorem kl_trans {a b c : List Nat} (h1 : KL a b) (h2 : KL b c) : KL a c := by
  rw [kl_iff] at *
  rcases h1 with h1 | ⟨h1, h3⟩
  · left; rcases h2 with h2 | h2 <;> omega
  · rcases h2 with h2 | ⟨h2, h4⟩
    · left; omega
    · exact .inr ⟨by omega, List.lt_trans h3 h4⟩
theorem lt_app : ∀ {g h : List Nat}, g.length = h.length → g < h → ∀ x y : List Nat, g ++ x < h ++ y
  | [], [], _, hl, _, _ => absurd hl (List.lt_irrefl [])
  | a :: g, b :: h, e, hl, x, y => by
    rw [List.cons_append, List.cons_append, List.cons_lt_cons_iff]
    rcases List.cons_lt_cons_iff.mp hl with z | ⟨z1, z2⟩
    · exact .inl z
    · exact .inr ⟨z1, lt_app (by simpa using e) z2 x y⟩
theorem lt_app2 : ∀ (g : List Nat) {a b : Nat}, a < b → g ++ [a] < g ++ [b]
  | [], a, b, h => List.cons_lt_cons_iff.mpr (.inl h)
  | c :: g, a, b, h => List.cons_lt_cons_iff.mpr (.inr ⟨rfl, lt_app2 g h⟩)
theorem kl_snoc {g h : List Nat} (z : KL g h) (a b : Nat) : KL (g ++ [a]) (h ++ [b]) := by
  rw [kl_iff] at *
  rw [List.length_append, List.length_append]
  rcases z with z | ⟨z1, z2⟩
  · exact .inl (by simpa using z)
  · exact .inr ⟨by simp [z1], lt_app z1 z2 _ _⟩
theorem kl_snoc2 (g : List Nat) {a b : Nat} (z : a < b) : KL (g ++ [a]) (g ++ [b]) := kl_iff.mpr (.inr ⟨by simp, lt_app2 g z⟩)
theorem kl_nil (g : List Nat) (a : Nat) : KL [] (g ++ [a]) := kl_iff.mpr (.inl (by simp))
/-- an entry of the table: the row for h ++ [s] -/
structure En (m : Mach) (cols : List (List Rat)) (hd : List (List Nat)) (h : List Nat) (s : Nat) (t : List Rat) : Prop where
  len : t.length ≤ hd.length
  rel : ∀ c, c < cols.length → (phi cols (rowL m (h ++ [s]))).getD c 0 = S hd.length (fun l => t.getD l 0 * (phi cols (rowL m (hd.getD l []))).getD c 0)
  tb : ToldB t
  ok : (h ++ [s] ∈ hd ∧ ∀ l, l < hd.length → t.getD l 0 = if hd.getD l [] = h ++ [s] then 1 else 0) ∨ (h ++ [s] ∉ hd ∧ ∀ l, l < hd.length → t.getD l 0 = 0 ∨ KL (hd.getD l []) (h ++ [s]))
theorem En.more {m : Mach} {cols : List (List Rat)} {hd : List (List Nat)} {h : List Nat} {s : Nat} {t : List Rat} (e : En m cols hd h s t) {g : List Nat} (hg : KL (h ++ [s]) g) : En m cols (hd ++ [g]) h s t := by
  have h0 : t.getD hd.length 0 = 0 := getD_ge e.len
  have hl : (hd ++ [g]).length = hd.length + 1 := by simp
  have hgl : (hd ++ [g]).getD hd.length [] = g := by
    rw [List.getD_eq_getElem?_getD]
    simp
  refine ⟨by rw [hl]; exact Nat.le_succ_of_le e.len, fun c hc => ?_, e.tb, ?_⟩
  · rw [e.rel c hc, hl]
    show _ = S hd.length _ + t.getD hd.length 0 * _
    rw [h0, Rat.zero_mul, Rat.add_zero]
    exact S_congr fun l hl => by rw [getD_app hl]
  · rcases e.ok with ⟨h1, h2⟩ | ⟨h1, h2⟩
    · refine .inl ⟨List.mem_append_left _ h1, fun l hll => ?_⟩
      by_cases el : l < hd.length
      · rw [getD_app el]
        exact h2 l el
      · have : l = hd.length := by omega
        subst this
        rw [hgl, h0, if_neg (Ne.symm (kl_ne hg))]
    · refine .inr ⟨fun z => ?_, fun l hll => ?_⟩
      · rcases List.mem_append.mp z with z | z
        · exact h1 z
        · exact kl_ne hg (by simpa using z)
      · by_cases el : l < hd.length
        · rw [getD_app el]
          exact h2 l el
        · have : l = hd.length := by omega
          subst this
          exact .inl h0
/-- what is asked of the rows -/
structure AskR (m : Mach) (N : Nat) : Prop where
  sg : GoodSg m.signs
  rd : Rds m.roads N
  bl : m.bg.length = N
  fl : m.fin.length = N
  n6 : N ≤ 6
  fit : ∀ w v, w.length ≤ N → v.length < N → Ov m w → Ov m v → Fit1 DN AN (dotQ (rowL m w) (colL m v)) ∧ DotOk (rowL m w) (colL m v)
  stp : ∀ w, w.length < N → Ov m w → ∀ s ∈ m.signs, StepOk m (rowL m w) s ∧ ∀ x ∈ bhF (stPair m s).1 (intsL (rowL m w)), Sm x
section
variable {m : Mach} {N : Nat} {cols : List (List Rat)}
theorem phi_len (row : List Rat) : (phi cols row).length = cols.length := by unfold phi; rw [List.length_map]
theorem phi_at {row : List Rat} {c : Nat} (h : c < cols.length) : (phi cols row).getD c 0 = dotQ row (cols.getD c []) := by
  unfold phi
  rw [getD_lt (by rw [List.length_map]; exact h), List.getElem_map, getD_lt h]
theorem Cols.le (C : Cols m N cols) : cols.length ≤ N := by
  obtain ⟨kept, b⟩ := C.b
  exact b.k.le
theorem phi_fit (A : AskR m N) (C : Cols m N cols) {w : List Nat} (hw : w.length ≤ N) (ho : Ov m w) : Fit DN AN (phi cols (rowL m w)) := by
  intro q hq
  obtain ⟨c, hc, rfl⟩ := List.mem_map.mp hq
  obtain ⟨v, h1, h2, rfl⟩ := C.fw c hc
  exact (A.fit w v hw h1 ho h2).1
theorem phi_dot (A : AskR m N) (C : Cols m N cols) {w : List Nat} (hw : w.length ≤ N) (ho : Ov m w) : ∀ c ∈ cols, DotOk (rowL m w) c := by
  intro c hc
  obtain ⟨v, h1, h2, rfl⟩ := C.fw c hc
  exact (A.fit w v hw h1 ho h2).2
/-- within the walk -/
structure FI (m : Mach) (N : Nat) (cols : List (List Rat)) (i j : Nat) (tbl : List (List (List Rat))) (st : FmT) : Prop where
  b : BInv cols.length st.1 (st.2.1.map fun h => phi cols (rowL m h))
  rw_ : st.2.2.1 = st.2.1.map (rowL m)
  dep : ∀ (l : Nat) (h : List Nat), st.2.1[l]? = some h → h.length ≤ l
  ov : ∀ h ∈ st.2.1, Ov m h
  srt : st.2.1.Pairwise KL
  pre : ∀ (l : Nat) (h : List Nat), st.2.1[l]? = some h → h ≠ [] → h.dropLast ∈ st.2.1.take l
  gen : ∀ h ∈ st.2.1, h = [] ∨ ∃ i' j' h' s, st.2.1[i']? = some h' ∧ m.signs[j']? = some s ∧ (i' < i ∨ i' = i ∧ j' < j) ∧ h = h' ++ [s]
  tl : tbl.length = i
  tn : ∀ ns ∈ tbl, ns.length = m.signs.length
  nl : st.2.2.2.length = j
  ent : ∀ (i' j' : Nat) (h' : List Nat) (s : Nat) (ns : List (List Rat)) (t : List Rat), tbl[i']? = some ns → ns[j']? = some t → st.2.1[i']? = some h' → m.signs[j']? = some s → En m cols st.2.1 h' s t
  enn : ∀ (j' : Nat) (h' : List Nat) (s : Nat) (t : List Rat), st.2.2.2[j']? = some t → st.2.1[i]? = some h' → m.signs[j']? = some s → En m cols st.2.1 h' s t
  z : st.2.1 = [] → ∀ c, c < cols.length → (phi cols m.bg).getD c 0 = 0
  hd0 : ∀ (h : List Nat), st.2.1[0]? = some h → h = []
theorem FI.le {i j : Nat} {tbl : List (List (List Rat))} {st : FmT} (h : FI m N cols i j tbl st) : st.2.1.length ≤ cols.length := by
  have := h.b.k.le
  rw [List.length_map] at this
  exact this
theorem pw_get {α : Type} {P : α → α → Prop} {l : List α} (h : l.Pairwise P) {i j : Nat} {x y : α} (hij : i < j) (hi : l[i]? = some x) (hj : l[j]? = some y) : P x y := by
  obtain ⟨h1, rfl⟩ := List.getElem?_eq_some_iff.mp hi
  obtain ⟨h2, rfl⟩ := List.getElem?_eq_some_iff.mp hj
  exact List.pairwise_iff_getElem.mp h i j h1 h2 hij
/-- the pair ahead tells the message ahead -/
theorem FI.lex (A : AskR m N) {i j : Nat} {tbl : List (List (List Rat))} {st : FmT} (h : FI m N cols i j tbl st) {i1 j1 i2 j2 : Nat} {g1 g2 : List Nat} {s1 s2 : Nat} (a1 : st.2.1[i1]? = some g1) (a2 : st.2.1[i2]? = some g2) (b1 : m.signs[j1]? = some s1) (b2 : m.signs[j2]? = some s2) (hl : i1 < i2 ∨ i1 = i2 ∧ j1 < j2) : KL (g1 ++ [s1]) (g2 ++ [s2]) := by
  rcases hl with hl | ⟨rfl, hl⟩
  · exact kl_snoc (pw_get h.srt hl a1 a2) _ _
  · rw [a1] at a2
    cases a2
    exact kl_snoc2 _ (pw_get A.sg.up hl b1 b2)
theorem told_one (k : Nat) : ToldB (List.replicate k 0 ++ [1]) := ⟨1, by decide, by decide +kernel, fun q hq => by
  rcases List.mem_append.mp hq with hq | hq
  · exact ⟨0, by rw [(List.mem_replicate.mp hq).2]; simp, Nat.zero_le _⟩
  · have : q = 1 := by simpa using hq
    exact ⟨1, by rw [this]; rfl, by decide +kernel⟩⟩
theorem FI.step (A : AskR m N) (C : Cols m N cols) {i j : Nat} {tbl : List (List (List Rat))} {st : FmT} (h : FI m N cols i j tbl st) (hi : i < st.2.1.length) {s : Nat} (hs : m.signs[j]? = some s) :
    FI m N cols i (j + 1) tbl (fmSign m cols i st s) ∧ FmSg m cols i st s ∧ st.2.1.length ≤ (fmSign m cols i st s).2.1.length := by
  have hC := C.le
  have hle := h.le
  have hn6 := A.n6
  obtain ⟨p, hp⟩ : ∃ p, st.2.1[i]? = some p := ⟨_, List.getElem?_eq_getElem hi⟩
  have hpm := List.mem_of_getElem? hp
  have hpd := h.dep i p hp
  have hsm := List.mem_of_getElem? hs
  have hpo := h.ov p hpm
  have hps : Ov m (p ++ [s]) := fun c hc => by
    rcases List.mem_append.mp hc with hc | hc
    · exact hpo c hc
    · have : c = s := by simpa using hc
      rw [this]
      exact hsm
  have hpl : (p ++ [s]).length ≤ N := by
    rw [List.length_append]
    show p.length + 1 ≤ N
    omega
  have e1 : st.2.1.getD i [] = p := by rw [List.getD_eq_getElem?_getD, hp]; rfl
  have e2 : st.2.2.1.getD i [] = rowL m p := by
    rw [h.rw_, List.getD_eq_getElem?_getD, List.getElem?_map, hp]
    rfl
  have e3 : stepQ m (rowL m p) s = rowL m (p ++ [s]) := (rowL_snoc m p s).symm
  have hfit := phi_fit A C hpl hps
  have hphl : (phi cols (rowL m (p ++ [s]))).length = cols.length := phi_len _
  have hleft := h.b.left (by omega) hphl hfit
  have hall : ∀ g ∈ st.2.1, KL g (p ++ [s]) := fun g hg => by
    rcases h.gen g hg with rfl | ⟨i', j', h', s', a1, a2, a3, rfl⟩
    · exact kl_nil _ _
    · exact h.lex A a1 hp a2 hs a3
  have hnot : p ++ [s] ∉ st.2.1 := fun z => kl_irrefl _ (hall _ z)
  have hsl : st.2.2.2.length < 1000 := by
    have h1 := h.nl
    have h2 := (List.getElem?_eq_some_iff.mp hs).1
    have h3 := A.sg.len
    omega
  refine ⟨?_, ⟨⟨hi, by rw [h.rw_, List.length_map]; exact hi⟩, by rw [e2]; exact A.stp p (by omega) hpo s hsm, by rw [e2, e3]; exact phi_dot A C hpl hps, by rw [e2, e3]; exact hleft, by omega, by rw [h.rw_, List.length_map]; omega, hsl, by rw [e1]; omega⟩, ?_⟩
  · unfold fmSign
    rw [e2, e3, e1]
    cases ht : toldF st.1 (phi cols (rowL m (p ++ [s]))) with
    | some t =>
      obtain ⟨t1, t2, t3⟩ := h.b.told (by omega) hphl hfit ht
      rw [List.length_map] at t1
      refine ⟨h.b, h.rw_, h.dep, h.ov, h.srt, h.pre, fun g hg => ?_, h.tl, h.tn, by show (st.2.2.2 ++ [t]).length = j + 1; rw [List.length_append, h.nl]; rfl, h.ent, fun j' h' s' t' a1 a2 a3 => ?_, h.z, h.hd0⟩
      · rcases h.gen g hg with z | ⟨i', j', h', s', a1, a2, a3, a4⟩
        · exact .inl z
        · exact .inr ⟨i', j', h', s', a1, a2, by omega, a4⟩
      · by_cases ej : j' < st.2.2.2.length
        · exact h.enn j' h' s' t' (by rw [← List.getElem?_append_left (l₂ := [t]) ej]; exact a1) a2 a3
        · have a1' : (st.2.2.2 ++ [t])[j']? = some t' := a1
          have hlt := (List.getElem?_eq_some_iff.mp a1').1
          have : j' = st.2.2.2.length := by
            rw [List.length_append] at hlt
            have : j' < st.2.2.2.length + 1 := hlt
            omega
          subst this
          have : t = t' := by simpa using a1'
          subst this
          have a2' : st.2.1[i]? = some h' := a2
          rw [hp] at a2'
          cases a2'
          rw [h.nl] at a3
          rw [hs] at a3
          cases a3
          refine ⟨Nat.le_of_eq t1, fun c hc => ?_, t3, .inr ⟨hnot, fun l hl => .inr (hall _ (by
            show st.2.1.getD l [] ∈ st.2.1
            rw [getD_lt hl]; exact List.getElem_mem hl))⟩⟩
          have := t2 c hc
          rw [List.length_map] at this
          rw [this]
          refine S_congr fun l hl => ?_
          have e : (st.2.1.map fun h => phi cols (rowL m h)).getD l [] = phi cols (rowL m (st.2.1.getD l [])) := by
            rw [getD_lt (l := st.2.1.map fun h => phi cols (rowL m h)) (by rw [List.length_map]; exact hl), List.getElem_map, getD_lt hl]
          unfold rr
          rw [e]
    | none =>
      have hput := told_none ht
      have hb := h.b.put (by omega) hphl hfit hput
      have hlast : (st.2.1 ++ [p ++ [s]])[st.2.1.length]? = some (p ++ [s]) := by simp
      have old : ∀ {l : Nat} {g : List Nat}, (st.2.1 ++ [p ++ [s]])[l]? = some g → (l < st.2.1.length ∧ st.2.1[l]? = some g) ∨ l = st.2.1.length ∧ g = p ++ [s] := fun {l g} hg => by
        by_cases el : l < st.2.1.length
        · rw [List.getElem?_append_left el] at hg
          exact .inl ⟨el, hg⟩
        · have hlt := (List.getElem?_eq_some_iff.mp hg).1
          have e : l = st.2.1.length := by
            rw [List.length_append] at hlt
            have : l < st.2.1.length + 1 := hlt
            omega
          subst e
          rw [hlast] at hg
          cases hg
          exact .inr ⟨rfl, rfl⟩
      have up : ∀ {l : Nat} {g : List Nat}, st.2.1[l]? = some g → (st.2.1 ++ [p ++ [s]])[l]? = some g := fun {l g} hg => by
        rw [List.getElem?_append_left (List.getElem?_eq_some_iff.mp hg).1]
        exact hg
      refine ⟨?_, ?_, fun l g hg => ?_, fun g hg => ?_, ?_, fun l g hg hne => ?_, fun g hg => ?_, h.tl, h.tn, by show (st.2.2.2 ++ [_]).length = j + 1; rw [List.length_append, h.nl]; rfl, fun i' j' h' s' ns t' a0 a1 a2 a3 => ?_, fun j' h' s' t' a1 a2 a3 => ?_, fun z => absurd z (by show st.2.1 ++ [p ++ [s]] ≠ []; simp), fun g hg => ?_⟩
      · show BInv cols.length (putK st.1 (phi cols (rowL m (p ++ [s])))) ((st.2.1 ++ [p ++ [s]]).map fun h => phi cols (rowL m h))
        rw [List.map_append]
        exact hb
      · show st.2.2.1 ++ [rowL m (p ++ [s])] = (st.2.1 ++ [p ++ [s]]).map (rowL m)
        rw [List.map_append, h.rw_]
        rfl
      · rcases old hg with ⟨_, z⟩ | ⟨rfl, rfl⟩
        · exact h.dep l g z
        · rw [List.length_append]
          show p.length + 1 ≤ _
          omega
      · have hg' : g ∈ st.2.1 ++ [p ++ [s]] := hg
        rcases List.mem_append.mp hg' with z | z
        · exact h.ov g z
        · have : g = p ++ [s] := by simpa using z
          rw [this]
          exact hps
      · show (st.2.1 ++ [p ++ [s]]).Pairwise KL
        refine List.pairwise_append.mpr ⟨h.srt, List.pairwise_singleton _ _, fun g hg g2 hg2 => ?_⟩
        have : g2 = p ++ [s] := by simpa using hg2
        rw [this]
        exact hall g hg
      · rcases old hg with ⟨el, z⟩ | ⟨rfl, rfl⟩
        · have := h.pre l g z hne
          show g.dropLast ∈ (st.2.1 ++ [p ++ [s]]).take l
          rw [List.take_append_of_le_length (by omega)]
          exact this
        · show (p ++ [s]).dropLast ∈ (st.2.1 ++ [p ++ [s]]).take st.2.1.length
          rw [List.dropLast_concat, List.take_left]
          exact hpm
      · have hg' : g ∈ st.2.1 ++ [p ++ [s]] := hg
        rcases List.mem_append.mp hg' with z | z
        · rcases h.gen g z with z | ⟨i', j', h', s', a1, a2, a3, a4⟩
          · exact .inl z
          · exact .inr ⟨i', j', h', s', up a1, a2, by omega, a4⟩
        · exact .inr ⟨i, j, p, s, up hp, hs, by omega, by simpa using z⟩
      · rcases old a2 with ⟨el, z⟩ | ⟨e, _⟩
        · have hi' : i' < i := by
            have := (List.getElem?_eq_some_iff.mp a0).1
            rw [h.tl] at this
            exact this
          exact (h.ent i' j' h' s' ns t' a0 a1 z a3).more (h.lex A z hp a3 hs (.inl hi'))
        · have := (List.getElem?_eq_some_iff.mp a0).1
          rw [h.tl] at this
          omega
      · have a2' : st.2.1[i]? = some h' := by
          rcases old a2 with ⟨_, z⟩ | ⟨e, _⟩
          · exact z
          · omega
        have a1' : (st.2.2.2 ++ [List.replicate st.2.1.length 0 ++ [1]])[j']? = some t' := a1
        by_cases ej : j' < st.2.2.2.length
        · rw [List.getElem?_append_left ej] at a1'
          exact (h.enn j' h' s' t' a1' a2' a3).more (h.lex A a2' hp a3 hs (.inr ⟨rfl, by rw [h.nl] at ej; exact ej⟩))
        · have hlt := (List.getElem?_eq_some_iff.mp a1').1
          have : j' = st.2.2.2.length := by
            rw [List.length_append] at hlt
            have : j' < st.2.2.2.length + 1 := hlt
            omega
          subst this
          have : List.replicate st.2.1.length (0 : Rat) ++ [1] = t' := by simpa using a1'
          subst this
          rw [hp] at a2'
          cases a2'
          rw [h.nl] at a3
          rw [hs] at a3
          cases a3
          have hun : ∀ l, l < (st.2.1 ++ [p ++ [s]]).length → (List.replicate st.2.1.length (0 : Rat) ++ [1]).getD l 0 = if (st.2.1 ++ [p ++ [s]]).getD l [] = p ++ [s] then 1 else 0 := fun l hl => by
            by_cases el : l < st.2.1.length
            · rw [getD_app (by rw [List.length_replicate]; exact el), getD_app el, getD_lt (by rw [List.length_replicate]; exact el), List.getElem_replicate, if_neg]
              rw [getD_lt el]
              exact kl_ne (hall _ (List.getElem_mem el))
            · have e : l = st.2.1.length := by
                rw [List.length_append] at hl
                have : l < st.2.1.length + 1 := hl
                omega
              subst e
              have q1 : (List.replicate st.2.1.length (0 : Rat) ++ [1]).getD st.2.1.length 0 = 1 := by
                rw [List.getD_eq_getElem?_getD, List.getElem?_append_right (by rw [List.length_replicate]; exact Nat.le_refl _), List.length_replicate, Nat.sub_self]
                rfl
              have q2 : (st.2.1 ++ [p ++ [s]]).getD st.2.1.length [] = p ++ [s] := by rw [List.getD_eq_getElem?_getD, hlast]; rfl
              rw [q1, q2, if_pos rfl]
          refine ⟨by show (List.replicate st.2.1.length (0 : Rat) ++ [1]).length ≤ (st.2.1 ++ [p ++ [s]]).length; simp, fun c hc => ?_, told_one _, .inl ⟨by show p ++ [s] ∈ st.2.1 ++ [p ++ [s]]; simp, hun⟩⟩
          show _ = S (st.2.1 ++ [p ++ [s]]).length (fun l => (List.replicate st.2.1.length (0 : Rat) ++ [1]).getD l 0 * (phi cols (rowL m ((st.2.1 ++ [p ++ [s]]).getD l []))).getD c 0)
          have hL : st.2.1.length < (st.2.1 ++ [p ++ [s]]).length := by simp
          have q2 : (st.2.1 ++ [p ++ [s]]).getD st.2.1.length [] = p ++ [s] := by rw [List.getD_eq_getElem?_getD, hlast]; rfl
          refine ((S_one hL fun l hl hne => ?_).trans ?_).symm
          · rw [hun l hl, if_neg, Rat.zero_mul]
            have el : l < st.2.1.length := by
              rw [List.length_append] at hl
              have : l < st.2.1.length + 1 := hl
              omega
            rw [getD_app el, getD_lt el]
            exact kl_ne (hall _ (List.getElem_mem el))
          · show (List.replicate st.2.1.length (0 : Rat) ++ [1]).getD st.2.1.length 0 * (phi cols (rowL m ((st.2.1 ++ [p ++ [s]]).getD st.2.1.length []))).getD c 0 = _
            rw [hun _ hL, if_pos q2, q2, Rat.one_mul]
      · rcases old hg with ⟨_, z⟩ | ⟨e, _⟩
        · exact h.hd0 g z
        · omega
  · unfold fmSign
    split
    · exact Nat.le_refl _
    · show st.2.1.length ≤ (st.2.1 ++ [_]).length
      rw [List.length_append]
      omega
end
end MB

/-! part MB10 -/
set_option exponentiation.threshold 256 -- MB10
set_option maxHeartbeats 200000 -- MB10
set_option maxRecDepth 100000 -- MB10
/-! MB10: form_of. -/
namespace MB
open MA PD
variable {m : Mach} {N : Nat} {cols : List (List Rat)}
abbrev GI (m : Mach) (N : Nat) (cols : List (List Rat)) (i : Nat) (st : FmS) : Prop := FI m N cols i 0 st.2.2.2 (st.1, st.2.1, st.2.2.1, [])
theorem gi_in (A : AskR m N) (C : Cols m N cols) {i : Nat} {st : FmS} (h : GI m N cols i st) (hi : i < st.2.1.length) : ∀ j, j ≤ m.signs.length → FI m N cols i j st.2.2.2 (fmIn m cols i st j) ∧ st.2.1.length ≤ (fmIn m cols i st j).2.1.length
  | 0, _ => ⟨h, Nat.le_refl _⟩
  | j + 1, hj => by
    obtain ⟨h1, h2⟩ := gi_in A C h hi j (by omega)
    have hs : m.signs[j]? = some m.signs[j] := List.getElem?_eq_getElem hj
    rw [fmIn_succ hs]
    obtain ⟨h3, _, h4⟩ := h1.step A C (by omega) hs
    exact ⟨h3, by omega⟩
theorem gi_zero (A : AskR m N) (C : Cols m N cols) : GI m N cols 0 (fmR m cols 0) ∧ LeftOk [] (phi cols m.bg) := by
  have hC := C.le
  have hn := A.n6
  have hf : Fit DN AN (phi cols m.bg) := phi_fit A C (w := []) (Nat.zero_le _) fun _ h => (by cases h)
  have hl : (phi cols m.bg).length = cols.length := phi_len _
  have b0 : BInv cols.length [] [] := BInv.nil
  refine ⟨?_, b0.left (by omega) hl hf⟩
  show FI m N cols 0 0 (fmR m cols 0).2.2.2 ((fmR m cols 0).1, (fmR m cols 0).2.1, (fmR m cols 0).2.2.1, [])
  unfold fmR
  by_cases hp : putB [] (phi cols m.bg) = true
  · rw [if_pos hp]
    refine ⟨b0.put (by omega) hl hf hp, rfl, fun l h hh => ?_, fun h hh => ?_, List.pairwise_singleton _ _, fun l h hh hne => ?_, fun h hh => .inl (by simpa using hh), rfl, fun ns hns => (by cases hns), rfl, fun i' j' h' s ns t a0 => (by simp at a0), fun j' h' s t a0 => (by simp at a0), fun z => (by cases z), fun h hh => (by simpa using hh.symm)⟩
    · have := List.mem_of_getElem? hh
      have : h = [] := by simpa using this
      subst this
      exact Nat.zero_le _
    · have : h = [] := by simpa using hh
      subst this
      intro c hc
      cases hc
    · have := List.mem_of_getElem? hh
      have : h = [] := by simpa using this
      exact absurd this hne
  · rw [if_neg hp]
    have hp2 : putB [] (phi cols m.bg) = false := by simpa using hp
    obtain ⟨hk, hin⟩ := b0.skip hl hp2
    refine ⟨by rw [hk]; exact b0, rfl, fun l h hh => (by simp at hh), fun h hh => (by cases hh), .nil, fun l h hh => (by simp at hh), fun h hh => (by cases hh), rfl, fun ns hns => (by cases hns), rfl, fun i' j' h' s ns t a0 => (by simp at a0), fun j' h' s t a0 => (by simp at a0), fun _ c hc => ?_, fun h hh => (by simp at hh)⟩
    obtain ⟨d, hd⟩ := hin
    exact hd c hc
theorem gi_next (A : AskR m N) (C : Cols m N cols) {i : Nat} (h : GI m N cols i (fmR m cols i)) (hi : i < (fmR m cols i).2.1.length) : GI m N cols (i + 1) (fmR m cols (i + 1)) ∧ (fmR m cols i).2.1.length ≤ (fmR m cols (i + 1)).2.1.length := by
  obtain ⟨h1, h2⟩ := gi_in A C h hi m.signs.length (Nat.le_refl _)
  have e : fmR m cols (i + 1) = ((fmIn m cols i (fmR m cols i) m.signs.length).1, (fmIn m cols i (fmR m cols i) m.signs.length).2.1, (fmIn m cols i (fmR m cols i) m.signs.length).2.2.1, (fmR m cols i).2.2.2 ++ [(fmIn m cols i (fmR m cols i) m.signs.length).2.2.2]) := rfl
  rw [e]
  refine ⟨?_, h2⟩
  have htl := h1.tl
  generalize (fmR m cols i).2.2.2 = tbl at *
  generalize fmIn m cols i (fmR m cols i) m.signs.length = st at *
  have split : ∀ {i' : Nat} {ns : List (List Rat)}, (tbl ++ [st.2.2.2])[i']? = some ns → tbl[i']? = some ns ∨ i' = i ∧ ns = st.2.2.2 := fun {i' ns} a => by
    by_cases el : i' < tbl.length
    · rw [List.getElem?_append_left el] at a
      exact .inl a
    · have hlt := (List.getElem?_eq_some_iff.mp a).1
      have e : i' = tbl.length := by
        rw [List.length_append] at hlt
        have : i' < tbl.length + 1 := hlt
        omega
      subst e
      exact .inr ⟨htl, by simpa using a.symm⟩
  refine ⟨h1.b, h1.rw_, h1.dep, h1.ov, h1.srt, h1.pre, fun g hg => ?_, by show (tbl ++ [st.2.2.2]).length = i + 1; rw [List.length_append, htl]; rfl, fun ns hns => ?_, rfl, fun i' j' h' s ns t a0 a1 a2 a3 => ?_, fun j' h' s t a0 => (by simp at a0), h1.z, h1.hd0⟩
  · rcases h1.gen g hg with z | ⟨i', j', h', s', a1, a2, a3, a4⟩
    · exact .inl z
    · exact .inr ⟨i', j', h', s', a1, a2, by omega, a4⟩
  · have hns' : ns ∈ tbl ++ [st.2.2.2] := hns
    rcases List.mem_append.mp hns' with z | z
    · exact h1.tn ns z
    · have : ns = st.2.2.2 := by simpa using z
      rw [this]
      exact h1.nl
  · rcases split a0 with z | ⟨rfl, rfl⟩
    · exact h1.ent i' j' h' s ns t z a1 a2 a3
    · exact h1.enn j' h' s t a1 a2 a3
/-- what the form is -/
structure FormR (m : Mach) (N : Nat) (cols : List (List Rat)) (f : Form) : Prop where
  sg : f.signs = m.signs
  b : ∃ kept, BInv cols.length kept (f.heads.map fun h => phi cols (rowL m h))
  hn : f.heads.length ≤ cols.length
  dep : ∀ (l : Nat) (h : List Nat), f.heads[l]? = some h → h.length ≤ l
  ov : ∀ h ∈ f.heads, Ov m h
  hd : HeadsOk f.signs f.heads
  sh : Shaped f
  row : ∀ (i j : Nat) (h : List Nat) (c : Nat) (ns : List (List Rat)) (r : List Rat), f.heads[i]? = some h → f.table[i]? = some ns → f.signs[j]? = some c → ns[j]? = some r → RowOk f.heads (h ++ [c]) r
  rel : ∀ (i j : Nat) (h : List Nat) (s : Nat) (ns : List (List Rat)) (r : List Rat), f.heads[i]? = some h → f.table[i]? = some ns → f.signs[j]? = some s → ns[j]? = some r → ToldB r ∧ ∀ c, c < cols.length → (phi cols (rowL m (h ++ [s]))).getD c 0 = S f.heads.length (fun l => r.getD l 0 * (phi cols (rowL m (f.heads.getD l []))).getD c 0)
  wo : f.worths = f.heads.map fun h => dotQ (rowL m h) m.fin
  z : f.heads = [] → ∀ c, c < cols.length → (phi cols m.bg).getD c 0 = 0
  hd0 : ∀ (h : List Nat), f.heads[0]? = some h → h = []
theorem told_pad {t : List Rat} (h : ToldB t) (k : Nat) : ToldB (t ++ List.replicate k 0) := by
  obtain ⟨o, h1, h2, h3⟩ := h.at_
  refine ⟨o, h1, h2, fun q hq => ?_⟩
  rcases List.mem_append.mp hq with hq | hq
  · exact h3 q hq
  · exact ⟨0, by rw [(List.mem_replicate.mp hq).2]; simp, Nat.zero_le _⟩
theorem getD_padQ (l : List Rat) (k j : Nat) : (l ++ List.replicate k 0).getD j 0 = l.getD j 0 := by
  by_cases hj : j < l.length
  · rw [getD_app hj]
  · rw [getD_ge (l := l) (by omega)]
    by_cases h2 : j < (l ++ List.replicate k (0 : Rat)).length
    · rw [getD_lt h2, List.getElem_append_right (by omega), List.getElem_replicate]
    · rw [getD_ge (by omega)]
theorem form_of (A : AskR m N) {k : Nat} (C : Cols m N (fcF m k)) : ∃ n, FmOk m (fcF m k) n ∧ FormR m N (fcF m k) (frm m k n) := by
  have hC := C.le
  have hN := A.n6
  have hsl := A.sg.len
  unfold frm formF
  generalize fcF m k = cols at *
  obtain ⟨g0, l0⟩ := gi_zero A C
  -- as long as there are heads left, all is well
  have go : ∀ i, (∀ i', i' < i → i' < (fmR m cols i').2.1.length) → GI m N cols i (fmR m cols i) := fun i => by
    induction i with
    | zero => exact fun _ => g0
    | succ i ih => exact fun h => (gi_next A C (ih fun i' hi' => h i' (by omega)) (h i (by omega))).1
  have hend : ∃ i, i ≤ cols.length ∧ (fmR m cols i).2.1.length ≤ i := Classical.byContradiction fun z => by
    have h1 := go cols.length fun i' hi' => Classical.byContradiction fun z2 => z ⟨i', by omega, by omega⟩
    have h2 := h1.le
    exact z ⟨cols.length, Nat.le_refl _, h2⟩
  obtain ⟨i0, hi0, hi1⟩ := hend
  obtain ⟨n, hn0, hn1, hmin⟩ := least (P := fun i => (fmR m cols i).2.1.length ≤ i) i0 hi1
  have hlt : ∀ i, i < n → i < (fmR m cols i).2.1.length := fun i hi => Nat.lt_of_not_le (hmin i hi)
  have G := go n hlt
  have hn2 : (fmR m cols n).2.1.length = n := by
    cases n with
    | zero => omega
    | succ n =>
      have h1 := (gi_next A C (go n fun i' hi' => hlt i' (by omega)) (hlt n (by omega))).2
      have h2 := hlt n (by omega)
      have : (fmR m cols (n + 1)).2.1.length ≤ n + 1 := hn1
      omega
  have hdep : ∀ h ∈ (fmR m cols n).2.1, h.length < N := fun h hh => by
    obtain ⟨l, hl⟩ := List.getElem?_of_mem hh
    have h1 := G.dep l h hl
    have h2 := (List.getElem?_eq_some_iff.mp hl).1
    have h3 := G.le
    have h4 : (fmR m cols n).2.1.length ≤ cols.length := h3
    omega
  refine ⟨n, ⟨l0, phi_dot A C (w := []) (Nat.zero_le _) fun _ h => (by cases h), hn2, hlt, fun i j s hi hs => ?_, fun ns hns t ht => ?_, fun r hr => ?_, by omega⟩, ?_⟩
  · have g := go i fun i' hi' => hlt i' (by omega)
    have hj := (List.getElem?_eq_some_iff.mp hs).1
    obtain ⟨h1, h2⟩ := gi_in A C g (hlt i hi) j (by omega)
    exact (h1.step A C (Nat.lt_of_lt_of_le (hlt i hi) h2) hs).2.1
  · obtain ⟨i, hi⟩ := List.getElem?_of_mem hns
    obtain ⟨j, hj⟩ := List.getElem?_of_mem ht
    have h1 := (List.getElem?_eq_some_iff.mp hi).1
    have h2 := (List.getElem?_eq_some_iff.mp hj).1
    have h3 := G.tl
    have h4 := G.tn ns hns
    have h5 : i < (fmR m cols n).2.1.length := by omega
    have := (G.ent i j _ _ ns t hi hj (List.getElem?_eq_getElem h5) (List.getElem?_eq_getElem (show j < m.signs.length by omega))).len
    have h6 : t.length ≤ (fmR m cols n).2.1.length := this
    omega
  · have h1 : r ∈ (fmR m cols n).2.1.map (rowL m) := by
      have := G.rw_
      dsimp only at this
      rw [← this]
      exact hr
    obtain ⟨h, hh, rfl⟩ := List.mem_map.mp h1
    have := hdep h hh
    exact (A.fit h [] (by omega) (by show 0 < N; omega) (G.ov h hh) fun _ h => (by cases h)).2
  · have pt : ∀ {i : Nat} {ns : List (List Rat)}, (padT (fmR m cols n).2.1.length (fmR m cols n).2.2.2)[i]? = some ns → ∃ ns0, (fmR m cols n).2.2.2[i]? = some ns0 ∧ ns = ns0.map fun l => l ++ List.replicate (((fmR m cols n).2.1.length : Int) - (l.length : Int)).toNat 0 := fun {i ns} h => by
      unfold padT at h
      rw [List.getElem?_map] at h
      obtain ⟨ns0, h1, h2⟩ := Option.map_eq_some_iff.mp h
      exact ⟨ns0, h1, h2.symm⟩
    have pr : ∀ {i j : Nat} {h : List Nat} {s : Nat} {ns : List (List Rat)} {r : List Rat}, (fmR m cols n).2.1[i]? = some h → (padT (fmR m cols n).2.1.length (fmR m cols n).2.2.2)[i]? = some ns → m.signs[j]? = some s → ns[j]? = some r → ∃ t, En m cols (fmR m cols n).2.1 h s t ∧ r = t ++ List.replicate (((fmR m cols n).2.1.length : Int) - (t.length : Int)).toNat 0 := fun {i j h s ns r} a1 a2 a3 a4 => by
      obtain ⟨ns0, b1, rfl⟩ := pt a2
      rw [List.getElem?_map] at a4
      obtain ⟨t, b2, rfl⟩ := Option.map_eq_some_iff.mp a4
      exact ⟨t, G.ent i j h s ns0 t b1 b2 a1 a3, rfl⟩
    have hlen : ∀ {h : List Nat} {s : Nat} {t : List Rat}, En m cols (fmR m cols n).2.1 h s t → (t ++ List.replicate (((fmR m cols n).2.1.length : Int) - (t.length : Int)).toNat 0).length = (fmR m cols n).2.1.length := fun {h s t} e => by
      have := e.len
      rw [List.length_append, List.length_replicate]
      omega
    refine ⟨rfl, ⟨_, G.b⟩, G.le, G.dep, G.ov, ⟨fun h hh c hc => G.ov h hh c hc, fun i h hi hne => G.pre i h hi hne, fun i g h h1 h2 => pw_get G.srt (Nat.lt_succ_self i) h1 h2⟩, ⟨?_, ?_, fun ns hns => ?_⟩, fun i j h c ns r a1 a2 a3 a4 => ?_, fun i j h s ns r a1 a2 a3 a4 => ?_, ?_, G.z, G.hd0⟩
    · show (padT (fmR m cols n).2.1.length (fmR m cols n).2.2.2).length = (fmR m cols n).2.1.length
      unfold padT
      rw [List.length_map]
      have : (fmR m cols n).2.2.2.length = n := G.tl
      omega
    · show ((fmR m cols n).2.2.1.map _).length = (fmR m cols n).2.1.length
      have := G.rw_
      dsimp only at this
      rw [this, List.length_map, List.length_map]
    · obtain ⟨i, hi⟩ := List.getElem?_of_mem hns
      obtain ⟨ns0, b1, b2⟩ := pt hi
      have hb1 := (List.getElem?_eq_some_iff.mp b1).1
      have htl : (fmR m cols n).2.2.2.length = n := G.tl
      have hns0 := G.tn ns0 (List.mem_of_getElem? b1)
      refine ⟨?_, fun r hr => ?_⟩
      · rw [b2, List.length_map]
        exact hns0
      · obtain ⟨j, hj⟩ := List.getElem?_of_mem hr
        have hjl := (List.getElem?_eq_some_iff.mp hj).1
        rw [b2, List.length_map] at hjl
        obtain ⟨t, ht, rfl⟩ := pr (List.getElem?_eq_getElem (show i < (fmR m cols n).2.1.length by omega)) hi (List.getElem?_eq_getElem (show j < m.signs.length by omega)) hj
        exact hlen ht
    · obtain ⟨t, e, rfl⟩ := pr a1 a2 a3 a4
      unfold RowOk
      have hle := hlen e
      have a3' : m.signs[j]? = some c := a3
      rcases e.ok with ⟨z1, z2⟩ | ⟨z1, z2⟩
      · rw [if_pos z1]
        refine List.ext_getElem? fun l => ?_
        by_cases hl : l < (fmR m cols n).2.1.length
        · have hg1 : (fmR m cols n).2.1[l]? = some (fmR m cols n).2.1[l] := List.getElem?_eq_getElem hl
          show _ = ((fmR m cols n).2.1.map fun g => unitQ (decide (g = h ++ [c])))[l]?
          rw [List.getElem?_map, List.getElem?_eq_getElem (show l < (t ++ List.replicate (((fmR m cols n).2.1.length : Int) - (t.length : Int)).toNat 0).length by omega), hg1]
          have h1 := z2 l hl
          rw [← getD_padQ t (((fmR m cols n).2.1.length : Int) - (t.length : Int)).toNat l, getD_lt (l := t ++ _) (by omega), getD_lt hl] at h1
          show some _ = some _
          rw [h1]
          unfold unitQ
          by_cases ee : (fmR m cols n).2.1[l] = h ++ [c]
          · rw [if_pos ee]
            show some (1 : Rat) = some (if decide ((fmR m cols n).2.1[l] = h ++ [c]) = true then 1 else 0)
            rw [if_pos (by simpa using ee)]
          · rw [if_neg ee]
            show some (0 : Rat) = some (if decide ((fmR m cols n).2.1[l] = h ++ [c]) = true then 1 else 0)
            rw [if_neg (by simpa using ee)]
        · rw [List.getElem?_eq_none (by omega), List.getElem?_eq_none (by rw [List.length_map]; show (fmR m cols n).2.1.length ≤ l; omega)]
      · rw [if_neg z1]
        intro p hp
        obtain ⟨l, hl⟩ := List.getElem?_of_mem hp
        obtain ⟨p1, p2⟩ := p
        obtain ⟨q1, q2⟩ := List.getElem?_zip_eq_some.mp hl
        have hll := (List.getElem?_eq_some_iff.mp q1).1
        have hll' : l < (fmR m cols n).2.1.length := hll
        have e1 : (fmR m cols n).2.1.getD l [] = p1 := by rw [List.getD_eq_getElem?_getD]; exact congrArg (Option.getD · []) q1
        have e2 : (t ++ List.replicate (((fmR m cols n).2.1.length : Int) - (t.length : Int)).toNat 0).getD l 0 = p2 := by rw [List.getD_eq_getElem?_getD, q2]; rfl
        rw [getD_padQ] at e2
        rcases z2 l hll' with z | z
        · left
          show p2.num = 0
          rw [← e2, z]
          rfl
        · right
          rw [e1] at z
          exact z
    · obtain ⟨t, e, rfl⟩ := pr a1 a2 a3 a4
      refine ⟨told_pad e.tb _, fun c hc => ?_⟩
      rw [e.rel c hc]
      exact S_congr fun l _ => by rw [getD_padQ]
    · show (fmR m cols n).2.2.1.map _ = _
      have := G.rw_
      dsimp only at this
      rw [this, List.map_map]
      rfl
end MB

/-! part MB11 -/
set_option exponentiation.threshold 256 -- MB11
set_option maxHeartbeats 200000 -- MB11
set_option maxRecDepth 100000 -- MB11
/-! MB11: the worths that the heads tell; the machine of a table. -/
namespace MB
open MA PD
variable {m : Mach} {N : Nat} {cols : List (List Rat)}
/-- the worth of w ++ v -/
abbrev Wo (m : Mach) (w v : List Nat) : Rat := dotQ (rowL m w) (colL m v)
theorem wo_at (hb : m.bg.length = N) (hf : m.fin.length = N) (w v : List Nat) : Wo m w v = S N (fun j => (rowL m w).getD j 0 * (colL m v).getD j 0) := by
  have h1 := dot_at (l := rowL m w) (r := colL m v) (by rw [rowL_len, colL_len, hb, hf])
  rw [rowL_len, hb] at h1
  exact h1
theorem wo_move (h : Rds m.roads N) (hb : m.bg.length = N) (hf : m.fin.length = N) (w v : List Nat) (s : Nat) : Wo m (w ++ [s]) v = Wo m w (s :: v) := by
  rw [wo_at hb hf, wo_at hb hf, rowL_snoc, colL_cons]
  exact step_dot h (by rw [rowL_len, hb]) (by rw [colL_len, hf]) s
/-- what holds at the free columns holds at all -/
theorem wo_lin (hb : m.bg.length = N) (hf : m.fin.length = N) (C : Cols m N cols) {w : List Nat} {k : Nat} {r : Nat → Rat} {u : Nat → List Nat} (h : ∀ c, c < cols.length → dotQ (rowL m w) (cols.getD c []) = S k (fun l => r l * dotQ (rowL m (u l)) (cols.getD c []))) {v : List Nat} (hv : Ov m v) : Wo m w v = S k (fun l => r l * Wo m (u l) v) := by
  obtain ⟨kept, b⟩ := C.b
  obtain ⟨d, hd⟩ := C.all v hv
  have key : ∀ w, Wo m w v = S cols.length (fun c => d c * dotQ (rowL m w) (cols.getD c [])) := fun w => by
    rw [wo_at hb hf]
    have e1 : ∀ c, c < cols.length → d c * dotQ (rowL m w) (cols.getD c []) = S N (fun j => d c * ((rowL m w).getD j 0 * rr cols c j)) := fun c hc => by
      have hcl : (cols.getD c []).length = N := b.k.rl _ (by rw [getD_lt hc]; exact List.getElem_mem hc)
      rw [S_mul, dot_at (by rw [rowL_len, hb, hcl]), rowL_len, hb]
    rw [S_congr e1, S_comm]
    refine S_congr fun j hj => ?_
    rw [hd j hj, ← S_mul]
    exact S_congr fun c _ => by grind
  rw [key w, S_congr (f := fun l => r l * Wo m (u l) v) (g := fun l => S cols.length (fun c => r l * (d c * dotQ (rowL m (u l)) (cols.getD c [])))) fun l _ => by rw [key (u l), S_mul], S_comm]
  refine S_congr fun c hc => ?_
  rw [h c hc, ← S_mul]
  exact S_congr fun l _ => by grind
theorem wo_zero (hb : m.bg.length = N) (hf : m.fin.length = N) (C : Cols m N cols) {w : List Nat} (h : ∀ c, c < cols.length → dotQ (rowL m w) (cols.getD c []) = 0) {v : List Nat} (hv : Ov m v) : Wo m w v = 0 :=
  wo_lin (k := 0) (r := fun _ => 0) (u := fun _ => []) hb hf C h hv
/-- the table tells the worths behind h ++ [s] -/
theorem FormR.adds {f : Form} (F : FormR m N cols f) (hb : m.bg.length = N) (hf : m.fin.length = N) (C : Cols m N cols) {i j : Nat} {h : List Nat} {s : Nat} {ns : List (List Rat)} {r : List Rat} (a1 : f.heads[i]? = some h) (a2 : f.table[i]? = some ns) (a3 : f.signs[j]? = some s) (a4 : ns[j]? = some r) {v : List Nat} (hv : Ov m v) :
    Wo m (h ++ [s]) v = S f.heads.length (fun l => r.getD l 0 * Wo m (f.heads.getD l []) v) :=
  wo_lin (u := fun l => f.heads.getD l []) hb hf C (fun c hc => by
    have h1 := (F.rel i j h s ns r a1 a2 a3 a4).2 c hc
    rw [phi_at hc] at h1
    rw [h1]
    exact S_congr fun l _ => by rw [phi_at hc]) hv
/-! ### the machine of a table -/
theorem LS_flat {α β : Type} (g : α → List β) (f : β → Rat) : ∀ (l : List α), LS (l.flatMap g) f = LS l (fun x => LS (g x) f)
  | [] => rfl
  | x :: l => by
    rw [List.flatMap_cons]
    have app : ∀ (a b : List β), LS (a ++ b) f = LS a f + LS b f := fun a b => by
      induction a with
      | nil => exact (Rat.zero_add _).symm
      | cons y a ih =>
        show f y + LS (a ++ b) f = f y + LS a f + LS b f
        rw [ih, Rat.add_assoc]
    rw [app, LS_flat g f l]
    rfl
theorem S_first (n : Nat) (f : Nat → Rat) : S (n + 1) f = f 0 + S n (fun i => f (i + 1)) := by
  rw [S_skip f 0 (Nat.zero_le _)]
  congr 1
theorem LS_zip {α β : Type} (a0 : α) (b0 : β) (f : α × β → Rat) : ∀ (l : List α) (r : List β), l.length = r.length → LS (l.zip r) f = S r.length (fun i => f (l.getD i a0, r.getD i b0))
  | [], [], _ => rfl
  | x :: l, y :: r, h => by
    rw [List.zip_cons_cons]
    show f (x, y) + LS (l.zip r) f = S (r.length + 1) _
    rw [S_first, LS_zip a0 b0 f l r (by simpa using h)]
    rfl
theorem rowS (st s : Nat) (row : List Rat) (g : Road → Rat) (h0 : ∀ k, g (st, s, k, 0) = 0) : LS (rdsRow st s ((List.range row.length).zip row)) g = S row.length (fun k => g (st, s, k, row.getD k 0)) := by
  unfold rdsRow
  rw [LS_map, LS_filter, LS_zip 0 0 _ _ _ (by rw [List.length_range])]
  refine S_congr fun k hk => ?_
  have e : (List.range row.length).getD k 0 = k := by
    rw [getD_lt (by rw [List.length_range]; exact hk), List.getElem_range]
  rw [e]
  by_cases z : (row.getD k 0).num = 0
  · rw [if_neg (by simpa using z), num_zero z, h0]
  · rw [if_pos (by simpa using z)]
theorem tabS (signs : List Nat) (table : List (List (List Rat))) (hs : ∀ ns ∈ table, ns.length = signs.length) (g : Road → Rat) (h0 : ∀ i s k, g (i, s, k, 0) = 0) :
    LS (rdsTab signs ((List.range table.length).zip table)) g = S table.length (fun i => S signs.length (fun j => S ((table.getD i []).getD j []).length (fun k => g (i, signs.getD j 0, k, ((table.getD i []).getD j []).getD k 0)))) := by
  unfold rdsTab
  rw [LS_flat, LS_zip 0 [] _ _ _ (by rw [List.length_range])]
  refine S_congr fun i hi => ?_
  have e : (List.range table.length).getD i 0 = i := by
    rw [getD_lt (by rw [List.length_range]; exact hi), List.getElem_range]
  rw [e]
  have hn : (table.getD i []).length = signs.length := hs _ (by rw [getD_lt hi]; exact List.getElem_mem hi)
  unfold rdsNum
  show LS ((signs.zip (table.getD i [])).flatMap fun q => rdsRow i q.1 ((List.range q.2.length).zip q.2)) g = _
  rw [LS_flat, LS_zip 0 [] _ _ _ hn.symm, hn]
  refine S_congr fun j hj => ?_
  exact rowS i _ _ g fun k => h0 _ _ _
/-- a step back by the table -/
theorem tab_back {f : Form} (sh : Shaped f) (hn : f.signs.Nodup) {i j : Nat} {s : Nat} {ns : List (List Rat)} {r : List Rat} (a2 : f.table[i]? = some ns) (a3 : f.signs[j]? = some s) (a4 : ns[j]? = some r) (v : Nat → Rat) :
    backV (mbM f.signs f.table f.worths).roads s v i = S f.heads.length (fun l => r.getD l 0 * v l) := by
  have hi := (List.getElem?_eq_some_iff.mp a2).1
  have hj := (List.getElem?_eq_some_iff.mp a3).1
  have e2 : f.table.getD i [] = ns := by rw [List.getD_eq_getElem?_getD, a2]; rfl
  have e3 : f.signs.getD j 0 = s := by rw [List.getD_eq_getElem?_getD, a3]; rfl
  have e4 : ns.getD j [] = r := by rw [List.getD_eq_getElem?_getD, a4]; rfl
  have hr := (sh.c ns (List.mem_of_getElem? a2)).2 r (List.mem_of_getElem? a4)
  unfold backV
  show LS (rdsTab f.signs ((List.range f.table.length).zip f.table)) _ = _
  rw [tabS f.signs f.table (fun ns h => (sh.c ns h).1) _ fun i s k => by
    split
    · exact Rat.zero_mul _
    · rfl]
  refine (S_one hi fun i' hi' hne => S_zero fun j' _ => S_zero fun k _ => ?_).trans ?_
  · rw [if_neg fun z => hne z.2]
  · refine (S_one hj fun j' hj' hne => S_zero fun k _ => ?_).trans ?_
    · rw [if_neg fun z => hne ?_]
      have z1 : f.signs.getD j' 0 = s := z.1
      rw [← e3, getD_lt hj', getD_lt hj] at z1
      exact (List.getElem_inj hn).mp z1
    · rw [e2, e4, hr]
      refine S_congr fun k _ => ?_
      rw [if_pos ⟨e3, rfl⟩]
theorem tab_roads {f : Form} (sh : Shaped f) {r : Road} (h : r ∈ (mbM f.signs f.table f.worths).roads) : ∃ (j : Nat) (ns : List (List Rat)) (row : List Rat), f.table[r.1]? = some ns ∧ f.signs[j]? = some r.2.1 ∧ ns[j]? = some row ∧ row[r.2.2.1]? = some r.2.2.2 := by
  have h' : r ∈ rdsTab f.signs ((List.range f.table.length).zip f.table) := h
  unfold rdsTab at h'
  obtain ⟨⟨i, ns⟩, ht, h1⟩ := List.mem_flatMap.mp h'
  unfold rdsNum at h1
  obtain ⟨⟨s, row⟩, hq, h2⟩ := List.mem_flatMap.mp h1
  unfold rdsRow at h2
  obtain ⟨⟨k, q⟩, hp, rfl⟩ := List.mem_map.mp h2
  have hp2 := (List.mem_filter.mp hp).1
  obtain ⟨i2, hi2⟩ := List.getElem?_of_mem ht
  obtain ⟨rfl, b1⟩ := zr_get hi2
  obtain ⟨k2, hk2⟩ := List.getElem?_of_mem hp2
  obtain ⟨rfl, b2⟩ := zr_get hk2
  obtain ⟨j, hj⟩ := List.getElem?_of_mem hq
  obtain ⟨b3, b4⟩ := List.getElem?_zip_eq_some.mp hj
  exact ⟨j, ns, row, b1, b3, b4, b2⟩
theorem tab_rds {f : Form} (sh : Shaped f) : Rds (mbM f.signs f.table f.worths).roads f.heads.length := fun r h => by
  obtain ⟨j, ns, row, b1, b2, b3, b4⟩ := tab_roads sh h
  have h1 := (List.getElem?_eq_some_iff.mp b1).1
  have h2 := (List.getElem?_eq_some_iff.mp b4).1
  have h3 := (sh.c ns (List.mem_of_getElem? b1)).2 row (List.mem_of_getElem? b3)
  have h4 := sh.a
  exact ⟨by omega, by omega⟩
theorem up_nodup {l : List Nat} (h : l.Pairwise (· < ·)) : l.Nodup := h.imp fun h => by omega
/-- the columns of the machine of the table are the worths behind the heads -/
theorem tab_col {f : Form} (F : FormR m N cols f) (hsg : GoodSg m.signs) (hb : m.bg.length = N) (hr : Rds m.roads N) (hf : m.fin.length = N) (C : Cols m N cols) : ∀ (v : List Nat), Ov m v → ∀ i, i < f.heads.length → (colL (mbM f.signs f.table f.worths) v).getD i 0 = Wo m (f.heads.getD i []) v
  | [], _, i, hi => by
    show f.worths.getD i 0 = _
    rw [F.wo, getD_lt (by rw [List.length_map]; exact hi), List.getElem_map, getD_lt hi]
    rfl
  | s :: v, hv, i, hi => by
    have hv2 : Ov m v := fun c hc => hv c (by simp [hc])
    have hs : s ∈ f.signs := by rw [F.sg]; exact hv s (by simp)
    obtain ⟨j, hj⟩ := List.getElem?_of_mem hs
    have hti : i < f.table.length := by rw [F.sh.a]; exact hi
    have b1 : f.table[i]? = some f.table[i] := List.getElem?_eq_getElem hti
    have hjl := (List.getElem?_eq_some_iff.mp hj).1
    have hnl := (F.sh.c _ (List.getElem_mem hti)).1
    have b2 : f.table[i][j]? = some (f.table[i][j]'(by omega)) := List.getElem?_eq_getElem (by omega)
    have b0 : f.heads[i]? = some f.heads[i] := List.getElem?_eq_getElem hi
    rw [colL_cons, backQ_at (tab_rds F.sh) (by rw [colL_len]; exact F.sh.b), tab_back F.sh (by rw [F.sg]; exact up_nodup hsg.up) b1 hj b2, ← wo_move hr hb hf, getD_lt hi, F.adds hb hf C b0 b1 hj b2 hv2]
    exact S_congr fun l hl => by rw [tab_col F hsg hb hr hf C v hv2 l hl]
end MB

/-! part MB12 -/
set_option exponentiation.threshold 200000 -- MB12
set_option maxHeartbeats 200000 -- MB12
set_option maxRecDepth 100000 -- MB12
/-! MB12: sizes of steps. -/
namespace MB
open MA PD
variable {m : Mach} {N : Nat}
theorem bh_abs {iv : List Int} {A B : Nat} (hA : ∀ j, (iv.getD j 0).natAbs ≤ A) (j : Nat) : ∀ (steps : List Step) (f : List Int), (∀ t ∈ steps, t.2.2.natAbs ≤ B) → ((steps.foldl (bhStep iv) f).getD j 0).natAbs ≤ (f.getD j 0).natAbs + steps.length * (A * B)
  | [], f, _ => by simp
  | t :: steps, f, h => by
    rw [List.foldl_cons]
    have ih := bh_abs hA j steps (bhStep iv f t) fun u hu => h u (by simp [hu])
    have h1 : ((bhStep iv f t).getD j 0).natAbs ≤ (f.getD j 0).natAbs + A * B := by
      unfold bhStep
      by_cases hk : t.2.1 < f.length
      · rw [getD_set _ _ _ _ _ hk]
        split
        · rename_i e
          rw [e]
          have h2 := Int.natAbs_add_le (f.getD j 0) (iv.getD t.1 0 * t.2.2)
          have h3 : (iv.getD t.1 0 * t.2.2).natAbs ≤ A * B := by
            rw [Int.natAbs_mul]
            exact Nat.mul_le_mul (hA _) (h t (by simp))
          omega
        · omega
      · rw [List.set_eq_of_length_le (by omega)]
        omega
    rw [List.length_cons, Nat.add_mul, Nat.one_mul]
    omega
theorem bhF_abs {iv : List Int} {A B : Nat} (hA : ∀ j, (iv.getD j 0).natAbs ≤ A) {steps : List Step} (h : ∀ t ∈ steps, t.2.2.natAbs ≤ B) : ∀ x ∈ bhF steps iv, x.natAbs ≤ steps.length * (A * B) := fun x hx => by
  obtain ⟨j, hj, rfl⟩ := List.getElem_of_mem hx
  have h1 := bh_abs hA j steps (List.replicate iv.length 0) h
  have h2 := getD_pad [] iv.length j
  rw [List.nil_append] at h2
  rw [h2] at h1
  have h3 : (([] : List Int).getD j 0).natAbs = 0 := by simp
  have h4 : (bhF steps iv).getD j 0 = (steps.foldl (bhStep iv) (List.replicate iv.length 0)).getD j 0 := rfl
  rw [getD_lt hj] at h4
  rw [h4]
  omega
theorem step_ok (hn : N ≤ 6) (hr : Rds m.roads N) {row : List Rat} (hl : row.length = N) (hf : Fit DN AN row) {s : Nat} (hs : s ∈ m.signs) {B : Nat} (hB : ∀ t ∈ (stPair m s).1, t.2.2.natAbs ≤ B) (h1 : B < 2 ^ 11500) (hL : lcmS m.roads s < 2 ^ 11500) (hc : m.roads.length ≤ 1000) :
    StepOk m row s ∧ (∀ x ∈ bhF (stPair m s).1 (intsL row), Sm x) ∧ ∀ x ∈ bhF (turnF (stPair m s).1) (intsL row), Sm x := by
  have hi := hf.ints dn_pos
  have ha := an_bt
  have hd := dn_bt
  have hcnt : (stPair m s).1.length ≤ 1000 := by
    show (stepsF m.roads s (lcmS m.roads s)).length ≤ 1000
    unfold stepsF
    rw [List.length_map]
    exact Nat.le_trans (List.length_filter_le _ _) hc
  have hbig : ∀ k, k ≤ 1000 → k * (AN * B) < 2 ^ 13500 := fun k hk => by
    have q1 : AN * B < 2 ^ 231 * 2 ^ 11500 := by
      have : AN * B ≤ 2 ^ 231 * B := Nat.mul_le_mul_right _ (by omega)
      have : 2 ^ 231 * B < 2 ^ 231 * 2 ^ 11500 := Nat.mul_lt_mul_of_pos_left h1 (Nat.pow_pos (by decide))
      omega
    rw [← Nat.pow_add] at q1
    have q2 : k * (AN * B) ≤ 1000 * (AN * B) := Nat.mul_le_mul_right _ hk
    have q3 : 1000 * (AN * B) < 1000 * 2 ^ (231 + 11500) := by omega
    have q4 : 1000 * 2 ^ (231 + 11500) ≤ 2 ^ 10 * 2 ^ (231 + 11500) := Nat.mul_le_mul_right _ (by decide)
    rw [← Nat.pow_add] at q4
    have q5 : (2 : Nat) ^ (10 + (231 + 11500)) ≤ 2 ^ 13500 := Nat.pow_le_pow_right (by decide) (by decide)
    omega
  refine ⟨⟨hs, ?_, fun q hq => ?_, fun x hx => ?_, by omega, fun t ht => ?_, ?_, ?_⟩, fun x hx => ?_, fun x hx => ?_⟩
  · have h2 := Nat.le_of_dvd dn_pos hf.lcm
    have h3 : (2 : Nat) ^ 148 ≤ 2 ^ 1900 := Nat.pow_le_pow_right (by decide) (by decide)
    unfold Bt
    rw [Int.natAbs_natCast]
    omega
  · have h2 := (hf q hq).numb dn_pos
    have h3 : (2 : Nat) ^ 231 ≤ 2 ^ 100000 := Nat.pow_le_pow_right (by decide) (by decide)
    unfold Bt
    omega
  · obtain ⟨j, hj, rfl⟩ := List.getElem_of_mem hx
    have h2 := hi j
    rw [getD_lt hj] at h2
    have h3 : (2 : Nat) ^ 231 ≤ 2 ^ 1900 := Nat.pow_le_pow_right (by decide) (by decide)
    unfold Bt
    omega
  · obtain ⟨r, hr1, _, rfl⟩ := stepsF_mem ht
    have h2 := hr r hr1
    have h3 := hB _ ht
    refine ⟨by rw [hl]; exact h2.1, by rw [hl]; exact h2.2, ?_⟩
    unfold Bt
    exact Nat.lt_of_le_of_lt h3 h1
  · show (((lcmS m.roads s : Nat) : Int)).natAbs < 2 ^ 11500
    rw [Int.natAbs_natCast]
    exact hL
  · have := lcmS_pos m.roads s
    show ((lcmS m.roads s : Nat) : Int) ≠ 0
    omega
  · exact Nat.lt_of_le_of_lt (bhF_abs hi hB x hx) (hbig _ hcnt)
  · exact Nat.lt_of_le_of_lt (bhF_abs hi (fun t ht => by
      obtain ⟨t0, ht0, rfl⟩ := List.mem_map.mp ht
      exact hB t0 ht0) x hx) (hbig _ (by unfold turnF; rw [List.length_map]; exact hcnt))
end MB

/-! part MB13 -/
set_option exponentiation.threshold 200000 -- MB13
set_option maxHeartbeats 200000 -- MB13
set_option maxRecDepth 100000 -- MB13
/-! MB13: the machines that are drawn are small. -/
namespace MB
open MA PD
section
variable {D A D' A' : Nat} {q r : Rat}
theorem Fit1.mul (h : Fit1 D A q) (h2 : Fit1 D' A' r) : Fit1 (D * D') (A * A') (q * r) := by
  obtain ⟨z, e, b⟩ := h
  obtain ⟨y, e2, b2⟩ := h2
  refine ⟨z * y, ?_, by rw [Int.natAbs_mul]; exact Nat.mul_le_mul b b2⟩
  rw [Rat.intCast_mul, ← e, ← e2, Rat.natCast_mul]
  grind
theorem Fit1.add (h : Fit1 D A q) (h2 : Fit1 D A' r) : Fit1 D (A + A') (q + r) := by
  obtain ⟨z, e, b⟩ := h
  obtain ⟨y, e2, b2⟩ := h2
  refine ⟨z + y, ?_, by have := Int.natAbs_add_le z y; omega⟩
  rw [Rat.intCast_add, ← e, ← e2]
  grind
theorem Fit1.le (h : Fit1 D A q) (hA : A ≤ A') : Fit1 D A' q := by
  obtain ⟨z, e, b⟩ := h
  exact ⟨z, e, Nat.le_trans b hA⟩
theorem Fit1.scale (h : Fit1 D A q) (k : Nat) : Fit1 (D * k) (A * k) q := by
  obtain ⟨z, e, b⟩ := h
  refine ⟨z * (k : Int), ?_, by rw [Int.natAbs_mul, Int.natAbs_natCast]; exact Nat.mul_le_mul_right _ b⟩
  rw [Rat.intCast_mul, ← e, Rat.natCast_mul]
  show _ = (D : Rat) * q * (k : Rat)
  grind
theorem LS_fit {α : Type} {f : α → Rat} : ∀ {l : List α}, (∀ x ∈ l, Fit1 D A (f x)) → Fit1 D (l.length * A) (LS l f)
  | [], _ => by
    rw [List.length_nil, Nat.zero_mul]
    exact Fit1.zero
  | x :: l, h => by
    rw [List.length_cons, Nat.add_mul, Nat.one_mul, Nat.add_comm]
    exact (h x (by simp)).add (LS_fit fun y hy => h y (by simp [hy]))
theorem S_fit {f : Nat → Rat} : ∀ {n : Nat}, (∀ i, i < n → Fit1 D A (f i)) → Fit1 D (n * A) (S n f)
  | 0, _ => by
    rw [Nat.zero_mul]
    exact Fit1.zero
  | n + 1, h => by
    rw [Nat.add_mul, Nat.one_mul]
    exact (S_fit fun i hi => h i (by omega)).add (h n (by omega))
theorem Fit.of {l : List Rat} (h : ∀ j, j < l.length → Fit1 D A (l.getD j 0)) : Fit D A l := fun q hq => by
  obtain ⟨j, hj, rfl⟩ := List.getElem_of_mem hq
  have := h j hj
  rw [getD_lt hj] at this
  exact this
end
/-- as drawn -/
def NumB (q : Rat) : Prop := q.num.natAbs ≤ 5 ∧ q.den ≤ 9
theorem den2520 : ∀ d, d ≤ 9 → d ≠ 0 → d ∣ 2520 := by decide
theorem NumB.fit {q : Rat} (h : NumB q) : Fit1 2520 12600 q := by
  obtain ⟨k, hk⟩ := den2520 q.den h.2 q.den_nz
  have h2 := rat_den q
  have hkl : k ≤ 2520 := Nat.le_of_dvd (by decide) ⟨q.den, by rw [Nat.mul_comm]; exact hk⟩
  refine ⟨q.num * (k : Int), ?_, ?_⟩
  · rw [Rat.intCast_mul, ← h2, hk, Rat.natCast_mul]
    show _ = (q.den : Rat) * q * (k : Rat)
    grind
  · rw [Int.natAbs_mul, Int.natAbs_natCast]
    have := Nat.mul_le_mul h.1 hkl
    omega
structure Small (m : Mach) (N : Nat) : Prop where
  sg : GoodSg m.signs
  s3 : m.signs.length ≤ 3
  bl : m.bg.length = N
  fl : m.fin.length = N
  n6 : N ≤ 6
  rd : ∀ r ∈ m.roads, r.1 < N ∧ r.2.1 ∈ m.signs ∧ r.2.2.1 < N
  cnt : m.roads.length ≤ 24
  nb : ∀ q ∈ m.bg, NumB q
  nr : ∀ r ∈ m.roads, NumB r.2.2.2
  nf : ∀ q ∈ m.fin, NumB q
variable {m : Mach} {N : Nat}
theorem Small.rds (h : Small m N) : Rds m.roads N := fun r hr => ⟨(h.rd r hr).1, (h.rd r hr).2.2⟩
def fd (d : Nat) : Nat := 2520 ^ (d + 1)
def fa (d : Nat) : Nat := 12600 * 302400 ^ d
theorem fd_succ (d : Nat) : fd (d + 1) = fd d * 2520 := Nat.pow_succ _ _
theorem fa_succ (d : Nat) : fa (d + 1) = 24 * (fa d * 12600) := by
  unfold fa
  rw [Nat.pow_succ]
  omega
theorem lift1 {q : Rat} {d : Nat} (h : Fit1 (fd d) (fa d) q) : ∀ k, Fit1 (fd (d + k)) (fa (d + k)) q
  | 0 => h
  | k + 1 => by
    have := (lift1 h k).scale 2520
    rw [← Nat.add_assoc, fd_succ, fa_succ]
    exact this.le (by omega)
theorem lift2 {q : Rat} {d e : Nat} (h : Fit1 (fd d) (fa d) q) (hd : d ≤ e) : Fit1 (fd e) (fa e) q := by
  have := lift1 h (e - d)
  rw [show d + (e - d) = e by omega] at this
  exact this
theorem Small.step (h : Small m N) {row : List Rat} (hl : row.length = N) {d : Nat} (hf : Fit (fd d) (fa d) row) (s : Nat) : Fit (fd (d + 1)) (fa (d + 1)) (stepQ m row s) := Fit.of fun j hj => by
  rw [stepQ_at h.rds hl, fd_succ, fa_succ]
  refine (LS_fit fun r hr => ?_).le (Nat.mul_le_mul_right _ h.cnt)
  split
  · exact (hf.at_ _).mul (h.nr r hr).fit
  · exact Fit1.zero
theorem Small.back (h : Small m N) {row : List Rat} (hl : row.length = N) {d : Nat} (hf : Fit (fd d) (fa d) row) (s : Nat) : Fit (fd (d + 1)) (fa (d + 1)) (backQ m row s) := Fit.of fun j hj => by
  rw [backQ_at h.rds hl, fd_succ, fa_succ, Nat.mul_comm (fd d), Nat.mul_comm (fa d)]
  refine (LS_fit fun r hr => ?_).le (Nat.mul_le_mul_right _ h.cnt)
  split
  · exact (h.nr r hr).fit.mul (hf.at_ _)
  · exact Fit1.zero
theorem Small.col (h : Small m N) : ∀ w, Fit (fd w.length) (fa w.length) (colL m w)
  | [] => fun q hq => (h.nf q hq).fit
  | s :: w => h.back (by rw [colL_len, h.fl]) (h.col w) s
theorem Small.row (h : Small m N) (w : List Nat) : Fit (fd w.length) (fa w.length) (rowL m w) := by
  have key : ∀ (w : List Nat) (r : List Rat) (d : Nat), r.length = N → Fit (fd d) (fa d) r → Fit (fd (d + w.length)) (fa (d + w.length)) (w.foldl (stepQ m) r) := fun w => by
    induction w with
    | nil => exact fun r d _ hf => hf
    | cons s w ih =>
      intro r d hl hf
      have := ih (stepQ m r s) (d + 1) (by rw [stepQ_len, hl]) (h.step hl hf s)
      rw [show d + 1 + w.length = d + (s :: w).length by rw [List.length_cons]; omega] at this
      exact this
  have := key w m.bg 0 h.bl fun q hq => (h.nb q hq).fit
  rw [Nat.zero_add] at this
  exact this
theorem dn_eq : DN = fd 6 * fd 5 := by decide +kernel
theorem an_eq : AN = 6 * (fa 6 * fa 5) := by decide +kernel
theorem big6 {q : Rat} (h : Fit1 (fd 6) (fa 6) q) : Fit1 DN AN q := by
  rw [dn_eq]
  exact (h.scale (fd 5)).le (by decide +kernel)
theorem Small.colD (h : Small m N) {w : List Nat} (hw : w.length ≤ 6) : Fit DN AN (colL m w) := fun q hq => big6 (lift2 (h.col w q hq) hw)
theorem Small.rowD (h : Small m N) {w : List Nat} (hw : w.length ≤ 6) : Fit DN AN (rowL m w) := fun q hq => big6 (lift2 (h.row w q hq) hw)
theorem hq_of {q : Rat} (h : Fit1 DN AN q) : Hq q := by
  have h1 := h.numb dn_pos
  have h2 := h.denb dn_pos
  have h3 := an_bt
  have h4 := dn_bt
  have h5 : (2 : Nat) ^ 231 ≤ 2 ^ 6700 := Nat.pow_le_pow_right (by decide) (by decide)
  have h6 : (2 : Nat) ^ 148 ≤ 2 ^ 6700 := Nat.pow_le_pow_right (by decide) (by decide)
  refine ⟨?_, ?_⟩
  · unfold Bt
    omega
  · unfold Bt
    rw [Int.natAbs_natCast]
    omega
theorem Small.dotB (h : Small m N) {w v : List Nat} (hw : w.length ≤ 6) (hv : v.length ≤ 5) : Fit1 DN AN (dotQ (rowL m w) (colL m v)) ∧ DotOk (rowL m w) (colL m v) := by
  have hrl : (rowL m w).length = N := by rw [rowL_len, h.bl]
  have hcl : (colL m v).length = N := by rw [colL_len, h.fl]
  have p1 : ∀ j, Fit1 DN (fa 6 * fa 5) ((rowL m w).getD j 0 * (colL m v).getD j 0) := fun j => by
    rw [dn_eq]
    exact (lift2 ((h.row w).at_ j) hw).mul (lift2 ((h.col v).at_ j) hv)
  have p2 : ∀ k, k ≤ N → Fit1 DN AN (S k (fun j => (rowL m w).getD j 0 * (colL m v).getD j 0)) := fun k hk => by
    rw [an_eq]
    have := h.n6
    exact (S_fit fun j _ => p1 j).le (Nat.mul_le_mul_right _ (by omega))
  refine ⟨?_, fun i => ?_, fun p hp => ?_⟩
  · rw [dot_at (by rw [hrl, hcl]), hrl]
    exact p2 N (Nat.le_refl _)
  · rw [dotP_at _ _ i (by rw [hrl, hcl]), hrl]
    exact hq_of (p2 _ (Nat.min_le_right _ _))
  · obtain ⟨j, hj⟩ := List.getElem?_of_mem hp
    obtain ⟨q1, q2⟩ := p
    obtain ⟨e1, e2⟩ := List.getElem?_zip_eq_some.mp hj
    have m1 := List.mem_of_getElem? e1
    have m2 := List.mem_of_getElem? e2
    refine ⟨hq_of (h.rowD hw _ m1), hq_of (h.colD (by omega) _ m2), ?_⟩
    have := p1 j
    rw [List.getD_eq_getElem?_getD, List.getD_eq_getElem?_getD, e1, e2] at this
    refine hq_of (this.le ?_)
    rw [an_eq]
    omega
theorem Small.lcm (h : Small m N) (s : Nat) : lcmS m.roads s ∣ 2520 := by
  unfold lcmS
  refine lcm_dvd_all _ 1 (Nat.one_dvd _) fun q hq => ?_
  unfold rqs at hq
  obtain ⟨r, hr, rfl⟩ := List.mem_map.mp hq
  have := h.nr r (List.mem_filter.mp hr).1
  exact den2520 _ this.2 r.2.2.2.den_nz
theorem Small.steps (h : Small m N) (s : Nat) : ∀ t ∈ (stPair m s).1, t.2.2.natAbs ≤ 12600 := fun t ht => by
  obtain ⟨r, hr, hs, rfl⟩ := stepsF_mem ht
  have h1 := (h.nr r hr).1
  have h2 := Nat.le_of_dvd (by decide) (h.lcm s)
  show (r.2.2.2.num * ((lcmS m.roads s : Nat) : Int).fdiv (r.2.2.2.den : Int)).natAbs ≤ 12600
  rw [Int.natAbs_mul, Int.fdiv_eq_ediv_of_nonneg _ (by omega), ← Int.natCast_ediv, Int.natAbs_natCast]
  have h3 : lcmS m.roads s / r.2.2.2.den ≤ 2520 := Nat.le_trans (Nat.div_le_self _ _) h2
  have := Nat.mul_le_mul h1 h3
  omega
theorem Small.stepOk (h : Small m N) {row : List Rat} (hl : row.length = N) (hf : Fit DN AN row) {s : Nat} (hs : s ∈ m.signs) : StepOk m row s ∧ (∀ x ∈ bhF (stPair m s).1 (intsL row), Sm x) ∧ ∀ x ∈ bhF (turnF (stPair m s).1) (intsL row), Sm x := by
  have h1 : (12600 : Nat) < 2 ^ 11500 := Nat.lt_of_lt_of_le (show 12600 < 2 ^ 14 by decide) (Nat.pow_le_pow_right (by decide) (by decide))
  have h2 := Nat.le_of_dvd (by decide) (h.lcm s)
  have h3 := h.cnt
  exact step_ok h.n6 h.rds hl hf hs (h.steps s) h1 (Nat.lt_of_le_of_lt h2 (Nat.lt_trans (by decide) h1)) (by omega)
theorem Small.ask (h : Small m N) : Ask m N := ⟨h.sg, h.rds, h.fl, h.n6, fun w hw _ => h.colD (Nat.le_trans hw h.n6), fun w hw _ s hs => by
  have h6 := h.n6
  have := h.stepOk (by rw [colL_len, h.fl]) (h.colD (w := w) (by omega)) hs
  exact ⟨this.1, this.2.2⟩⟩
theorem Small.askR (h : Small m N) : AskR m N := ⟨h.sg, h.rds, h.bl, h.fl, h.n6, fun w v hw hv _ _ => by
  have h6 := h.n6
  exact h.dotB (by omega) (by omega), fun w hw _ s hs => by
  have h6 := h.n6
  have := h.stepOk (by rw [rowL_len, h.bl]) (h.rowD (w := w) (by omega)) hs
  exact ⟨this.1, this.2.1⟩⟩
theorem Small.pre (h : Small m N) : machPre m := by
  have hbig : (5 : Nat) < 2 ^ 100000 := Nat.lt_of_lt_of_le (show 5 < 2 ^ 3 by decide) (Nat.pow_le_pow_right (by decide) (by decide))
  refine ⟨⟨h.sg, fun r hr => ?_, by rw [h.bl, h.fl]⟩, ⟨fun s hs => ?_, fun r hr => ?_, ?_⟩⟩
  · rw [h.bl]
    exact h.rd r hr
  · have h2 := Nat.le_of_dvd (by decide) (h.lcm s)
    unfold Sm
    rw [Int.natAbs_natCast]
    exact Nat.lt_of_le_of_lt h2 (Nat.lt_of_lt_of_le (show 2520 < 2 ^ 12 by decide) (Nat.pow_le_pow_right (by decide) (by decide)))
  · exact Nat.lt_of_le_of_lt (h.nr r hr).1 hbig
  · have := h.cnt
    omega
end MB

/-! part MB14 -/
set_option exponentiation.threshold 200000 -- MB14
set_option maxHeartbeats 200000 -- MB14
set_option maxRecDepth 100000 -- MB14
/-! MB14: the form is one. -/
namespace MB
open MA PD
variable {m : Mach} {N k n : Nat} {f : Form}
/-- numbers over one integer -/
theorem divInt_b {s o : Int} (ho : o ≠ 0) : (Rat.divInt s o).den ∣ o.natAbs ∧ (Rat.divInt s o).num.natAbs ≤ s.natAbs := by
  have h1 := div_rat (-s) o ho
  rw [Int.neg_neg] at h1
  have h2 : ((o : Int) : Rat) * Rat.divInt s o = ((s : Int) : Rat) := by
    rw [h1, Rat.intCast_neg]
    exact Rat.neg_neg _
  have h3 : Fit1 o.natAbs s.natAbs (Rat.divInt s o) := by
    rcases Int.natAbs_eq o with e | e
    · refine ⟨s, ?_, Nat.le_refl _⟩
      show ((o.natAbs : Int) : Rat) * _ = _
      rw [← e]
      exact h2
    · refine ⟨-s, ?_, by rw [Int.natAbs_neg]; exact Nat.le_refl _⟩
      show ((o.natAbs : Int) : Rat) * _ = _
      have e2 : (o.natAbs : Int) = -o := by omega
      rw [e2, Rat.intCast_neg, Rat.intCast_neg, Rat.neg_mul, h2]
  exact ⟨h3.den, h3.numb (Int.natAbs_pos.mpr ho)⟩
theorem ToldB.has {t : List Rat} (h : ToldB t) : ∃ O : Nat, 0 < O ∧ O ≤ ON ∧ ∀ q ∈ t, q.den ∣ O ∧ q.num.natAbs ≤ ON := by
  obtain ⟨o, h1, h2, h3⟩ := h.at_
  refine ⟨o.natAbs, Int.natAbs_pos.mpr h1, h2, fun q hq => ?_⟩
  obtain ⟨s, rfl, hs⟩ := h3 q hq
  obtain ⟨d1, d2⟩ := divInt_b (s := s) h1
  exact ⟨d1, Nat.le_trans d2 hs⟩
/-- a product of so many -/
def Pr (O : Nat → Nat) : Nat → Nat
  | 0 => 1
  | n + 1 => Pr O n * O n
theorem pr_dvd {O : Nat → Nat} {i : Nat} : ∀ {n : Nat}, i < n → O i ∣ Pr O n
  | n + 1, h => by
    by_cases e : i = n
    · subst e
      exact Nat.dvd_mul_left _ _
    · exact Nat.dvd_trans (pr_dvd (n := n) (by omega)) (Nat.dvd_mul_right _ _)
theorem pr_le {O : Nat → Nat} {B : Nat} (h : ∀ i, O i ≤ B) : ∀ n, Pr O n ≤ B ^ n
  | 0 => Nat.le_refl _
  | n + 1 => by
    rw [Nat.pow_succ]
    exact Nat.mul_le_mul (pr_le h n) (h n)
theorem pr_pos {O : Nat → Nat} (h : ∀ i, 0 < O i) : ∀ n, 0 < Pr O n
  | 0 => Nat.one_pos
  | n + 1 => Nat.mul_pos (pr_pos h n) (h n)
theorem on_pos : 0 < ON := by decide +kernel
abbrev tabM (f : Form) : Mach := mbM f.signs f.table f.worths
theorem FormR.entry (F : FormR m N (fcF m k) f) {i j : Nat} {s : Nat} {ns : List (List Rat)} {r : List Rat} (a2 : f.table[i]? = some ns) (a3 : f.signs[j]? = some s) (a4 : ns[j]? = some r) : ToldB r := by
  have hi := (List.getElem?_eq_some_iff.mp a2).1
  have h1 := F.sh.a
  exact (F.rel i j _ s ns r (List.getElem?_eq_getElem (show i < f.heads.length by omega)) a2 a3 a4).1
theorem tab_lcm (F : FormR m N (fcF m k) f) (hn : f.signs.Nodup) (hH : f.heads.length ≤ 6) (s : Nat) : lcmS (tabM f).roads s ≤ ON ^ 6 ∧ ∀ r ∈ (tabM f).roads, r.2.2.2.num.natAbs ≤ ON := by
  -- one integer for each head
  have hO : ∀ i : Nat, ∃ O : Nat, 0 < O ∧ O ≤ ON ∧ ∀ (j : Nat) (ns : List (List Rat)) (r : List Rat), f.table[i]? = some ns → f.signs[j]? = some s → ns[j]? = some r → ∀ q ∈ r, q.den ∣ O := fun i => by
    by_cases e : ∃ (j : Nat) (ns : List (List Rat)) (r : List Rat), f.table[i]? = some ns ∧ f.signs[j]? = some s ∧ ns[j]? = some r
    · obtain ⟨j, ns, r, b1, b2, b3⟩ := e
      obtain ⟨O, c1, c2, c3⟩ := (F.entry b1 b2 b3).has
      refine ⟨O, c1, c2, fun j' ns' r' d1 d2 d3 q hq => ?_⟩
      rw [b1] at d1
      cases d1
      have hj1 := (List.getElem?_eq_some_iff.mp b2)
      have hj2 := (List.getElem?_eq_some_iff.mp d2)
      obtain ⟨x1, y1⟩ := hj1
      obtain ⟨x2, y2⟩ := hj2
      have : j = j' := (List.getElem_inj hn).mp (by rw [y1, y2])
      subst this
      rw [b3] at d3
      cases d3
      exact (c3 q hq).1
    · exact ⟨1, by decide, on_pos, fun j ns r d1 d2 d3 => absurd ⟨j, ns, r, d1, d2, d3⟩ e⟩
  obtain ⟨O, hO⟩ := Classical.axiomOfChoice hO
  refine ⟨?_, fun r hr => ?_⟩
  · have h1 : lcmS (tabM f).roads s ∣ Pr O f.heads.length := by
      unfold lcmS
      refine lcm_dvd_all _ 1 (Nat.one_dvd _) fun q hq => ?_
      unfold rqs at hq
      obtain ⟨r, hr, rfl⟩ := List.mem_map.mp hq
      obtain ⟨hr1, hr2⟩ := List.mem_filter.mp hr
      have hs : r.2.1 = s := by simpa using hr2
      have hb := (tab_rds F.sh r hr1).1
      obtain ⟨j, ns, row, b1, b2, b3, b4⟩ := tab_roads F.sh hr1
      rw [hs] at b2
      exact Nat.dvd_trans ((hO r.1).2.2 j ns row b1 b2 b3 _ (List.mem_of_getElem? b4)) (pr_dvd hb)
    have h2 := Nat.le_of_dvd (pr_pos (fun i => (hO i).1) _) h1
    have h3 := pr_le (fun i => (hO i).2.1) f.heads.length
    exact Nat.le_trans h2 (Nat.le_trans h3 (Nat.pow_le_pow_right on_pos hH))
  · obtain ⟨j, ns, row, b1, b2, b3, b4⟩ := tab_roads F.sh hr
    obtain ⟨O, _, _, c3⟩ := (F.entry b1 b2 b3).has
    exact (c3 _ (List.mem_of_getElem? b4)).2
theorem on6 : ON ^ 6 < 2 ^ 9348 := by
  have h1 := on_bt
  have h2 : ON ^ 6 < (2 ^ 1558) ^ 6 := Nat.pow_lt_pow_left h1 (by decide)
  rw [← Nat.pow_mul] at h2
  exact h2
theorem tab_len (F : FormR m N (fcF m k) f) (hH : f.heads.length ≤ 6) (h3 : f.signs.length ≤ 3) : (tabM f).roads.length ≤ 1000 := by
  show (rdsTab f.signs ((List.range f.table.length).zip f.table)).length ≤ 1000
  unfold rdsTab
  have hl : ∀ {α β : Type} (g : α → List β) (n : Nat) (l : List α), (∀ x ∈ l, (g x).length ≤ n) → (l.flatMap g).length ≤ n * l.length := fun g n l => by
    induction l with
    | nil => intro _; simp
    | cons x l ih =>
      intro h
      rw [List.flatMap_cons, List.length_append, List.length_cons, Nat.mul_add, Nat.mul_one]
      have h1 := h x List.mem_cons_self
      have h2 := ih fun y hy => h y (List.mem_cons_of_mem _ hy)
      omega
  have h1 : ∀ t ∈ (List.range f.table.length).zip f.table, (rdsNum t.1 (f.signs.zip t.2)).length ≤ 18 := fun t ht => by
    have hm := (List.of_mem_zip (a := t.1) (b := t.2) ht).2
    unfold rdsNum
    have q1 := hl (fun q : Nat × List Rat => rdsRow t.1 q.1 ((List.range q.2.length).zip q.2)) 6 (f.signs.zip t.2) fun q hq => by
      have hm2 := (List.of_mem_zip (a := q.1) (b := q.2) hq).2
      have := (F.sh.c _ hm).2 _ hm2
      unfold rdsRow
      rw [List.length_map]
      refine Nat.le_trans (List.length_filter_le _ _) ?_
      rw [zr_len]
      omega
    have q2 : (f.signs.zip t.2).length ≤ 3 := by
      rw [List.length_zip]
      omega
    omega
  have h2 := hl _ 18 _ h1
  rw [zr_len] at h2
  have h4 := F.sh.a
  have h5 : 18 * f.table.length ≤ 1000 := by omega
  exact Nat.le_trans h2 h5
theorem tab_steps (F : FormR m N (fcF m k) f) (hn : f.signs.Nodup) (hH : f.heads.length ≤ 6) (s : Nat) : ∀ t ∈ (stPair (tabM f) s).1, t.2.2.natAbs ≤ ON * ON ^ 6 := fun t ht => by
  obtain ⟨h1, h2⟩ := tab_lcm F hn hH s
  obtain ⟨r, hr, hs, rfl⟩ := stepsF_mem ht
  show (r.2.2.2.num * ((lcmS (tabM f).roads s : Nat) : Int).fdiv (r.2.2.2.den : Int)).natAbs ≤ _
  rw [Int.natAbs_mul, Int.fdiv_eq_ediv_of_nonneg _ (by omega), ← Int.natCast_ediv, Int.natAbs_natCast]
  exact Nat.mul_le_mul (h2 r hr) (Nat.le_trans (Nat.div_le_self _ _) h1)
theorem on7 : ON * ON ^ 6 < 2 ^ 11500 := by
  have h1 := on_bt
  have h2 := on6
  have h3 : ON * ON ^ 6 ≤ 2 ^ 1558 * 2 ^ 9348 := Nat.mul_le_mul (Nat.le_of_lt h1) (Nat.le_of_lt h2)
  rw [← Nat.pow_add] at h3
  exact Nat.lt_of_le_of_lt h3 (Nat.pow_lt_pow_right (by decide) (by decide))
theorem FormR.dep6 (F : FormR m N (fcF m k) f) (h : Small m N) (C : Cols m N (fcF m k)) : f.heads.length ≤ N ∧ ∀ g ∈ f.heads, g.length < f.heads.length := by
  have h1 := F.hn
  have h2 := C.le
  refine ⟨by omega, fun g hg => ?_⟩
  obtain ⟨l, hl⟩ := List.getElem?_of_mem hg
  have h3 := F.dep l g hl
  have h4 := (List.getElem?_eq_some_iff.mp hl).1
  omega
theorem tab_fit (F : FormR m N (fcF m k) f) (h : Small m N) (C : Cols m N (fcF m k)) {w : List Nat} (hw : w.length ≤ f.heads.length) (ho : Ov m w) : Fit DN AN (colL (tabM f) w) := Fit.of fun i hi => by
  obtain ⟨d1, d2⟩ := F.dep6 h C
  have h6 := h.n6
  have hi2 : i < f.heads.length := by
    rw [colL_len] at hi
    have : i < f.worths.length := hi
    rw [F.sh.b] at this
    exact this
  rw [tab_col F h.sg h.bl h.rds h.fl C w ho i hi2]
  have hg := d2 _ (show f.heads.getD i [] ∈ f.heads by rw [getD_lt hi2]; exact List.getElem_mem hi2)
  cases w with
  | nil => exact (h.dotB (v := []) (by omega) (Nat.zero_le _)).1
  | cons s v =>
    rw [← wo_move h.rds h.bl h.fl]
    rw [List.length_cons] at hw
    refine (h.dotB ?_ (by omega)).1
    rw [List.length_append]
    show _ + 1 ≤ 6
    omega
theorem tab_ask (F : FormR m N (fcF m k) f) (h : Small m N) (C : Cols m N (fcF m k)) : Ask (tabM f) f.heads.length := by
  obtain ⟨d1, d2⟩ := F.dep6 h C
  have h6 := h.n6
  have hs3 : f.signs.length ≤ 3 := by rw [F.sg]; exact h.s3
  have hsg : GoodSg f.signs := by rw [F.sg]; exact h.sg
  have ov : ∀ {w : List Nat}, Ov (tabM f) w → Ov m w := fun {w} ho c hc => by
    have h1 : c ∈ f.signs := ho c hc
    rw [F.sg] at h1
    exact h1
  refine ⟨hsg, tab_rds F.sh, F.sh.b, by omega, fun w hw ho => tab_fit F h C hw (ov ho), fun w hw ho s hs => ?_⟩
  have h1 := step_ok (m := tabM f) (N := f.heads.length) (by omega) (tab_rds F.sh) (row := colL (tabM f) w) (by rw [colL_len]; exact F.sh.b) (tab_fit F h C (by omega) (ov ho)) hs (tab_steps F (up_nodup hsg.up) (by omega) s) on7 (Nat.lt_of_le_of_lt (tab_lcm F (up_nodup hsg.up) (by omega) s).1 (Nat.lt_trans on6 (Nat.pow_lt_pow_right (by decide) (by decide)))) (tab_len F (by omega) hs3)
  exact ⟨h1.1, h1.2.2⟩
theorem tab_cnt (F : FormR m N (fcF m k) f) (h : Small m N) (C : Cols m N (fcF m k)) {R : List (List Rat)} (C2 : Cols (tabM f) f.heads.length R) : R.length = f.heads.length := by
  have hle := C2.le
  refine Classical.byContradiction fun z => ?_
  obtain ⟨x, ⟨j, hj, hx⟩, he⟩ := dep R.length f.heads.length (by omega) fun c l => rr R c l
  obtain ⟨kept, b⟩ := F.b
  have hfl : (f.heads.map fun h => phi (fcF m k) (rowL m h)).length = f.heads.length := List.length_map _
  refine hx (b.k.free x (fun c hc => ?_) j (by rw [hfl]; exact hj))
  rw [hfl]
  -- at every message
  have key : ∀ w, Ov m w → S f.heads.length (fun l => x l * Wo m (f.heads.getD l []) w) = 0 := fun w ho => by
    obtain ⟨d, hd⟩ := C2.all w fun c hc => by
      show c ∈ f.signs
      rw [F.sg]
      exact ho c hc
    have e1 : S f.heads.length (fun l => x l * Wo m (f.heads.getD l []) w) = S f.heads.length (fun l => S R.length (fun c => d c * (rr R c l * x l))) := S_congr fun l hl => by
      rw [← tab_col F h.sg h.bl h.rds h.fl C w ho l hl, hd l hl, ← S_mul]
      exact S_congr fun c _ => by grind
    rw [e1, S_comm]
    refine S_zero fun c hc => ?_
    rw [S_mul, he c hc, Rat.mul_zero]
  obtain ⟨w, _, ho, hw⟩ := C.fw _ (show (fcF m k).getD c [] ∈ fcF m k by rw [getD_lt hc]; exact List.getElem_mem hc)
  rw [← key w ho]
  refine S_congr fun l hl => ?_
  have e : (f.heads.map fun h => phi (fcF m k) (rowL m h)).getD l [] = phi (fcF m k) (rowL m (f.heads.getD l [])) := by
    rw [getD_lt (l := f.heads.map fun h => phi (fcF m k) (rowL m h)) (by rw [hfl]; exact hl), List.getElem_map, getD_lt hl]
  unfold rr
  rw [e, phi_at hc, hw]
theorem form_ok (F : FormR m N (fcF m k) f) (h : Small m N) (C : Cols m N (fcF m k)) : formPre f := by
  obtain ⟨d1, d2⟩ := F.dep6 h C
  have h6 := h.n6
  have hs3 : f.signs.length ≤ 3 := by rw [F.sg]; exact h.s3
  have hsg : GoodSg f.signs := by rw [F.sg]; exact h.sg
  obtain ⟨n, fc, C2⟩ := free_columns (tab_ask F h C)
  have hbl : (tabM f).bg.length = f.heads.length := by
    show ((List.range f.worths.length).map _).length = _
    rw [List.length_map, List.length_range, F.sh.b]
  refine ⟨n, hsg, F.sh, F.hd, F.row, ⟨?_, fun ns hns => ?_⟩, ⟨⟨hsg, fun r hr => ?_, ?_⟩, ⟨fun s hs => ?_, fun r hr => ?_, ?_⟩⟩, fc, tab_cnt F h C C2, fun g hg => by have := d2 g hg; omega, by rw [F.sh.b]; omega⟩
  · rw [F.sh.a]
    omega
  · obtain ⟨q1, q2⟩ := F.sh.c ns hns
    refine ⟨by omega, fun r hr => ?_⟩
    rw [q2 r hr]
    omega
  · rw [hbl]
    obtain ⟨j, ns, row, b1, b2, b3, b4⟩ := tab_roads F.sh hr
    have := tab_rds F.sh r hr
    exact ⟨this.1, List.mem_of_getElem? b2, this.2⟩
  · rw [hbl]
    exact F.sh.b.symm
  · have h1 := (tab_lcm F (up_nodup hsg.up) (by omega) s).1
    unfold Sm
    rw [Int.natAbs_natCast]
    exact Nat.lt_of_le_of_lt h1 (Nat.lt_trans on6 (Nat.pow_lt_pow_right (by decide) (by decide)))
  · have h1 := (tab_lcm F (up_nodup hsg.up) (by omega) r.2.1).2 r hr
    exact Nat.lt_of_le_of_lt h1 (Nat.lt_trans on_bt (Nat.pow_lt_pow_right (by decide) (by decide)))
  · have := tab_len F (by omega) hs3
    show (tabM f).roads.length ≤ 100000
    omega
end MB

/-! part MB15 -/
set_option exponentiation.threshold 20000000 -- MB15
set_option maxHeartbeats 200000 -- MB15
set_option maxRecDepth 100000 -- MB15
/-! MB15: the law's own integers. -/
namespace MB
open MA PD PL
theorem stI_at (row : List Int) (s j : Nat) : ∀ (rds : List IRd) (f : List Int), (∀ r ∈ rds, r.2.2.1 < f.length) → ii (rds.foldl (stI1 row s) f) j = ii f j + LS rds fun r => if r.2.1 = s ∧ r.2.2.1 = j then ii row r.1 * (r.2.2.2 : Rat) else 0
  | [], f, _ => (Rat.add_zero _).symm
  | r :: rds, f, h => by
    have hl : (stI1 row s f r).length = f.length := by
      unfold stI1
      split
      · rw [List.length_set]
      · rfl
    rw [List.foldl_cons, stI_at row s j rds (stI1 row s f r) (by
      intro u hu
      rw [hl]
      exact h u (by simp [hu]))]
    show _ = ii f j + ((if r.2.1 = s ∧ r.2.2.1 = j then ii row r.1 * (r.2.2.2 : Rat) else 0) + LS rds _)
    have e : ii (stI1 row s f r) j = ii f j + if r.2.1 = s ∧ r.2.2.1 = j then ii row r.1 * (r.2.2.2 : Rat) else 0 := by
      unfold stI1
      by_cases es : r.2.1 = s
      · rw [if_pos es]
        unfold ii
        rw [getD_set _ _ _ _ _ (h r (by simp))]
        by_cases e : r.2.2.1 = j
        · subst e
          rw [if_pos rfl, if_pos ⟨es, rfl⟩, Rat.intCast_add, Rat.intCast_mul]
        · rw [if_neg e, if_neg fun z => e z.2, Rat.add_zero]
      · rw [if_neg es, if_neg fun z => es z.1, Rat.add_zero]
    rw [e, Rat.add_assoc]
theorem stI_get {rds : List IRd} {row : List Int} (h : ∀ r ∈ rds, r.2.2.1 < row.length) (s j : Nat) : ii (stI rds row s) j = LS rds fun r => if r.2.1 = s ∧ r.2.2.1 = j then ii row r.1 * (r.2.2.2 : Rat) else 0 := by
  unfold stI
  rw [stI_at row s j rds _ (by rw [List.length_replicate]; exact h), ii_zero, Rat.zero_add]
variable {p : Parts} {N : Nat}
/-- the integer over all roads -/
abbrev mid (p : Parts) : Nat := lcmL (rdNums p.2.2.1)
theorem scl_LS (rds : List Road) (f : Nat → Nat → Nat → Rat → Rat) : LS (sclRoads rds) (fun r => f r.1 r.2.1 r.2.2.1 (r.2.2.2 : Rat)) = LS rds fun r => f r.1 r.2.1 r.2.2.1 ((lcmL (rdNums rds) : Rat) * r.2.2.2) := by
  unfold sclRoads
  rw [LS_map]
  refine LS_congr fun r hr => ?_
  have hm : r.2.2.2 ∈ rdNums rds := List.mem_map.mpr ⟨r, hr, rfl⟩
  have := over_at (lcmL_mem hm)
  show f r.1 r.2.1 r.2.2.1 ((r.2.2.2.num * ((lcmL (rdNums rds) : Nat) : Int).fdiv (r.2.2.2.den : Int) : Int) : Rat) = _
  rw [this]
theorem scl_mem {rds : List Road} {r : IRd} (h : r ∈ sclRoads rds) : ∃ r0 ∈ rds, r = (r0.1, r0.2.1, r0.2.2.1, r0.2.2.2.num * (lcmL (rdNums rds) : Int).fdiv r0.2.2.2.den) := by
  obtain ⟨r0, h0, rfl⟩ := List.mem_map.mp h
  exact ⟨r0, h0, rfl⟩
/-- behind a message, as integers -/
theorem rowB_at (hr : Rds p.2.2.1 N) (hb : p.2.1.length = N) : ∀ (n : Nat) (w : List Nat), w.length = n → ∀ j, ii (rowB (scaledF p) w) j = (lcmL p.2.1 : Rat) * (mid p : Rat) ^ n * (rowL (mch p) w).getD j 0
  | 0, w, hw, j => by
    have : w = [] := List.length_eq_zero_iff.mp hw
    subst this
    show ii (intsL p.2.1) j = _
    rw [ints_at, Rat.pow_zero, Rat.mul_one]
    rfl
  | n + 1, w, hw, j => by
    have hne : w ≠ [] := fun z => by rw [z] at hw; cases hw
    obtain ⟨u, s, rfl⟩ : ∃ u s, w = u ++ [s] := ⟨w.dropLast, w.getLast hne, (List.dropLast_concat_getLast hne).symm⟩
    have hu : u.length = n := by
      rw [List.length_append] at hw
      have : u.length + 1 = n + 1 := hw
      omega
    have e1 : rowB (scaledF p) (u ++ [s]) = stI (sclRoads p.2.2.1) (rowB (scaledF p) u) s := by
      unfold rowB
      rw [List.foldl_append]
      rfl
    have hlen : (rowB (scaledF p) u).length = N := by
      rw [rowB_len]
      show (intsL p.2.1).length = N
      rw [intsL_len, hb]
    rw [e1, stI_get (fun r h => by
      obtain ⟨r0, h0, rfl⟩ := scl_mem h
      rw [hlen]
      exact (hr r0 h0).2), rowL_snoc, stepQ_at (N := N) hr (by rw [rowL_len]; exact hb)]
    rw [scl_LS p.2.2.1 fun a b c q => if b = s ∧ c = j then ii (rowB (scaledF p) u) a * q else 0]
    unfold stepV
    rw [← LS_mul]
    refine LS_congr fun r _ => ?_
    by_cases e : r.2.1 = s ∧ r.2.2.1 = j
    · rw [if_pos e, if_pos e, rowB_at hr hb n u hu, Rat.pow_succ]
      show _ * ((mid p : Rat) * r.2.2.2) = _
      generalize (mid p : Rat) ^ n = z
      generalize (mid p : Rat) = y
      grind
    · rw [if_neg e, if_neg e, Rat.mul_zero]
theorem colB_at (hr : Rds p.2.2.1 N) (hf : p.2.2.2.length = N) : ∀ (w : List Nat) (j : Nat), ii (colB (scaledF p) w) j = (lcmL p.2.2.2 : Rat) * (mid p : Rat) ^ w.length * (colL (mch p) w).getD j 0
  | [], j => by
    show ii (intsL p.2.2.2) j = _
    rw [ints_at, List.length_nil, Rat.pow_zero, Rat.mul_one]
    rfl
  | s :: w, j => by
    have hlen : (colB (scaledF p) w).length = N := by
      rw [colB_len]
      show (intsL p.2.2.2).length = N
      rw [intsL_len, hf]
    have e1 : colB (scaledF p) (s :: w) = stI (turnI (sclRoads p.2.2.1)) (colB (scaledF p) w) s := rfl
    rw [e1, stI_get (fun r h => by
      obtain ⟨r1, h1, rfl⟩ := List.mem_map.mp h
      obtain ⟨r0, h0, rfl⟩ := scl_mem h1
      rw [hlen]
      exact (hr r0 h0).1), colL_cons, backQ_at (N := N) hr (by rw [colL_len]; exact hf)]
    unfold turnI
    rw [LS_map]
    rw [scl_LS p.2.2.1 fun a b c q => if b = s ∧ a = j then ii (colB (scaledF p) w) c * q else 0]
    unfold backV
    rw [← LS_mul]
    refine LS_congr fun r _ => ?_
    by_cases e : r.2.1 = s ∧ r.1 = j
    · rw [if_pos e, if_pos e, colB_at hr hf w, List.length_cons, Rat.pow_succ]
      show _ * ((mid p : Rat) * r.2.2.2) = _
      generalize (mid p : Rat) ^ w.length = z
      generalize (mid p : Rat) = y
      grind
    · rw [if_neg e, if_neg e, Rat.mul_zero]
theorem sum_snoc (l : List Int) (x : Int) : (l ++ [x]).sum = l.sum + x := by
  rw [List.sum_append]
  simp
theorem sum_S (f : Nat → Int) : ∀ n : Nat, ((((List.range n).map f).sum : Int) : Rat) = S n (fun k => ((f k : Int) : Rat))
  | 0 => rfl
  | n + 1 => by
    rw [List.range_succ, List.map_append, List.map_singleton, sum_snoc, Rat.intCast_add, sum_S f n]
    rfl
theorem dotI_at (row col : List Int) : ((dotI row col : Int) : Rat) = S row.length (fun k => ii row k * ii col k) := by
  unfold dotI
  rw [sum_S]
  exact S_congr fun k _ => Rat.intCast_mul _ _
/-- the dot of the law's own rows and columns -/
theorem dotB (hr : Rds p.2.2.1 N) (hb : p.2.1.length = N) (hf : p.2.2.2.length = N) (w v : List Nat) : ((dotI (rowB (scaledF p) w) (colB (scaledF p) v) : Int) : Rat) = (lcmL p.2.1 : Rat) * (lcmL p.2.2.2 : Rat) * (mid p : Rat) ^ w.length * (mid p : Rat) ^ v.length * Wo (mch p) w v := by
  have hlen : (rowB (scaledF p) w).length = N := by
    rw [rowB_len]
    show (intsL p.2.1).length = N
    rw [intsL_len, hb]
  rw [dotI_at, hlen, wo_at (N := N) (m := mch p) hb hf, ← S_mul]
  refine S_congr fun k _ => ?_
  rw [rowB_at hr hb w.length w rfl, colB_at hr hf v]
  grind
theorem told_ok (hr : Rds p.2.2.1 N) (hb : p.2.1.length = N) (hf : p.2.2.2.length = N) {n1 n2 : Int} {w : List Nat} (h : (n1 : Rat) = (n2 : Rat) * Wo (mch p) w []) : tdB (n1, n2) (scaledF p) (rowB (scaledF p) w) w.length = true := by
  unfold tdB
  refine decide_eq_true ?_
  refine Rat.intCast_inj.mp ?_
  have e := dotB hr hb hf w []
  have e0 : colB (scaledF p) [] = (scaledF p).2.2.2.2.1 := rfl
  rw [e0, List.length_nil, Rat.pow_zero, Rat.mul_one] at e
  rw [Rat.intCast_mul, Rat.intCast_mul, Rat.intCast_mul, Rat.intCast_mul, Rat.intCast_pow]
  show (n1 : Rat) * (((lcmL p.2.1 : Int) : Rat) * ((lcmL p.2.2.2 : Int) : Rat) * ((mid p : Int) : Rat) ^ w.length) = (n2 : Rat) * ((dotI (rowB (scaledF p) w) (scaledF p).2.2.2.2.1 : Int) : Rat)
  rw [e, h]
  show (n2 : Rat) * Wo (mch p) w [] * ((lcmL p.2.1 : Rat) * (lcmL p.2.2.2 : Rat) * (mid p : Rat) ^ w.length) = _
  generalize (mid p : Rat) ^ w.length = z
  grind
/-! ### sizes -/
theorem stI_abs {row : List Int} {s A B : Nat} (hA : ∀ j, (row.getD j 0).natAbs ≤ A) (j : Nat) : ∀ (rds : List IRd) (f : List Int), (∀ r ∈ rds, r.2.2.2.natAbs ≤ B) → ((rds.foldl (stI1 row s) f).getD j 0).natAbs ≤ (f.getD j 0).natAbs + rds.length * (A * B)
  | [], f, _ => by simp
  | r :: rds, f, h => by
    rw [List.foldl_cons]
    have ih := stI_abs (s := s) hA j rds (stI1 row s f r) fun u hu => h u (by simp [hu])
    have h1 : ((stI1 row s f r).getD j 0).natAbs ≤ (f.getD j 0).natAbs + A * B := by
      unfold stI1
      split
      · by_cases hk : r.2.2.1 < f.length
        · rw [getD_set _ _ _ _ _ hk]
          split
          · rename_i e
            rw [e]
            have h2 := Int.natAbs_add_le (f.getD j 0) (row.getD r.1 0 * r.2.2.2)
            have h3 : (row.getD r.1 0 * r.2.2.2).natAbs ≤ A * B := by
              rw [Int.natAbs_mul]
              exact Nat.mul_le_mul (hA _) (h r (by simp))
            omega
          · omega
        · rw [List.set_eq_of_length_le (by omega)]
          omega
      · omega
    rw [List.length_cons, Nat.add_mul, Nat.one_mul]
    omega
theorem stI_b {rds : List IRd} {row : List Int} {s a : Nat} (hc : rds.length ≤ 1000) (hB : ∀ r ∈ rds, r.2.2.2.natAbs ≤ 2 ^ 30000) (hA : ∀ j, (row.getD j 0).natAbs ≤ 2 ^ a) : ∀ j, ((stI rds row s).getD j 0).natAbs ≤ 2 ^ (a + 30010) := fun j => by
  have h1 := stI_abs (s := s) hA j rds (List.replicate row.length 0) hB
  have h2 := getD_pad [] row.length j
  rw [List.nil_append] at h2
  rw [h2] at h1
  have h3 : (([] : List Int).getD j 0).natAbs = 0 := by simp
  have h4 : rds.length * (2 ^ a * 2 ^ 30000) ≤ 2 ^ 10 * (2 ^ a * 2 ^ 30000) := Nat.mul_le_mul_right _ (Nat.le_trans hc (by decide))
  rw [← Nat.pow_add, ← Nat.pow_add] at h4
  have h5 : 10 + (a + 30000) = a + 30010 := by omega
  rw [h5] at h4
  show ((rds.foldl (stI1 row s) (List.replicate row.length 0)).getD j 0).natAbs ≤ _
  rw [← Nat.pow_add] at h1
  omega
/-- what is asked of the law's own numbers -/
structure SB (p : Parts) (N : Nat) : Prop where
  rd : Rds p.2.2.1 N
  bl : p.2.1.length = N
  fl : p.2.2.2.length = N
  n6 : N ≤ 6
  cnt : p.2.2.1.length ≤ 1000
  bb : ∀ j, ((intsL p.2.1).getD j 0).natAbs ≤ 2 ^ 30000
  fb : ∀ j, ((intsL p.2.2.2).getD j 0).natAbs ≤ 2 ^ 30000
  rb : ∀ r ∈ sclRoads p.2.2.1, r.2.2.2.natAbs ≤ 2 ^ 30000
  lb : lcmL p.2.1 ≤ 2 ^ 30000
  lf : lcmL p.2.2.2 ≤ 2 ^ 30000
  lm : mid p ≤ 2 ^ 30000
theorem SB.row (h : SB p N) (w : List Nat) : ∀ j, ((rowB (scaledF p) w).getD j 0).natAbs ≤ 2 ^ (30000 + 30010 * w.length) := by
  have key : ∀ (w : List Nat) (r : List Int) (a : Nat), (∀ j, (r.getD j 0).natAbs ≤ 2 ^ a) → ∀ j, ((w.foldl (stI (sclRoads p.2.2.1)) r).getD j 0).natAbs ≤ 2 ^ (a + 30010 * w.length) := fun w => by
    induction w with
    | nil => exact fun r a h => h
    | cons s w ih =>
      intro r a hr j
      have := ih (stI (sclRoads p.2.2.1) r s) (a + 30010) (stI_b (by unfold sclRoads; rw [List.length_map]; exact h.cnt) h.rb hr) j
      rw [show a + 30010 + 30010 * w.length = a + 30010 * (s :: w).length by rw [List.length_cons]; omega] at this
      exact this
  exact key w (intsL p.2.1) 30000 h.bb
theorem SB.col (h : SB p N) : ∀ (w : List Nat) (j : Nat), ((colB (scaledF p) w).getD j 0).natAbs ≤ 2 ^ (30000 + 30010 * w.length)
  | [], j => h.fb j
  | s :: w, j => by
    have := stI_b (s := s) (rds := turnI (sclRoads p.2.2.1)) (by unfold turnI sclRoads; rw [List.length_map, List.length_map]; exact h.cnt) (fun r hr => by
      obtain ⟨r0, h0, rfl⟩ := List.mem_map.mp hr
      exact h.rb r0 h0) (h.col w) j
    rw [show 30000 + 30010 * w.length + 30010 = 30000 + 30010 * (s :: w).length by rw [List.length_cons]; omega] at this
    exact this
theorem big_of {x : Int} {a : Nat} (h : x.natAbs ≤ 2 ^ a) (ha : a < 10000000) : Big x := by
  show x.natAbs < 2 ^ 10000000
  exact Nat.lt_of_le_of_lt h (Nat.pow_lt_pow_right (by decide) ha)
theorem all_get {l : List Int} {B : Nat} (h : ∀ j, (l.getD j 0).natAbs ≤ B) : ∀ x ∈ l, x.natAbs ≤ B := fun x hx => by
  obtain ⟨j, hj, rfl⟩ := List.getElem_of_mem hx
  have := h j
  rw [getD_lt hj] at this
  exact this
theorem SB.scl (h : SB p N) (sg : List Nat) {K : Nat} (hK : K ≤ 10) : SclB (scaledF p) sg K := by
  have h6 := h.n6
  have hl : (scaledF p).1.length = N := by
    show (intsL p.2.1).length = N
    rw [intsL_len, h.bl]
  refine ⟨⟨fun r hr => ?_, by rw [hl]; omega⟩, ?_, fun m hm _ x hx => ?_, fun m hm _ x hx => ?_⟩
  · rw [hl]
    have hr' : r ∈ sclRoads p.2.2.1 := hr
    have hb := h.rb r hr'
    obtain ⟨r0, h0, e⟩ := scl_mem hr'
    have := h.rd r0 h0
    refine ⟨by rw [e]; exact this.1, by rw [e]; exact this.2, big_of hb (by decide)⟩
  · rw [hl]
    show (intsL p.2.2.2).length = N
    rw [intsL_len, h.fl]
  · exact big_of (all_get (h.row m) x hx) (by omega)
  · exact big_of (all_get (h.col m) x hx) (by omega)
theorem SB.pow (h : SB p N) {j : Nat} (hj : j ≤ 20) : Big ((mid p : Int) ^ j) := by
  have h1 : mid p ^ j ≤ (2 ^ 30000) ^ j := Nat.pow_le_pow_left h.lm j
  rw [← Nat.pow_mul] at h1
  refine big_of (a := 30000 * j) ?_ (by omega)
  rw [Int.natAbs_pow, Int.natAbs_natCast]
  exact h1
end MB

/-! part MB16 -/
set_option exponentiation.threshold 200000 -- MB16
set_option maxHeartbeats 200000 -- MB16
set_option maxRecDepth 100000 -- MB16
/-! MB16: the messages, and the sizes of both machines. -/
namespace MB
open MA PD PL
theorem msgRow_sort {sg : List Nat} (hs : sg.Pairwise (· < ·)) : ∀ n, (msgRow sg n).Pairwise KL
  | 0 => List.pairwise_singleton _ _
  | n + 1 => by
    show (longer sg (msgRow sg n)).Pairwise KL
    unfold longer
    refine List.pairwise_flatMap.mpr ⟨fun m _ => ?_, (msgRow_sort hs n).imp fun {a b} hab x hx y hy => ?_⟩
    · exact List.pairwise_map.mpr (hs.imp fun h => kl_snoc2 m h)
    · obtain ⟨c, _, rfl⟩ := List.mem_map.mp hx
      obtain ⟨d, _, rfl⟩ := List.mem_map.mp hy
      exact kl_snoc hab c d
theorem msgRow_len (sg : List Nat) : ∀ n, (msgRow sg n).length = sg.length ^ n
  | 0 => rfl
  | n + 1 => by
    show (longer sg (msgRow sg n)).length = _
    unfold longer
    have : ∀ l : List (List Nat), (l.flatMap fun m => sg.map fun c => m ++ [c]).length = sg.length * l.length := fun l => by
      induction l with
      | nil => simp
      | cons x l ih =>
        rw [List.flatMap_cons, List.length_append, List.length_map, ih, List.length_cons, Nat.mul_add, Nat.mul_one, Nat.add_comm]
    rw [this, msgRow_len sg n, Nat.pow_succ, Nat.mul_comm]
theorem msgs_mem {sg : List Nat} {n : Nat} {w : List Nat} : w ∈ msgsF sg n ↔ w.length < n ∧ ∀ c ∈ w, c ∈ sg := by
  unfold msgsF
  rw [List.mem_flatMap]
  constructor
  · rintro ⟨k, hk, hw⟩
    obtain ⟨h1, h2⟩ := msgRow_mem hw
    exact ⟨by rw [h1]; exact List.mem_range.mp hk, h2⟩
  · rintro ⟨h1, h2⟩
    refine ⟨w.length, List.mem_range.mpr h1, ?_⟩
    have key : ∀ (n : Nat) (w : List Nat), w.length = n → (∀ c ∈ w, c ∈ sg) → w ∈ msgRow sg n := fun n => by
      induction n with
      | zero =>
        intro w hw _
        have : w = [] := List.length_eq_zero_iff.mp hw
        subst this
        exact List.mem_singleton.mpr rfl
      | succ n ih =>
        intro w hw ho
        have hne : w ≠ [] := fun z => by rw [z] at hw; cases hw
        obtain ⟨u, s, rfl⟩ : ∃ u s, w = u ++ [s] := ⟨w.dropLast, w.getLast hne, (List.dropLast_concat_getLast hne).symm⟩
        rw [List.length_append] at hw
        have hu : u.length + 1 = n + 1 := hw
        refine List.mem_flatMap.mpr ⟨u, ih u (by omega) fun c hc => ho c (by simp [hc]), List.mem_map.mpr ⟨s, ho s (by simp), rfl⟩⟩
    exact key _ w rfl h2
theorem msgs_sort {sg : List Nat} (hs : sg.Pairwise (· < ·)) (n : Nat) : (msgsF sg n).Pairwise KL := by
  unfold msgsF
  refine List.pairwise_flatMap.mpr ⟨fun k _ => msgRow_sort hs k, List.pairwise_lt_range.imp fun {a b} hab x hx y hy => ?_⟩
  have h1 := (msgRow_mem hx).1
  have h2 := (msgRow_mem hy).1
  exact kl_iff.mpr (.inl (by omega))
theorem msgs_len {sg : List Nat} (h3 : sg.length ≤ 3) {n : Nat} (hn : n ≤ 6) : (msgsF sg n).length ≤ 6 * 729 := by
  unfold msgsF
  have : ∀ l : List Nat, (∀ k ∈ l, k ≤ 6) → (l.flatMap (msgRow sg)).length ≤ l.length * 729 := fun l => by
    induction l with
    | nil => intro _; simp
    | cons k l ih =>
      intro h
      rw [List.flatMap_cons, List.length_append, msgRow_len, List.length_cons, Nat.add_mul, Nat.one_mul]
      have h1 := ih fun x hx => h x (by simp [hx])
      have h2 : sg.length ^ k ≤ 3 ^ k := Nat.pow_le_pow_left h3 k
      have h4 : 3 ^ k ≤ 3 ^ 6 := Nat.pow_le_pow_right (by decide) (h k (by simp))
      have h5 : (3 : Nat) ^ 6 = 729 := by decide
      omega
  have h1 := this (List.range n) fun k hk => by have := List.mem_range.mp hk; omega
  rw [List.length_range] at h1
  omega
theorem msgs_sz {sg : List Nat} (h3 : sg.length ≤ 3) {n : Nat} (hn : n ≤ 6) : MsgSz sg n := by
  refine ⟨by omega, by omega, fun k hk => ?_, fun k hk => ?_⟩
  · have h2 : sg.length ^ k ≤ 3 ^ k := Nat.pow_le_pow_left h3 k
    have h4 : 3 ^ k ≤ 3 ^ 6 := Nat.pow_le_pow_right (by decide) (by omega)
    have h5 : (3 : Nat) ^ 6 = 729 := by decide
    omega
  · have := msgs_len h3 (n := k) (by omega)
    omega
theorem msgs_ahead {sg : List Nat} (hs : sg.Pairwise (· < ·)) {n i : Nat} {w u : List Nat} (hi : (msgsF sg n)[i]? = some w) (hu : u ∈ msgsF sg n) (hl : u.length < w.length) : u ∈ (msgsF sg n).take i := by
  obtain ⟨j, hj⟩ := List.getElem?_of_mem hu
  have hij : j < i := by
    refine Classical.byContradiction fun z => ?_
    by_cases e : i = j
    · subst e
      rw [hi] at hj
      cases hj
      omega
    · have := pw_get (msgs_sort hs n) (show i < j by omega) hi hj
      rcases kl_iff.mp this with z | z <;> omega
  exact List.mem_of_getElem? (i := j) (by rw [List.getElem?_take_of_lt hij]; exact hj)
theorem msgs_ok {sg : List Nat} (hs : sg.Pairwise (· < ·)) (h3 : sg.length ≤ 3) {n K : Nat} (hn : n ≤ 6) (hK : n ≤ K + 1) : MsgsOk (msgsF sg n) sg K := by
  refine ⟨(msgs_sort hs n).imp fun h => kl_ne h, fun m hm => ?_, fun i m hi hne => ?_, fun i m hi hne => ?_, by have := msgs_len h3 hn; omega⟩
  · obtain ⟨h1, h2⟩ := msgs_mem.mp hm
    exact ⟨by omega, h2⟩
  · obtain ⟨h1, h2⟩ := msgs_mem.mp (List.mem_of_getElem? hi)
    have hpos := List.length_pos_iff.mpr hne
    exact .inr (msgs_ahead hs hi (msgs_mem.mpr ⟨by rw [List.length_dropLast]; omega, fun c hc => h2 c (List.dropLast_subset m hc)⟩) (by rw [List.length_dropLast]; omega))
  · obtain ⟨h1, h2⟩ := msgs_mem.mp (List.mem_of_getElem? hi)
    have hpos := List.length_pos_iff.mpr hne
    exact .inr (msgs_ahead hs hi (msgs_mem.mpr ⟨by rw [List.length_drop]; omega, fun c hc => h2 c (List.mem_of_mem_drop hc)⟩) (by rw [List.length_drop]; omega))
/-! ### sizes -/
variable {p : Parts} {N k : Nat} {f : Form}
theorem le_pow {a b : Nat} (h : a ≤ 2 ^ b) (hb : b ≤ 30000) : a ≤ 2 ^ 30000 := Nat.le_trans h (Nat.pow_le_pow_right (by decide) hb)
theorem nums_lcm {l : List Rat} (h : ∀ q ∈ l, NumB q) : lcmL l ∣ 2520 := lcm_dvd_all l 1 (Nat.one_dvd _) fun q hq => den2520 _ (h q hq).2 q.den_nz
theorem fits_of {l : List Rat} (h : ∀ q ∈ l, NumB q) : Fit 2520 12600 l := fun q hq => (h q hq).fit
theorem small_sb (h : Small (mch p) N) : SB p N := by
  have e1 : (12600 : Nat) ≤ 2 ^ 14 := by decide
  have e2 : (2520 : Nat) ≤ 2 ^ 14 := by decide
  have hm : mid p ∣ 2520 := nums_lcm fun q hq => by
    obtain ⟨r, hr, rfl⟩ := List.mem_map.mp hq
    exact h.nr r hr
  have hml := Nat.le_of_dvd (by decide) hm
  have hb := Nat.le_of_dvd (by decide) (nums_lcm h.nb)
  have hf := Nat.le_of_dvd (by decide) (nums_lcm h.nf)
  refine ⟨h.rds, h.bl, h.fl, h.n6, Nat.le_trans h.cnt (by decide), fun j => le_pow (Nat.le_trans ((fits_of h.nb).ints (by decide) j) e1) (by decide), fun j => le_pow (Nat.le_trans ((fits_of h.nf).ints (by decide) j) e1) (by decide), fun r hr => ?_, le_pow (Nat.le_trans hb e2) (by decide), le_pow (Nat.le_trans hf e2) (by decide), le_pow (Nat.le_trans hml e2) (by decide)⟩
  obtain ⟨r0, h0, rfl⟩ := scl_mem hr
  have h1 := (h.nr r0 h0).1
  show (r0.2.2.2.num * ((mid p : Nat) : Int).fdiv (r0.2.2.2.den : Int)).natAbs ≤ _
  rw [Int.natAbs_mul, Int.fdiv_eq_ediv_of_nonneg _ (by omega), ← Int.natCast_ediv, Int.natAbs_natCast]
  have h3 : mid p / r0.2.2.2.den ≤ 2520 := Nat.le_trans (Nat.div_le_self _ _) hml
  have := Nat.mul_le_mul h1 h3
  exact le_pow (Nat.le_trans this (show 5 * 2520 ≤ 2 ^ 14 by decide)) (by decide)
/-- one integer for all roads of the table -/
theorem tab_mid {m : Mach} (F : FormR m N (fcF m k) f) (hn : f.signs.Nodup) (hH : f.heads.length ≤ 6) (h3 : f.signs.length ≤ 3) : mid (asM f) ≤ 2 ^ 28044 := by
  have h1 : mid (asM f) ∣ Pr (fun j => lcmS (tabM f).roads (f.signs.getD j 0)) f.signs.length := by
    refine lcm_dvd_all _ 1 (Nat.one_dvd _) fun q hq => ?_
    obtain ⟨r, hr, rfl⟩ := List.mem_map.mp hq
    have hr' : r ∈ (tabM f).roads := hr
    obtain ⟨j, ns, row, b1, b2, b3, b4⟩ := tab_roads F.sh hr'
    have hj := (List.getElem?_eq_some_iff.mp b2).1
    have e : f.signs.getD j 0 = r.2.1 := by rw [List.getD_eq_getElem?_getD, b2]; rfl
    have h4 : r.2.2.2.den ∣ lcmS (tabM f).roads (f.signs.getD j 0) := by
      rw [e]
      exact lcmL_mem (rqs_mem hr' rfl)
    exact Nat.dvd_trans h4 (pr_dvd (O := fun j => lcmS (tabM f).roads (f.signs.getD j 0)) hj)
  have h2 := Nat.le_of_dvd (pr_pos (fun i => lcmS_pos _ _) _) h1
  have h4 := pr_le (O := fun j => lcmS (tabM f).roads (f.signs.getD j 0)) (fun i => (tab_lcm F hn hH (f.signs.getD i 0)).1) f.signs.length
  have h5 : (ON ^ 6) ^ f.signs.length ≤ (ON ^ 6) ^ 3 := Nat.pow_le_pow_right (Nat.pow_pos on_pos) h3
  have h6 : (ON ^ 6) ^ 3 ≤ (2 ^ 9348) ^ 3 := Nat.pow_le_pow_left (Nat.le_of_lt on6) 3
  rw [← Nat.pow_mul] at h6
  exact Nat.le_trans h2 (Nat.le_trans h4 (Nat.le_trans h5 h6))
theorem unit_bg : ∀ q ∈ (tabM f).bg, NumB q := fun q hq => by
  obtain ⟨k, _, rfl⟩ := List.mem_map.mp hq
  unfold unitQ
  split <;> exact ⟨by decide, by decide⟩
theorem tab_sb {m : Mach} (F : FormR m N (fcF m k) f) (h : Small m N) (C : Cols m N (fcF m k)) : SB (asM f) f.heads.length := by
  obtain ⟨d1, d2⟩ := F.dep6 h C
  have h6 := h.n6
  have hs3 : f.signs.length ≤ 3 := by rw [F.sg]; exact h.s3
  have hn : f.signs.Nodup := by rw [F.sg]; exact up_nodup h.sg.up
  have e1 : (12600 : Nat) ≤ 2 ^ 14 := by decide
  have e2 : (2520 : Nat) ≤ 2 ^ 14 := by decide
  have hfit := tab_fit F h C (w := []) (Nat.zero_le _) fun _ h => (by cases h)
  have hm := tab_mid F hn (by omega) hs3
  have hb := Nat.le_of_dvd (by decide) (nums_lcm (unit_bg (f := f)))
  have hf := Nat.le_of_dvd dn_pos hfit.lcm
  refine ⟨tab_rds F.sh, ?_, F.sh.b, by omega, tab_len F (by omega) hs3, fun j => le_pow (Nat.le_trans ((fits_of (unit_bg (f := f))).ints (by decide) j) e1) (by decide), fun j => le_pow (Nat.le_trans (hfit.ints dn_pos j) (Nat.le_of_lt an_bt)) (by decide), fun r hr => ?_, le_pow (Nat.le_trans hb e2) (by decide), le_pow (Nat.le_trans hf (Nat.le_of_lt dn_bt)) (by decide), le_pow hm (by decide)⟩
  · show ((List.range f.worths.length).map _).length = _
    rw [List.length_map, List.length_range, F.sh.b]
  · obtain ⟨r0, h0, rfl⟩ := scl_mem hr
    have h0' : r0 ∈ (tabM f).roads := h0
    have h1 := (tab_lcm F hn (by omega) r0.2.1).2 r0 h0'
    show (r0.2.2.2.num * ((mid (asM f) : Nat) : Int).fdiv (r0.2.2.2.den : Int)).natAbs ≤ _
    rw [Int.natAbs_mul, Int.fdiv_eq_ediv_of_nonneg _ (by omega), ← Int.natCast_ediv, Int.natAbs_natCast]
    have h3 : mid (asM f) / r0.2.2.2.den ≤ 2 ^ 28044 := Nat.le_trans (Nat.div_le_self _ _) hm
    have h4 := Nat.mul_le_mul (Nat.le_trans h1 (Nat.le_of_lt on_bt)) h3
    rw [← Nat.pow_add] at h4
    exact le_pow h4 (by decide)
end MB

/-! part MB17 -/
set_option exponentiation.threshold 20000000 -- MB17
set_option maxHeartbeats 200000 -- MB17
set_option maxRecDepth 100000 -- MB17
/-! MB17: the law. -/
namespace MB
open MA PD PL
section
variable {m : Mach} {N k : Nat} {f : Form}
theorem wo_shift (h : Rds m.roads N) (hb : m.bg.length = N) (hf : m.fin.length = N) : ∀ (n : Nat) (w : List Nat), w.length = n → ∀ v, Wo m w v = Wo m [] (w ++ v)
  | 0, w, hw, v => by
    have : w = [] := List.length_eq_zero_iff.mp hw
    subst this
    rfl
  | n + 1, w, hw, v => by
    have hne : w ≠ [] := fun z => by rw [z] at hw; cases hw
    obtain ⟨u, s, rfl⟩ : ∃ u s, w = u ++ [s] := ⟨w.dropLast, w.getLast hne, (List.dropLast_concat_getLast hne).symm⟩
    rw [List.length_append] at hw
    have hu : u.length + 1 = n + 1 := hw
    rw [wo_move h hb hf, wo_shift h hb hf n u (by omega), List.append_assoc]
    rfl
theorem tab_bl (F : FormR m N (fcF m k) f) : (tabM f).bg.length = f.heads.length := by
  show ((List.range f.worths.length).map _).length = _
  rw [List.length_map, List.length_range, F.sh.b]
/-- the table gives each message its worth -/
theorem tab_gives (F : FormR m N (fcF m k) f) (h : Small m N) (C : Cols m N (fcF m k)) {w : List Nat} (ho : Ov m w) : Wo (tabM f) w [] = Wo m w [] := by
  rw [wo_shift (tab_rds F.sh) (tab_bl F) F.sh.b w.length w rfl, wo_shift h.rds h.bl h.fl w.length w rfl, List.append_nil, wo_at (tab_bl F) F.sh.b]
  by_cases hH : f.heads = []
  · rw [hH]
    show (0 : Rat) = _
    refine (wo_zero h.bl h.fl C (fun c hc => ?_) ho).symm
    rw [← phi_at hc]
    exact F.z hH c hc
  · have hpos := List.length_pos_iff.mpr hH
    have hbg : ∀ l, l < f.heads.length → (rowL (tabM f) []).getD l 0 = if l = 0 then 1 else 0 := fun l hl => by
      show ((List.range f.worths.length).map fun k : Nat => unitQ (decide ((k : Int) = 0))).getD l 0 = _
      rw [getD_lt (by rw [List.length_map, List.length_range, F.sh.b]; exact hl), List.getElem_map, List.getElem_range]
      unfold unitQ
      by_cases e : l = 0
      · subst e
        rfl
      · rw [if_neg e, if_neg (by simpa using e)]
    refine (S_one hpos fun l hl hne => ?_).trans ?_
    · rw [hbg l hl, if_neg hne, Rat.zero_mul]
    · show (rowL (tabM f) []).getD 0 0 * (colL (tabM f) w).getD 0 0 = _
      rw [hbg 0 hpos, if_pos rfl, Rat.one_mul, tab_col F h.sg h.bl h.rds h.fl C w ho 0 hpos, getD_lt hpos]
      rw [F.hd0 _ (List.getElem?_eq_getElem hpos)]
end
variable {p : Parts} {N k : Nat} {f : Form}
theorem mxL_b {B : Nat} : ∀ {l : List (List Nat)}, (∀ h ∈ l, h.length ≤ B) → mxL l ≤ B
  | [], _ => Nat.zero_le _
  | h :: l, z => Nat.max_le.mpr ⟨z h (by simp), mxL_b fun g hg => z g (by simp [hg])⟩
theorem bt_of {x : Int} {a b : Nat} (h : x.natAbs ≤ 2 ^ a) (hab : a < b) : Bt b x := Nat.lt_of_le_of_lt h (Nat.pow_lt_pow_right (by decide) hab)
theorem bt_nat {x a b : Nat} (h : x ≤ 2 ^ a) (hab : a < b) : Bt b (x : Int) := bt_of (by rw [Int.natAbs_natCast]; exact h) hab
theorem SB.td (h : SB p N) {n1 n2 : Int} (h1 : Bt 25000000 n1) (h2 : Bt 40000000 n2) {w : List Nat} (hw : w.length ≤ 10) : TdOk (n1, n2) (scaledF p) (rowB (scaledF p) w) w.length := by
  have h6 := h.n6
  have hl : (rowB (scaledF p) w).length = N := by
    rw [rowB_len]
    show (intsL p.2.1).length = N
    rw [intsL_len, h.bl]
  have hc : (scaledF p).2.2.2.2.1.length = N := by
    show (intsL p.2.2.2).length = N
    rw [intsL_len, h.fl]
  exact ⟨h1, h2, bt_nat h.lb (by decide), bt_nat h.lf (by decide), bt_nat h.lm (by decide), fun j hj => h.pow (by omega), by omega, by rw [hl, hc], by omega, fun x hx => big_of (all_get (h.row w) x hx) (by omega), fun x hx => big_of (all_get h.fb x hx) (by decide)⟩
theorem told_over {t : List Rat} (h : ToldB t) : OverOk t ∧ ∀ q ∈ t, Bt 100000 q.num := by
  obtain ⟨O, h1, h2, h3⟩ := h.has
  have hb := on_bt
  refine ⟨⟨fun q hq => ?_, ?_⟩, fun q hq => ?_⟩
  · exact bt_nat (a := 1558) (Nat.le_trans (Nat.le_trans (Nat.le_of_dvd h1 (h3 q hq).1) h2) (Nat.le_of_lt hb)) (by decide)
  · exact bt_nat (a := 1558) (Nat.le_trans (Nat.le_trans (Nat.le_of_dvd h1 (lcm_dvd_all t 1 (Nat.one_dvd _) fun q hq => (h3 q hq).1)) h2) (Nat.le_of_lt hb)) (by decide)
  · exact bt_of (a := 1558) (Nat.le_trans (h3 q hq).2 (Nat.le_of_lt hb)) (by decide)
theorem num_over {t : List Rat} (h : ∀ q ∈ t, NumB q) : OverOk t ∧ ∀ q ∈ t, Bt 100000 q.num :=
  ⟨⟨fun q hq => bt_nat (a := 14) (Nat.le_trans (h q hq).2 (by decide)) (by decide), bt_nat (a := 14) (Nat.le_trans (Nat.le_of_dvd (by decide) (nums_lcm h)) (by decide)) (by decide)⟩, fun q hq => bt_of (a := 14) (Nat.le_trans (h q hq).1 (by decide)) (by decide)⟩
theorem fit_over {t : List Rat} (h : Fit DN AN t) : OverOk t ∧ ∀ q ∈ t, Bt 100000 q.num :=
  ⟨⟨fun q hq => bt_nat (a := 148) (Nat.le_trans ((h q hq).denb dn_pos) (Nat.le_of_lt dn_bt)) (by decide), bt_nat (a := 148) (Nat.le_trans (Nat.le_of_dvd dn_pos h.lcm) (Nat.le_of_lt dn_bt)) (by decide)⟩, fun q hq => bt_of (a := 231) (Nat.le_trans ((h q hq).numb dn_pos) (Nat.le_of_lt an_bt)) (by decide)⟩
theorem addS_at (g : Nat → Rat) {scl : Scaled} {hs : List (List Nat)} {ns : List Rat} {top : Nat} {col : List Int} {n : Nat} (h : ∀ i, i < n → ((addI scl hs ns top col i : Int) : Rat) = g i) : ((addS scl hs ns top col n : Int) : Rat) = S n g := by
  unfold addS
  rw [sum_S]
  exact S_congr h
theorem tabD_mem {g : List Nat → List Int} {ms : List (List Nat)} {q : List Nat × List Int} (h : q ∈ tabD g ms) : ∃ w, q.2 = g w ∧ (w = [] ∨ w ∈ ms) := by
  unfold tabD at h
  rcases List.mem_cons.mp h with rfl | h
  · exact ⟨[], rfl, .inl rfl⟩
  · obtain ⟨w, hw, rfl⟩ := List.mem_map.mp h
    exact ⟨w, rfl, .inr (List.mem_filter.mp hw).1⟩
theorem right (h : Small (mch p) N) : RightOk p N := by
  obtain ⟨k, fc, C⟩ := free_columns h.ask
  obtain ⟨n, fm, F⟩ := form_of h.askR C
  generalize hf : frm (mch p) k n = f at F
  have fe : f = frm (mch p) k n := hf.symm
  clear hf
  obtain ⟨d1, d2⟩ := F.dep6 h C
  have h6 := h.n6
  have sb := small_sb h
  have tb := tab_sb F h C
  have hsg : f.signs = p.1 := F.sg
  have hup := h.sg.up
  have hup' : p.1.Pairwise (· < ·) := hup
  have hs3 : p.1.length ≤ 3 := h.s3
  have hdl : ∀ g ∈ f.heads, g.length ≤ 5 := fun g hg => by have := d2 g hg; omega
  have hmx : mxL f.heads ≤ 5 := mxL_b hdl
  have ovs : ∀ {w : List Nat}, (∀ c ∈ w, c ∈ p.1) → Ov (mch p) w := fun h => h
  have mo : MsgsOk (msgsF p.1 N) p.1 6 := msgs_ok hup' hs3 h6 (by omega)
  have tz : TabSz f.table := ⟨by rw [F.sh.a]; omega, fun ns hns => by
    obtain ⟨q1, q2⟩ := F.sh.c ns hns
    rw [hsg] at q1
    exact ⟨by omega, fun r hr => by rw [q2 r hr]; omega⟩⟩
  have hwfit : Fit DN AN f.worths := by
    rw [F.wo]
    intro q hq
    obtain ⟨g, hg, rfl⟩ := List.mem_map.mp hq
    exact (h.dotB (w := g) (v := []) (by have := hdl g hg; omega) (Nat.zero_le _)).1
  have hentry : ∀ ns ∈ f.table, ∀ r ∈ ns, ToldB r := fun ns hns r hr => by
    obtain ⟨i, hi⟩ := List.getElem?_of_mem hns
    obtain ⟨j, hj⟩ := List.getElem?_of_mem hr
    have q1 := (F.sh.c ns hns).1
    have q2 := (List.getElem?_eq_some_iff.mp hj).1
    exact F.entry hi (List.getElem?_eq_getElem (show j < f.signs.length by omega)) hj
  refine ⟨k, n, 6, f, h.pre, fc, by rw [fe] at *; exact fm, fe, form_ok F h C, F.sh, fun g hg => F.ov g hg, d1, msgs_sz hs3 h6, mo, ⟨(num_over h.nb).1, ?_, (num_over h.nf).1, (num_over h.nb).2, ?_, (num_over h.nf).2⟩, sb.scl _ (by omega), fun g hg => by have := hdl g hg; omega, by omega, fun i g q hi hq => ?_, ?_, ?_⟩
  · exact (num_over fun q hq => by
      obtain ⟨r, hr, rfl⟩ := List.mem_map.mp hq
      exact h.nr r hr).1
  · exact (num_over fun q hq => by
      obtain ⟨r, hr, rfl⟩ := List.mem_map.mp hq
      exact h.nr r hr).2
  · -- the worths of the heads
    have hg := List.mem_of_getElem? hi
    have hq2 := List.mem_of_getElem? hq
    have e : q = Wo (mch p) g [] := by
      rw [F.wo, List.getElem?_map, hi] at hq
      exact (Option.some.inj hq).symm
    refine ⟨sb.td (bt_mono ((fit_over hwfit).2 q hq2) (by decide)) (bt_nat (a := 148) (Nat.le_trans ((hwfit q hq2).denb dn_pos) (Nat.le_of_lt dn_bt)) (by decide)) (by have := hdl g hg; omega), told_ok h.rds h.bl h.fl ?_⟩
    rw [← e]
    exact (rat_den q).symm
  · -- the table adds up
    refine ⟨F.sh, fun g hg c hc => by rw [hsg]; exact F.ov g hg c hc, sb.scl _ (by omega), fun j hj => sb.pow (by omega), bt_nat sb.lm (by decide), ⟨by omega, by omega, by rw [hsg]; omega⟩, fun ns hns r hr => told_over (hentry ns hns r hr), fun q hq => ?_, fun i j g s ns r a1 a2 a3 a4 q hq => ?_⟩
    · obtain ⟨w, e, hw⟩ := tabD_mem hq
      have hwl : w.length ≤ 6 := by
        rcases hw with rfl | hw
        · exact Nat.zero_le _
        · exact (mo.le w hw).1
      rw [e, colB_len]
      refine ⟨?_, fun x hx => big_of (all_get (sb.col w) x hx) (by omega)⟩
      show (intsL p.2.2.2).length = (intsL p.2.1).length
      rw [intsL_len, intsL_len, sb.fl, sb.bl]
    · obtain ⟨w, e, hw⟩ := tabD_mem hq
      have hwo : Ov (mch p) w := by
        rcases hw with rfl | hw
        · exact fun _ h => (by cases h)
        · exact (mo.le w hw).2
      rw [e]
      have hrl := (F.sh.c ns (List.mem_of_getElem? a2)).2 r (List.mem_of_getElem? a4)
      refine Rat.intCast_inj.mp ?_
      have hgl := hdl g (List.mem_of_getElem? a1)
      have hgm := mxL_le (List.mem_of_getElem? a1)
      have estep : stI (scaledF p).2.2.1 (rowB (scaledF p) g) s = rowB (scaledF p) (g ++ [s]) := by
        unfold rowB
        rw [List.foldl_append]
        rfl
      rw [estep, Rat.intCast_mul, Rat.intCast_mul, Rat.intCast_pow, dotB h.rds h.bl h.fl, F.adds h.bl h.fl C a1 a2 a3 a4 hwo]
      have hM : (((scaledF p).2.2.2.1 : Int) : Rat) = (mid p : Rat) := rfl
      rw [hM]
      rw [addS_at fun l => ((lcmL r : Nat) : Rat) * (lcmL p.2.1 : Rat) * (lcmL p.2.2.2 : Rat) * (mid p : Rat) ^ (1 + mxL f.heads) * (mid p : Rat) ^ w.length * (r.getD l 0 * Wo (mch p) (f.heads.getD l []) w)]
      · rw [S_mul]
        have epow : (mid p : Rat) ^ (1 + mxL f.heads) = (mid p : Rat) ^ (1 + mxL f.heads - g.length - 1) * (mid p : Rat) ^ (g ++ [s]).length := by
          have hp : ∀ a b : Nat, (mid p : Rat) ^ (a + b) = (mid p : Rat) ^ a * (mid p : Rat) ^ b := fun a b => by
            induction b with
            | zero => rw [Nat.add_zero, Rat.pow_zero, Rat.mul_one]
            | succ b ih => rw [← Nat.add_assoc, Rat.pow_succ, Rat.pow_succ, ih, Rat.mul_assoc]
          rw [← hp, List.length_append]
          congr 1
          show _ = 1 + mxL f.heads - g.length - 1 + (g.length + 1)
          omega
        rw [epow]
        have hL : (((lcmL r : Nat) : Int) : Rat) = ((lcmL r : Nat) : Rat) := rfl
        rw [hL]
        generalize (mid p : Rat) ^ (1 + mxL f.heads - g.length - 1) = z1
        generalize (mid p : Rat) ^ (g ++ [s]).length = z2
        generalize (mid p : Rat) ^ w.length = z3
        generalize S f.heads.length _ = z4
        grind
      · intro l hl
        have hgl2 : (f.heads.getD l []).length ≤ mxL f.heads := mxL_le (by rw [getD_lt hl]; exact List.getElem_mem hl)
        unfold addI
        rw [Rat.intCast_mul, Rat.intCast_mul, Rat.intCast_pow, dotB h.rds h.bl h.fl]
        have e1 : (((r.getD l 0).num * ((lcmL r : Nat) : Int).fdiv ((r.getD l 0).den : Int) : Int) : Rat) = (lcmL r : Rat) * r.getD l 0 := over_at (lcmL_mem (by rw [getD_lt (by omega)]; exact List.getElem_mem _))
        rw [e1]
        have epow : (mid p : Rat) ^ (1 + mxL f.heads) = (mid p : Rat) ^ (1 + mxL f.heads - (f.heads.getD l []).length) * (mid p : Rat) ^ (f.heads.getD l []).length := by
          have hp : ∀ a b : Nat, (mid p : Rat) ^ (a + b) = (mid p : Rat) ^ a * (mid p : Rat) ^ b := fun a b => by
            induction b with
            | zero => rw [Nat.add_zero, Rat.pow_zero, Rat.mul_one]
            | succ b ih => rw [← Nat.add_assoc, Rat.pow_succ, Rat.pow_succ, ih, Rat.mul_assoc]
          rw [← hp]
          congr 1
          omega
        rw [epow, hM]
        generalize (mid p : Rat) ^ (1 + mxL f.heads - (f.heads.getD l []).length) = z1
        generalize (mid p : Rat) ^ (f.heads.getD l []).length = z2
        generalize (mid p : Rat) ^ w.length = z3
        grind
  · -- the table gives each message its worth
    have hrn : ∀ q ∈ rdNums (asM f).2.2.1, (q.den : Nat) ≤ ON ∧ q.num.natAbs ≤ ON := fun q hq => by
      obtain ⟨r, hr, rfl⟩ := List.mem_map.mp hq
      obtain ⟨j, ns, row, b1, b2, b3, b4⟩ := tab_roads F.sh (show r ∈ (tabM f).roads from hr)
      obtain ⟨O, c1, c2, c3⟩ := (F.entry b1 b2 b3).has
      obtain ⟨x1, x2⟩ := c3 _ (List.mem_of_getElem? b4)
      exact ⟨Nat.le_trans (Nat.le_of_dvd c1 x1) c2, x2⟩
    have hob := on_bt
    have hub := num_over (unit_bg (f := f))
    have hb1 : lcmL (asM f).2.1 ≤ 2 ^ 14 := Nat.le_trans (Nat.le_of_dvd (by decide) (nums_lcm (unit_bg (f := f)))) (by decide)
    have hwl2 : lcmL (asM f).2.2.2 ≤ 2 ^ 148 := Nat.le_trans (Nat.le_of_dvd dn_pos hwfit.lcm) (Nat.le_of_lt dn_bt)
    refine ⟨F.sh, tz, by rw [hsg]; omega, ⟨hub.1, ⟨fun q hq => bt_nat (a := 1558) (Nat.le_trans (hrn q hq).1 (Nat.le_of_lt hob)) (by decide), bt_nat tb.lm (by decide)⟩, (fit_over hwfit).1, hub.2, fun q hq => bt_of (a := 1558) (Nat.le_trans (hrn q hq).2 (Nat.le_of_lt hob)) (by decide), (fit_over hwfit).2⟩, ⟨6, sb.scl _ (by omega), tb.scl _ (by omega), by rw [hsg]; exact mo, by decide⟩, ⟨bt_nat tb.lb (by decide), bt_nat tb.lf (by decide), bt_nat tb.lm (by decide), fun x hx => big_of (all_get tb.fb x hx) (by decide), fun w hw j hj => tb.pow (by have := (mo.le w hw).1; omega)⟩, fun w hw => ?_, fun w hw => ?_⟩
    · have hwl := (mo.le w hw).1
      refine sb.td ?_ ?_ (by omega)
      · have q1 : (dotI (rowB (scaledF (asM f)) w) (intsL f.worths)).natAbs ≤ 2 ^ 1000000 := by
          have key : ∀ n : Nat, n ≤ 6 → ((((List.range n).map fun k => (rowB (scaledF (asM f)) w).getD k 0 * (intsL f.worths).getD k 0).sum : Int)).natAbs ≤ n * (2 ^ (30000 + 30010 * w.length) * 2 ^ 30000) := fun n => by
            induction n with
            | zero => intro _; simp
            | succ n ih =>
              intro hn
              rw [List.range_succ, List.map_append, List.map_singleton, sum_snoc, Nat.add_mul, Nat.one_mul]
              have q3 := ih (by omega)
              have q4 := Int.natAbs_add_le (((List.range n).map fun k => (rowB (scaledF (asM f)) w).getD k 0 * (intsL f.worths).getD k 0).sum) ((rowB (scaledF (asM f)) w).getD n 0 * (intsL f.worths).getD n 0)
              have q5 : ((rowB (scaledF (asM f)) w).getD n 0 * (intsL f.worths).getD n 0).natAbs ≤ 2 ^ (30000 + 30010 * w.length) * 2 ^ 30000 := by
                rw [Int.natAbs_mul]
                exact Nat.mul_le_mul (tb.row w n) (tb.fb n)
              omega
          have hlen : (rowB (scaledF (asM f)) w).length ≤ 6 := by
            rw [rowB_len]
            show (intsL (asM f).2.1).length ≤ 6
            rw [intsL_len, tb.bl]
            omega
          have q6 := key _ hlen
          have q7 : (rowB (scaledF (asM f)) w).length * (2 ^ (30000 + 30010 * w.length) * 2 ^ 30000) ≤ 2 ^ 3 * (2 ^ (30000 + 30010 * w.length) * 2 ^ 30000) := Nat.mul_le_mul_right _ (Nat.le_trans hlen (by decide))
          rw [← Nat.pow_add, ← Nat.pow_add] at q7
          have q8 : (2 : Nat) ^ (3 + (30000 + 30010 * w.length + 30000)) ≤ 2 ^ 1000000 := Nat.pow_le_pow_right (by decide) (by omega)
          rw [← Nat.pow_add] at q6
          exact Nat.le_trans q6 (Nat.le_trans q7 q8)
        exact bt_of q1 (by decide)
      · have q1 : ((lcmL (asM f).2.1 : Int) * (lcmL (asM f).2.2.2 : Int) * (lcmL (rdNums (asM f).2.2.1) : Int) ^ w.length).natAbs ≤ 2 ^ 14 * 2 ^ 148 * (2 ^ 30000) ^ w.length := by
          rw [Int.natAbs_mul, Int.natAbs_mul, Int.natAbs_natCast, Int.natAbs_natCast, Int.natAbs_pow, Int.natAbs_natCast]
          exact Nat.mul_le_mul (Nat.mul_le_mul hb1 hwl2) (Nat.pow_le_pow_left tb.lm _)
        rw [← Nat.pow_mul, ← Nat.pow_add, ← Nat.pow_add] at q1
        exact bt_of q1 (by omega)
    · have hwo := (mo.le w hw).2
      refine told_ok h.rds h.bl h.fl ?_
      have e := dotB (p := asM f) (N := f.heads.length) (tab_rds F.sh) (tab_bl F) F.sh.b w []
      have e0 : colB (scaledF (asM f)) [] = intsL f.worths := rfl
      have e1 : Wo (mch (asM f)) w [] = Wo (mch p) w [] := tab_gives F h C hwo
      rw [e0, List.length_nil, Rat.pow_zero, Rat.mul_one, e1] at e
      rw [e, Rat.intCast_mul, Rat.intCast_mul, Rat.intCast_pow]
      rfl
end MB

/-! part PE11 -/
set_option exponentiation.threshold 256 -- PE11
set_option maxHeartbeats 1000000 -- PE11
set_option maxRecDepth 100000 -- PE11
/-! PE11: law. -/
namespace TL
open PySem PySem.Spec PyProof.Rows L2 MA
section
variable {X : Cx} {a e : Expr} {pos : Pos} {Γ : List Sl} {P : Bool → List Sl → Prop}
theorem eet_not (h : EET X a Γ (fun k Γ' => P (!k) Γ')) : EET X (.UnaryOp .Not a pos) Γ P := fun σ F H w Q q => PT.wp (pt_not pt_wp) (h σ F H w _ fun k F1 H1 Γ1 s1 z => q _ F1 H1 Γ1 s1 z)
theorem eet_val (h : EE X e Γ (fun s Γ' => ∃ k, s = sB k ∧ P k Γ')) (he : ∀ whole, isTrue e X.env whole = (do let v ← whole; standAt e.pos; holding [v] (truthy v)) := by intro _; rfl) : EET X e Γ P := fun σ F H w Q q =>
  PT.wp (pt_val pe_wp he) (h σ F H w _ fun v F1 H1 sl Γ1 s1 r hf ⟨k, es, hP⟩ => by
    subst es
    exact ⟨k, sat_dat r, q k F1 H1 Γ1 s1 hP⟩)
end
end TL
namespace PL
open PySem PySem.Spec L2 TL KHd MA PD
variable {w : World} {K : PySem.W.Frag} {mg : Str → Option Value} {base : Heap}
theorem parts_right {sg : List Nat} {many : Nat} {p : Parts} (h : PartsOk sg many p) (hsg : GoodSg sg) (h3 : sg.length ≤ 3) (hm : many ≤ 6) : RightOk p many := by
  have e := h.sgn
  exact MB.right ⟨by show GoodSg p.1; rw [e]; exact hsg, by show p.1.length ≤ 3; rw [e]; exact h3, h.bl, h.fl, hm, fun r hr => by
    obtain ⟨q1, q2, q3, _⟩ := h.rd r hr
    exact ⟨q1, by show r.2.1 ∈ p.1; rw [e]; exact q2, q3⟩, h.cnt, h.nb, fun r hr => (h.rd r hr).2.2.2, h.nf⟩
abbrev nLw : List Str := ["_law_script", "_law_deck_here", "_law_turn", "_law_signs_here", "_law_many"]
theorem sc_lw : FnScope nLw ["_law_script"] (defScope s_law) := ⟨rfl, rfl, rfl, by decide +kernel, rfl, by decide +kernel, by decide +kernel⟩
def tb_lw (K : PySem.W.Frag) : List Sl → (Sl → List Sl → Prop) → Prop := fun args post => ∃ ns : List Int, args = [.dat (RScr K) ns] ∧ ns.length ≤ 63 ∧ post = fun sl _ => sl = sB true
theorem four_b {k : Nat} (h : (k : Int) < 4) : ∃ x : Int, atI [8, 4, 3, 10] (k : Int) = some x ∧ 3 ≤ x ∧ x ≤ 10 := by
  have : k = 0 ∨ k = 1 ∨ k = 2 ∨ k = 3 := by omega
  rcases this with rfl | rfl | rfl | rfl
  · exact ⟨8, atI_0, by decide, by decide⟩
  · exact ⟨4, atI_1, by decide, by decide⟩
  · exact ⟨3, atI_2, by decide, by decide⟩
  · exact ⟨10, atI_3, by decide, by decide⟩
theorem run_law (T : TX K mg) {fd : FuncData} (F : FunD K "law" "law" (defArgs s_law) (defBody s_law) (defScope s_law) [] [] (He.ga K "law") fd) : FnOk Pg w K mg base CX0 12 (He.ga K "law") fd ["_law_script"] (spG (tb_lw K)) := by
  refine fn_eff (N := nLw) F sc_lw ?_ ?_
  · rintro args res ⟨_, rfl, _⟩
    rfl
  · rintro cdv A outer s H E args res hr ⟨ns, rfl, hl, rfl⟩
    have hN := sc_lw.nd
    show RS _ _ _ _ [.dat (RScr K) ns, .any, .any, .any, .any] _
    refine rs_cons (r1_setN 1 (en_callG (ok_deck T) (hr.mono (by decide)) (ea_cons (ex_var 0 rfl) ea_nil) ⟨ns, rfl, hl, rfl⟩ rfl (fun s _ h => h)) ?_)
    rintro _ ⟨D, G, hd, rfl⟩
    show RS _ _ _ _ [.dat (RScr K) ns, .own (dkO D G hd 0), .any, .any, .any] _
    refine rs_cons (r1_for (it_range (n := 3) ex_int (by decide) rfl T.f_range) (fun i Γ => i ≤ 3 ∧ Γ = [.dat (RScr K) ns, .own (dkO D G hd (308 * i)), .any, .any, .any]) ⟨by decide, rfl⟩ ?_ ?_)
    · rintro i ii _ hi ⟨h3, rfl⟩
      obtain ⟨rfl, hil⟩ := range_get hi
      refine ⟨_, _, gt_name 2, fun _ h => h, ?_⟩
      show RS _ _ _ _ [.dat (RScr K) ns, .own (dkO D G hd (308 * ii)), .dat RNat ii, .any, .any] _
      refine rs_cons (r1_setE 3 (ee_callD 1 (ok_signs T) (hr.mono (by decide)) rfl (eea_nil ⟨_, _, rfl, rfl, ⟨D, G, hd, 308 * ii, rfl, by omega, rfl⟩, ?_⟩)))
      rintro _ Γc ⟨⟨sg, hsg, hs1, hs3, rfl⟩, h0⟩
      refine ⟨_, h0, rfl, rfl, rfl, rfl, ?_⟩
      show RS _ _ _ _ [.dat (RScr K) ns, .own (dkO D G hd (308 * ii + 4)), .dat RNat ii, .dat RTx sg, .any] _
      refine rs_cons (r1_setE 4 (ee_callD 1 (ok_size T) (hr.mono (by decide)) rfl (eea_cons (ee_exP (ex_var 3 rfl) ⟨rfl, eea_nil ⟨_, _, rfl, rfl, ⟨D, G, hd, 308 * ii + 4, sg, rfl, hs1, hs3, by omega, rfl⟩, ?_⟩⟩))))
      rintro _ Γc ⟨⟨many, hm, rfl⟩, h0⟩
      refine ⟨_, h0, rfl, rfl, rfl, rfl, ?_⟩
      show RS _ _ _ _ [.dat (RScr K) ns, .own (dkO D G hd (308 * ii + 6)), .dat RNat ii, .dat RTx sg, sI many] _
      refine rs_one (r1_ifE (eet_not (eet_val (ee_call (ok_is_right T) hr (eea_cons (ee_callD 1 (ok_some_machine T) (hr.mono (by decide)) rfl (eea_cons (ee_exP (ex_var 3 rfl) ⟨rfl, eea_cons (ee_exP (ex_var 4 rfl) ⟨rfl, eea_cons (ee_ix (R := RInt) (l := [8, 4, 3, 10]) (ex_lstA (l := [8, 4, 3, 10]) (ea_cons ex_int (ea_cons ex_int (ea_cons ex_int (ea_cons ex_int ea_nil))))) (ee_drawI (n := 308 * ii + 6) 1 T (hr.mono (by decide)) rfl ex_int (by decide) (by decide) (by omega) fun k hk => ?_)) ⟩)⟩))))))))
      obtain ⟨x, hx, hx0, hx1⟩ := four_b hk
      refine ⟨k, x, rfl, hx, rfl, eea_nil ⟨_, _, rfl, rfl, ⟨D, G, hd, 308 * ii + 7, sg, many, x, rfl, hsg, hs3, hm, hx0, hx1, by omega, rfl⟩, ?_⟩⟩
      rintro sl Γc ⟨⟨p, hp, rfl⟩, h0⟩
      refine ⟨_, h0, rfl, rfl, rfl, rfl, eea_cons (ee_exP (ex_var 4 rfl) ⟨rfl, eea_nil ⟨sB true, ⟨p, many, rfl, parts_right hp hsg hs3 hm, rfl⟩, rfl, true, rfl, fun h => (by cases h), fun _ => ?_⟩⟩)⟩
      show RS _ _ _ _ [.dat (RScr K) ns, .own (dkO D G hd (308 * ii + 308)), .dat RNat ii, .dat RTx sg, sI many] _
      refine rs_up (308 * (ii + 1)) (k := 1) rfl (by omega) (rs_nil ?_)
      exact ⟨_, .same (.same (.any (.any (.any .nil)))), by omega, rfl⟩
    · rintro _ ⟨_, rfl⟩
      exact rs_one (r1_ret ex_bl rfl)
/-- the law keeps its promise -/
theorem ok_law (T : TX K mg) {fd : FuncData} (F : FunD K "law" "law" (defArgs s_law) (defBody s_law) (defScope s_law) [] [] (He.ga K "law") fd) :
   FnOk Pg w K mg base CX0 20 (He.ga K "law") fd ["_law_script"] (fun vs H Q _ => ∃ (a : Addr) (ns : List Int), vs = [.ref a] ∧ SqL K H a (ns.map V.int) ∧ ns.length ≤ 63 ∧ ∀ H', Q (.bl true) H') := by
  refine ((run_law T F).mono (by decide)).imp fun vs H Q E h => ?_
  obtain ⟨a, ns, rfl, hs, hl, q⟩ := h
  refine ⟨H, [.dat (RScr K) ns], _, ⟨ns, rfl, hl, rfl⟩, ⟨Same.refl _, ⟨dat_sat (R := RScr K) (x := ns) ⟨a, rfl, hs, hl⟩, trivial⟩, List.nodup_nil⟩, fun v F' H' sl Γ' σ' _ _ r _ e => ?_⟩
  subst e
  have e2 : v = .bl true := sat_dat r
  rw [e2]
  exact q H'
end PL

/-! part KEnd -/
set_option exponentiation.threshold 256 -- KEnd
set_option maxHeartbeats 0 -- KEnd
set_option maxRecDepth 100000 -- KEnd
namespace KHd
open PySem PySem.Spec PyProof.Rows L2
def spLaw (K : PySem.W.Frag) : Sp := fun vs H Q _ => ∃ (a : Addr) (ns : List Int), vs = [.ref a] ∧ SqL K H a (ns.map V.int) ∧ ns.length ≤ 63 ∧ ∀ H', Q (.bl true) H'
theorem ok_law {w : World} {K : PySem.W.Frag} {mg : Str → Option Value} {base : Heap} {fd : FuncData} (T : TX K mg) (F : FunD K "law" "law" (defArgs s_law) (defBody s_law) (defScope s_law) [] [] (He.ga K "law") fd) :
   FnOk Pg w K mg base CX0 20 (He.ga K "law") fd ["_law_script"] (spLaw K) := PL.ok_law T F
end KHd
open PySem PySem.W PySem.Calls PyProof.Rows
theorem PySem.Challenge.cw_textworths_k09_whole_tables_add_up_holds : PySem.Challenge.rw_textworths_k09_whole_tables_add_up.Holds :=
by
  w_on; o_law
  refine HandSHeadRun.head_imp (r := OpenLaw.row PySem.Challenge.rw_textworths_k09_whole_tables_add_up) (q := KHd.qv) (H := KHd.hk) (ob := KHd.ob) (M := 20000) (loose := KHd.loose) (d := HandSHeadRun.topDef (OpenLaw.row PySem.Challenge.rw_textworths_k09_whole_tables_add_up).prog 70) (kwd := []) KHd.ob_eq
    KHd.run (by kernel_rfl) (by kernel_rfl) (by kernel_rfl) (by rfl) (by first | assumption | decide +kernel) (by decide +kernel) ⟨rfl, rfl, rfl, rfl, rfl, by decide +kernel⟩ ?hw ?hc
  case hw => w_witness2
  case hc =>
    refine L2.walk_ofE (l := PySem.Challenge.rw_textworths_k09_whole_tables_add_up) (n := 63) (k := 20) (x := "_law_script") (CX := L2.CX0) rfl (by decide) (by kernel_rfl) ⟨rfl, by decide, by decide⟩ ?F (fun _ _ _ _ z => z)
    intro w mg fa h Y G hmg0
    obtain ⟨K, KX, c⟩ := Y
    have hmg : mg ("law" : PySem.Str) = some (.ref fa) := by
      have e : (HandSHeadRun.topDef (OpenLaw.row PySem.Challenge.rw_textworths_k09_whole_tables_add_up).prog 70).name = ("law" : PySem.Str) := by kernel_rfl
      rw [← e]
      exact hmg0
    have T : KHd.TX K mg := ⟨⟨h, KX, G⟩, c⟩
    obtain ⟨fd, F⟩ := T.u_law
    have e := hmg.symm.trans T.g_law
    cases e
    have b := L2.FunD.bindsA (ps := ["_law_script"]) F fun _ _ _ _ _ _ us hl => match us, hl with | [_], _ => rfl
    exact ⟨K, fd, KHd.spLaw K, KX, fun s v => b s [v] rfl, fun H a ns hl _ hS => ⟨a, ns, rfl, hS, hl, fun _ => rfl⟩, fun base _ _ => KHd.ok_law T F⟩

