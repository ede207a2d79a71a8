import PyProof.Rows.All
import Wide.All
import OpenK.AllK
import Wide.FinOn
import PySem.Challenge.RW_no0007_01
set_option Elab.async false
set_option linter.all false
noncomputable section
open PySem PySem.W PyProof.Rows
namespace Tab
set_option maxRecDepth 100000
set_option maxHeartbeats 8000000
def Lit {α : Type} (x : α) := { y : α // x = y }
noncomputable def topSt (i : Nat) : Option Stmt := PySem.Challenge.pw_no0007_01.main.body[i]?
def innerSt (j : Nat) : Option Stmt → Option Stmt
  | some (.ClassDef _ _ _ b _ _ _ _ _ _ _) => b[j]?
  | _ => none
def mkFd (q m : Str) (k : Nat) (c : Addr) : Option Stmt → FuncData
  | some (.FunctionDef n a b _ _ _ sc _ _ _) => ⟨n, q, a, .stmts b, sc, 3, [], .none, .none, .none, .str m k, none, .ref c, .none, 0⟩
  | _ => default
noncomputable def xd59 : Lit (mkFd (Str.ofString "gcd_of") (Str.ofString "minismt.ratios") 234 58 (topSt 6)) := by
  refine ⟨?y, ?h⟩
  case h => (conv => lhs; whnf)
noncomputable abbrev fd59 : FuncData := ⟨Str.ofString "gcd_of", Str.ofString "gcd_of", xd59.1.params, xd59.1.body, xd59.1.scope, 3, [], .none, .none, .none, .str (Str.ofString "minismt.ratios") 234, none, .ref 58, .none, 0⟩
noncomputable def xd66 : Lit (mkFd (Str.ofString "ratio") (Str.ofString "minismt.ratios") 234 65 (topSt 7)) := by
  refine ⟨?y, ?h⟩
  case h => (conv => lhs; whnf)
noncomputable abbrev fd66 : FuncData := ⟨Str.ofString "ratio", Str.ofString "ratio", xd66.1.params, xd66.1.body, xd66.1.scope, 3, [], .none, .none, .none, .str (Str.ofString "minismt.ratios") 234, none, .ref 65, .none, 0⟩
noncomputable def xd73 : Lit (mkFd (Str.ofString "add") (Str.ofString "minismt.ratios") 234 72 (topSt 8)) := by
  refine ⟨?y, ?h⟩
  case h => (conv => lhs; whnf)
noncomputable abbrev fd73 : FuncData := ⟨Str.ofString "add", Str.ofString "add", xd73.1.params, xd73.1.body, xd73.1.scope, 3, [], .none, .none, .none, .str (Str.ofString "minismt.ratios") 234, none, .ref 72, .none, 0⟩
noncomputable def xd80 : Lit (mkFd (Str.ofString "neg") (Str.ofString "minismt.ratios") 234 79 (topSt 9)) := by
  refine ⟨?y, ?h⟩
  case h => (conv => lhs; whnf)
noncomputable abbrev fd80 : FuncData := ⟨Str.ofString "neg", Str.ofString "neg", xd80.1.params, xd80.1.body, xd80.1.scope, 3, [], .none, .none, .none, .str (Str.ofString "minismt.ratios") 234, none, .ref 79, .none, 0⟩
noncomputable def xd87 : Lit (mkFd (Str.ofString "sub") (Str.ofString "minismt.ratios") 234 86 (topSt 10)) := by
  refine ⟨?y, ?h⟩
  case h => (conv => lhs; whnf)
noncomputable abbrev fd87 : FuncData := ⟨Str.ofString "sub", Str.ofString "sub", xd87.1.params, xd87.1.body, xd87.1.scope, 3, [], .none, .none, .none, .str (Str.ofString "minismt.ratios") 234, none, .ref 86, .none, 0⟩
noncomputable def xd94 : Lit (mkFd (Str.ofString "mul") (Str.ofString "minismt.ratios") 234 93 (topSt 11)) := by
  refine ⟨?y, ?h⟩
  case h => (conv => lhs; whnf)
noncomputable abbrev fd94 : FuncData := ⟨Str.ofString "mul", Str.ofString "mul", xd94.1.params, xd94.1.body, xd94.1.scope, 3, [], .none, .none, .none, .str (Str.ofString "minismt.ratios") 234, none, .ref 93, .none, 0⟩
noncomputable def xd101 : Lit (mkFd (Str.ofString "div") (Str.ofString "minismt.ratios") 234 100 (topSt 12)) := by
  refine ⟨?y, ?h⟩
  case h => (conv => lhs; whnf)
noncomputable abbrev fd101 : FuncData := ⟨Str.ofString "div", Str.ofString "div", xd101.1.params, xd101.1.body, xd101.1.scope, 3, [], .none, .none, .none, .str (Str.ofString "minismt.ratios") 234, none, .ref 100, .none, 0⟩
noncomputable def xd108 : Lit (mkFd (Str.ofString "d_add") (Str.ofString "minismt.ratios") 234 107 (topSt 13)) := by
  refine ⟨?y, ?h⟩
  case h => (conv => lhs; whnf)
noncomputable abbrev fd108 : FuncData := ⟨Str.ofString "d_add", Str.ofString "d_add", xd108.1.params, xd108.1.body, xd108.1.scope, 3, [], .none, .none, .none, .str (Str.ofString "minismt.ratios") 234, none, .ref 107, .none, 0⟩
noncomputable def xd115 : Lit (mkFd (Str.ofString "d_sub") (Str.ofString "minismt.ratios") 234 114 (topSt 14)) := by
  refine ⟨?y, ?h⟩
  case h => (conv => lhs; whnf)
noncomputable abbrev fd115 : FuncData := ⟨Str.ofString "d_sub", Str.ofString "d_sub", xd115.1.params, xd115.1.body, xd115.1.scope, 3, [], .none, .none, .none, .str (Str.ofString "minismt.ratios") 234, none, .ref 114, .none, 0⟩
noncomputable def xd122 : Lit (mkFd (Str.ofString "d_scale") (Str.ofString "minismt.ratios") 234 121 (topSt 15)) := by
  refine ⟨?y, ?h⟩
  case h => (conv => lhs; whnf)
noncomputable abbrev fd122 : FuncData := ⟨Str.ofString "d_scale", Str.ofString "d_scale", xd122.1.params, xd122.1.body, xd122.1.scope, 3, [], .none, .none, .none, .str (Str.ofString "minismt.ratios") 234, none, .ref 121, .none, 0⟩
noncomputable def xd137 : Lit (mkFd (Str.ofString "Tableau.__init__") (Str.ofString "minismt.simplex") 322 136 (innerSt 0 (topSt 18))) := by
  refine ⟨?y, ?h⟩
  case h => (conv => lhs; whnf)
noncomputable abbrev fd137 : FuncData := ⟨Str.ofString "__init__", Str.ofString "Tableau.__init__", xd137.1.params, xd137.1.body, xd137.1.scope, 3, [], .none, .none, .none, .str (Str.ofString "minismt.simplex") 322, none, .ref 136, .none, 0⟩
noncomputable def xd144 : Lit (mkFd (Str.ofString "Tableau.new_column") (Str.ofString "minismt.simplex") 322 143 (innerSt 1 (topSt 18))) := by
  refine ⟨?y, ?h⟩
  case h => (conv => lhs; whnf)
noncomputable abbrev fd144 : FuncData := ⟨Str.ofString "new_column", Str.ofString "Tableau.new_column", xd144.1.params, xd144.1.body, xd144.1.scope, 3, [], .none, .none, .none, .str (Str.ofString "minismt.simplex") 322, none, .ref 143, .none, 0⟩
noncomputable def xd151 : Lit (mkFd (Str.ofString "Tableau.is_basic") (Str.ofString "minismt.simplex") 322 150 (innerSt 2 (topSt 18))) := by
  refine ⟨?y, ?h⟩
  case h => (conv => lhs; whnf)
noncomputable abbrev fd151 : FuncData := ⟨Str.ofString "is_basic", Str.ofString "Tableau.is_basic", xd151.1.params, xd151.1.body, xd151.1.scope, 3, [], .none, .none, .none, .str (Str.ofString "minismt.simplex") 322, none, .ref 150, .none, 0⟩
noncomputable def xd158 : Lit (mkFd (Str.ofString "Tableau.value") (Str.ofString "minismt.simplex") 322 157 (innerSt 3 (topSt 18))) := by
  refine ⟨?y, ?h⟩
  case h => (conv => lhs; whnf)
noncomputable abbrev fd158 : FuncData := ⟨Str.ofString "value", Str.ofString "Tableau.value", xd158.1.params, xd158.1.body, xd158.1.scope, 3, [], .none, .none, .none, .str (Str.ofString "minismt.simplex") 322, none, .ref 157, .none, 0⟩
noncomputable def xd163 : Lit (mkFd (Str.ofString "Tableau.row") (Str.ofString "minismt.simplex") 322 162 (innerSt 4 (topSt 18))) := by
  refine ⟨?y, ?h⟩
  case h => (conv => lhs; whnf)
noncomputable abbrev fd163 : FuncData := ⟨Str.ofString "row", Str.ofString "Tableau.row", xd163.1.params, xd163.1.body, xd163.1.scope, 3, [], .none, .none, .none, .str (Str.ofString "minismt.simplex") 322, none, .ref 162, .none, 0⟩
noncomputable def xd170 : Lit (mkFd (Str.ofString "Tableau.basics") (Str.ofString "minismt.simplex") 322 169 (innerSt 5 (topSt 18))) := by
  refine ⟨?y, ?h⟩
  case h => (conv => lhs; whnf)
noncomputable abbrev fd170 : FuncData := ⟨Str.ofString "basics", Str.ofString "Tableau.basics", xd170.1.params, xd170.1.body, xd170.1.scope, 3, [], .none, .none, .none, .str (Str.ofString "minismt.simplex") 322, none, .ref 169, .none, 0⟩
noncomputable def xd175 : Lit (mkFd (Str.ofString "Tableau.basics_with") (Str.ofString "minismt.simplex") 322 174 (innerSt 6 (topSt 18))) := by
  refine ⟨?y, ?h⟩
  case h => (conv => lhs; whnf)
noncomputable abbrev fd175 : FuncData := ⟨Str.ofString "basics_with", Str.ofString "Tableau.basics_with", xd175.1.params, xd175.1.body, xd175.1.scope, 3, [], .none, .none, .none, .str (Str.ofString "minismt.simplex") 322, none, .ref 174, .none, 0⟩
noncomputable def xd182 : Lit (mkFd (Str.ofString "Tableau.add_entry") (Str.ofString "minismt.simplex") 322 181 (innerSt 7 (topSt 18))) := by
  refine ⟨?y, ?h⟩
  case h => (conv => lhs; whnf)
noncomputable abbrev fd182 : FuncData := ⟨Str.ofString "add_entry", Str.ofString "Tableau.add_entry", xd182.1.params, xd182.1.body, xd182.1.scope, 3, [], .none, .none, .none, .str (Str.ofString "minismt.simplex") 322, none, .ref 181, .none, 0⟩
noncomputable def xd189 : Lit (mkFd (Str.ofString "Tableau.add_multiple") (Str.ofString "minismt.simplex") 322 188 (innerSt 8 (topSt 18))) := by
  refine ⟨?y, ?h⟩
  case h => (conv => lhs; whnf)
noncomputable abbrev fd189 : FuncData := ⟨Str.ofString "add_multiple", Str.ofString "Tableau.add_multiple", xd189.1.params, xd189.1.body, xd189.1.scope, 3, [], .none, .none, .none, .str (Str.ofString "minismt.simplex") 322, none, .ref 188, .none, 0⟩
noncomputable def xd196 : Lit (mkFd (Str.ofString "Tableau.sum_of") (Str.ofString "minismt.simplex") 322 195 (innerSt 9 (topSt 18))) := by
  refine ⟨?y, ?h⟩
  case h => (conv => lhs; whnf)
noncomputable abbrev fd196 : FuncData := ⟨Str.ofString "sum_of", Str.ofString "Tableau.sum_of", xd196.1.params, xd196.1.body, xd196.1.scope, 3, [], .none, .none, .none, .str (Str.ofString "minismt.simplex") 322, none, .ref 195, .none, 0⟩
noncomputable def xd203 : Lit (mkFd (Str.ofString "Tableau.add_row") (Str.ofString "minismt.simplex") 322 202 (innerSt 10 (topSt 18))) := by
  refine ⟨?y, ?h⟩
  case h => (conv => lhs; whnf)
noncomputable abbrev fd203 : FuncData := ⟨Str.ofString "add_row", Str.ofString "Tableau.add_row", xd203.1.params, xd203.1.body, xd203.1.scope, 3, [], .none, .none, .none, .str (Str.ofString "minismt.simplex") 322, none, .ref 202, .none, 0⟩
noncomputable def xd210 : Lit (mkFd (Str.ofString "Tableau.turned") (Str.ofString "minismt.simplex") 322 209 (innerSt 11 (topSt 18))) := by
  refine ⟨?y, ?h⟩
  case h => (conv => lhs; whnf)
noncomputable abbrev fd210 : FuncData := ⟨Str.ofString "turned", Str.ofString "Tableau.turned", xd210.1.params, xd210.1.body, xd210.1.scope, 3, [], .none, .none, .none, .str (Str.ofString "minismt.simplex") 322, none, .ref 209, .none, 0⟩
noncomputable def xd217 : Lit (mkFd (Str.ofString "Tableau.pivot") (Str.ofString "minismt.simplex") 322 216 (innerSt 12 (topSt 18))) := by
  refine ⟨?y, ?h⟩
  case h => (conv => lhs; whnf)
noncomputable abbrev fd217 : FuncData := ⟨Str.ofString "pivot", Str.ofString "Tableau.pivot", xd217.1.params, xd217.1.body, xd217.1.scope, 3, [], .none, .none, .none, .str (Str.ofString "minismt.simplex") 322, none, .ref 216, .none, 0⟩
noncomputable def xd224 : Lit (mkFd (Str.ofString "Tableau.shift") (Str.ofString "minismt.simplex") 322 223 (innerSt 13 (topSt 18))) := by
  refine ⟨?y, ?h⟩
  case h => (conv => lhs; whnf)
noncomputable abbrev fd224 : FuncData := ⟨Str.ofString "shift", Str.ofString "Tableau.shift", xd224.1.params, xd224.1.body, xd224.1.scope, 3, [], .none, .none, .none, .str (Str.ofString "minismt.simplex") 322, none, .ref 223, .none, 0⟩
noncomputable def xd231 : Lit (mkFd (Str.ofString "Tableau.update") (Str.ofString "minismt.simplex") 322 230 (innerSt 14 (topSt 18))) := by
  refine ⟨?y, ?h⟩
  case h => (conv => lhs; whnf)
noncomputable abbrev fd231 : FuncData := ⟨Str.ofString "update", Str.ofString "Tableau.update", xd231.1.params, xd231.1.body, xd231.1.scope, 3, [], .none, .none, .none, .str (Str.ofString "minismt.simplex") 322, none, .ref 230, .none, 0⟩
noncomputable def xd238 : Lit (mkFd (Str.ofString "Tableau.pivot_and_update") (Str.ofString "minismt.simplex") 322 237 (innerSt 15 (topSt 18))) := by
  refine ⟨?y, ?h⟩
  case h => (conv => lhs; whnf)
noncomputable abbrev fd238 : FuncData := ⟨Str.ofString "pivot_and_update", Str.ofString "Tableau.pivot_and_update", xd238.1.params, xd238.1.body, xd238.1.scope, 3, [], .none, .none, .none, .str (Str.ofString "minismt.simplex") 322, none, .ref 237, .none, 0⟩
noncomputable def xd252 : Lit (mkFd (Str.ofString "_law_lowest") (Str.ofString "law_no0007_01") 496 251 (topSt 20)) := by
  refine ⟨?y, ?h⟩
  case h => (conv => lhs; whnf)
noncomputable abbrev fd252 : FuncData := ⟨Str.ofString "_law_lowest", Str.ofString "_law_lowest", xd252.1.params, xd252.1.body, xd252.1.scope, 3, [], .none, .none, .none, .str (Str.ofString "law_no0007_01") 496, none, .ref 251, .none, 0⟩
noncomputable def xd259 : Lit (mkFd (Str.ofString "_law_plus") (Str.ofString "law_no0007_01") 496 258 (topSt 21)) := by
  refine ⟨?y, ?h⟩
  case h => (conv => lhs; whnf)
noncomputable abbrev fd259 : FuncData := ⟨Str.ofString "_law_plus", Str.ofString "_law_plus", xd259.1.params, xd259.1.body, xd259.1.scope, 3, [], .none, .none, .none, .str (Str.ofString "law_no0007_01") 496, none, .ref 258, .none, 0⟩
noncomputable def xd266 : Lit (mkFd (Str.ofString "_law_times") (Str.ofString "law_no0007_01") 496 265 (topSt 22)) := by
  refine ⟨?y, ?h⟩
  case h => (conv => lhs; whnf)
noncomputable abbrev fd266 : FuncData := ⟨Str.ofString "_law_times", Str.ofString "_law_times", xd266.1.params, xd266.1.body, xd266.1.scope, 3, [], .none, .none, .none, .str (Str.ofString "law_no0007_01") 496, none, .ref 265, .none, 0⟩
noncomputable def xd271 : Lit (mkFd (Str.ofString "_law_sum") (Str.ofString "law_no0007_01") 496 270 (topSt 23)) := by
  refine ⟨?y, ?h⟩
  case h => (conv => lhs; whnf)
noncomputable abbrev fd271 : FuncData := ⟨Str.ofString "_law_sum", Str.ofString "_law_sum", xd271.1.params, xd271.1.body, xd271.1.scope, 3, [], .none, .none, .none, .str (Str.ofString "law_no0007_01") 496, none, .ref 270, .none, 0⟩
noncomputable def xd278 : Lit (mkFd (Str.ofString "_law_value") (Str.ofString "law_no0007_01") 496 277 (topSt 24)) := by
  refine ⟨?y, ?h⟩
  case h => (conv => lhs; whnf)
noncomputable abbrev fd278 : FuncData := ⟨Str.ofString "_law_value", Str.ofString "_law_value", xd278.1.params, xd278.1.body, xd278.1.scope, 3, [], .none, .none, .none, .str (Str.ofString "law_no0007_01") 496, none, .ref 277, .none, 0⟩
noncomputable def xd283 : Lit (mkFd (Str.ofString "_law_is_right") (Str.ofString "law_no0007_01") 496 282 (topSt 25)) := by
  refine ⟨?y, ?h⟩
  case h => (conv => lhs; whnf)
noncomputable abbrev fd283 : FuncData := ⟨Str.ofString "_law_is_right", Str.ofString "_law_is_right", xd283.1.params, xd283.1.body, xd283.1.scope, 3, [], .none, .none, .none, .str (Str.ofString "law_no0007_01") 496, none, .ref 282, .none, 0⟩
noncomputable def xd288 : Lit (mkFd (Str.ofString "_law_values") (Str.ofString "law_no0007_01") 496 287 (topSt 26)) := by
  refine ⟨?y, ?h⟩
  case h => (conv => lhs; whnf)
noncomputable abbrev fd288 : FuncData := ⟨Str.ofString "_law_values", Str.ofString "_law_values", xd288.1.params, xd288.1.body, xd288.1.scope, 3, [], .none, .none, .none, .str (Str.ofString "law_no0007_01") 496, none, .ref 287, .none, 0⟩
noncomputable def xd293 : Lit (mkFd (Str.ofString "_law_nonbasics") (Str.ofString "law_no0007_01") 496 292 (topSt 27)) := by
  refine ⟨?y, ?h⟩
  case h => (conv => lhs; whnf)
noncomputable abbrev fd293 : FuncData := ⟨Str.ofString "_law_nonbasics", Str.ofString "_law_nonbasics", xd293.1.params, xd293.1.body, xd293.1.scope, 3, [], .none, .none, .none, .str (Str.ofString "law_no0007_01") 496, none, .ref 292, .none, 0⟩
noncomputable def xd298 : Lit (mkFd (Str.ofString "_law_stay") (Str.ofString "law_no0007_01") 496 297 (topSt 28)) := by
  refine ⟨?y, ?h⟩
  case h => (conv => lhs; whnf)
noncomputable abbrev fd298 : FuncData := ⟨Str.ofString "_law_stay", Str.ofString "_law_stay", xd298.1.params, xd298.1.body, xd298.1.scope, 3, [], .none, .none, .none, .str (Str.ofString "law_no0007_01") 496, none, .ref 297, .none, 0⟩
noncomputable def xd303 : Lit (mkFd (Str.ofString "_law_added") (Str.ofString "law_no0007_01") 496 302 (topSt 29)) := by
  refine ⟨?y, ?h⟩
  case h => (conv => lhs; whnf)
noncomputable abbrev fd303 : FuncData := ⟨Str.ofString "_law_added", Str.ofString "_law_added", xd303.1.params, xd303.1.body, xd303.1.scope, 3, [], .none, .none, .none, .str (Str.ofString "law_no0007_01") 496, none, .ref 302, .none, 0⟩
noncomputable def xd308 : Lit (mkFd (Str.ofString "_law_moved") (Str.ofString "law_no0007_01") 496 307 (topSt 30)) := by
  refine ⟨?y, ?h⟩
  case h => (conv => lhs; whnf)
noncomputable abbrev fd308 : FuncData := ⟨Str.ofString "_law_moved", Str.ofString "_law_moved", xd308.1.params, xd308.1.body, xd308.1.scope, 3, [], .none, .none, .none, .str (Str.ofString "law_no0007_01") 496, none, .ref 307, .none, 0⟩
noncomputable def xd313 : Lit (mkFd (Str.ofString "_law_exchanged") (Str.ofString "law_no0007_01") 496 312 (topSt 31)) := by
  refine ⟨?y, ?h⟩
  case h => (conv => lhs; whnf)
noncomputable abbrev fd313 : FuncData := ⟨Str.ofString "_law_exchanged", Str.ofString "_law_exchanged", xd313.1.params, xd313.1.body, xd313.1.scope, 3, [], .none, .none, .none, .str (Str.ofString "law_no0007_01") 496, none, .ref 312, .none, 0⟩
noncomputable def xd318 : Lit (mkFd (Str.ofString "law") (Str.ofString "law_no0007_01") 496 317 (topSt 32)) := by
  refine ⟨?y, ?h⟩
  case h => (conv => lhs; whnf)
noncomputable abbrev fd318 : FuncData := ⟨Str.ofString "law", Str.ofString "law", xd318.1.params, xd318.1.body, xd318.1.scope, 3, [], .none, .none, .none, .str (Str.ofString "law_no0007_01") 496, none, .ref 317, .none, 0⟩
noncomputable def laid : Params → Frag := fun P =>
  (nat_lit 3, Obj.mk (Value.type "dict") none (Data.dict #[DictEntry.mk (PyData.keyHash P (Str.ofString "__name__")) (Value.str (Str.ofString "__name__") 165) (Value.str (Str.ofString "law_no0007_01") 496), DictEntry.mk (PyData.keyHash P (Str.ofString "__doc__")) (Value.str (Str.ofString "__doc__") 166) Value.none, DictEntry.mk (PyData.keyHash P (Str.ofString "__package__")) (Value.str (Str.ofString "__package__") 167) Value.none, DictEntry.mk (PyData.keyHash P (Str.ofString "__loader__")) (Value.str (Str.ofString "__loader__") 168) (Value.builtin "__main__.__loader__#opaque"), DictEntry.mk (PyData.keyHash P (Str.ofString "__spec__")) (Value.str (Str.ofString "__spec__") 169) Value.none, DictEntry.mk (PyData.keyHash P (Str.ofString "__annotations__")) (Value.str (Str.ofString "__annotations__") 170) (Value.ref 6), DictEntry.mk (PyData.keyHash P (Str.ofString "__builtins__")) (Value.str (Str.ofString "__builtins__") 171) (Value.ref 4), DictEntry.mk (PyData.keyHash P (Str.ofString "__file__")) (Value.str (Str.ofString "__file__") 173) (Value.str (Str.ofString "/claim/cut.py") 172), DictEntry.mk (PyData.keyHash P (Str.ofString "__cached__")) (Value.str (Str.ofString "__cached__") 174) Value.none, DictEntry.mk (PyData.keyHash P (Str.ofString "_wall")) (Value.str (Str.ofString "_wall") 193) (Value.ref 21), DictEntry.mk (PyData.keyHash P (Str.ofString "SmtError")) (Value.str (Str.ofString "SmtError") 233) (Value.ref 47), DictEntry.mk (PyData.keyHash P (Str.ofString "ZERO")) (Value.str (Str.ofString "ZERO") 238) (Value.ref 51), DictEntry.mk (PyData.keyHash P (Str.ofString "ONE")) (Value.str (Str.ofString "ONE") 241) (Value.ref 52), DictEntry.mk (PyData.keyHash P (Str.ofString "gcd_of")) (Value.str (Str.ofString "gcd_of") 249) (Value.ref 59), DictEntry.mk (PyData.keyHash P (Str.ofString "ratio")) (Value.str (Str.ofString "ratio") 258) (Value.ref 66), DictEntry.mk (PyData.keyHash P (Str.ofString "add")) (Value.str (Str.ofString "add") 266) (Value.ref 73), DictEntry.mk (PyData.keyHash P (Str.ofString "neg")) (Value.str (Str.ofString "neg") 273) (Value.ref 80), DictEntry.mk (PyData.keyHash P (Str.ofString "sub")) (Value.str (Str.ofString "sub") 281) (Value.ref 87), DictEntry.mk (PyData.keyHash P (Str.ofString "mul")) (Value.str (Str.ofString "mul") 289) (Value.ref 94), DictEntry.mk (PyData.keyHash P (Str.ofString "div")) (Value.str (Str.ofString "div") 297) (Value.ref 101), DictEntry.mk (PyData.keyHash P (Str.ofString "d_add")) (Value.str (Str.ofString "d_add") 305) (Value.ref 108), DictEntry.mk (PyData.keyHash P (Str.ofString "d_sub")) (Value.str (Str.ofString "d_sub") 313) (Value.ref 115), DictEntry.mk (PyData.keyHash P (Str.ofString "d_scale")) (Value.str (Str.ofString "d_scale") 321) (Value.ref 122), DictEntry.mk (PyData.keyHash P (Str.ofString "D_ZERO")) (Value.str (Str.ofString "D_ZERO") 324) (Value.ref 123), DictEntry.mk (PyData.keyHash P (Str.ofString "Tableau")) (Value.str (Str.ofString "Tableau") 495) (Value.ref 241), DictEntry.mk (PyData.keyHash P (Str.ofString "_law_lowest")) (Value.str (Str.ofString "_law_lowest") 507) (Value.ref 252), DictEntry.mk (PyData.keyHash P (Str.ofString "_law_plus")) (Value.str (Str.ofString "_law_plus") 515) (Value.ref 259), DictEntry.mk (PyData.keyHash P (Str.ofString "_law_times")) (Value.str (Str.ofString "_law_times") 523) (Value.ref 266), DictEntry.mk (PyData.keyHash P (Str.ofString "_law_sum")) (Value.str (Str.ofString "_law_sum") 529) (Value.ref 271), DictEntry.mk (PyData.keyHash P (Str.ofString "_law_value")) (Value.str (Str.ofString "_law_value") 541) (Value.ref 278), DictEntry.mk (PyData.keyHash P (Str.ofString "_law_is_right")) (Value.str (Str.ofString "_law_is_right") 547) (Value.ref 283), DictEntry.mk (PyData.keyHash P (Str.ofString "_law_values")) (Value.str (Str.ofString "_law_values") 553) (Value.ref 288), DictEntry.mk (PyData.keyHash P (Str.ofString "_law_nonbasics")) (Value.str (Str.ofString "_law_nonbasics") 559) (Value.ref 293), DictEntry.mk (PyData.keyHash P (Str.ofString "_law_stay")) (Value.str (Str.ofString "_law_stay") 565) (Value.ref 298), DictEntry.mk (PyData.keyHash P (Str.ofString "_law_added")) (Value.str (Str.ofString "_law_added") 571) (Value.ref 303), DictEntry.mk (PyData.keyHash P (Str.ofString "_law_moved")) (Value.str (Str.ofString "_law_moved") 577) (Value.ref 308), DictEntry.mk (PyData.keyHash P (Str.ofString "_law_exchanged")) (Value.str (Str.ofString "_law_exchanged") 583) (Value.ref 313), DictEntry.mk (PyData.keyHash P (Str.ofString "law")) (Value.str (Str.ofString "law") 589) (Value.ref 318)] 38) #[]) ::
  (nat_lit 51, Obj.mk (Value.type "tuple") none (Data.seq #[Value.int 0 236, Value.int 1 237]) #[]) ::
  (nat_lit 52, Obj.mk (Value.type "tuple") none (Data.seq #[Value.int 1 239, Value.int 1 240]) #[]) ::
  (nat_lit 58, Obj.mk (Value.type "code") none (Data.fields #[Value.str (Str.ofString "gcd_of") 242, Value.str (Str.ofString "gcd_of") 243, Value.str (Str.ofString "/claim/cut.py") 244, Value.int 16 0, Value.int 2 0, Value.int 0 0, Value.int 0 0, Value.int 3 0, Value.ref 53, Value.bool true, Value.int 181 0, Value.ref 54, Value.none, Value.ref 55, Value.ref 56, Value.ref 57, Value.int 247 0, Value.int 16 0, Value.str (Str.ofString "/claim/cut.py") 248]) #[]) ::
  (nat_lit 59, (⟨.type "function", none, .func fd59, #[]⟩ : Obj)) ::
  (nat_lit 65, Obj.mk (Value.type "code") none (Data.fields #[Value.str (Str.ofString "ratio") 250, Value.str (Str.ofString "ratio") 251, Value.str (Str.ofString "/claim/cut.py") 252, Value.int 21 0, Value.int 2 0, Value.int 0 0, Value.int 0 0, Value.int 3 0, Value.ref 60, Value.bool true, Value.int 181 0, Value.ref 61, Value.none, Value.ref 62, Value.ref 63, Value.ref 64, Value.int 256 0, Value.int 21 0, Value.str (Str.ofString "/claim/cut.py") 257]) #[]) ::
  (nat_lit 66, (⟨.type "function", none, .func fd66, #[]⟩ : Obj)) ::
  (nat_lit 72, Obj.mk (Value.type "code") none (Data.fields #[Value.str (Str.ofString "add") 259, Value.str (Str.ofString "add") 260, Value.str (Str.ofString "/claim/cut.py") 261, Value.int 28 0, Value.int 2 0, Value.int 0 0, Value.int 0 0, Value.int 3 0, Value.ref 67, Value.bool true, Value.int 181 0, Value.ref 68, Value.none, Value.ref 69, Value.ref 70, Value.ref 71, Value.int 264 0, Value.int 28 0, Value.str (Str.ofString "/claim/cut.py") 265]) #[]) ::
  (nat_lit 73, (⟨.type "function", none, .func fd73, #[]⟩ : Obj)) ::
  (nat_lit 79, Obj.mk (Value.type "code") none (Data.fields #[Value.str (Str.ofString "neg") 267, Value.str (Str.ofString "neg") 268, Value.str (Str.ofString "/claim/cut.py") 269, Value.int 32 0, Value.int 1 0, Value.int 0 0, Value.int 0 0, Value.int 3 0, Value.ref 74, Value.bool true, Value.int 181 0, Value.ref 75, Value.none, Value.ref 76, Value.ref 77, Value.ref 78, Value.int 271 0, Value.int 32 0, Value.str (Str.ofString "/claim/cut.py") 272]) #[]) ::
  (nat_lit 80, (⟨.type "function", none, .func fd80, #[]⟩ : Obj)) ::
  (nat_lit 86, Obj.mk (Value.type "code") none (Data.fields #[Value.str (Str.ofString "sub") 274, Value.str (Str.ofString "sub") 275, Value.str (Str.ofString "/claim/cut.py") 276, Value.int 34 0, Value.int 2 0, Value.int 0 0, Value.int 0 0, Value.int 3 0, Value.ref 81, Value.bool true, Value.int 181 0, Value.ref 82, Value.none, Value.ref 83, Value.ref 84, Value.ref 85, Value.int 279 0, Value.int 34 0, Value.str (Str.ofString "/claim/cut.py") 280]) #[]) ::
  (nat_lit 87, (⟨.type "function", none, .func fd87, #[]⟩ : Obj)) ::
  (nat_lit 93, Obj.mk (Value.type "code") none (Data.fields #[Value.str (Str.ofString "mul") 282, Value.str (Str.ofString "mul") 283, Value.str (Str.ofString "/claim/cut.py") 284, Value.int 36 0, Value.int 2 0, Value.int 0 0, Value.int 0 0, Value.int 3 0, Value.ref 88, Value.bool true, Value.int 181 0, Value.ref 89, Value.none, Value.ref 90, Value.ref 91, Value.ref 92, Value.int 287 0, Value.int 36 0, Value.str (Str.ofString "/claim/cut.py") 288]) #[]) ::
  (nat_lit 94, (⟨.type "function", none, .func fd94, #[]⟩ : Obj)) ::
  (nat_lit 100, Obj.mk (Value.type "code") none (Data.fields #[Value.str (Str.ofString "div") 290, Value.str (Str.ofString "div") 291, Value.str (Str.ofString "/claim/cut.py") 292, Value.int 40 0, Value.int 2 0, Value.int 0 0, Value.int 0 0, Value.int 3 0, Value.ref 95, Value.bool true, Value.int 181 0, Value.ref 96, Value.none, Value.ref 97, Value.ref 98, Value.ref 99, Value.int 295 0, Value.int 40 0, Value.str (Str.ofString "/claim/cut.py") 296]) #[]) ::
  (nat_lit 101, (⟨.type "function", none, .func fd101, #[]⟩ : Obj)) ::
  (nat_lit 107, Obj.mk (Value.type "code") none (Data.fields #[Value.str (Str.ofString "d_add") 298, Value.str (Str.ofString "d_add") 299, Value.str (Str.ofString "/claim/cut.py") 300, Value.int 44 0, Value.int 2 0, Value.int 0 0, Value.int 0 0, Value.int 3 0, Value.ref 102, Value.bool true, Value.int 181 0, Value.ref 103, Value.none, Value.ref 104, Value.ref 105, Value.ref 106, Value.int 303 0, Value.int 44 0, Value.str (Str.ofString "/claim/cut.py") 304]) #[]) ::
  (nat_lit 108, (⟨.type "function", none, .func fd108, #[]⟩ : Obj)) ::
  (nat_lit 114, Obj.mk (Value.type "code") none (Data.fields #[Value.str (Str.ofString "d_sub") 306, Value.str (Str.ofString "d_sub") 307, Value.str (Str.ofString "/claim/cut.py") 308, Value.int 46 0, Value.int 2 0, Value.int 0 0, Value.int 0 0, Value.int 3 0, Value.ref 109, Value.bool true, Value.int 181 0, Value.ref 110, Value.none, Value.ref 111, Value.ref 112, Value.ref 113, Value.int 311 0, Value.int 46 0, Value.str (Str.ofString "/claim/cut.py") 312]) #[]) ::
  (nat_lit 115, (⟨.type "function", none, .func fd115, #[]⟩ : Obj)) ::
  (nat_lit 121, Obj.mk (Value.type "code") none (Data.fields #[Value.str (Str.ofString "d_scale") 314, Value.str (Str.ofString "d_scale") 315, Value.str (Str.ofString "/claim/cut.py") 316, Value.int 48 0, Value.int 2 0, Value.int 0 0, Value.int 0 0, Value.int 3 0, Value.ref 116, Value.bool true, Value.int 181 0, Value.ref 117, Value.none, Value.ref 118, Value.ref 119, Value.ref 120, Value.int 319 0, Value.int 48 0, Value.str (Str.ofString "/claim/cut.py") 320]) #[]) ::
  (nat_lit 122, (⟨.type "function", none, .func fd122, #[]⟩ : Obj)) ::
  (nat_lit 123, Obj.mk (Value.type "tuple") none (Data.seq #[Value.ref 51, Value.ref 51]) #[]) ::
  (nat_lit 136, Obj.mk (Value.type "code") none (Data.fields #[Value.str (Str.ofString "__init__") 337, Value.str (Str.ofString "Tableau.__init__") 338, Value.str (Str.ofString "/claim/cut.py") 339, Value.int 54 0, Value.int 1 0, Value.int 0 0, Value.int 0 0, Value.int 3 0, Value.ref 131, Value.bool true, Value.int 181 0, Value.ref 132, Value.none, Value.ref 133, Value.ref 134, Value.ref 135, Value.int 341 0, Value.int 54 0, Value.str (Str.ofString "/claim/cut.py") 342]) #[]) ::
  (nat_lit 137, (⟨.type "function", none, .func fd137, #[]⟩ : Obj)) ::
  (nat_lit 143, Obj.mk (Value.type "code") none (Data.fields #[Value.str (Str.ofString "new_column") 344, Value.str (Str.ofString "Tableau.new_column") 345, Value.str (Str.ofString "/claim/cut.py") 346, Value.int 58 0, Value.int 1 0, Value.int 0 0, Value.int 0 0, Value.int 3 0, Value.ref 138, Value.bool true, Value.int 181 0, Value.ref 139, Value.none, Value.ref 140, Value.ref 141, Value.ref 142, Value.int 348 0, Value.int 58 0, Value.str (Str.ofString "/claim/cut.py") 349]) #[]) ::
  (nat_lit 144, (⟨.type "function", none, .func fd144, #[]⟩ : Obj)) ::
  (nat_lit 150, Obj.mk (Value.type "code") none (Data.fields #[Value.str (Str.ofString "is_basic") 351, Value.str (Str.ofString "Tableau.is_basic") 352, Value.str (Str.ofString "/claim/cut.py") 353, Value.int 62 0, Value.int 2 0, Value.int 0 0, Value.int 0 0, Value.int 3 0, Value.ref 145, Value.bool true, Value.int 181 0, Value.ref 146, Value.none, Value.ref 147, Value.ref 148, Value.ref 149, Value.int 356 0, Value.int 62 0, Value.str (Str.ofString "/claim/cut.py") 357]) #[]) ::
  (nat_lit 151, (⟨.type "function", none, .func fd151, #[]⟩ : Obj)) ::
  (nat_lit 157, Obj.mk (Value.type "code") none (Data.fields #[Value.str (Str.ofString "value") 359, Value.str (Str.ofString "Tableau.value") 360, Value.str (Str.ofString "/claim/cut.py") 361, Value.int 65 0, Value.int 2 0, Value.int 0 0, Value.int 0 0, Value.int 3 0, Value.ref 152, Value.bool true, Value.int 181 0, Value.ref 153, Value.none, Value.ref 154, Value.ref 155, Value.ref 156, Value.int 364 0, Value.int 65 0, Value.str (Str.ofString "/claim/cut.py") 365]) #[]) ::
  (nat_lit 158, (⟨.type "function", none, .func fd158, #[]⟩ : Obj)) ::
  (nat_lit 162, Obj.mk (Value.type "code") none (Data.fields #[Value.str (Str.ofString "row") 367, Value.str (Str.ofString "Tableau.row") 368, Value.str (Str.ofString "/claim/cut.py") 369, Value.int 68 0, Value.int 2 0, Value.int 0 0, Value.int 0 0, Value.int 3 0, Value.ref 159, Value.bool true, Value.int 181 0, Value.ref 160, Value.none, Value.none, Value.none, Value.ref 161, Value.int 370 0, Value.int 68 0, Value.str (Str.ofString "/claim/cut.py") 371]) #[]) ::
  (nat_lit 163, (⟨.type "function", none, .func fd163, #[]⟩ : Obj)) ::
  (nat_lit 169, Obj.mk (Value.type "code") none (Data.fields #[Value.str (Str.ofString "basics") 373, Value.str (Str.ofString "Tableau.basics") 374, Value.str (Str.ofString "/claim/cut.py") 375, Value.int 72 0, Value.int 1 0, Value.int 0 0, Value.int 0 0, Value.int 3 0, Value.ref 164, Value.bool true, Value.int 181 0, Value.ref 165, Value.none, Value.ref 166, Value.ref 167, Value.ref 168, Value.int 377 0, Value.int 72 0, Value.str (Str.ofString "/claim/cut.py") 378]) #[]) ::
  (nat_lit 170, (⟨.type "function", none, .func fd170, #[]⟩ : Obj)) ::
  (nat_lit 174, Obj.mk (Value.type "code") none (Data.fields #[Value.str (Str.ofString "basics_with") 380, Value.str (Str.ofString "Tableau.basics_with") 381, Value.str (Str.ofString "/claim/cut.py") 382, Value.int 75 0, Value.int 2 0, Value.int 0 0, Value.int 0 0, Value.int 3 0, Value.ref 171, Value.bool true, Value.int 181 0, Value.ref 172, Value.none, Value.none, Value.none, Value.ref 173, Value.int 383 0, Value.int 75 0, Value.str (Str.ofString "/claim/cut.py") 384]) #[]) ::
  (nat_lit 175, (⟨.type "function", none, .func fd175, #[]⟩ : Obj)) ::
  (nat_lit 181, Obj.mk (Value.type "code") none (Data.fields #[Value.str (Str.ofString "add_entry") 386, Value.str (Str.ofString "Tableau.add_entry") 387, Value.str (Str.ofString "/claim/cut.py") 388, Value.int 78 0, Value.int 4 0, Value.int 0 0, Value.int 0 0, Value.int 3 0, Value.ref 176, Value.bool true, Value.int 181 0, Value.ref 177, Value.none, Value.ref 178, Value.ref 179, Value.ref 180, Value.int 394 0, Value.int 78 0, Value.str (Str.ofString "/claim/cut.py") 395]) #[]) ::
  (nat_lit 182, (⟨.type "function", none, .func fd182, #[]⟩ : Obj)) ::
  (nat_lit 188, Obj.mk (Value.type "code") none (Data.fields #[Value.str (Str.ofString "add_multiple") 397, Value.str (Str.ofString "Tableau.add_multiple") 398, Value.str (Str.ofString "/claim/cut.py") 399, Value.int 85 0, Value.int 4 0, Value.int 0 0, Value.int 0 0, Value.int 3 0, Value.ref 183, Value.bool true, Value.int 181 0, Value.ref 184, Value.none, Value.ref 185, Value.ref 186, Value.ref 187, Value.int 405 0, Value.int 85 0, Value.str (Str.ofString "/claim/cut.py") 406]) #[]) ::
  (nat_lit 189, (⟨.type "function", none, .func fd189, #[]⟩ : Obj)) ::
  (nat_lit 195, Obj.mk (Value.type "code") none (Data.fields #[Value.str (Str.ofString "sum_of") 408, Value.str (Str.ofString "Tableau.sum_of") 409, Value.str (Str.ofString "/claim/cut.py") 410, Value.int 89 0, Value.int 2 0, Value.int 0 0, Value.int 0 0, Value.int 3 0, Value.ref 190, Value.bool true, Value.int 181 0, Value.ref 191, Value.none, Value.ref 192, Value.ref 193, Value.ref 194, Value.int 415 0, Value.int 89 0, Value.str (Str.ofString "/claim/cut.py") 416]) #[]) ::
  (nat_lit 196, (⟨.type "function", none, .func fd196, #[]⟩ : Obj)) ::
  (nat_lit 202, Obj.mk (Value.type "code") none (Data.fields #[Value.str (Str.ofString "add_row") 418, Value.str (Str.ofString "Tableau.add_row") 419, Value.str (Str.ofString "/claim/cut.py") 420, Value.int 95 0, Value.int 2 0, Value.int 0 0, Value.int 0 0, Value.int 3 0, Value.ref 197, Value.bool true, Value.int 181 0, Value.ref 198, Value.none, Value.ref 199, Value.ref 200, Value.ref 201, Value.int 427 0, Value.int 95 0, Value.str (Str.ofString "/claim/cut.py") 428]) #[]) ::
  (nat_lit 203, (⟨.type "function", none, .func fd203, #[]⟩ : Obj)) ::
  (nat_lit 209, Obj.mk (Value.type "code") none (Data.fields #[Value.str (Str.ofString "turned") 430, Value.str (Str.ofString "Tableau.turned") 431, Value.str (Str.ofString "/claim/cut.py") 432, Value.int 107 0, Value.int 3 0, Value.int 0 0, Value.int 0 0, Value.int 3 0, Value.ref 204, Value.bool true, Value.int 181 0, Value.ref 205, Value.none, Value.ref 206, Value.ref 207, Value.ref 208, Value.int 440 0, Value.int 107 0, Value.str (Str.ofString "/claim/cut.py") 441]) #[]) ::
  (nat_lit 210, (⟨.type "function", none, .func fd210, #[]⟩ : Obj)) ::
  (nat_lit 216, Obj.mk (Value.type "code") none (Data.fields #[Value.str (Str.ofString "pivot") 443, Value.str (Str.ofString "Tableau.pivot") 444, Value.str (Str.ofString "/claim/cut.py") 445, Value.int 116 0, Value.int 3 0, Value.int 0 0, Value.int 0 0, Value.int 3 0, Value.ref 211, Value.bool true, Value.int 181 0, Value.ref 212, Value.none, Value.ref 213, Value.ref 214, Value.ref 215, Value.int 453 0, Value.int 116 0, Value.str (Str.ofString "/claim/cut.py") 454]) #[]) ::
  (nat_lit 217, (⟨.type "function", none, .func fd217, #[]⟩ : Obj)) ::
  (nat_lit 223, Obj.mk (Value.type "code") none (Data.fields #[Value.str (Str.ofString "shift") 456, Value.str (Str.ofString "Tableau.shift") 457, Value.str (Str.ofString "/claim/cut.py") 458, Value.int 126 0, Value.int 3 0, Value.int 0 0, Value.int 0 0, Value.int 3 0, Value.ref 218, Value.bool true, Value.int 181 0, Value.ref 219, Value.none, Value.ref 220, Value.ref 221, Value.ref 222, Value.int 463 0, Value.int 126 0, Value.str (Str.ofString "/claim/cut.py") 464]) #[]) ::
  (nat_lit 224, (⟨.type "function", none, .func fd224, #[]⟩ : Obj)) ::
  (nat_lit 230, Obj.mk (Value.type "code") none (Data.fields #[Value.str (Str.ofString "update") 466, Value.str (Str.ofString "Tableau.update") 467, Value.str (Str.ofString "/claim/cut.py") 468, Value.int 131 0, Value.int 3 0, Value.int 0 0, Value.int 0 0, Value.int 3 0, Value.ref 225, Value.bool true, Value.int 181 0, Value.ref 226, Value.none, Value.ref 227, Value.ref 228, Value.ref 229, Value.int 472 0, Value.int 131 0, Value.str (Str.ofString "/claim/cut.py") 473]) #[]) ::
  (nat_lit 231, (⟨.type "function", none, .func fd231, #[]⟩ : Obj)) ::
  (nat_lit 237, Obj.mk (Value.type "code") none (Data.fields #[Value.str (Str.ofString "pivot_and_update") 475, Value.str (Str.ofString "Tableau.pivot_and_update") 476, Value.str (Str.ofString "/claim/cut.py") 477, Value.int 134 0, Value.int 4 0, Value.int 0 0, Value.int 0 0, Value.int 3 0, Value.ref 232, Value.bool true, Value.int 181 0, Value.ref 233, Value.none, Value.ref 234, Value.ref 235, Value.ref 236, Value.int 483 0, Value.int 134 0, Value.str (Str.ofString "/claim/cut.py") 484]) #[]) ::
  (nat_lit 238, (⟨.type "function", none, .func fd238, #[]⟩ : Obj)) ::
  (nat_lit 240, Obj.mk (Value.type "dict") none (Data.dict #[DictEntry.mk (PyData.keyHash P (Str.ofString "__module__")) (Value.str (Str.ofString "__module__") 332) (Value.str (Str.ofString "minismt.simplex") 322), DictEntry.mk (PyData.keyHash P (Str.ofString "__firstlineno__")) (Value.str (Str.ofString "__firstlineno__") 336) (Value.int 52 335), DictEntry.mk (PyData.keyHash P (Str.ofString "__init__")) (Value.str (Str.ofString "__init__") 343) (Value.ref 137), DictEntry.mk (PyData.keyHash P (Str.ofString "new_column")) (Value.str (Str.ofString "new_column") 350) (Value.ref 144), DictEntry.mk (PyData.keyHash P (Str.ofString "is_basic")) (Value.str (Str.ofString "is_basic") 358) (Value.ref 151), DictEntry.mk (PyData.keyHash P (Str.ofString "value")) (Value.str (Str.ofString "value") 366) (Value.ref 158), DictEntry.mk (PyData.keyHash P (Str.ofString "row")) (Value.str (Str.ofString "row") 372) (Value.ref 163), DictEntry.mk (PyData.keyHash P (Str.ofString "basics")) (Value.str (Str.ofString "basics") 379) (Value.ref 170), DictEntry.mk (PyData.keyHash P (Str.ofString "basics_with")) (Value.str (Str.ofString "basics_with") 385) (Value.ref 175), DictEntry.mk (PyData.keyHash P (Str.ofString "add_entry")) (Value.str (Str.ofString "add_entry") 396) (Value.ref 182), DictEntry.mk (PyData.keyHash P (Str.ofString "add_multiple")) (Value.str (Str.ofString "add_multiple") 407) (Value.ref 189), DictEntry.mk (PyData.keyHash P (Str.ofString "sum_of")) (Value.str (Str.ofString "sum_of") 417) (Value.ref 196), DictEntry.mk (PyData.keyHash P (Str.ofString "add_row")) (Value.str (Str.ofString "add_row") 429) (Value.ref 203), DictEntry.mk (PyData.keyHash P (Str.ofString "turned")) (Value.str (Str.ofString "turned") 442) (Value.ref 210), DictEntry.mk (PyData.keyHash P (Str.ofString "pivot")) (Value.str (Str.ofString "pivot") 455) (Value.ref 217), DictEntry.mk (PyData.keyHash P (Str.ofString "shift")) (Value.str (Str.ofString "shift") 465) (Value.ref 224), DictEntry.mk (PyData.keyHash P (Str.ofString "update")) (Value.str (Str.ofString "update") 474) (Value.ref 231), DictEntry.mk (PyData.keyHash P (Str.ofString "pivot_and_update")) (Value.str (Str.ofString "pivot_and_update") 485) (Value.ref 238), DictEntry.mk (PyData.keyHash P (Str.ofString "__static_attributes__")) (Value.str (Str.ofString "__static_attributes__") 488) (Value.ref 239), DictEntry.mk (PyData.keyHash P (Str.ofString "__dict__")) (Value.str (Str.ofString "__dict__") 490) (Value.ref 242), DictEntry.mk (PyData.keyHash P (Str.ofString "__weakref__")) (Value.str (Str.ofString "__weakref__") 492) (Value.ref 243), DictEntry.mk (PyData.keyHash P (Str.ofString "__doc__")) (Value.str (Str.ofString "__doc__") 493) Value.none] 4) #[]) ::
  (nat_lit 241, Obj.mk (Value.type "type") none (Data.cls (ClassData.mk (Str.ofString "Tableau") [Value.type "object"] [Value.ref 241, Value.type "object"] 240 (Str.ofString "Tableau") true [] [] false none false)) #[none, none, some (Value.str (Str.ofString "Tableau") 325), some (Value.str (Str.ofString "Tableau") 333), some (Value.builtin "object.__new__"), some (Value.bool true)]) ::
  (nat_lit 242, Obj.mk (Value.type "getset_descriptor") none (Data.fields #[Value.str (Str.ofString "__dict__") 489, Value.ref 241, Value.builtin "function.__dict__", Value.builtin "function.__dict__#set"]) #[]) ::
  (nat_lit 243, Obj.mk (Value.type "getset_descriptor") none (Data.fields #[Value.str (Str.ofString "__weakref__") 491, Value.ref 241, Value.builtin "ExceptionGroup.__weakref__", Value.none]) #[]) ::
  (nat_lit 251, Obj.mk (Value.type "code") none (Data.fields #[Value.str (Str.ofString "_law_lowest") 498, Value.str (Str.ofString "_law_lowest") 499, Value.str (Str.ofString "/claim/cut.py") 500, Value.int 139 0, Value.int 2 0, Value.int 0 0, Value.int 0 0, Value.int 3 0, Value.ref 246, Value.bool true, Value.int 181 0, Value.ref 247, Value.none, Value.ref 248, Value.ref 249, Value.ref 250, Value.int 505 0, Value.int 139 0, Value.str (Str.ofString "/claim/cut.py") 506]) #[]) ::
  (nat_lit 252, (⟨.type "function", none, .func fd252, #[]⟩ : Obj)) ::
  (nat_lit 258, Obj.mk (Value.type "code") none (Data.fields #[Value.str (Str.ofString "_law_plus") 508, Value.str (Str.ofString "_law_plus") 509, Value.str (Str.ofString "/claim/cut.py") 510, Value.int 146 0, Value.int 2 0, Value.int 0 0, Value.int 0 0, Value.int 3 0, Value.ref 253, Value.bool true, Value.int 181 0, Value.ref 254, Value.none, Value.ref 255, Value.ref 256, Value.ref 257, Value.int 513 0, Value.int 146 0, Value.str (Str.ofString "/claim/cut.py") 514]) #[]) ::
  (nat_lit 259, (⟨.type "function", none, .func fd259, #[]⟩ : Obj)) ::
  (nat_lit 265, Obj.mk (Value.type "code") none (Data.fields #[Value.str (Str.ofString "_law_times") 516, Value.str (Str.ofString "_law_times") 517, Value.str (Str.ofString "/claim/cut.py") 518, Value.int 148 0, Value.int 2 0, Value.int 0 0, Value.int 0 0, Value.int 3 0, Value.ref 260, Value.bool true, Value.int 181 0, Value.ref 261, Value.none, Value.ref 262, Value.ref 263, Value.ref 264, Value.int 521 0, Value.int 148 0, Value.str (Str.ofString "/claim/cut.py") 522]) #[]) ::
  (nat_lit 266, (⟨.type "function", none, .func fd266, #[]⟩ : Obj)) ::
  (nat_lit 270, Obj.mk (Value.type "code") none (Data.fields #[Value.str (Str.ofString "_law_sum") 524, Value.str (Str.ofString "_law_sum") 525, Value.str (Str.ofString "/claim/cut.py") 526, Value.int 150 0, Value.int 3 0, Value.int 0 0, Value.int 0 0, Value.int 3 0, Value.ref 267, Value.bool true, Value.int 181 0, Value.ref 268, Value.none, Value.none, Value.none, Value.ref 269, Value.int 527 0, Value.int 150 0, Value.str (Str.ofString "/claim/cut.py") 528]) #[]) ::
  (nat_lit 271, (⟨.type "function", none, .func fd271, #[]⟩ : Obj)) ::
  (nat_lit 277, Obj.mk (Value.type "code") none (Data.fields #[Value.str (Str.ofString "_law_value") 530, Value.str (Str.ofString "_law_value") 531, Value.str (Str.ofString "/claim/cut.py") 532, Value.int 155 0, Value.int 4 0, Value.int 0 0, Value.int 0 0, Value.int 3 0, Value.ref 272, Value.bool true, Value.int 181 0, Value.ref 273, Value.none, Value.ref 274, Value.ref 275, Value.ref 276, Value.int 539 0, Value.int 155 0, Value.str (Str.ofString "/claim/cut.py") 540]) #[]) ::
  (nat_lit 278, (⟨.type "function", none, .func fd278, #[]⟩ : Obj)) ::
  (nat_lit 282, Obj.mk (Value.type "code") none (Data.fields #[Value.str (Str.ofString "_law_is_right") 542, Value.str (Str.ofString "_law_is_right") 543, Value.str (Str.ofString "/claim/cut.py") 544, Value.int 160 0, Value.int 3 0, Value.int 0 0, Value.int 0 0, Value.int 3 0, Value.ref 279, Value.bool true, Value.int 181 0, Value.ref 280, Value.none, Value.none, Value.none, Value.ref 281, Value.int 545 0, Value.int 160 0, Value.str (Str.ofString "/claim/cut.py") 546]) #[]) ::
  (nat_lit 283, (⟨.type "function", none, .func fd283, #[]⟩ : Obj)) ::
  (nat_lit 287, Obj.mk (Value.type "code") none (Data.fields #[Value.str (Str.ofString "_law_values") 548, Value.str (Str.ofString "_law_values") 549, Value.str (Str.ofString "/claim/cut.py") 550, Value.int 180 0, Value.int 2 0, Value.int 0 0, Value.int 0 0, Value.int 3 0, Value.ref 284, Value.bool true, Value.int 181 0, Value.ref 285, Value.none, Value.none, Value.none, Value.ref 286, Value.int 551 0, Value.int 180 0, Value.str (Str.ofString "/claim/cut.py") 552]) #[]) ::
  (nat_lit 288, (⟨.type "function", none, .func fd288, #[]⟩ : Obj)) ::
  (nat_lit 292, Obj.mk (Value.type "code") none (Data.fields #[Value.str (Str.ofString "_law_nonbasics") 554, Value.str (Str.ofString "_law_nonbasics") 555, Value.str (Str.ofString "/claim/cut.py") 556, Value.int 182 0, Value.int 2 0, Value.int 0 0, Value.int 0 0, Value.int 3 0, Value.ref 289, Value.bool true, Value.int 181 0, Value.ref 290, Value.none, Value.none, Value.none, Value.ref 291, Value.int 557 0, Value.int 182 0, Value.str (Str.ofString "/claim/cut.py") 558]) #[]) ::
  (nat_lit 293, (⟨.type "function", none, .func fd293, #[]⟩ : Obj)) ::
  (nat_lit 297, Obj.mk (Value.type "code") none (Data.fields #[Value.str (Str.ofString "_law_stay") 560, Value.str (Str.ofString "_law_stay") 561, Value.str (Str.ofString "/claim/cut.py") 562, Value.int 184 0, Value.int 3 0, Value.int 0 0, Value.int 0 0, Value.int 3 0, Value.ref 294, Value.bool true, Value.int 181 0, Value.ref 295, Value.none, Value.none, Value.none, Value.ref 296, Value.int 563 0, Value.int 184 0, Value.str (Str.ofString "/claim/cut.py") 564]) #[]) ::
  (nat_lit 298, (⟨.type "function", none, .func fd298, #[]⟩ : Obj)) ::
  (nat_lit 302, Obj.mk (Value.type "code") none (Data.fields #[Value.str (Str.ofString "_law_added") 566, Value.str (Str.ofString "_law_added") 567, Value.str (Str.ofString "/claim/cut.py") 568, Value.int 186 0, Value.int 4 0, Value.int 0 0, Value.int 0 0, Value.int 3 0, Value.ref 299, Value.bool true, Value.int 181 0, Value.ref 300, Value.none, Value.none, Value.none, Value.ref 301, Value.int 569 0, Value.int 186 0, Value.str (Str.ofString "/claim/cut.py") 570]) #[]) ::
  (nat_lit 303, (⟨.type "function", none, .func fd303, #[]⟩ : Obj)) ::
  (nat_lit 307, Obj.mk (Value.type "code") none (Data.fields #[Value.str (Str.ofString "_law_moved") 572, Value.str (Str.ofString "_law_moved") 573, Value.str (Str.ofString "/claim/cut.py") 574, Value.int 196 0, Value.int 3 0, Value.int 0 0, Value.int 0 0, Value.int 3 0, Value.ref 304, Value.bool true, Value.int 181 0, Value.ref 305, Value.none, Value.none, Value.none, Value.ref 306, Value.int 575 0, Value.int 196 0, Value.str (Str.ofString "/claim/cut.py") 576]) #[]) ::
  (nat_lit 308, (⟨.type "function", none, .func fd308, #[]⟩ : Obj)) ::
  (nat_lit 312, Obj.mk (Value.type "code") none (Data.fields #[Value.str (Str.ofString "_law_exchanged") 578, Value.str (Str.ofString "_law_exchanged") 579, Value.str (Str.ofString "/claim/cut.py") 580, Value.int 203 0, Value.int 4 0, Value.int 0 0, Value.int 0 0, Value.int 3 0, Value.ref 309, Value.bool true, Value.int 181 0, Value.ref 310, Value.none, Value.none, Value.none, Value.ref 311, Value.int 581 0, Value.int 203 0, Value.str (Str.ofString "/claim/cut.py") 582]) #[]) ::
  (nat_lit 313, (⟨.type "function", none, .func fd313, #[]⟩ : Obj)) ::
  (nat_lit 317, Obj.mk (Value.type "code") none (Data.fields #[Value.str (Str.ofString "law") 584, Value.str (Str.ofString "law") 585, Value.str (Str.ofString "/claim/cut.py") 586, Value.int 222 0, Value.int 1 0, Value.int 0 0, Value.int 0 0, Value.int 3 0, Value.ref 314, Value.bool true, Value.int 181 0, Value.ref 315, Value.none, Value.none, Value.none, Value.ref 316, Value.int 587 0, Value.int 222 0, Value.str (Str.ofString "/claim/cut.py") 588]) #[]) ::
  (nat_lit 318, (⟨.type "function", none, .func fd318, #[]⟩ : Obj)) ::
  []
end Tab
end
noncomputable section
open PySem PySem.W PyProof.Rows PySem.Calls
namespace Tab

inductive V where
  | raw (v : Value)
  | int (i : Int)
  | tup (l : List V)
  | lst (l : List V)
  | frz (l : List V)
  | rng (a b : Int)
  | obj (x C dx : Addr)
  | st (led : Bool) (ks : List Int)

inductive MObj where
  | list (l : List V)
  | dict (kvs : List (Int × V))
  | attrs (kvs : List (Str × V))

abbrev Mem := Addr → Option MObj
abbrev Xs := Addr → Option Obj
def Mem.set (μ : Mem) (a : Addr) (o : MObj) : Mem := fun b => if b = a then some o else μ b
def Mem.del (μ : Mem) (a : Addr) : Mem := fun b => if b = a then none else μ b
def Xs.set (ξ : Xs) (a : Addr) (o : Obj) : Xs := fun b => if b = a then some o else ξ b
theorem Mem.set_self (μ : Mem) (a o) : μ.set a o a = some o := if_pos rfl
theorem Mem.set_ne {μ : Mem} {a b : Addr} {o} (h : b ≠ a) : μ.set a o b = μ b := if_neg h
theorem Mem.del_self (μ : Mem) (a) : μ.del a a = none := if_pos rfl
theorem Mem.del_ne {μ : Mem} {a b : Addr} (h : b ≠ a) : μ.del a b = μ b := if_neg h
theorem Xs.set_self (ξ : Xs) (a o) : ξ.set a o a = some o := if_pos rfl
theorem Xs.set_ne {ξ : Xs} {a b : Addr} {o} (h : b ≠ a) : ξ.set a o b = ξ b := if_neg h
theorem Mem.set_set (μ : Mem) (a o o') : (μ.set a o).set a o' = μ.set a o' := by
  funext b; unfold Mem.set; split <;> rfl
theorem Mem.set_comm (μ : Mem) {a b : Addr} (o o') (h : a ≠ b) : (μ.set a o).set b o' = (μ.set b o').set a o := by
  funext c; unfold Mem.set
  by_cases h1 : c = a <;> by_cases h2 : c = b <;> simp_all
theorem Mem.set_id {μ : Mem} {a : Addr} {o} (h : μ a = some o) : μ.set a o = μ := by
  funext b; unfold Mem.set; split
  · rename_i e; rw [e, h]
  · rfl

abbrev seqO (c : String) (xs : Array Value) (n : Nat) : Obj := { cls := .type c, dict := none, data := .seq xs n, slots := #[] }

def tab (led : Bool) (ks : List Int) : SetTable := { mask := 7, place := (ks.map Int.toNat).toArray, dummies := #[], finger := 0, led := led, moves := 0, plain := true }
abbrev setO (es : Array (Int × Value)) (ep : Nat) (t : SetTable) : Obj := { cls := .type "set", dict := none, data := .set es ep t, slots := #[] }

mutual
def Rep (μ : Mem) (ξ : Xs) (h : Heap) : V → Value → Prop
  | .raw w, v => v = w
  | .int i, v => ∃ t, v = .int i t
  | .tup l, v => ∃ a xs n, v = .ref a ∧ (μ a = none ∧ ξ a = none) ∧ h.get? a = some (seqO "tuple" xs n) ∧ Reps μ ξ h l xs.toList
  | .lst l, v => ∃ a xs n, v = .ref a ∧ (μ a = none ∧ ξ a = none) ∧ h.get? a = some (seqO "list" xs n) ∧ Reps μ ξ h l xs.toList
  | .frz l, v => ∃ a o xs n, v = .ref a ∧ (μ a = none ∧ ξ a = none) ∧ h.get? a = some o ∧ o.cls = .type "list" ∧ o.data = .seq xs n ∧ Reps μ ξ h l xs.toList
  | .rng a b, v => ∃ r t u k, v = .ref r ∧ (μ r = none ∧ ξ r = none) ∧ IsRange h r a b 1 t u k
  | .obj x C dx, v => v = .ref x ∧ (μ x = none ∧ ξ x = none) ∧ h.get? x = some (instObj C dx)
  | .st led ks, v => ∃ a es ep, v = .ref a ∧ (μ a = none ∧ ξ a = none) ∧ h.get? a = some (setO es ep (tab led ks)) ∧ es.size = ks.length ∧ IntsAre (es.toList.map (·.2)) ks
def Reps (μ : Mem) (ξ : Xs) (h : Heap) : List V → List Value → Prop
  | [], vs => vs = []
  | x :: r, vs => ∃ v t, vs = v :: t ∧ Rep μ ξ h x v ∧ Reps μ ξ h r t
end

theorem Reps.length {μ ξ h} : ∀ {l vs}, Reps μ ξ h l vs → vs.length = l.length
  | [], _, e => by rw [Reps] at e; rw [e]; rfl
  | _ :: r, _, e => by
    rw [Reps] at e
    obtain ⟨v, t, rfl, _, h⟩ := e
    simp [Reps.length h]
theorem Reps.get {μ ξ h} : ∀ {l vs} {i : Nat} {x : V}, Reps μ ξ h l vs → l[i]? = some x → ∃ v, vs[i]? = some v ∧ Rep μ ξ h x v
  | [], _, _, _, _, e => by simp at e
  | y :: r, _, i, x, h, e => by
    rw [Reps] at h
    obtain ⟨v, t, rfl, h1, h2⟩ := h
    cases i with
    | zero => simp at e; subst e; exact ⟨v, rfl, h1⟩
    | succ i => simpa using Reps.get h2 (by simpa using e)
theorem Reps.append {μ ξ h} : ∀ {l vs l' vs'}, Reps μ ξ h l vs → Reps μ ξ h l' vs' → Reps μ ξ h (l ++ l') (vs ++ vs')
  | [], _, _, _, e, e' => by rw [Reps] at e; rw [e]; exact e'
  | _ :: _, _, _, _, e, e' => by
    rw [Reps] at e
    obtain ⟨v, t, rfl, h1, h2⟩ := e
    exact ⟨v, _, rfl, h1, Reps.append h2 e'⟩
theorem Reps.cons {μ ξ h x v l vs} (a : Rep μ ξ h x v) (b : Reps μ ξ h l vs) : Reps μ ξ h (x :: l) (v :: vs) := ⟨v, vs, rfl, a, b⟩
theorem Reps.nil {μ ξ h} : Reps μ ξ h [] [] := rfl
theorem Reps.one {μ ξ h x v} (a : Rep μ ξ h x v) : Reps μ ξ h [x] [v] := .cons a .nil
theorem Reps.two {μ ξ h x v y w} (a : Rep μ ξ h x v) (b : Rep μ ξ h y w) : Reps μ ξ h [x, y] [v, w] := .cons a (.one b)

def Stay (μ : Mem) (ξ : Xs) (h : Heap) (μ' : Mem) (ξ' : Xs) (h' : Heap) : Prop :=
  ∀ a o, h.get? a = some o → μ a = none → ξ a = none → h'.get? a = some o ∧ μ' a = none ∧ ξ' a = none

mutual
theorem Rep.stay {μ ξ h μ' ξ' h'} (k : Stay μ ξ h μ' ξ' h') : ∀ {x : V} {v : Value}, Rep μ ξ h x v → Rep μ' ξ' h' x v
  | .raw _, _, e => by rw [Rep] at e ⊢; exact e
  | .int _, _, e => by rw [Rep] at e ⊢; exact e
  | .tup l, _, e => by
    rw [Rep] at e ⊢
    obtain ⟨a, xs, n, e1, ⟨e2, e3⟩, e4, e5⟩ := e
    have q := k a _ e4 e2 e3
    exact ⟨a, xs, n, e1, q.2, q.1, Reps.stay k e5⟩
  | .lst l, _, e => by
    rw [Rep] at e ⊢
    obtain ⟨a, xs, n, e1, ⟨e2, e3⟩, e4, e5⟩ := e
    have q := k a _ e4 e2 e3
    exact ⟨a, xs, n, e1, q.2, q.1, Reps.stay k e5⟩
  | .frz l, _, e => by
    rw [Rep] at e ⊢
    obtain ⟨a, o, xs, n, e1, ⟨e2, e3⟩, e4, e6, e7, e5⟩ := e
    have q := k a _ e4 e2 e3
    exact ⟨a, o, xs, n, e1, q.2, q.1, e6, e7, Reps.stay k e5⟩
  | .rng _ _, _, e => by
    rw [Rep] at e ⊢
    obtain ⟨r, t, u, z, e1, ⟨e2, e3⟩, e4⟩ := e
    have q := k _ _ e4 e2 e3
    exact ⟨r, t, u, z, e1, q.2, q.1⟩
  | .obj _ _ _, _, e => by
    rw [Rep] at e ⊢
    obtain ⟨e1, ⟨e2, e3⟩, e4⟩ := e
    have q := k _ _ e4 e2 e3
    exact ⟨e1, q.2, q.1⟩
  | .st _ _, _, e => by
    rw [Rep] at e ⊢
    obtain ⟨a, es, ep, e1, ⟨e2, e3⟩, e4, e5⟩ := e
    have q := k _ _ e4 e2 e3
    exact ⟨a, es, ep, e1, q.2, q.1, e5⟩
theorem Reps.stay {μ ξ h μ' ξ' h'} (k : Stay μ ξ h μ' ξ' h') : ∀ {l : List V} {vs : List Value}, Reps μ ξ h l vs → Reps μ' ξ' h' l vs
  | [], _, e => by rw [Reps] at e ⊢; exact e
  | x :: r, _, e => by
    rw [Reps] at e ⊢
    obtain ⟨v, t, e1, e2, e3⟩ := e
    exact ⟨v, t, e1, Rep.stay k e2, Reps.stay k e3⟩
end

section
variable (prog : Program) (w : World)
def MRep (μ : Mem) (ξ : Xs) (h : Heap) (a : Addr) : MObj → Prop
  | .list l => ∃ o xs n, h.get? a = some o ∧ o.cls = .type "list" ∧ o.dict = none ∧ o.data = .seq xs n ∧ Reps μ ξ h l xs.toList
  | .dict kvs => 2 < a ∧ ∃ ws : List (Int × Value), h.DictOf (intKind prog w) a ws ∧ ws.map (·.1) = kvs.map (·.1) ∧ Reps μ ξ h (kvs.map (·.2)) (ws.map (·.2))
  | .attrs kvs => ∃ es n, h.get? a = some (dictOf es n) ∧ (∀ e ∈ es, ∃ x t, e.key = .str x t) ∧ es.length ≤ kvs.length ∧ (∀ x, kvs.lookup x = none → getL x es = some none) ∧ ∀ x y, kvs.lookup x = some y → ∃ v, getL x es = some (some v) ∧ Rep μ ξ h y v

structure Good (B : Heap) (μ : Mem) (ξ : Xs) (h : Heap) : Prop where
  base : ∀ a o, B.get? a = some o → h.get? a = some o ∧ μ a = none ∧ ξ a = none
  rep : ∀ a mo, μ a = some mo → MRep prog w μ ξ h a mo
  ex : ∀ a o, ξ a = some o → h.get? a = some o ∧ μ a = none
end

structure Evo (μ : Mem) (ξ : Xs) (s : Shared) (μ' : Mem) (ξ' : Xs) (s' : Shared) : Prop where
  keep : ∀ a o, s.heap.get? a = some o → μ a = none → ξ a = none → s'.heap.get? a = some o
  new : ∀ a o, s.heap.get? a = some o → μ a = none → ξ a = none → μ' a = none ∧ ξ' a = none
  same : ∃ h tk, s' = { s with heap := h, toks := tk }

theorem Evo.refl {μ ξ s} : Evo μ ξ s μ ξ s := ⟨fun _ _ e _ _ => e, fun _ _ _ a b => ⟨a, b⟩, s.heap, s.toks, rfl⟩
theorem Evo.trans {μ ξ s μ₁ ξ₁ s₁ μ₂ ξ₂ s₂} (a : Evo μ ξ s μ₁ ξ₁ s₁) (b : Evo μ₁ ξ₁ s₁ μ₂ ξ₂ s₂) : Evo μ ξ s μ₂ ξ₂ s₂ where
  keep x o e m n := by
    have q := a.new x o e m n
    exact b.keep x o (a.keep x o e m n) q.1 q.2
  new x o e m n := by
    have q := a.new x o e m n
    exact b.new x o (a.keep x o e m n) q.1 q.2
  same := by
    obtain ⟨h, t, rfl⟩ := a.same
    obtain ⟨h', t', rfl⟩ := b.same
    exact ⟨h', t', rfl⟩
theorem Evo.stay {μ ξ s μ' ξ' s'} (a : Evo μ ξ s μ' ξ' s') : Stay μ ξ s.heap μ' ξ' s'.heap := fun x o e m n =>
  ⟨a.keep x o e m n, a.new x o e m n⟩
theorem Evo.toks {μ ξ s μ' ξ' s'} (a : Evo μ ξ s μ' ξ' s') (t : Nat) : Evo μ ξ s μ' ξ' { s' with toks := t } :=
  ⟨a.keep, a.new, by obtain ⟨h, k, rfl⟩ := a.same; exact ⟨h, t, rfl⟩⟩

theorem Good.free {prog w B μ ξ h} (g : Good prog w B μ ξ h) {a : Addr} (ha : h.get? a = none) : μ a = none ∧ ξ a = none := by
  constructor
  · cases e : μ a with
    | none => rfl
    | some mo =>
      have q := g.rep a mo e
      exfalso
      cases mo with
      | list l => obtain ⟨_, xs, n, q, _⟩ := q; rw [ha] at q; cases q
      | dict kvs => obtain ⟨_, ws, ⟨o, _, _, q, _⟩, _⟩ := q; rw [ha] at q; cases q
      | attrs kvs => obtain ⟨es, n, q, _⟩ := q; rw [ha] at q; cases q
  · cases e : ξ a with
    | none => rfl
    | some o => have := (g.ex a o e).1; rw [ha] at this; cases this
theorem fresh_get (h : Heap) {a : Addr} (ha : h.objs.size ≤ a) : h.get? a = none := by
  cases e : h.get? a with
  | none => rfl
  | some o => exact absurd (Heap.lt_size e) (Nat.not_lt.mpr ha)

theorem MRep.stay {prog w μ ξ h μ' ξ' h'} (k : Stay μ ξ h μ' ξ' h') {a : Addr} {mo : MObj} (hk : ∀ o, h.get? a = some o → h'.get? a = some o) (m : MRep prog w μ ξ h a mo) : MRep prog w μ' ξ' h' a mo := by
  cases mo with
  | list l => obtain ⟨o, xs, n, q, c, q3, d, r⟩ := m; exact ⟨o, xs, n, hk _ q, c, q3, d, r.stay k⟩
  | dict kvs =>
    obtain ⟨q0, ws, ⟨o, es, ep, q, r⟩, q2, q3⟩ := m
    exact ⟨q0, ws, ⟨o, es, ep, hk _ q, r⟩, q2, q3.stay k⟩
  | attrs kvs =>
    obtain ⟨es, n, q, r, r2, r3, q2⟩ := m
    exact ⟨es, n, hk _ q, r, r2, r3, fun x y e => let ⟨v, a, b⟩ := q2 x y e; ⟨v, a, b.stay k⟩⟩
end Tab
end
noncomputable section
open PySem PySem.W PyProof.Rows PySem.Calls
namespace Tab

abbrev Loc := List (Str × V)

structure Amb (K : Frag) (B : Heap) : Prop where
  inK : K.In B
  top : ∃ p loose mg mb, TopRead p loose mg mb B
  seer : B.NoSeer

structure Room (n : Nat) (A : Around) : Prop where
  handled : A.handled = none
  depth : A.depth + 3 * n + 103 < 1000
  units : A.units + 100 * n + 200 < 9900
  frames : ∃ l, A.frames = some l

def Kept (ξ ξ' : Xs) : Prop := ∀ a o, ξ a = some o → ξ' a = some o
theorem Kept.refl {ξ} : Kept ξ ξ := fun _ _ e => e
theorem Kept.trans {a b c : Xs} (x : Kept a b) (y : Kept b c) : Kept a c := fun _ _ e => y _ _ (x _ _ e)

section
variable {prog : Program} {w : World} {B : Heap}

def Post (prog : Program) (w : World) (B : Heap) (μ : Mem) (ξ : Xs) (s : Shared) (Q : V → Mem → Prop) (v : Value) (s' : Shared) : Prop :=
  ∃ x μ' ξ', Rep μ' ξ' s'.heap x v ∧ Good prog w B μ' ξ' s'.heap ∧ Evo μ ξ s μ' ξ' s' ∧ Kept ξ ξ' ∧ Q x μ'

theorem Post.after {μ ξ s μ₁ ξ₁ s₁ Q v s'} (e : Evo μ ξ s μ₁ ξ₁ s₁) (k : Kept ξ ξ₁) (p : Post prog w B μ₁ ξ₁ s₁ Q v s') : Post prog w B μ ξ s Q v s' :=
  let ⟨x, μ', ξ', a, b, c, d, q⟩ := p
  ⟨x, μ', ξ', a, b, e.trans c, k.trans d, q⟩
theorem Post.mono {μ ξ s Q Q' v s'} (p : Post prog w B μ ξ s Q v s') (h : ∀ x μ', Q x μ' → Q' x μ') : Post prog w B μ ξ s Q' v s' :=
  let ⟨x, μ', ξ', a, b, c, d, q⟩ := p
  ⟨x, μ', ξ', a, b, c, d, h _ _ q⟩

structure Frame (B : Heap) (env : Env) (ρ : Loc) (μ : Mem) (ξ : Xs) (h : Heap) : Prop where
  loc : ∃ o es n, ξ env.locals = some o ∧ o.data = .dict es n ∧ StrKeys es ∧ ∀ x y, ρ.lookup x = some y → env.kindOf x = some .local → ∃ v, nsFind es x = some v ∧ Rep μ ξ h y v
  cel : ∀ x y, ρ.lookup x = some y → env.kindOf x ≠ some .local → ∃ c o v, env.cells.lookup x = some c ∧ ξ c = some o ∧ o.data = .cell (some v) ∧ Rep μ ξ h y v
  has : ∀ x c, env.cells.lookup x = some c → ∃ o v, ξ c = some o ∧ o.data = .cell v
  apart : ∀ x y c, env.cells.lookup x = some c → env.cells.lookup y = some c → x = y

theorem Frame.stay {env ρ μ ξ h μ' ξ' h'} (f : Frame B env ρ μ ξ h) (st : Stay μ ξ h μ' ξ' h') (k : Kept ξ ξ') : Frame B env ρ μ' ξ' h' where
  loc := let ⟨o, es, n, a, b, c, d⟩ := f.loc
    ⟨o, es, n, k _ _ a, b, c, fun x y e e' => let ⟨v, p, q⟩ := d x y e e'; ⟨v, p, q.stay st⟩⟩
  cel x y e e' := let ⟨c, o, v, a, b, d, q⟩ := f.cel x y e e'
    ⟨c, o, v, a, k _ _ b, d, q.stay st⟩
  has x c e := let ⟨o, v, a, b⟩ := f.has x c e; ⟨o, v, k _ _ a, b⟩
  apart := f.apart
theorem Frame.weaken {env ρ ρ' μ ξ h} (f : Frame B env ρ μ ξ h) (k : ∀ x y, ρ'.lookup x = some y → ρ.lookup x = some y) : Frame B env ρ' μ ξ h where
  loc := let ⟨o, es, n, a, b, c, d⟩ := f.loc
    ⟨o, es, n, a, b, c, fun x y e e' => d x y (k x y e) e'⟩
  cel x y e e' := f.cel x y (k x y e) e'
  has := f.has
  apart := f.apart

def HE (prog : Program) (w : World) (B : Heap) (A : Around) (env : Env) (e : Expr) (ρ : Loc) (μ : Mem) (Q : V → Mem → Prop) : Prop :=
  ∀ ξ s, Good prog w B μ ξ s.heap → Frame B env ρ μ ξ s.heap → wpAny (model prog w) A (eval e env) (Post prog w B μ ξ s Q) (fun _ _ => False) s

def HT1 (prog : Program) (w : World) (B : Heap) (A : Around) (t : Value → Sem Value) (x : V) (μ : Mem) (Q : V → Mem → Prop) : Prop :=
  ∀ ξ s v, Good prog w B μ ξ s.heap → Rep μ ξ s.heap x v → wpAny (model prog w) A (t v) (Post prog w B μ ξ s Q) (fun _ _ => False) s
def HT2 (prog : Program) (w : World) (B : Heap) (A : Around) (t : Value → Value → Sem Value) (x y : V) (μ : Mem) (Q : V → Mem → Prop) : Prop :=
  ∀ ξ s v u, Good prog w B μ ξ s.heap → Rep μ ξ s.heap x v → Rep μ ξ s.heap y u → wpAny (model prog w) A (t v u) (Post prog w B μ ξ s Q) (fun _ _ => False) s

def PostB (prog : Program) (w : World) (B : Heap) (μ : Mem) (ξ : Xs) (s : Shared) (Q : Bool → Mem → Prop) (b : Bool) (s' : Shared) : Prop :=
  ∃ μ' ξ', Good prog w B μ' ξ' s'.heap ∧ Evo μ ξ s μ' ξ' s' ∧ Kept ξ ξ' ∧ Q b μ'
theorem PostB.after {μ ξ s μ₁ ξ₁ s₁ Q v s'} (e : Evo μ ξ s μ₁ ξ₁ s₁) (k : Kept ξ ξ₁) (p : PostB prog w B μ₁ ξ₁ s₁ Q v s') : PostB prog w B μ ξ s Q v s' :=
  let ⟨μ', ξ', b, c, d, q⟩ := p
  ⟨μ', ξ', b, e.trans c, k.trans d, q⟩
def HB (prog : Program) (w : World) (B : Heap) (A : Around) (env : Env) (e : Expr) (ρ : Loc) (μ : Mem) (Q : Bool → Mem → Prop) : Prop :=
  ∀ ξ s, Good prog w B μ ξ s.heap → Frame B env ρ μ ξ s.heap → wpAny (model prog w) A (isTrue e env (eval e env)) (PostB prog w B μ ξ s Q) (fun _ _ => False) s

inductive FR where
  | next | brk | cont
  | ret (x : V)
def FRep (μ : Mem) (ξ : Xs) (h : Heap) : FR → Flow → Prop
  | .next, .next => True
  | .brk, .brk => True
  | .cont, .cont => True
  | .ret x, .ret v => Rep μ ξ h x v
  | _, _ => False

def KeptBut (env : Env) (ξ ξ' : Xs) : Prop := ∀ a o, ξ a = some o → a ≠ env.locals → (∀ x, env.cells.lookup x ≠ some a) → ξ' a = some o
theorem KeptBut.trans {env} {a b c : Xs} (x : KeptBut env a b) (y : KeptBut env b c) : KeptBut env a c := fun _ _ e n m => y _ _ (x _ _ e n m) n m
theorem Kept.but {env} {a b : Xs} (x : Kept a b) : KeptBut env a b := fun _ _ e _ _ => x _ _ e

def PostS (prog : Program) (w : World) (B : Heap) (env : Env) (μ : Mem) (ξ : Xs) (s : Shared) (Q : FR → Loc → Mem → Prop) (f : Flow) (s' : Shared) : Prop :=
  ∃ r ρ' μ' ξ', FRep μ' ξ' s'.heap r f ∧ Good prog w B μ' ξ' s'.heap ∧ Frame B env ρ' μ' ξ' s'.heap ∧ Evo μ ξ s μ' ξ' s' ∧ KeptBut env ξ ξ' ∧ Q r ρ' μ'
theorem PostS.after {env μ ξ s μ₁ ξ₁ s₁ Q v s'} (e : Evo μ ξ s μ₁ ξ₁ s₁) (k : KeptBut env ξ ξ₁) (p : PostS prog w B env μ₁ ξ₁ s₁ Q v s') : PostS prog w B env μ ξ s Q v s' :=
  let ⟨r, ρ', μ', ξ', a, b, f, c, d, q⟩ := p
  ⟨r, ρ', μ', ξ', a, b, f, e.trans c, k.trans d, q⟩
def HX (prog : Program) (w : World) (B : Heap) (A : Around) (env : Env) (st : Stmt) (ρ : Loc) (μ : Mem) (Q : FR → Loc → Mem → Prop) : Prop :=
  ∀ ξ s, Good prog w B μ ξ s.heap → Frame B env ρ μ ξ s.heap → wpAny (model prog w) A (exec st env) (PostS prog w B env μ ξ s Q) (fun _ _ => False) s
def HS (prog : Program) (w : World) (B : Heap) (A : Around) (env : Env) (sts : List Stmt) (ρ : Loc) (μ : Mem) (Q : FR → Loc → Mem → Prop) : Prop :=
  ∀ ξ s, Good prog w B μ ξ s.heap → Frame B env ρ μ ξ s.heap → wpAny (model prog w) A (execs sts env) (PostS prog w B env μ ξ s Q) (fun _ _ => False) s

def Fn (prog : Program) (w : World) (B : Heap) (n : Nat) (f : Value) (args : List V) (μ : Mem) (Q : V → Mem → Prop) : Prop :=
  ∀ A, Room n A → ∀ ξ s vs, Good prog w B μ ξ s.heap → Reps μ ξ s.heap args vs →
    codeAny (model prog w) A (.call f ⟨vs, []⟩) (fun r s' => ∃ v, r = .ok (.ret v) ∧ Post prog w B μ ξ s Q v s') s

variable {A : Around} {env : Env} {ρ : Loc} {μ : Mem}

theorem HE.mono {e Q Q'} (h : HE prog w B A env e ρ μ Q) (k : ∀ x μ', Q x μ' → Q' x μ') : HE prog w B A env e ρ μ Q' :=
  fun ξ s g f => wpAny_mono (h ξ s g f) (fun _ _ p => p.mono k) fun _ _ x => x
theorem Fn.mono {n f args Q Q'} (h : Fn prog w B n f args μ Q) (k : ∀ x μ', Q x μ' → Q' x μ') : Fn prog w B n f args μ Q' :=
  fun A hA ξ s vs g r => codeAny_mono (h A hA ξ s vs g r) fun _ _ ⟨v, e, p⟩ => ⟨v, e, p.mono k⟩
theorem Room.less {n m A} (h : Room n A) (k : m ≤ n) : Room m A := ⟨h.handled, by have := h.depth; omega, by have := h.units; omega, h.frames⟩
theorem Fn.up {n m f args Q} (h : Fn prog w B n f args μ Q) (k : n ≤ m) : Fn prog w B m f args μ Q :=
  fun A hA => h A (hA.less k)

theorem Post.here {ξ s Q x v h tk} (hg : Good prog w B μ ξ s.heap) (hk : ∀ a o, s.heap.get? a = some o → h.get? a = some o)
    (hr : Rep μ ξ h x v) (q : Q x μ) : Post prog w B μ ξ s Q v { s with heap := h, toks := tk } := by
  have st : Stay μ ξ s.heap μ ξ h := fun a o e m n => ⟨hk a o e, m, n⟩
  exact ⟨x, μ, ξ, hr, ⟨fun a o e => ⟨hk _ _ (hg.base a o e).1, (hg.base a o e).2⟩, fun a mo e => (hg.rep a mo e).stay st (hk a), fun a o e => ⟨hk _ _ (hg.ex a o e).1, (hg.ex a o e).2⟩⟩,
    ⟨fun a o e _ _ => hk a o e, fun _ _ _ m n => ⟨m, n⟩, h, tk, rfl⟩, Kept.refl, q⟩
theorem Post.same {ξ s Q x v} (hg : Good prog w B μ ξ s.heap) (hr : Rep μ ξ s.heap x v) (q : Q x μ) : Post prog w B μ ξ s Q v s :=
  Post.here (tk := s.toks) hg (fun _ _ e => e) hr q
theorem Post.tok {ξ s Q x v} (n : Nat) (hg : Good prog w B μ ξ s.heap) (hr : Rep μ ξ s.heap x v) (q : Q x μ) : Post prog w B μ ξ s Q v { s with toks := n } :=
  Post.here hg (fun _ _ e => e) hr q
theorem Good.stays {ξ h} {μ : Mem} (g : Good prog w B μ ξ h) : ∀ a o, B.get? a = some o → h.get? a = some o := fun a o e => (g.base a o e).1

theorem push_keep {h : Heap} {o : Obj} : ∀ a o', h.get? a = some o' → (h.push o).get? a = some o' := fun _ _ e => Heap.get?_push_of_some _ e

-- names
theorem HE.var {x pos y Q} (hv : ρ.lookup x = some y) (q : Q y μ)
    (hk : env.scope.kind = .function := by rfl) (hx : (env.kindOf x == some .local || env.kindOf x == some .cell || env.kindOf x == some .free) = true := by rfl)
    (hd : (x == ("__debug__" : Str)) = false := by decide) (hc : (x == ("__classdict__" : Str)) = false := by decide) : HE prog w B A env (.Name x pos) ρ μ Q := by
  intro ξ s g f
  by_cases hl : env.kindOf x = some .local
  · obtain ⟨o, es, n, h1, h2, h3, h4⟩ := f.loc
    obtain ⟨v, h5, h6⟩ := h4 x y hv hl
    exact wpAny_Name (wpAny_loadName_local hk hl ⟨o, es, n, (g.ex _ _ h1).1, h2, h3, fun _ => rfl⟩ h5 (Post.same g h6 q)) hd
  · obtain ⟨c, o, v, h1, h2, h3, h4⟩ := f.cel x y hv hl
    have hcell : s.heap.IsCell c (some v) := ⟨o, (g.ex _ _ h2).1, h3⟩
    by_cases hl2 : env.kindOf x = some .cell
    · exact wpAny_Name (wpAny_loadName_cell hk hl2 h1 hcell (Post.same g h4 q)) hd
    · have hl3 : env.kindOf x = some .free := by
        simp only [Bool.or_eq_true, beq_iff_eq] at hx
        rcases hx with (hx | hx) | hx
        · exact absurd hx hl
        · exact absurd hx hl2
        · exact hx
      exact wpAny_Name (wpAny_loadName_free hk hl3 h1 hcell (Post.same g h4 q) hc) hd

theorem HE.glob {K : Frag} {x pos v y Q} (am : Amb K B) (e : nsIn K mainGlobals x = some (some v)) (hr : ∀ ξ h, Good prog w B μ ξ h → Rep μ ξ h y v) (q : Q y μ)
    (hk : env.scope.kind = .function := by rfl) (hx : env.kindOf x = some .globalImplicit := by rfl) (hG : env.globals = mainGlobals := by rfl)
    (hd : (x == ("__debug__" : Str)) = false := by decide) : HE prog w B A env (.Name x pos) ρ μ Q := by
  intro ξ s g f
  obtain ⟨p, loose, mg, mb, T⟩ := am.top
  exact Name_function_global hk hx (loadGlobal_global (env := env) (hG ▸ T.g.keeps g.stays) (mg_of am.inK T.g e) (Post.same g (hr _ _ g) q)) hd
theorem HE.globRaw {K : Frag} {x pos v Q} (am : Amb K B) (e : nsIn K mainGlobals x = some (some v)) (q : Q (.raw v) μ)
    (hk : env.scope.kind = .function := by rfl) (hx : env.kindOf x = some .globalImplicit := by rfl) (hG : env.globals = mainGlobals := by rfl)
    (hd : (x == ("__debug__" : Str)) = false := by decide) : HE prog w B A env (.Name x pos) ρ μ Q :=
  HE.glob am e (fun _ _ _ => by rw [Rep]) q hk hx hG hd
theorem HE.builtin {K : Frag} {x pos v Q} (am : Amb K B) (e : nsIn K mainGlobals x = some none) (hv : bootBuiltins x = some v) (q : Q (.raw v) μ) (hn : x ≠ "__name__" := by decide)
    (hk : env.scope.kind = .function := by rfl) (hx : env.kindOf x = some .globalImplicit := by rfl) (hG : env.globals = mainGlobals := by rfl) (hB : env.builtins = builtinsNs := by rfl)
    (hd : (x == ("__debug__" : Str)) = false := by decide) : HE prog w B A env (.Name x pos) ρ μ Q := by
  intro ξ s g f
  obtain ⟨p, loose, mg, mb, T⟩ := am.top
  exact Name_function_global hk hx (loadGlobal_builtin (env := env) (hG ▸ T.g.keeps g.stays) (mg_none_of am.inK T.g e) (hB ▸ T.b.keeps g.stays) ((T.builtins x hn).trans hv) (Post.same g (by rw [Rep]) q)) hd

-- constants
theorem HE.cInt {i k pos Q} (q : Q (.int i) μ) : HE prog w B A env (.Constant (.int i) k pos) ρ μ Q := fun ξ s g f =>
  wpAny_Constant_int (Post.tok _ g (by rw [Rep]; exact ⟨_, rfl⟩) q)
theorem HE.cBool {b k pos Q} (q : Q (.raw (.bool b)) μ) : HE prog w B A env (.Constant (.bool b) k pos) ρ μ Q := fun ξ s g f => by
  rw [arm_eval_Constant]
  exact wpAny_pure (Post.same g (by rw [Rep]) q)
theorem HE.cNone {k pos Q} (q : Q (.raw .none) μ) : HE prog w B A env (.Constant .none k pos) ρ μ Q := fun ξ s g f => by
  rw [arm_eval_Constant]
  exact wpAny_pure (Post.same g (by rw [Rep]) q)

-- one operand, two operands
theorem HE.unary {op e pos Q} (h : HE prog w B A env e ρ μ fun x μ₁ => HT1 prog w B A (unaryOp op) x μ₁ Q) : HE prog w B A env (.UnaryOp op e pos) ρ μ Q := fun ξ s g f =>
  wpAny_UnaryOp (wpAny_mono (h ξ s g f) (fun v s₁ ⟨x, μ₁, ξ₁, r, g₁, e₁, k₁, q⟩ => wpAny_mono (q ξ₁ s₁ v g₁ r) (fun _ _ p => p.after e₁ k₁) fun _ _ x => x) fun _ _ x => x)
theorem HE.binary {l op r pos Q} (h : HE prog w B A env l ρ μ fun x μ₁ => HE prog w B A env r ρ μ₁ fun y μ₂ => HT2 prog w B A (binaryOp op) x y μ₂ Q) :
    HE prog w B A env (.BinOp l op r pos) ρ μ Q := fun ξ s g f =>
  wpAny_BinOp (wpAny_mono (h ξ s g f) (fun v s₁ ⟨x, μ₁, ξ₁, r, g₁, e₁, k₁, q⟩ =>
    wpAny_mono (q ξ₁ s₁ g₁ (f.stay e₁.stay k₁)) (fun u s₂ ⟨y, μ₂, ξ₂, r₂, g₂, e₂, k₂, q₂⟩ =>
      wpAny_mono (q₂ ξ₂ s₂ v u g₂ (r.stay e₂.stay) r₂) (fun _ _ p => (p.after e₂ k₂).after e₁ k₁) fun _ _ x => x) fun _ _ x => x) fun _ _ x => x)
theorem HE.compare {l op r pos Q} (h : HE prog w B A env l ρ μ fun x μ₁ => HE prog w B A env r ρ μ₁ fun y μ₂ => HT2 prog w B A (compareOp op) x y μ₂ Q)
    (hm : behindInMarks op r = false := by with_unfolding_all rfl) :
    HE prog w B A env (.Compare l [op] [r] pos) ρ μ Q := fun ξ s g f =>
  wpAny_Compare1 (hm := hm) (wpAny_mono (h ξ s g f) (fun v s₁ ⟨x, μ₁, ξ₁, r, g₁, e₁, k₁, q⟩ =>
    wpAny_mono (q ξ₁ s₁ g₁ (f.stay e₁.stay k₁)) (fun u s₂ ⟨y, μ₂, ξ₂, r₂, g₂, e₂, k₂, q₂⟩ =>
      wpAny_mono (q₂ ξ₂ s₂ v u g₂ (r.stay e₂.stay) r₂) (fun _ _ p => (p.after e₂ k₂).after e₁ k₁) fun _ _ x => x) fun _ _ x => x) fun _ _ x => x)

-- tests
theorem HB.compare {l op r pos} {Q : Bool → Mem → Prop} (h : HE prog w B A env l ρ μ fun x μ₁ => HE prog w B A env r ρ μ₁ fun y μ₂ => HT2 prog w B A (compareOp op) x y μ₂ fun z μ₃ => ∃ b, z = .raw (.bool b) ∧ Q b μ₃)
    (hm : behindInMarks op r = false := by with_unfolding_all rfl) :
    HB prog w B A env (.Compare l [op] [r] pos) ρ μ Q := fun ξ s g f =>
  wpAny_isTrue_Compare1 (hm := hm) (wpAny_mono (h ξ s g f) (fun v s₁ ⟨x, μ₁, ξ₁, r, g₁, e₁, k₁, q⟩ =>
    wpAny_mono (q ξ₁ s₁ g₁ (f.stay e₁.stay k₁)) (fun u s₂ ⟨y, μ₂, ξ₂, r₂, g₂, e₂, k₂, q₂⟩ =>
      wpAny_mono (q₂ ξ₂ s₂ v u g₂ (r.stay e₂.stay) r₂) (fun c s₃ ⟨z, μ₃, ξ₃, r₃, g₃, e₃, k₃, b, hz, q₃⟩ => by
        subst hz
        rw [Rep] at r₃
        subst r₃
        exact wpAny_truthy_bool ⟨μ₃, ξ₃, g₃, e₁.trans (e₂.trans e₃), k₁.trans (k₂.trans k₃), q₃⟩) fun _ _ x => x) fun _ _ x => x) fun _ _ x => x)
theorem HB.not {e pos} {Q : Bool → Mem → Prop} (h : HB prog w B A env e ρ μ fun b => Q (!b)) : HB prog w B A env (.UnaryOp .Not e pos) ρ μ Q := fun ξ s g f => by
  rw [arm_isTrue_UnaryOp]
  exact wpAny_bind (wpAny_mono (h ξ s g f) (fun b s' ⟨μ', ξ', a, c, d, q⟩ => wpAny_pure ⟨μ', ξ', a, c, d, q⟩) fun _ _ x => x)
def HBs (prog : Program) (w : World) (B : Heap) (A : Around) (env : Env) (op : BoolOp) (es : List Expr) (ρ : Loc) (μ : Mem) (Q : Bool → Mem → Prop) : Prop :=
  ∀ ξ s, Good prog w B μ ξ s.heap → Frame B env ρ μ ξ s.heap → wpAny (model prog w) A (allTrue op es env) (PostB prog w B μ ξ s Q) (fun _ _ => False) s
theorem HB.boolop {op es pos} {Q : Bool → Mem → Prop} (h : HBs prog w B A env op es ρ μ Q) : HB prog w B A env (.BoolOp op es pos) ρ μ Q := fun ξ s g f => by
  rw [arm_isTrue_BoolOp]; exact h ξ s g f
theorem HBs.nil {op} {Q : Bool → Mem → Prop} (q : Q (op == .And) μ) : HBs prog w B A env op [] ρ μ Q := fun ξ s g f => by
  rw [arm_allTrue_nil]; exact wpAny_pure ⟨μ, ξ, g, Evo.refl, Kept.refl, q⟩
theorem HBs.and {e es} {Q : Bool → Mem → Prop} (h : HB prog w B A env e ρ μ fun b μ' => if b then HBs prog w B A env .And es ρ μ' Q else Q false μ') : HBs prog w B A env .And (e :: es) ρ μ Q := fun ξ s g f => by
  rw [arm_allTrue_cons]
  refine wpAny_bind (wpAny_mono (h ξ s g f) (fun b s' ⟨μ', ξ', a, c, d, q⟩ => ?_) fun _ _ x => x)
  cases b with
  | false => exact wpAny_pure ⟨μ', ξ', a, c, d, q⟩
  | true => exact wpAny_mono (q ξ' s' a (f.stay c.stay d)) (fun _ _ p => p.after c d) fun _ _ x => x
theorem HBs.or {e es} {Q : Bool → Mem → Prop} (h : HB prog w B A env e ρ μ fun b μ' => if b then Q true μ' else HBs prog w B A env .Or es ρ μ' Q) : HBs prog w B A env .Or (e :: es) ρ μ Q := fun ξ s g f => by
  rw [arm_allTrue_cons]
  refine wpAny_bind (wpAny_mono (h ξ s g f) (fun b s' ⟨μ', ξ', a, c, d, q⟩ => ?_) fun _ _ x => x)
  cases b with
  | true => exact wpAny_pure ⟨μ', ξ', a, c, d, q⟩
  | false => exact wpAny_mono (q ξ' s' a (f.stay c.stay d)) (fun _ _ p => p.after c d) fun _ _ x => x
theorem HE.ifexp {t e e' pos Q} (h : HB prog w B A env t ρ μ fun b μ' => if b then HE prog w B A env e ρ μ' Q else HE prog w B A env e' ρ μ' Q) : HE prog w B A env (.IfExp t e e' pos) ρ μ Q := fun ξ s g f => by
  rw [arm_eval_IfExp]
  refine wpAny_bind (wpAny_mono (h ξ s g f) (fun b s' ⟨μ', ξ', a, c, d, q⟩ => ?_) fun _ _ x => x)
  cases b with
  | true => exact wpAny_mono (q ξ' s' a (f.stay c.stay d)) (fun _ _ p => p.after c d) fun _ _ x => x
  | false => exact wpAny_mono (q ξ' s' a (f.stay c.stay d)) (fun _ _ p => p.after c d) fun _ _ x => x
end
end Tab
end
noncomputable section
open PySem PySem.W PyProof.Rows PySem.Calls
namespace Tab
section
variable {prog : Program} {w : World} {B : Heap} {A : Around} {env : Env} {ρ : Loc} {μ : Mem}

theorem Good.here {prog w B μ ξ h} (g : Good prog w B μ ξ h) {a : Addr} (ha : μ a ≠ none ∨ ξ a ≠ none) : h.get? a ≠ none := fun l => by
  have q := g.free l
  rcases ha with ha | ha
  · exact absurd q.1 ha
  · exact absurd q.2 ha

theorem chg_exE {ξ s a o o' h' tk} (g : Good prog w B μ ξ s.heap) (hx : ξ a = some o) (hs : Heap.ExtBut a s.heap h') (ho : h'.get? a = some o') :
    Good prog w B μ (ξ.set a o') h' ∧ Evo μ ξ s μ (ξ.set a o') { s with heap := h', toks := tk } := by
  have hm : μ a = none := (g.ex a o hx).2
  have st : Stay μ ξ s.heap μ (ξ.set a o') h' := fun b ob e m n => by
    have hb : b ≠ a := by rintro rfl; rw [hx] at n; cases n
    exact ⟨hs b _ hb e, m, by rw [Xs.set_ne hb]; exact n⟩
  refine ⟨⟨fun b ob e => ?_, fun b mo e => ?_, fun b ob e => ?_⟩, ⟨fun b ob e m n => (st b ob e m n).1, fun b ob e m n => (st b ob e m n).2, h', tk, rfl⟩⟩
  · have q := g.base b ob e
    exact st b ob q.1 q.2.1 q.2.2
  · have hb : b ≠ a := by rintro rfl; rw [hm] at e; cases e
    exact (g.rep b mo e).stay st fun ob e' => hs b _ hb e'
  · by_cases hb : b = a
    · subst hb; rw [Xs.set_self] at e; cases e; exact ⟨ho, hm⟩
    · rw [Xs.set_ne hb] at e
      exact ⟨hs b _ hb (g.ex b ob e).1, (g.ex b ob e).2⟩
theorem chg_ex {ξ s a o o' h' tk} (g : Good prog w B μ ξ s.heap) (hx : ξ a = some o) (hs : Heap.SameBut a s.heap h') (ho : h'.get? a = some o') :
    Good prog w B μ (ξ.set a o') h' ∧ Evo μ ξ s μ (ξ.set a o') { s with heap := h', toks := tk } := chg_exE g hx hs.extBut ho

theorem chg_mem {ξ s a mo mo' h' tk} (g : Good prog w B μ ξ s.heap) (hx : μ a = some mo) (hs : Heap.SameBut a s.heap h')
    (ho : Stay μ ξ s.heap (μ.set a mo') ξ h' → MRep prog w (μ.set a mo') ξ h' a mo') :
    Good prog w B (μ.set a mo') ξ h' ∧ Evo μ ξ s (μ.set a mo') ξ { s with heap := h', toks := tk } := by
  have hm : ξ a = none := by
    cases e : ξ a with
    | none => rfl
    | some o => have := (g.ex a o e).2; rw [hx] at this; cases this
  have st : Stay μ ξ s.heap (μ.set a mo') ξ h' := fun b ob e m n => by
    have hb : b ≠ a := by rintro rfl; rw [hx] at m; cases m
    exact ⟨(hs.2 b hb).trans e, by rw [Mem.set_ne hb]; exact m, n⟩
  refine ⟨⟨fun b ob e => ?_, fun b mo e => ?_, fun b ob e => ?_⟩, ⟨fun b ob e m n => (st b ob e m n).1, fun b ob e m n => (st b ob e m n).2, h', tk, rfl⟩⟩
  · have q := g.base b ob e
    exact st b ob q.1 q.2.1 q.2.2
  · by_cases hb : b = a
    · subst hb; rw [Mem.set_self] at e; cases e; exact ho st
    · rw [Mem.set_ne hb] at e
      exact (g.rep b mo e).stay st fun ob e' => (hs.2 b hb).trans e'
  · have q := g.ex b ob e
    have hb : b ≠ a := by rintro rfl; rw [hm] at e; cases e
    exact ⟨(hs.2 b hb).trans q.1, by rw [Mem.set_ne hb]; exact q.2⟩

theorem new_mem {ξ s a mo h' tk} (g : Good prog w B μ ξ s.heap) (ha : s.heap.get? a = none) (hk : ∀ b o, s.heap.get? b = some o → h'.get? b = some o)
    (ho : Stay μ ξ s.heap (μ.set a mo) ξ h' → MRep prog w (μ.set a mo) ξ h' a mo) :
    Good prog w B (μ.set a mo) ξ h' ∧ Evo μ ξ s (μ.set a mo) ξ { s with heap := h', toks := tk } := by
  have fr := g.free ha
  have ne : ∀ b ob, s.heap.get? b = some ob → b ≠ a := fun b ob l e => by subst e; rw [ha] at l; cases l
  have st : Stay μ ξ s.heap (μ.set a mo) ξ h' := fun b ob e m n => ⟨hk _ _ e, by rw [Mem.set_ne (ne b _ e)]; exact m, n⟩
  refine ⟨⟨fun b ob e => ?_, fun b mo e => ?_, fun b ob e => ?_⟩, ⟨fun b ob e m n => (st b ob e m n).1, fun b ob e m n => (st b ob e m n).2, h', tk, rfl⟩⟩
  · have q := g.base b ob e
    exact st b ob q.1 q.2.1 q.2.2
  · by_cases hb : b = a
    · subst hb; rw [Mem.set_self] at e; cases e; exact ho st
    · rw [Mem.set_ne hb] at e
      exact (g.rep b mo e).stay st fun ob e' => hk _ _ e'
  · have q := g.ex b ob e
    have hb : b ≠ a := by rintro rfl; rw [fr.2] at e; cases e
    exact ⟨hk _ _ q.1, by rw [Mem.set_ne hb]; exact q.2⟩

theorem new_ex {ξ ξ' s h' tk} (g : Good prog w B μ ξ s.heap) (hk : ∀ b o, s.heap.get? b = some o → h'.get? b = some o)
    (hlo : ∀ b o, s.heap.get? b = some o → ξ' b = ξ b) (hhi : ∀ b, s.heap.get? b = none → ∀ o, ξ' b = some o → h'.get? b = some o) :
    Good prog w B μ ξ' h' ∧ Evo μ ξ s μ ξ' { s with heap := h', toks := tk } ∧ Kept ξ ξ' := by
  have st : Stay μ ξ s.heap μ ξ' h' := fun b ob e m n => ⟨hk _ _ e, m, by rw [hlo b _ e]; exact n⟩
  refine ⟨⟨fun b ob e => ?_, fun b mo e => ?_, fun b ob e => ?_⟩, ⟨fun b ob e m n => (st b ob e m n).1, fun b ob e m n => (st b ob e m n).2, h', tk, rfl⟩, fun b o e => ?_⟩
  · have q := g.base b ob e
    exact st b ob q.1 q.2.1 q.2.2
  · exact (g.rep b mo e).stay st fun ob e' => hk _ _ e'
  · cases l : s.heap.get? b with
    | some o =>
      rw [hlo b o l] at e
      exact ⟨hk _ _ (g.ex b ob e).1, (g.ex b ob e).2⟩
    | none => exact ⟨hhi b l ob e, (g.free l).1⟩
  · rw [hlo b o (g.ex b o e).1]; exact e

theorem Amb.now {K : Frag} {ξ h} (am : Amb K B) (g : Good prog w B μ ξ h) : K.In h := am.inK.keeps g.stays

def PostU (prog : Program) (w : World) (B : Heap) (env : Env) (μ : Mem) (ξ : Xs) (s : Shared) (Q : Loc → Mem → Prop) (_ : Unit) (s' : Shared) : Prop :=
  ∃ ρ' μ' ξ', Good prog w B μ' ξ' s'.heap ∧ Frame B env ρ' μ' ξ' s'.heap ∧ Evo μ ξ s μ' ξ' s' ∧ KeptBut env ξ ξ' ∧ Q ρ' μ'
theorem PostU.after {env μ ξ s μ₁ ξ₁ s₁ Q v s'} (e : Evo μ ξ s μ₁ ξ₁ s₁) (k : KeptBut env ξ ξ₁) (p : PostU prog w B env μ₁ ξ₁ s₁ Q v s') : PostU prog w B env μ ξ s Q v s' :=
  let ⟨ρ', μ', ξ', b, f, c, d, q⟩ := p
  ⟨ρ', μ', ξ', b, f, e.trans c, k.trans d, q⟩
theorem store_name {n : Str} {x : V} {ξ s v} {Q : Loc → Mem → Prop} (g : Good prog w B μ ξ s.heap) (f : Frame B env ρ μ ξ s.heap) (r : Rep μ ξ s.heap x v) (q : Q ((n, x) :: ρ) μ)
    (hk : env.scope.kind = .function := by rfl) (hn : (env.kindOf n == some .local || (env.kindOf n == some .cell && (env.cells.lookup n).isSome)) = true := by rfl) :
    wpAny (model prog w) A (storeName env n v) (PostU prog w B env μ ξ s Q) (fun _ _ => False) s := by
  obtain ⟨o, es, k, h1, h2, h3, h4⟩ := f.loc
  by_cases hl : env.kindOf n = some .local
  · refine wpAny_storeName_local hl ⟨o, es, k, (g.ex _ _ h1).1, h2, h3, fun _ => rfl⟩ (fun h' hns hs => ?_) (by rw [hk]; rfl)
    obtain ⟨o', es', k', p1, p2, p3, p4⟩ := hns
    have ⟨g', e'⟩ := chg_ex (tk := s.toks + 1) g h1 hs p1
    refine ⟨_, μ, ξ.set env.locals o', g', ⟨⟨o', es', k', Xs.set_self .., p2, p3, fun y z hy hz => ?_⟩, fun y z hy hz => ?_, fun y c hc => ?_, f.apart⟩, e', fun a oa e1 e2 _ => by rw [Xs.set_ne e2]; exact e1, q⟩
    · rw [p4]
      rw [List.lookup_cons] at hy
      by_cases hyn : y = n
      · subst hyn
        simp only [beq_self_eq_true] at hy
        cases hy
        exact ⟨v, if_pos rfl, r.stay e'.stay⟩
      · have : (y == n) = false := beq_eq_false_iff_ne.mpr hyn
        rw [this] at hy
        obtain ⟨u, u1, u2⟩ := h4 y z hy hz
        exact ⟨u, by show (if y = n then some v else nsFind es y) = some u; rw [if_neg hyn]; exact u1, u2.stay e'.stay⟩
    · rw [List.lookup_cons] at hy
      by_cases hyn : y = n
      · subst hyn; exact absurd hl hz
      · have : (y == n) = false := beq_eq_false_iff_ne.mpr hyn
        rw [this] at hy
        obtain ⟨c, oc, u, c1, c2, c3, c4⟩ := f.cel y z hy hz
        refine ⟨c, oc, u, c1, ?_, c3, c4.stay e'.stay⟩
        rw [Xs.set_ne (fun q => by subst q; rw [h1] at c2; cases c2; rw [h2] at c3; cases c3)]; exact c2
    · obtain ⟨oc, u, c2, c3⟩ := f.has y c hc
      exact ⟨oc, u, by rw [Xs.set_ne (fun q => by subst q; rw [h1] at c2; cases c2; rw [h2] at c3; cases c3)]; exact c2, c3⟩
  · have hc : env.kindOf n = some .cell ∧ (env.cells.lookup n).isSome = true := by
      simp only [Bool.or_eq_true, beq_iff_eq, Bool.and_eq_true] at hn
      exact hn.resolve_left hl
    obtain ⟨c, hcl⟩ := Option.isSome_iff_exists.mp hc.2
    obtain ⟨oc, u, c2, c3⟩ := f.has n c hcl
    have hLc : env.locals ≠ c := fun q => by subst q; rw [h1] at c2; cases c2; rw [h2] at c3; cases c3
    refine wpAny_storeName_cell hk hc.1 hcl ⟨oc, (g.ex _ _ c2).1, c3⟩ (fun h' hv hs => ?_)
    obtain ⟨o', p1, p2⟩ := hv
    have ⟨g', e'⟩ := chg_ex (tk := s.toks) g c2 hs p1
    refine ⟨_, μ, ξ.set c o', g', ⟨⟨o, es, k, by rw [Xs.set_ne hLc]; exact h1, h2, h3, fun y z hy hz => ?_⟩, fun y z hy hz => ?_, fun y d hd => ?_, f.apart⟩, e', fun a oa e1 _ e3 => by rw [Xs.set_ne (fun (q : a = c) => e3 n (by rw [q]; exact hcl))]; exact e1, q⟩
    · rw [List.lookup_cons] at hy
      by_cases hyn : y = n
      · subst hyn; exact absurd hz hl
      · have : (y == n) = false := beq_eq_false_iff_ne.mpr hyn
        rw [this] at hy
        obtain ⟨u, u1, u2⟩ := h4 y z hy hz
        exact ⟨u, u1, u2.stay e'.stay⟩
    · rw [List.lookup_cons] at hy
      by_cases hyn : y = n
      · subst hyn
        simp only [beq_self_eq_true] at hy
        cases hy
        exact ⟨c, o', v, hcl, Xs.set_self .., p2, r.stay e'.stay⟩
      · have : (y == n) = false := beq_eq_false_iff_ne.mpr hyn
        rw [this] at hy
        obtain ⟨d, od, u, d1, d2, d3, d4⟩ := f.cel y z hy hz
        refine ⟨d, od, u, d1, ?_, d3, d4.stay e'.stay⟩
        rw [Xs.set_ne (fun (q : d = c) => hyn (f.apart y n c (by rw [← q]; exact d1) hcl))]; exact d2
    · by_cases hdc : d = c
      · subst hdc; exact ⟨o', some v, Xs.set_self .., p2⟩
      · obtain ⟨od, u, d2, d3⟩ := f.has y d hd
        exact ⟨od, u, by rw [Xs.set_ne hdc]; exact d2, d3⟩

theorem HS.nil {Q : FR → Loc → Mem → Prop} (q : Q .next ρ μ) : HS prog w B A env [] ρ μ Q := fun ξ s g f =>
  wpAny_execs_nil ⟨.next, ρ, μ, ξ, trivial, g, f, Evo.refl, fun _ _ e _ _ => e, q⟩
theorem HS.cons {st rest} {Q : FR → Loc → Mem → Prop} (h : HX prog w B A env st ρ μ fun r ρ' μ' => match r with | .next => HS prog w B A env rest ρ' μ' Q | r => Q r ρ' μ') : HS prog w B A env (st :: rest) ρ μ Q := fun ξ s g f =>
  wpAny_execs_cons (wpAny_mono (h ξ s g f) (fun fl s' ⟨r, ρ', μ', ξ', a, b, c, d, k, q⟩ => by
    cases r <;> cases fl <;> first
      | exact a.elim
      | exact wpAny_mono (q ξ' s' b c) (fun _ _ p => p.after d k) fun _ _ x => x
      | exact ⟨_, ρ', μ', ξ', a, b, c, d, k, q⟩) fun _ _ x => x)
theorem HS.one {st} {Q : FR → Loc → Mem → Prop} (h : HX prog w B A env st ρ μ Q) : HS prog w B A env [st] ρ μ Q :=
  HS.cons (fun ξ s g f => wpAny_mono (h ξ s g f) (fun fl s' ⟨r, ρ', μ', ξ', a, b, c, d, k, q⟩ => ⟨r, ρ', μ', ξ', a, b, c, d, k, by cases r <;> first | exact HS.nil q | exact q⟩) fun _ _ x => x)
theorem HS.mono {sts} {Q Q' : FR → Loc → Mem → Prop} (h : HS prog w B A env sts ρ μ Q) (k : ∀ r ρ' μ', Q r ρ' μ' → Q' r ρ' μ') : HS prog w B A env sts ρ μ Q' := fun ξ s g f =>
  wpAny_mono (h ξ s g f) (fun _ _ ⟨r, ρ', μ', ξ', a, b, c, d, e, q⟩ => ⟨r, ρ', μ', ξ', a, b, c, d, e, k _ _ _ q⟩) fun _ _ x => x
theorem HX.mono {st} {Q Q' : FR → Loc → Mem → Prop} (h : HX prog w B A env st ρ μ Q) (k : ∀ r ρ' μ', Q r ρ' μ' → Q' r ρ' μ') : HX prog w B A env st ρ μ Q' := fun ξ s g f =>
  wpAny_mono (h ξ s g f) (fun _ _ ⟨r, ρ', μ', ξ', a, b, c, d, e, q⟩ => ⟨r, ρ', μ', ξ', a, b, c, d, e, k _ _ _ q⟩) fun _ _ x => x
theorem HS.weaken {sts ρ'} {Q : FR → Loc → Mem → Prop} (h : HS prog w B A env sts ρ' μ Q) (k : ∀ x y, ρ'.lookup x = some y → ρ.lookup x = some y) : HS prog w B A env sts ρ μ Q :=
  fun ξ s g f => h ξ s g (f.weaken k)

theorem HX.ret {e pos} {Q : FR → Loc → Mem → Prop} (h : HE prog w B A env e ρ μ fun x μ' => Q (.ret x) ρ μ') : HX prog w B A env (.Return (some e) pos) ρ μ Q := fun ξ s g f =>
  wpAny_Return_some (wpAny_mono (h ξ s g f) (fun v s' ⟨x, μ', ξ', a, b, c, d, q⟩ => ⟨.ret x, ρ, μ', ξ', a, b, f.stay c.stay d, c, d.but, q⟩) fun _ _ x => x)
theorem HX.ite {t b1 b2 pos} {Q : FR → Loc → Mem → Prop} (h : HB prog w B A env t ρ μ fun b μ' => if b then HS prog w B A env b1 ρ μ' Q else HS prog w B A env b2 ρ μ' Q) : HX prog w B A env (.If t b1 b2 pos) ρ μ Q := fun ξ s g f =>
  wpAny_If (wpAny_mono (h ξ s g f) (fun b s' ⟨μ', ξ', a, c, d, q⟩ => by
    cases b with
    | true => exact wpAny_mono (q ξ' s' a (f.stay c.stay d)) (fun _ _ p => p.after c d.but) fun _ _ x => x
    | false => exact wpAny_mono (q ξ' s' a (f.stay c.stay d)) (fun _ _ p => p.after c d.but) fun _ _ x => x) fun _ _ x => x)
theorem HX.assign {n pos' e pos} {Q : FR → Loc → Mem → Prop} (h : HE prog w B A env e ρ μ fun x μ' => Q .next ((n, x) :: ρ) μ')
    (hs : swapsWith e (some (.Name n pos')) pos.line env = pure false := by rfl)
    (hk : env.scope.kind = .function := by rfl) (hn : (env.kindOf n == some .local || (env.kindOf n == some .cell && (env.cells.lookup n).isSome)) = true := by rfl) :
    HX prog w B A env (.Assign [.Name n pos'] e pos) ρ μ Q := fun ξ s g f =>
  wpAny_Assign_Name (hs := hs) (wpAny_mono (h ξ s g f) (fun v s₁ ⟨x, μ₁, ξ₁, r, g₁, e₁, k₁, q⟩ =>
    wpAny_mono (store_name (Q := fun ρ' μ' => Q .next ρ' μ') g₁ (f.stay e₁.stay k₁) r q hk hn) (fun _ s' ⟨ρ', μ', ξ', a, b, c, d, q⟩ =>
      ⟨.next, ρ', μ', ξ', trivial, a, b, e₁.trans c, k₁.but.trans d, q⟩) fun _ _ x => x) fun _ _ x => x)
theorem HX.expr {e pos} {Q : FR → Loc → Mem → Prop} (h : HE prog w B A env e ρ μ fun _ μ' => Q .next ρ μ')
    (hi : interactive env = false := by rfl) (hs : swapsWith e none pos.line env = pure false := by rfl) : HX prog w B A env (.Expr e pos) ρ μ Q := fun ξ s g f => by
  rw [exec_Expr env e pos hi hs]
  exact wpAny_bind (wpAny_standAt (wpAny_bind (wpAny_mono (h ξ s g f) (fun v s' ⟨x, μ', ξ', a, b, c, d, q⟩ =>
    wpAny_dropValue ⟨.next, ρ, μ', ξ', trivial, b, f.stay c.stay d, c, d.but, q⟩) fun _ _ x => x)))
end
end Tab
end
noncomputable section
open PySem PySem.W PyProof.Rows PySem.Calls
namespace Tab
section
variable {prog : Program} {w : World} {B : Heap} {A : Around} {env : Env} {ρ : Loc} {μ : Mem}

theorem bindL_other (k : Str → Option NameKind) : ∀ (l : List (Str × Value)) (m : Str → Option Value) (x : Str), x ∉ l.map (·.1) → bindL k l m x = m x
  | [], _, _, _ => rfl
  | (n, v) :: r, m, x, h => by
    rw [List.map_cons, List.mem_cons, not_or] at h
    rw [bindL, bindL_other k r _ x h.2]
    split
    · show (if x = n then some v else m x) = m x
      rw [if_neg h.1]
    · rfl
theorem bindC_other (k : Str → Option NameKind) : ∀ (l : List (Str × Value)) (m : Str → Option Value) (x : Str), x ∉ l.map (·.1) → bindC k l m x = m x
  | [], _, _, _ => rfl
  | (n, v) :: r, m, x, h => by
    rw [List.map_cons, List.mem_cons, not_or] at h
    rw [bindC, bindC_other k r _ x h.2]
    split
    · rfl
    · show (if x = n then some v else m x) = m x
      rw [if_neg h.1]
theorem zip_keys_sub {β : Type} : ∀ (ns : List Str) (vs : List β) (x : Str), x ∉ ns → x ∉ (ns.zip vs).map (·.1)
  | [], _, _, _ => by simp
  | n :: r, [], _, _ => by simp
  | n :: r, v :: t, x, h => by
    rw [List.mem_cons, not_or] at h
    simp only [List.zip_cons_cons, List.map_cons, List.mem_cons, not_or]
    exact ⟨h.1, zip_keys_sub r t x h.2⟩
theorem bind_get {μ ξ h} (k : Str → Option NameKind) : ∀ (ns : List Str) (args : List V) (vs : List Value) (m : Str → Option Value), ns.Nodup → Reps μ ξ h args vs →
    ∀ x y, (ns.zip args).lookup x = some y → (k x = some .local → ∃ v, bindL k (ns.zip vs) m x = some v ∧ Rep μ ξ h y v) ∧ (k x ≠ some .local → ∃ v, bindC k (ns.zip vs) m x = some v ∧ Rep μ ξ h y v)
  | [], _, _, _, _, _, x, y, e => by simp at e
  | n :: r, [], _, _, _, _, x, y, e => by simp at e
  | n :: r, a :: as, vs, m, hn, hr, x, y, e => by
    rw [Reps] at hr
    obtain ⟨v, t, rfl, h1, h2⟩ := hr
    rw [List.nodup_cons] at hn
    rw [List.zip_cons_cons, List.lookup_cons] at e
    rw [List.zip_cons_cons, bindL, bindC]
    by_cases hx : x = n
    · subst hx
      simp only [beq_self_eq_true] at e
      cases e
      constructor
      · intro hl
        rw [if_pos hl, bindL_other _ _ _ _ (zip_keys_sub _ _ _ hn.1)]
        exact ⟨v, if_pos rfl, h1⟩
      · intro hl
        rw [if_neg hl, bindC_other _ _ _ _ (zip_keys_sub _ _ _ hn.1)]
        exact ⟨v, if_pos rfl, h1⟩
    · have : (x == n) = false := beq_eq_false_iff_ne.mpr hx
      rw [this] at e
      exact ⟨fun hl => (bind_get k r as t _ hn.2 h2 x y e).1 hl, fun hl => (bind_get k r as t _ hn.2 h2 x y e).2 hl⟩
theorem zip_mem_keys {β : Type} : ∀ (ns : List Str) (vs : List β) (x : Str × β), x ∈ ns.zip vs → x.1 ∈ ns := fun ns vs x h => by
  have := List.of_mem_zip (a := x.1) (b := x.2) (l₁ := ns) (l₂ := vs) h
  exact this.1

theorem room_deeper {n A} (h : Room (n + 1) A) (env : Env) : Room n (A.deeper env) :=
  ⟨h.handled, by have := h.depth; show A.depth + 1 + 3 * n + 103 < 1000; omega, by have := h.units; show A.units + 3 + 100 * n + 200 < 9900; omega, by obtain ⟨l, e⟩ := h.frames; exact ⟨env :: l, by show A.frames.map _ = _; rw [e]; rfl⟩⟩

theorem Fn.enter {K : Frag} {n : Nat} {f : Addr} {oc : Value} {od : Option Addr} {fd : FuncData} {osl : Array (Option Value)} {names : List Str} {body : List Stmt} {args : List V} {Q : V → Mem → Prop}
    (am : Amb K B) (ho : K.lookup f = some ⟨oc, od, .func fd, osl⟩) (hcd : codeIn K fd.code fd.qualname = true)
    (h : ∀ A L, Room n A → (∃ l, A.frames = some (callEnvC fd L f :: l)) → HS prog w B A (callEnvC fd L f) body (names.zip args) μ fun r _ μ' => match r with | .ret x => Q x μ' | .next => Q (.raw .none) μ' | _ => False)
    (hbody : fd.body = .stmts body) (hclo : fd.closure = [])
    (hlen : args.length = names.length)
    (hbind : ∀ vs : List Value, vs.length = names.length → bindArgs fd ⟨vs, []⟩ = pure (names.zip vs))
    (hnd : names.Nodup) (hkind : (names.all fun y => fd.scope.names.lookup y == some .local || fd.scope.names.lookup y == some .cell) = true)
    (hcn : ((cellsFrom 0 fd.scope.names []).map (·.1)).Nodup)
    (hco : fd.scope.isCoroutine = false := by rfl) (hgen : fd.scope.isGenerator = false := by rfl) (hk : fd.scope.kind = .function := by rfl) :
    Fn prog w B (n + 1) (.ref f) args μ Q := by
  intro A hA ξ s vs g hr
  have X := am.now g
  obtain ⟨_, _, _, _, T⟩ := am.top
  have hvl : vs.length = names.length := hr.length.trans hlen
  have hkk : ∀ x ∈ names.zip vs, fd.scope.names.lookup x.1 = some .local ∨ (fd.scope.names.lookup x.1 = some .cell ∧ ((cellsFrom (s.heap.objs.size + 1) fd.scope.names []).lookup x.1).isSome = true) := by
    intro x hx
    have := List.all_eq_true.mp hkind x.1 (zip_mem_keys _ _ x hx)
    rcases Bool.or_eq_true_iff.mp this with q | q
    · exact .inl (by simpa using q)
    · have q' : fd.scope.names.lookup x.1 = some .cell := by simpa using q
      exact .inr ⟨q', cellsFrom_some _ _ _ (.inl q')⟩
  refine codeAny_call_cells (by have := hA.depth; show A.depth < 1000; omega) (X _ _ ho) rfl (T.nolimit.keeps g.stays) (codeRec_of X hcd) hbody (hbind vs hvl) hclo hkk (fun s₁ x => ?_) hco hgen hk
  obtain ⟨h₁, tk, rfl, _⟩ := x.done
  have hkeep := x.toInCall.keep
  have hns := x.toInCall.ns
  have hcell := x.cell
  have hab := x.above
  have hap := x.apart
  dsimp only at hkeep hns hcell
  let ξ' : Xs := fun b => if s.heap.get? b = none then h₁.get? b else ξ b
  have hnone : ∀ b, s.heap.objs.size ≤ b → ξ' b = h₁.get? b := fun b l => if_pos (fresh_get _ l)
  have ⟨g', e', k'⟩ := new_ex (ξ' := ξ') (tk := tk) g hkeep (fun b o l => if_neg (by rw [l]; simp)) (fun b l o e => by
    have e2 : ξ' b = h₁.get? b := if_pos l
    rw [e2] at e; exact e)
  have hL : (callEnvC fd s.heap.objs.size f).locals = s.heap.objs.size := rfl
  have hr' : Reps μ ξ' h₁ args vs := hr.stay e'.stay
  have fr : Frame B (callEnvC fd s.heap.objs.size f) (names.zip args) μ ξ' h₁ := by
    obtain ⟨oL, es, ep, p1, p2, p3, p4⟩ := hns
    refine ⟨⟨oL, es, ep, ?_, p2, p3, fun y z hy hz => ?_⟩, fun y z hy hz => ?_, fun y c hc => ?_, fun y z c hy hz => ?_⟩
    · exact (hnone _ (Nat.le_refl _)).trans p1
    · rw [p4]
      exact (bind_get _ names args vs _ hnd hr' y z hy).1 hz
    · obtain ⟨v, q1, q2⟩ := (bind_get (callEnvC fd s.heap.objs.size f).kindOf names args vs (fun _ => none) hnd hr' y z hy).2 hz
      have hym : y ∈ names := by
        have := mem_of_lookup hy
        exact zip_mem_keys _ _ _ this
      have hc : fd.scope.names.lookup y = some .cell := by
        have := List.all_eq_true.mp hkind y hym
        rcases Bool.or_eq_true_iff.mp this with q | q
        · exact absurd (show fd.scope.names.lookup y = some .local by simpa using q) hz
        · simpa using q
      have hsome := cellsFrom_some fd.scope.names (s.heap.objs.size + 1) [] (.inl hc)
      obtain ⟨c, hcl⟩ := Option.isSome_iff_exists.mp hsome
      obtain ⟨o, o1, o2⟩ := hcell y c hcl
      refine ⟨c, o, v, hcl, ?_, by rw [o2, q1], q2⟩
      have : s.heap.objs.size ≤ c := Nat.le_of_lt (hab y c (mem_of_lookup hcl))
      exact (hnone c this).trans o1
    · obtain ⟨o, o1, o2⟩ := hcell y c hc
      have : s.heap.objs.size ≤ c := Nat.le_of_lt (hab y c (mem_of_lookup hc))
      exact ⟨o, _, (hnone c this).trans o1, o2⟩
    · exact name_of_addr hap (mem_of_lookup hy) (mem_of_lookup hz)
  refine wpAny_mono (h (A.deeper (callEnvC fd s.heap.objs.size f)) s.heap.objs.size (room_deeper hA _) (by obtain ⟨l, e⟩ := hA.frames; exact ⟨l, by show A.frames.map _ = _; rw [e]; rfl⟩) ξ' _ g' fr) (fun fl s' p => ?_) fun _ _ x => x.elim
  obtain ⟨r, ρ', μ', ξ'', a, b, c, d, kb, q⟩ := p
  have kk : Kept ξ ξ'' := fun b o e => by
    have hb := (g.ex b o e).1
    have hlt : b < s.heap.objs.size := Heap.lt_size hb
    refine kb b o (by rw [show ξ' b = ξ b from if_neg (by rw [hb]; simp)]; exact e) (fun q => by rw [q] at hlt; exact absurd hlt (Nat.lt_irrefl _)) fun y hy => ?_
    have : s.heap.objs.size < b := hab y b (mem_of_lookup hy)
    exact absurd (Nat.lt_trans hlt this) (Nat.lt_irrefl _)
  cases r with
  | ret x => cases fl with
    | ret v => exact ⟨v, rfl, x, μ', ξ'', a, b, e'.trans d, kk, q⟩
    | _ => exact a.elim
  | next => cases fl with
    | next => exact ⟨.none, rfl, .raw .none, μ', ξ'', by rw [Rep], b, e'.trans d, kk, q⟩
    | _ => exact a.elim
  | brk => exact q.elim
  | cont => exact q.elim
end
end Tab
end
noncomputable section
open PySem PySem.W PyProof.Rows PySem.Calls
namespace Tab
def Xs.del (ξ : Xs) (a : Addr) : Xs := fun b => if b = a then none else ξ b
theorem Xs.del_self (ξ : Xs) (a) : ξ.del a a = none := if_pos rfl
theorem Xs.del_ne {ξ : Xs} {a b : Addr} (h : b ≠ a) : ξ.del a b = ξ b := if_neg h
section
variable {prog : Program} {w : World} {B : Heap} {A : Around} {env : Env} {ρ : Loc} {μ : Mem}

theorem turn_mem {ξ s a o mo h' tk} (g : Good prog w B μ ξ s.heap) (hx : ξ a = some o) (hs : Heap.SameBut a s.heap h')
    (ho : Stay μ ξ s.heap (μ.set a mo) (ξ.del a) h' → MRep prog w (μ.set a mo) (ξ.del a) h' a mo) :
    Good prog w B (μ.set a mo) (ξ.del a) h' ∧ Evo μ ξ s (μ.set a mo) (ξ.del a) { s with heap := h', toks := tk } := by
  have st : Stay μ ξ s.heap (μ.set a mo) (ξ.del a) h' := fun b ob e m n => by
    have hb : b ≠ a := by rintro rfl; rw [hx] at n; cases n
    exact ⟨(hs.2 b hb).trans e, by rw [Mem.set_ne hb]; exact m, by rw [Xs.del_ne hb]; exact n⟩
  refine ⟨⟨fun b ob e => ?_, fun b mo e => ?_, fun b ob e => ?_⟩, ⟨fun b ob e m n => (st b ob e m n).1, fun b ob e m n => (st b ob e m n).2, h', tk, rfl⟩⟩
  · have q := g.base b ob e
    exact st b ob q.1 q.2.1 q.2.2
  · by_cases hb : b = a
    · subst hb; rw [Mem.set_self] at e; cases e; exact ho st
    · rw [Mem.set_ne hb] at e
      exact (g.rep b mo e).stay st fun ob e' => (hs.2 b hb).trans e'
  · by_cases hb : b = a
    · subst hb; rw [Xs.del_self] at e; cases e
    · rw [Xs.del_ne hb] at e
      exact ⟨(hs.2 b hb).trans (g.ex b ob e).1, by rw [Mem.set_ne hb]; exact (g.ex b ob e).2⟩
theorem drop_exE {ξ s a o h' tk} (g : Good prog w B μ ξ s.heap) (hx : ξ a = some o) (hs : Heap.ExtBut a s.heap h') :
    Good prog w B μ (ξ.del a) h' ∧ Evo μ ξ s μ (ξ.del a) { s with heap := h', toks := tk } := by
  have st : Stay μ ξ s.heap μ (ξ.del a) h' := fun b ob e m n => by
    have hb : b ≠ a := by rintro rfl; rw [hx] at n; cases n
    exact ⟨hs b _ hb e, m, by rw [Xs.del_ne hb]; exact n⟩
  refine ⟨⟨fun b ob e => ?_, fun b mo e => ?_, fun b ob e => ?_⟩, ⟨fun b ob e m n => (st b ob e m n).1, fun b ob e m n => (st b ob e m n).2, h', tk, rfl⟩⟩
  · have q := g.base b ob e
    exact st b ob q.1 q.2.1 q.2.2
  · have hb : b ≠ a := by
      rintro rfl
      have := (g.ex b o hx).2
      rw [e] at this; cases this
    exact (g.rep b mo e).stay st fun ob e' => hs b _ hb e'
  · by_cases hb : b = a
    · subst hb; rw [Xs.del_self] at e; cases e
    · rw [Xs.del_ne hb] at e
      exact ⟨hs b _ hb (g.ex b ob e).1, (g.ex b ob e).2⟩
theorem drop_ex {ξ s a o} (g : Good prog w B μ ξ s.heap) (hx : ξ a = some o) : Good prog w B μ (ξ.del a) s.heap ∧ Evo μ ξ s μ (ξ.del a) s :=
  drop_exE (tk := s.toks) g hx (Heap.ExtBut.refl _ _)
theorem drop_mem {ξ s a mo} (g : Good prog w B μ ξ s.heap) (hx : μ a = some mo) :
    Good prog w B (μ.del a) ξ s.heap ∧ Evo μ ξ s (μ.del a) ξ s := by
  have st : Stay μ ξ s.heap (μ.del a) ξ s.heap := fun b ob e m n => by
    have hb : b ≠ a := by rintro rfl; rw [hx] at m; cases m
    exact ⟨e, by rw [Mem.del_ne hb]; exact m, n⟩
  refine ⟨⟨fun b ob e => ?_, fun b mo e => ?_, fun b ob e => ?_⟩, ⟨fun b ob e m n => e, fun b ob e m n => (st b ob e m n).2, s.heap, s.toks, rfl⟩⟩
  · have q := g.base b ob e
    exact st b ob q.1 q.2.1 q.2.2
  · by_cases hb : b = a
    · subst hb; rw [Mem.del_self] at e; cases e
    · rw [Mem.del_ne hb] at e
      exact (g.rep b mo e).stay st fun ob e' => e'
  · have q := g.ex b ob e
    have hb : b ≠ a := by rintro rfl; rw [hx] at q; cases q.2
    exact ⟨q.1, by rw [Mem.del_ne hb]; exact q.2⟩

theorem Amb.two {K : Frag} {ξ h} (am : Amb K B) (g : Good prog w B μ ξ h) : 2 < h.objs.size := by
  obtain ⟨_, _, _, _, T⟩ := am.top
  obtain ⟨mc, a, _⟩ := T.nolimit.keeps g.stays
  exact a.lt

def PostA (prog : Program) (w : World) (B : Heap) (μ : Mem) (ξ : Xs) (s : Shared) (n : Nat) (Q : List V → Mem → Prop) (vs : List Value) (s' : Shared) : Prop :=
  ∃ xs μ' ξ', Reps μ' ξ' s'.heap xs vs ∧ Good prog w B μ' ξ' s'.heap ∧ Evo μ ξ s μ' ξ' s' ∧ Kept ξ ξ' ∧ xs.length = n ∧ Q xs μ'
def HAs (prog : Program) (w : World) (B : Heap) (A : Around) (env : Env) (es : List Expr) (ρ : Loc) (μ : Mem) (Q : List V → Mem → Prop) : Prop :=
  ∀ pos ξ s, Good prog w B μ ξ s.heap → Frame B env ρ μ ξ s.heap → wpAny (model prog w) A (spliced (backTo pos (starEach es env))) (PostA prog w B μ ξ s es.length Q) (fun _ _ => False) s
theorem HAs.nil {Q : List V → Mem → Prop} (q : Q [] μ) : HAs prog w B A env [] ρ μ Q := fun pos ξ s g f =>
  spliced_nil ⟨[], μ, ξ, .nil, g, Evo.refl, Kept.refl, rfl, q⟩
theorem HAs.cons {e es} {Q : List V → Mem → Prop} (h : HE prog w B A env e ρ μ fun x μ₁ => HAs prog w B A env es ρ μ₁ fun xs μ₂ => Q (x :: xs) μ₂)
    (he : starEach (e :: es) env = (false, eval e env) :: starEach es env := by rfl) : HAs prog w B A env (e :: es) ρ μ Q := fun pos ξ s g f => by
  rw [he]
  exact spliced_cons (wpAny_mono (h ξ s g f) (fun v s₁ ⟨x, μ₁, ξ₁, r, g₁, e₁, k₁, q⟩ =>
    wpAny_mono (q pos ξ₁ s₁ g₁ (f.stay e₁.stay k₁)) (fun vs s₂ ⟨xs, μ₂, ξ₂, r₂, g₂, e₂, k₂, l, q₂⟩ =>
      ⟨x :: xs, μ₂, ξ₂, .cons (r.stay e₂.stay) r₂, g₂, e₁.trans e₂, k₁.trans k₂, by rw [List.length_cons, List.length_cons, l], q₂⟩) fun _ _ x => x) fun _ _ x => x)

theorem HE.tuple {es k pos Q} (h : HAs prog w B A env es ρ μ fun xs μ' => Q (.tup xs) μ') (hz : es.length ≤ 1000 := by decide) : HE prog w B A env (.Tuple es k pos) ρ μ Q := fun ξ s g f => by
  rw [arm_eval_Tuple]
  refine wpAny_bind (wpAny_standAt (wpAny_bind (wpAny_mono (h pos ξ s g f) (fun vs s₁ ⟨xs, μ₁, ξ₁, r, g₁, e₁, k₁, l, q⟩ => ?_) fun _ _ x => x)))
  have hl : vs.length ≤ sizeLine := by rw [r.length, l]; exact Nat.le_trans hz (by decide)
  refine wpAny_newTuple ((Post.here (tk := s₁.toks) g₁ push_keep ?_ q).after e₁ k₁) hl
  have fr := g₁.free (fresh_get _ (Nat.le_refl _))
  rw [Rep]
  exact ⟨_, vs.toArray, 0, rfl, fr, Heap.get?_push_size _ rfl, by simpa using r.stay fun a o e m n => ⟨push_keep _ _ e, m, n⟩⟩
theorem HE.list {es pos Q} (h : HAs prog w B A env es ρ μ fun xs μ' => Q (.lst xs) μ') (hz : es.length ≤ 1000 := by decide) : HE prog w B A env (.List es pos) ρ μ Q := fun ξ s g f => by
  rw [arm_eval_List]
  refine wpAny_bind (wpAny_standAt (wpAny_bind (wpAny_mono (h pos ξ s g f) (fun vs s₁ ⟨xs, μ₁, ξ₁, r, g₁, e₁, k₁, l, q⟩ => ?_) fun _ _ x => x)))
  have hl : vs.length ≤ sizeLine := by rw [r.length, l]; exact Nat.le_trans hz (by decide)
  refine wpAny_newList ((Post.here (tk := s₁.toks) g₁ push_keep ?_ q).after e₁ k₁) hl
  have fr := g₁.free (fresh_get _ (Nat.le_refl _))
  rw [Rep]
  exact ⟨_, vs.toArray, 0, rfl, fr, Heap.get?_push_size _ rfl, by simpa using r.stay fun a o e m n => ⟨push_keep _ _ e, m, n⟩⟩
theorem HE.listM {es pos Q} (h : HAs prog w B A env es ρ μ fun xs μ' => ∀ a, μ' a = none → Q (.raw (.ref a)) (μ'.set a (.list xs))) (hz : es.length ≤ 1000 := by decide) : HE prog w B A env (.List es pos) ρ μ Q := fun ξ s g f => by
  rw [arm_eval_List]
  refine wpAny_bind (wpAny_standAt (wpAny_bind (wpAny_mono (h pos ξ s g f) (fun vs s₁ ⟨xs, μ₁, ξ₁, r, g₁, e₁, k₁, l, q⟩ => ?_) fun _ _ x => x)))
  have hl : vs.length ≤ sizeLine := by rw [r.length, l]; exact Nat.le_trans hz (by decide)
  have fr := g₁.free (fresh_get _ (Nat.le_refl _))
  have ⟨g₂, e₂⟩ := new_mem (mo := .list xs) (h' := s₁.heap.push { cls := .type "list", data := .seq vs.toArray }) (tk := s₁.toks) g₁ (fresh_get _ (Nat.le_refl _)) push_keep
    (fun st => ⟨_, vs.toArray, 0, Heap.get?_push_size _ rfl, rfl, rfl, rfl, by simpa using r.stay st⟩)
  exact wpAny_newList ⟨.raw (.ref _), _, ξ₁, by rw [Rep], g₂, e₁.trans e₂, k₁, q _ fr.1⟩ hl
theorem HE.dict0 {K : Frag} {pos Q} (am : Amb K B) (h : ∀ a, μ a = none → Q (.raw (.ref a)) (μ.set a (.dict []))) : HE prog w B A env (.Dict [] [] pos) ρ μ Q := fun ξ s g f => by
  have fr := g.free (fresh_get _ (Nat.le_refl _))
  have ⟨g₂, e₂⟩ := new_mem (mo := .dict []) (h' := s.heap.push { cls := .type "dict", data := .dict #[] }) (tk := s.toks) g (fresh_get _ (Nat.le_refl _)) push_keep
    (fun st => ⟨am.two g, [], Heap.DictOf.new _, rfl, .nil⟩)
  exact wpAny_Dict_empty ⟨.raw (.ref _), _, ξ, by rw [Rep], g₂, e₂, Kept.refl, h _ fr.1⟩

def BC (prog : Program) (w : World) (B : Heap) (A : Around) (f : Value) (args : List V) (μ : Mem) (Q : V → Mem → Prop) : Prop :=
  ∀ ξ s vs, Good prog w B μ ξ s.heap → Reps μ ξ s.heap args vs → wpAny (model prog w) A (call f vs) (Post prog w B μ ξ s Q) (fun _ _ => False) s
theorem BC.of_fn {n f args Q} (h : Fn prog w B n f args μ Q) (hA : Room n A) : BC prog w B A f args μ Q := fun ξ s vs g r =>
  wpAny_call (codeAny_mono (h A hA ξ s vs g r) fun q s' ⟨v, e, p⟩ => by subst e; exact p)
theorem BC.mono {f args Q Q'} (h : BC prog w B A f args μ Q) (k : ∀ x μ', Q x μ' → Q' x μ') : BC prog w B A f args μ Q' :=
  fun ξ s vs g r => wpAny_mono (h ξ s vs g r) (fun _ _ p => p.mono k) fun _ _ x => x

def KeepsP (M : Model) (K : Frag) (f : Value) : Prop := ∀ h, K.In h → ∃ k, (k = Keeper.frame ∨ k = Keeper.machine ∨ k = Keeper.boundFrame) ∧ Looks M h (keeperOf f) k
theorem keepsP_K {M : Model} {K : Frag} {f : Value} (h : keepIn K f = true) : KeepsP M K f := keeps_K h
theorem keepsP_B {M : Model} {K : Frag} {id : String} : KeepsP M K (.builtin id) := fun _ _ => ⟨.machine, .inr (.inl rfl), Looks.of_pure rfl⟩
theorem keepsP_T {M : Model} {K : Frag} {id : String} : KeepsP M K (.type id) := fun _ _ => ⟨.machine, .inr (.inl rfl), Looks.of_pure rfl⟩

theorem callWith0 {K : Frag} {pos f} {first : List V} {fv ξ s Q} (am : Amb K B) (hk : KeepsP (model prog w) K f) (g : Good prog w B μ ξ s.heap) (hr : Reps μ ξ s.heap first fv)
    (h : BC prog w B A f first μ Q) : wpAny (model prog w) A (callWith pos f fv (backTo pos (starEach [] env)) []) (Post prog w B μ ξ s Q) (fun _ _ => False) s :=
  callWith_of (P := fun h => K.In h) rfl hk (evalArgs_nil3 ⟨am.now g, by
    show wpAny _ A (call f (fv ++ []) []) _ _ s
    rw [List.append_nil]
    exact h ξ s fv g hr⟩)
theorem callWith1 {K : Frag} {pos f e es} {first : List V} {fv ξ s Q} (am : Amb K B) (hk : KeepsP (model prog w) K f) (g : Good prog w B μ ξ s.heap) (fr : Frame B env ρ μ ξ s.heap) (hr : Reps μ ξ s.heap first fv)
    (h : HAs prog w B A env (e :: es) ρ μ fun xs μ' => BC prog w B A f (first ++ xs) μ' Q)
    (he : starEach (e :: es) env = (false, eval e env) :: starEach es env) (hplain : (backTo pos (starEach es env)).any (·.1) = false) :
    wpAny (model prog w) A (callWith pos f fv (backTo pos (starEach (e :: es) env)) []) (Post prog w B μ ξ s Q) (fun _ _ => False) s := by
  have h1 := h pos ξ s g fr
  rw [he] at h1 ⊢
  refine callWith_of (P := fun h => K.In h) (by show ((false || (backTo pos (starEach es env)).any (·.1)) || false) = false; rw [hplain]; rfl) hk (evalArgs_plain (wpAny_mono h1 (fun vs s₁ ⟨xs, μ₁, ξ₁, r, g₁, e₁, k₁, l, q⟩ => ⟨am.now g₁, ?_⟩) fun _ _ x => x))
  exact wpAny_mono (q ξ₁ s₁ _ g₁ ((hr.stay e₁.stay).append r)) (fun _ _ p => p.after e₁ k₁) fun _ _ x => x

theorem HE.call0 {K : Frag} {id p pos Q} (am : Amb K B) (h : HE prog w B A env (.Name id p) ρ μ fun x μ₁ => ∃ f, x = .raw f ∧ KeepsP (model prog w) K f ∧ BC prog w B A f [] μ₁ Q) :
    HE prog w B A env (.Call (.Name id p) [] [] pos) ρ μ Q := fun ξ s g fr =>
  wpAny_Call_Name_kw (wpAny_mono (h ξ s g fr) (fun v s₁ ⟨x, μ₁, ξ₁, r, g₁, e₁, k₁, f, hx, hk, q⟩ => by
    subst hx
    rw [Rep] at r
    subst r
    exact wpAny_mono (callWith0 (env := env) am hk g₁ .nil q) (fun _ _ p => p.after e₁ k₁) fun _ _ x => x) fun _ _ x => x)
theorem HE.call {K : Frag} {id p e es pos Q} (am : Amb K B) (h : HE prog w B A env (.Name id p) ρ μ fun x μ₁ => ∃ f, x = .raw f ∧ KeepsP (model prog w) K f ∧ HAs prog w B A env (e :: es) ρ μ₁ fun xs μ₂ => BC prog w B A f xs μ₂ Q)
    (he : starEach (e :: es) env = (false, eval e env) :: starEach es env := by rfl) (hplain : (backTo pos (starEach es env)).any (·.1) = false := by rfl) :
    HE prog w B A env (.Call (.Name id p) (e :: es) [] pos) ρ μ Q := fun ξ s g fr =>
  wpAny_Call_Name_kw (wpAny_mono (h ξ s g fr) (fun v s₁ ⟨x, μ₁, ξ₁, r, g₁, e₁, k₁, f, hx, hk, q⟩ => by
    subst hx
    rw [Rep] at r
    subst r
    exact wpAny_mono (callWith1 (first := []) am hk g₁ (fr.stay e₁.stay k₁) .nil q he hplain) (fun _ _ p => p.after e₁ k₁) fun _ _ x => x) fun _ _ x => x)

theorem obj_at {ξ h x C dx v} {kvs : List (Str × V)} (g : Good prog w B μ ξ h) (r : Rep μ ξ h (.obj x C dx) v) (hm : μ dx = some (.attrs kvs)) :
    v = .ref x ∧ ∃ es n, InstAt h x (instObj C dx) C (some (dictOf es n)) ∧ (∀ y, kvs.lookup y = none → getL y es = some none) ∧ ∀ y z, kvs.lookup y = some z → ∃ u, getL y es = some (some u) ∧ Rep μ ξ h z u := by
  rw [Rep] at r
  obtain ⟨r1, _, r3⟩ := r
  obtain ⟨es, n, q, _, _, q3, q4⟩ := g.rep dx _ hm
  exact ⟨r1, es, n, ⟨r3, rfl, rfl, q⟩, q3, q4⟩
theorem handed_rep {ξ h z u} (hz : ∀ i, z ≠ .raw (.builtin i)) (r : Rep μ ξ h z u) : handedIn u = true := by
  cases z with
  | raw v => rw [Rep] at r; subst r; cases u <;> first | rfl | exact absurd rfl (hz _)
  | int i => rw [Rep] at r; obtain ⟨t, rfl⟩ := r; rfl
  | tup l => rw [Rep] at r; obtain ⟨a, _, _, rfl, _⟩ := r; rfl
  | lst l => rw [Rep] at r; obtain ⟨a, _, _, rfl, _⟩ := r; rfl
  | frz l => rw [Rep] at r; obtain ⟨a, _, _, _, rfl, _⟩ := r; rfl
  | rng a b => rw [Rep] at r; obtain ⟨r, _, _, _, rfl, _⟩ := r; rfl
  | obj x C dx => rw [Rep] at r; obtain ⟨rfl, _⟩ := r; rfl
  | st led ks => rw [Rep] at r; obtain ⟨a, _, _, rfl, _⟩ := r; rfl

theorem HE.attr {K : Frag} {o name pos Q} {C : Addr} {attr : Option Value} (am : Amb K B) (hg : plainGet K C name = true) (hh : hasDictIn K C = true) (ha : findIn K (.ref C) name = some attr) (hn : noGet K attr = true)
    (h : HE prog w B A env o ρ μ fun x μ₁ => ∃ a dx kvs z, x = .obj a C dx ∧ μ₁ dx = some (.attrs kvs) ∧ kvs.lookup name = some z ∧ (∀ i, z ≠ .raw (.builtin i)) ∧ Q z μ₁)
    (he : eval (.Attribute o name pos) env = (do
      let o' ← eval o env
      standAt pos.atName
      let r ← holding [o'] (getAttr o' name true)
      letTemporaryGo o o' r
      pure r) := by with_unfolding_all rfl) :
    HE prog w B A env (.Attribute o name pos) ρ μ Q := fun ξ s g fr =>
  Attribute_any_ (he := he) (wpAny_mono (h ξ s g fr) (fun v s₁ ⟨x, μ₁, ξ₁, r, g₁, e₁, k₁, a, dx, kvs, z, hx, hm, hl, hz, q⟩ => by
    subst hx
    obtain ⟨rfl, es, n, I, _, hs⟩ := obj_at g₁ r hm
    obtain ⟨u, hu, ru⟩ := hs name z hl
    exact get_value (am.now g₁) I (plainGet_of hg).1 (findObj_own hh ha hn hu) (handed_rep hz ru) ((Post.tok (s₁.toks + 1) g₁ ru q).after e₁ k₁)) fun _ _ x => x)

theorem method_at {K : Frag} {C : Addr} {name : Str} {f a dx : Addr} {kvs : List (Str × V)} {pl : Sem Bool} {ξ s v} {Q : Value × List Value → Shared → Prop} {E : Value → Shared → Prop} (am : Amb K B) (g : Good prog w B μ ξ s.heap)
    (hg : plainGet K C name = true) (hf : findIn K (.ref C) name = some (some (.ref f))) (ht : isFn K (.ref f) = true) (r : Rep μ ξ s.heap (.obj a C dx) v) (hm : μ dx = some (.attrs kvs)) (hl : kvs.lookup name = none)
    (h : Q (.ref f, [v]) s) : wpAny (model prog w) A (getMethod v name pl) Q E s := by
  obtain ⟨rfl, es, n, I, hs, _⟩ := obj_at g r hm
  exact method_fn (am.now g) I (plainGet_of hg).1 (plainGet_of hg).2 hf (beq_iff_eq.mp ht) (by show (lookIn name (dictOf es n)).map _ = _; rw [lookIn_dict, hs name hl]; rfl) h

theorem HE.meth0 {K : Frag} {o name apos pos Q} {C f : Addr} {pl : Sem Bool} (am : Amb K B) (hg : plainGet K C name = true) (hf : findIn K (.ref C) name = some (some (.ref f))) (ht : isFn K (.ref f) = true) (hk : keepIn K (.ref f) = true)
    (h : HE prog w B A env o ρ μ fun x μ₁ => ∃ a dx kvs, x = .obj a C dx ∧ μ₁ dx = some (.attrs kvs) ∧ kvs.lookup name = none ∧ BC prog w B A (.ref f) [x] μ₁ Q)
    (he : eval (.Call (.Attribute o name apos) [] [] pos) env = (do
      let ov ← eval o env
      standAt apos.atName
      let (f, first) ← holding [ov] (getMethod ov name pl)
      callWith pos f first (backTo pos (starEach [] env)) (backToKw pos (keywordEach [] env))) := by rfl) :
    HE prog w B A env (.Call (.Attribute o name apos) [] [] pos) ρ μ Q := fun ξ s g fr =>
  methodCall_KW (he := he) (wpAny_mono (h ξ s g fr) (fun v s₁ ⟨x, μ₁, ξ₁, r, g₁, e₁, k₁, a, dx, kvs, hx, hm, hl, q⟩ => by
    subst hx
    exact method_at am g₁ hg hf ht r hm hl (wpAny_mono (callWith0 (env := env) am (keepsP_K hk) g₁ (.one r) q) (fun _ _ p => p.after e₁ k₁) fun _ _ x => x)) fun _ _ x => x)
theorem HE.meth {K : Frag} {o name apos e es pos Q} {C f : Addr} {pl : Sem Bool} (am : Amb K B) (hg : plainGet K C name = true) (hf : findIn K (.ref C) name = some (some (.ref f))) (ht : isFn K (.ref f) = true) (hk : keepIn K (.ref f) = true)
    (h : HE prog w B A env o ρ μ fun x μ₁ => ∃ a dx kvs, x = .obj a C dx ∧ μ₁ dx = some (.attrs kvs) ∧ kvs.lookup name = none ∧ HAs prog w B A env (e :: es) ρ μ₁ fun xs μ₂ => BC prog w B A (.ref f) (x :: xs) μ₂ Q)
    (he : eval (.Call (.Attribute o name apos) (e :: es) [] pos) env = (do
      let ov ← eval o env
      standAt apos.atName
      let (f, first) ← holding [ov] (getMethod ov name pl)
      callWith pos f first (backTo pos (starEach (e :: es) env)) (backToKw pos (keywordEach [] env))) := by rfl)
    (hs : starEach (e :: es) env = (false, eval e env) :: starEach es env := by rfl) (hplain : (backTo pos (starEach es env)).any (·.1) = false := by rfl) :
    HE prog w B A env (.Call (.Attribute o name apos) (e :: es) [] pos) ρ μ Q := fun ξ s g fr =>
  methodCall_KW (he := he) (wpAny_mono (h ξ s g fr) (fun v s₁ ⟨x, μ₁, ξ₁, r, g₁, e₁, k₁, a, dx, kvs, hx, hm, hl, q⟩ => by
    subst hx
    exact method_at am g₁ hg hf ht r hm hl (wpAny_mono (callWith1 (first := [_]) am (keepsP_K hk) g₁ (fr.stay e₁.stay k₁) (.one r) q hs hplain) (fun _ _ p => p.after e₁ k₁) fun _ _ x => x)) fun _ _ x => x)
theorem HE.bmeth {K : Frag} {o name apos e es pos Q} {T id : String} (am : Amb K B) (pa : PlainAttrs T) (slot : Slot T name id) (hty : typeOf (.builtin id) = pure (.type "method_descriptor"))
    (h : HE prog w B A env o ρ μ fun x μ₁ => (∀ (ξ : Xs) (s : Shared) (v : Value), Good prog w B μ₁ ξ s.heap → Rep μ₁ ξ s.heap x v → s.TypeIs v T ∧ ∀ a, v = .ref a → ∃ ob, s.heap.get? a = some ob ∧ ob.dict = none) ∧
      HAs prog w B A env (e :: es) ρ μ₁ fun xs μ₂ => BC prog w B A (.builtin id) (x :: xs) μ₂ Q)
    (hs : starEach (e :: es) env = (false, eval e env) :: starEach es env := by rfl) (hplain : (backTo pos (starEach es env)).any (·.1) = false := by rfl)
    (hbase : attributeBase o name env (eval o env) = eval o env := by rfl)
    (hfew : ((backTo pos (starEach (e :: es) env)).all (fun x => !x.1) && (backToKw pos (keywordEach [] env)).all (fun x => x.1.isSome)
      && decide ((e :: es).length + ([] : List Keyword).length + (if ([] : List Keyword).isEmpty then 0 else 1) < 30)) = true := by rfl)
    (hline : (apos.endLine == pos.line) = true := by rfl) :
    HE prog w B A env (.Call (.Attribute o name apos) (e :: es) [] pos) ρ μ Q := fun ξ s g fr =>
  wpAny_Call_method hbase hfew hline pa slot hty (wpAny_mono (h ξ s g fr) (fun v s₁ ⟨x, μ₁, ξ₁, r, g₁, e₁, k₁, ht, q⟩ =>
    ⟨(ht ξ₁ s₁ v g₁ r).1, (ht ξ₁ s₁ v g₁ r).2, wpAny_mono (callWith1 (first := [x]) am keepsP_B g₁ (fr.stay e₁.stay k₁) (.one r) q hs hplain) (fun _ _ p => p.after e₁ k₁) fun _ _ x => x⟩) fun _ _ x => x)
end
end Tab
end
noncomputable section
open PySem PySem.W PyProof.Rows PySem.Calls
namespace Tab

def dget {α : Type} (kvs : List (Int × α)) (k : Int) : Option α := (kvs.find? fun p => decide (p.1 = k)).map (·.2)
def dset {α : Type} (kvs : List (Int × α)) (k : Int) (v : α) : List (Int × α) :=
  if kvs.any (fun p => decide (p.1 = k)) then kvs.map (fun p => if p.1 = k then (p.1, v) else p) else kvs ++ [(k, v)]
def ddel {α : Type} (kvs : List (Int × α)) (k : Int) : List (Int × α) := kvs.filter fun p => decide (p.1 ≠ k)
theorem valueAt_eq (ws : List (Int × Value)) (k : Int) : valueAt ws k = dget ws k := rfl
theorem stored_eq (ws : List (Int × Value)) (k : Int) (v : Value) : stored ws k v = dset ws k v := rfl
theorem without_eq (ws : List (Int × Value)) (k : Int) : without ws k = ddel ws k := rfl

def DRel (μ : Mem) (ξ : Xs) (h : Heap) (kvs : List (Int × V)) (ws : List (Int × Value)) : Prop := ws.map (·.1) = kvs.map (·.1) ∧ Reps μ ξ h (kvs.map (·.2)) (ws.map (·.2))
theorem DRel.inv {μ ξ h k x kvs ws} (d : DRel μ ξ h ((k, x) :: kvs) ws) : ∃ v r, ws = (k, v) :: r ∧ Rep μ ξ h x v ∧ DRel μ ξ h kvs r := by
  obtain ⟨a, b⟩ := d
  cases ws with
  | nil => simp at a
  | cons p r =>
    obtain ⟨k', v⟩ := p
    simp only [List.map_cons, List.cons.injEq] at a b
    obtain ⟨rfl, a⟩ := a
    obtain ⟨u, t, e, b1, b2⟩ := b
    obtain ⟨rfl, rfl⟩ := List.cons.inj e
    exact ⟨v, r, rfl, b1, a, b2⟩
theorem DRel.nil_inv {μ ξ h ws} (d : DRel μ ξ h [] ws) : ws = [] := by
  have := d.1
  simpa using this
theorem DRel.cons {μ ξ h k x v kvs ws} (r : Rep μ ξ h x v) (d : DRel μ ξ h kvs ws) : DRel μ ξ h ((k, x) :: kvs) ((k, v) :: ws) :=
  ⟨by simp [d.1], ⟨v, _, rfl, r, d.2⟩⟩
theorem DRel.get {μ ξ h} {k : Int} : ∀ {kvs ws}, DRel μ ξ h kvs ws → (∀ x, dget kvs k = some x → ∃ v, dget ws k = some v ∧ Rep μ ξ h x v) ∧ (dget kvs k = none → dget ws k = none)
  | [], ws, d => by rw [d.nil_inv]; exact ⟨fun x e => by simp [dget] at e, fun _ => rfl⟩
  | (k', x') :: kvs, ws, d => by
    obtain ⟨v, r, rfl, h1, h2⟩ := d.inv
    have ih := DRel.get (k := k) h2
    unfold dget at ih ⊢
    simp only [List.find?_cons]
    by_cases hk : k' = k
    · simp only [hk, decide_true]
      exact ⟨fun x e => by simp at e; subst e; exact ⟨v, rfl, h1⟩, fun e => by simp at e⟩
    · simp only [hk, decide_false]
      exact ih
theorem DRel.any {μ ξ h} {k : Int} : ∀ {kvs ws}, DRel μ ξ h kvs ws → ws.any (fun p => decide (p.1 = k)) = kvs.any (fun p => decide (p.1 = k))
  | [], ws, d => by rw [d.nil_inv]; rfl
  | (k', x') :: kvs, ws, d => by
    obtain ⟨v, r, rfl, h1, h2⟩ := d.inv
    simp only [List.any_cons, DRel.any h2]
theorem DRel.mapSet {μ ξ h} {k : Int} {x v} (hx : Rep μ ξ h x v) : ∀ {kvs ws}, DRel μ ξ h kvs ws → DRel μ ξ h (kvs.map fun p => if p.1 = k then (p.1, x) else p) (ws.map fun p => if p.1 = k then (p.1, v) else p)
  | [], ws, d => by rw [d.nil_inv]; exact ⟨rfl, .nil⟩
  | (k', x') :: kvs, ws, d => by
    obtain ⟨v', r, rfl, h1, h2⟩ := d.inv
    simp only [List.map_cons]
    by_cases hk : k' = k
    · simp only [hk, if_true]; exact .cons hx (DRel.mapSet hx h2)
    · simp only [hk, if_false]; exact .cons h1 (DRel.mapSet hx h2)
theorem DRel.snoc {μ ξ h} {k : Int} {x v} (hx : Rep μ ξ h x v) : ∀ {kvs ws}, DRel μ ξ h kvs ws → DRel μ ξ h (kvs ++ [(k, x)]) (ws ++ [(k, v)])
  | [], ws, d => by rw [d.nil_inv]; exact .cons hx ⟨rfl, .nil⟩
  | (k', x') :: kvs, ws, d => by
    obtain ⟨v', r, rfl, h1, h2⟩ := d.inv
    exact .cons h1 (DRel.snoc hx h2)
theorem DRel.set {μ ξ h} {k : Int} {x v kvs ws} (hx : Rep μ ξ h x v) (d : DRel μ ξ h kvs ws) : DRel μ ξ h (dset kvs k x) (dset ws k v) := by
  unfold dset
  rw [d.any]
  split
  · exact d.mapSet hx
  · exact d.snoc hx
theorem DRel.del {μ ξ h} {k : Int} : ∀ {kvs ws}, DRel μ ξ h kvs ws → DRel μ ξ h (ddel kvs k) (ddel ws k)
  | [], ws, d => by rw [d.nil_inv]; exact ⟨rfl, .nil⟩
  | (k', x') :: kvs, ws, d => by
    obtain ⟨v', r, rfl, h1, h2⟩ := d.inv
    have ih := DRel.del (k := k) h2
    unfold ddel at ih ⊢
    simp only [List.filter_cons]
    by_cases hk : k' = k
    · simp only [hk, ne_eq, not_true_eq_false, decide_false, Bool.false_eq_true, if_false]; exact ih
    · simp only [hk, ne_eq, not_false_eq_true, decide_true, if_true]; exact .cons h1 ih
theorem DRel.stay {μ ξ h μ' ξ' h' kvs ws} (k : Stay μ ξ h μ' ξ' h') (d : DRel μ ξ h kvs ws) : DRel μ' ξ' h' kvs ws := ⟨d.1, d.2.stay k⟩

section
variable {prog : Program} {w : World} {B : Heap} {A : Around} {env : Env} {ρ : Loc} {μ : Mem} {K : Frag}

theorem rep_int {ξ h i v} (r : Rep μ ξ h (.int i) v) : ∃ t, v = .int i t := by rw [Rep] at r; exact r
theorem int_rep {ξ h i t} : Rep μ ξ h (.int i) (.int i t) := by rw [Rep]; exact ⟨t, rfl⟩
theorem op_add {a b Q} (q : Q (.int (a + b)) μ) : HT2 prog w B A (binaryOp .Add) (.int a) (.int b) μ Q := fun ξ s v u g r r' => by
  obtain ⟨t, rfl⟩ := rep_int r
  obtain ⟨t', rfl⟩ := rep_int r'
  exact wpAny_add_int (Post.tok _ g int_rep q)
theorem op_sub {a b Q} (q : Q (.int (a - b)) μ) : HT2 prog w B A (binaryOp .Sub) (.int a) (.int b) μ Q := fun ξ s v u g r r' => by
  obtain ⟨t, rfl⟩ := rep_int r
  obtain ⟨t', rfl⟩ := rep_int r'
  exact sub_int' (Post.tok _ g int_rep q)
theorem op_mul {a b Q} (hm : IntMulOk a b) (q : Q (.int (a * b)) μ) : HT2 prog w B A (binaryOp .Mult) (.int a) (.int b) μ Q := fun ξ s v u g r r' => by
  obtain ⟨t, rfl⟩ := rep_int r
  obtain ⟨t', rfl⟩ := rep_int r'
  exact PyProof.Rows.mul_int (Post.tok _ g int_rep q) hm
theorem op_mod {a b Q} (hb : b ≠ 0) (q : Q (.int (a.fmod b)) μ) : HT2 prog w B A (binaryOp .Mod) (.int a) (.int b) μ Q := fun ξ s v u g r r' => by
  obtain ⟨t, rfl⟩ := rep_int r
  obtain ⟨t', rfl⟩ := rep_int r'
  exact PyProof.Rows.mod_int' hb (Post.tok _ g int_rep q)
structure DivRoom (prog : Program) (B : Heap) (A : Around) : Prop where
  tree : prog.given.tree = none
  seer : B.NoSeer
  lim : B.NoLimit
  depth : A.depth + 100 < 1000
  frames : ∃ env l, A.frames = some (env :: l) ∧ env.scope.isGenerator = false ∧ env.scope.isCoroutine = false ∧ env.builtins = builtinsNs ∧ env.globals = mainGlobals
theorem op_div {a b Q} (hb : b ≠ 0) (D : DivRoom prog B A) (q : Q (.int (a.fdiv b)) μ) : HT2 prog w B A (binaryOp .FloorDiv) (.int a) (.int b) μ Q := fun ξ s v u g r r' => by
  obtain ⟨t, rfl⟩ := rep_int r
  obtain ⟨t', rfl⟩ := rep_int r'
  obtain ⟨env, l, h1, h2, h3, h4, h5⟩ := D.frames
  exact PyProof.Rows.floordiv_int hb (Post.tok _ g int_rep q) (.inr (PySem.PylongRoom.of (D.lim.keeps g.stays) D.depth (PySem.SeerAt.of (D.seer.keeps g.stays) D.tree h1 h2 h3 h4 h5)))
theorem op_neg {a Q} (q : Q (.int (-a)) μ) : HT1 prog w B A (unaryOp .USub) (.int a) μ Q := fun ξ s v g r => by
  obtain ⟨t, rfl⟩ := rep_int r
  exact PyProof.Rows.neg_int (Post.tok _ g int_rep q)
theorem op_lt {a b : Int} {Q} (q : Q (.raw (.bool (decide (a < b)))) μ) : HT2 prog w B A (compareOp .Lt) (.int a) (.int b) μ Q := fun ξ s v u g r r' => by
  obtain ⟨t, rfl⟩ := rep_int r
  obtain ⟨t', rfl⟩ := rep_int r'
  exact wpAny_lt_int (Post.same g (by rw [Rep]) q)
theorem bc_abs {a Q} (q : Q (.int (if a < 0 then -a else a)) μ) : BC prog w B A (.builtin "abs") [.int a] μ Q := fun ξ s vs g r => by
  obtain ⟨v, t, rfl, h1, h2⟩ := r
  rw [Reps] at h2
  subst h2
  obtain ⟨t, rfl⟩ := rep_int h1
  exact call_abs_int fun u tk => Post.tok tk g int_rep q

mutual
def py : V → PyData
  | .raw _ => .none
  | .int i => .int i
  | .tup l => .tuple (pys l)
  | .lst l => .list (pys l)
  | .frz _ => .none
  | .rng _ _ => .none
  | .obj _ _ _ => .none
  | .st _ _ => .none
def pys : List V → List PyData
  | [] => []
  | x :: r => py x :: pys r
end
def okV : Nat → V → Bool
  | _, .int _ => true
  | n + 1, .tup l => l.all (okV n)
  | n + 1, .lst l => l.all (okV n)
  | _, _ => false
mutual
theorem rep_reads {ξ h} : ∀ {x : V} {v : Value} (n : Nat), Rep μ ξ h x v → okV n x = true → ∃ as, Reads h v (py x) as
  | .raw _, _, n, _, e => by cases n <;> simp [okV] at e
  | .obj _ _ _, _, n, _, e => by cases n <;> simp [okV] at e
  | .st _ _, _, n, _, e => by cases n <;> simp [okV] at e
  | .frz _, _, n, _, e => by cases n <;> simp [okV] at e
  | .rng _ _, _, n, _, e => by cases n <;> simp [okV] at e
  | .int i, _, _, r, _ => by obtain ⟨t, rfl⟩ := rep_int r; exact ⟨_, .int i t⟩
  | .tup l, _, 0, _, e => by simp [okV] at e
  | .lst l, _, 0, _, e => by simp [okV] at e
  | .tup l, _, n + 1, r, e => by
    rw [Rep] at r
    obtain ⟨a, xs, k, rfl, _, h3, h4⟩ := r
    obtain ⟨as, q⟩ := reps_reads n h4 (by simpa [okV] using e)
    exact ⟨as, by rw [py]; exact .tuple h3 rfl rfl q⟩
  | .lst l, _, n + 1, r, e => by
    rw [Rep] at r
    obtain ⟨a, xs, k, rfl, _, h3, h4⟩ := r
    obtain ⟨as, q⟩ := reps_reads n h4 (by simpa [okV] using e)
    exact ⟨a :: as, by rw [py]; exact .list h3 rfl rfl q⟩
theorem reps_reads {ξ h} : ∀ {l : List V} {vs : List Value} (n : Nat), Reps μ ξ h l vs → (∀ x ∈ l, okV n x = true) → ∃ as, ReadsAll h vs (pys l) as
  | [], vs, _, r, _ => by rw [Reps] at r; subst r; exact ⟨_, .nil⟩
  | x :: l, vs, n, r, e => by
    rw [Reps] at r
    obtain ⟨v, t, rfl, h1, h2⟩ := r
    obtain ⟨as, q⟩ := rep_reads n h1 (e x (.head _))
    obtain ⟨bs, q'⟩ := reps_reads n h2 fun y hy => e y (.tail _ hy)
    exact ⟨_, by rw [pys]; exact .cons q q'⟩
end
theorem py_lay : ∀ (n : Nat) (x : V), okV n x = true → (py x).canLay0 = true ∧ (py x).depth ≤ n := by
  have all : ∀ n, (∀ x, okV n x = true → (py x).canLay0 = true ∧ (py x).depth ≤ n) → ∀ l : List V, (∀ x ∈ l, okV n x = true) → PyData.canLayAll0 (pys l) = true ∧ PyData.depthAll (pys l) ≤ n := by
    intro n ih l
    induction l with
    | nil => intro _; simp [pys, PyData.canLayAll0, PyData.depthAll]
    | cons x l hi =>
      intro h
      have h1 := ih x (h x (.head _))
      have h2 := hi fun e he => h e (.tail _ he)
      simp only [pys, PyData.canLayAll0, PyData.depthAll, h1.1, h2.1, Bool.and_self, true_and]
      have a1 := h1.2
      have a2 := h2.2
      omega
  intro n
  induction n with
  | zero => intro x h; cases x <;> simp_all [okV, py, PyData.canLay0, PyData.depth]
  | succ n ih =>
    intro x h
    cases x with
    | raw _ => simp [okV] at h
    | obj _ _ _ => simp [okV] at h
    | st _ _ => simp [okV] at h
    | frz _ => simp [okV] at h
    | rng _ _ => simp [okV] at h
    | int i => simp [py, PyData.canLay0, PyData.depth]
    | tup l =>
      have q := all n ih l (by simpa [okV] using h)
      simp only [py, PyData.canLay0, PyData.depth, q.1, true_and]
      have := q.2; omega
    | lst l =>
      have q := all n ih l (by simpa [okV] using h)
      simp only [py, PyData.canLay0, PyData.depth, q.1, true_and]
      have := q.2; omega
theorem py_eqv : ∀ (n : Nat) (x y : V) (k : Nat), okV n x = true → okV k y = true → (PyData.eqv (py x) (py y) = true ↔ x = y) := by
  have all : ∀ n, (∀ x y k, okV n x = true → okV k y = true → (PyData.eqv (py x) (py y) = true ↔ x = y)) → ∀ (k : Nat) (l m : List V), (∀ x ∈ l, okV n x = true) → (∀ x ∈ m, okV k x = true) →
      (PyData.eqvAll (pys l) (pys m) = true ↔ l = m) := by
    intro n ih k l
    induction l with
    | nil => intro m _ _; cases m <;> simp [pys, PyData.eqvAll]
    | cons x l hi =>
      intro m h1 h2
      cases m with
      | nil => simp [pys, PyData.eqvAll]
      | cons y m =>
        have q1 := ih x y k (h1 x (.head _)) (h2 y (.head _))
        have q2 := hi m (fun z hz => h1 z (.tail _ hz)) fun z hz => h2 z (.tail _ hz)
        simp only [pys, PyData.eqvAll, Bool.and_eq_true, q1, q2, List.cons.injEq]
  intro n
  induction n with
  | zero => intro x y k h1 h2; cases x <;> cases y <;> cases k <;> simp_all [okV, py, PyData.eqv]
  | succ n ih =>
    intro x y k h1 h2
    cases x with
    | tup l =>
      cases y with
      | tup m =>
        cases k with
        | zero => simp [okV] at h2
        | succ k =>
          simp only [py, PyData.eqv, V.tup.injEq]
          exact all n ih k l m (by simpa [okV] using h1) (by simpa [okV] using h2)
      | _ => cases k <;> simp_all [okV, py, PyData.eqv]
    | lst l =>
      cases y with
      | lst m =>
        cases k with
        | zero => simp [okV] at h2
        | succ k =>
          simp only [py, PyData.eqv, V.lst.injEq]
          exact all n ih k l m (by simpa [okV] using h1) (by simpa [okV] using h2)
      | _ => cases k <;> simp_all [okV, py, PyData.eqv]
    | _ => cases y <;> cases k <;> simp_all [okV, py, PyData.eqv]
theorem py_shaped {x : V} (h : okV 8 x = true) : SeqAt.shaped (py x) = true := by
  have l := py_lay 8 x h
  unfold SeqAt.shaped
  rw [l.1, Bool.true_and]
  exact decide_eq_true (Nat.le_trans l.2 (by decide))
theorem op_eq {x y Q} (hx : okV 8 x = true) (hy : okV 8 y = true) (hu : A.units + 64 < 9900) (q : ∀ b : Bool, (b = true ↔ x = y) → Q (.raw (.bool b)) μ) : HT2 prog w B A (compareOp .Eq) x y μ Q := fun ξ s v u g r r' => by
  obtain ⟨as, ra⟩ := rep_reads 8 r hx
  obtain ⟨bs, rb⟩ := rep_reads 8 r' hy
  exact eq_dataH ra rb (py_shaped hx) (py_shaped hy) hu (Post.same g (by rw [Rep]) (q _ (py_eqv 8 x y 8 hx hy)))
theorem op_ne {x y Q} (hx : okV 8 x = true) (hy : okV 8 y = true) (hu : A.units + 64 < 9900) (q : ∀ b : Bool, (b = true ↔ x ≠ y) → Q (.raw (.bool b)) μ) : HT2 prog w B A (compareOp .NotEq) x y μ Q := fun ξ s v u g r r' => by
  obtain ⟨as, ra⟩ := rep_reads 8 r hx
  obtain ⟨bs, rb⟩ := rep_reads 8 r' hy
  refine ne_dataH ra rb (py_shaped hx) (py_shaped hy) hu (Post.same g (by rw [Rep]) (q _ ?_))
  have e := py_eqv 8 x y 8 hx hy
  rw [Bool.not_eq_true', ← Bool.not_eq_true]
  exact not_congr e
theorem py_any : ∀ (l : List V) (x : V), (∀ y ∈ l, okV 7 y = true) → okV 8 x = true → ((pys l).any (fun y => PyData.eqv y (py x)) = true ↔ x ∈ l)
  | [], x, _, _ => by simp [pys]
  | y :: l, x, h, hx => by
    have q := py_any l x (fun z hz => h z (.tail _ hz)) hx
    have q1 := py_eqv 7 y x 8 (h y (.head _)) hx
    simp only [pys, List.any_cons, Bool.or_eq_true, q, q1, List.mem_cons]
    constructor
    · rintro (e | e)
      · exact .inl e.symm
      · exact .inr e
    · rintro (e | e)
      · exact .inl e.symm
      · exact .inr e
theorem op_in {x l Q} (hx : okV 8 x = true) (hl : okV 8 (.lst l) = true) (hu : A.units + 64 < 9900) (q : ∀ b : Bool, (b = true ↔ x ∈ l) → Q (.raw (.bool b)) μ) : HT2 prog w B A (compareOp .In) x (.lst l) μ Q := fun ξ s v u g r r' => by
  obtain ⟨as, ra⟩ := rep_reads 8 r hx
  obtain ⟨bs, rb⟩ := rep_reads 8 r' hl
  have l1 := py_lay 8 x hx
  have l2 := py_lay 8 _ hl
  rw [py] at rb l2
  simp only [PyData.canLay0] at l2
  refine SeqAt.in_list_reads rb ra l2.1 l1.1 ?_ (Post.same g (by rw [Rep]) (q _ (py_any l x (by simpa [okV] using hl) hx)))
  have := Nat.min_le_right (PyData.depthAll (pys l)) (py x).depth
  have := l1.2
  show A.units + 1 + min (PyData.depthAll (pys l)) (py x).depth < 9900
  omega

theorem dict_at {ξ h a kvs} (g : Good prog w B μ ξ h) (hm : μ a = some (.dict kvs)) : 2 < a ∧ ∃ ws, h.DictOf (intKind prog w) a ws ∧ DRel μ ξ h kvs ws := by
  obtain ⟨h0, ws, h1, h2, h3⟩ := g.rep a _ hm
  exact ⟨h0, ws, h1, h2, h3⟩
theorem not_sys {a : Addr} (h : 2 < a) : (a == sysModules) = false := beq_eq_false_iff_ne.mpr (fun (e : a = 1) => by rw [e] at h; exact absurd h (by decide))
theorem op_inD {k a kvs Q} (hm : μ a = some (.dict kvs)) (q : Q (.raw (.bool (dget kvs k).isSome)) μ) : HT2 prog w B A (compareOp .In) (.int k) (.raw (.ref a)) μ Q := fun ξ s v u g r r' => by
  obtain ⟨t, rfl⟩ := rep_int r
  rw [Rep] at r'
  subst r'
  obtain ⟨h0, ws, h1, h2⟩ := dict_at g hm
  refine wpAny_in_of (intKind_is prog w k t) (not_sys h0) h1.mapOf (Post.tok _ g ?_ q)
  rw [Rep, valueAt_eq]
  have := h2.get (k := k)
  cases e : dget kvs k with
  | none => rw [this.2 e]; rfl
  | some x => obtain ⟨v, e', _⟩ := this.1 x e; rw [e']; rfl
theorem op_notInD {k a kvs Q} (hm : μ a = some (.dict kvs)) (q : Q (.raw (.bool (!(dget kvs k).isSome))) μ) : HT2 prog w B A (compareOp .NotIn) (.int k) (.raw (.ref a)) μ Q := fun ξ s v u g r r' => by
  obtain ⟨t, rfl⟩ := rep_int r
  rw [Rep] at r'
  subst r'
  obtain ⟨h0, ws, h1, h2⟩ := dict_at g hm
  refine wpAny_notIn_of (intKind_is prog w k t) (not_sys h0) h1.mapOf (Post.tok _ g ?_ q)
  rw [Rep, valueAt_eq]
  have := h2.get (k := k)
  cases e : dget kvs k with
  | none => rw [this.2 e]; rfl
  | some x => obtain ⟨v, e', _⟩ := this.1 x e; rw [e']; rfl

def SubOk (prog : Program) (w : World) (B : Heap) (A : Around) (x y : V) (μ : Mem) (Q : V → Mem → Prop) : Prop :=
  ∀ (ξ : Xs) (s : Shared) (v u : Value), Good prog w B μ ξ s.heap → Rep μ ξ s.heap x v → Rep μ ξ s.heap y u →
    ∃ T id, s.TypeIs v T ∧ typeLookup (.type T) "__getitem__" = pure (some (.builtin id)) ∧ wpAny (model prog w) A (getItem v u) (Post prog w B μ ξ s Q) (fun _ _ => False) s
theorem HE.sub {value slice pos Q} (h : HE prog w B A env value ρ μ fun x μ₁ => HE prog w B A env slice ρ μ₁ fun y μ₂ => SubOk prog w B A x y μ₂ Q)
    (hs : ∀ o i, subscripted slice false o i = operate [o, i] (getItem o i) := by intro _ _; rfl) : HE prog w B A env (.Subscript value slice pos) ρ μ Q := fun ξ s g f =>
  Subscript_ (wpAny_mono (h ξ s g f) (fun v s₁ ⟨x, μ₁, ξ₁, r, g₁, e₁, k₁, q⟩ =>
    wpAny_mono (q ξ₁ s₁ g₁ (f.stay e₁.stay k₁)) (fun u s₂ ⟨y, μ₂, ξ₂, r₂, g₂, e₂, k₂, q₂⟩ => by
      obtain ⟨T, id, h1, h2, h3⟩ := q₂ ξ₂ s₂ v u g₂ (r.stay e₂.stay) r₂
      exact tail_any h1 h2 (wpAny_mono h3 (fun _ _ p => (p.after e₂ k₂).after e₁ k₁) fun _ _ x => x) (hs _ _)) fun _ _ x => x) fun _ _ x => x)
theorem sub_tup {l : List V} {k : Nat} {z Q} (hz : l[k]? = some z) (hk : k < 1000) (q : Q z μ) : SubOk prog w B A (.tup l) (.int k) μ Q := fun ξ s v u g r r' => by
  obtain ⟨t, rfl⟩ := rep_int r'
  rw [Rep] at r
  obtain ⟨a, xs, n, rfl, _, h3, h4⟩ := r
  obtain ⟨y, h5, h6⟩ := h4.get hz
  have hlt : k < xs.size := by
    have := (List.getElem?_eq_some_iff.mp h5).1
    simpa using this
  refine ⟨"tuple", _, ⟨_, h3, rfl⟩, slot_tuple_getitem.lookup, ?_⟩
  refine PyProof.Rows.getItem_tuple ⟨_, h3, rfl, n, rfl⟩ (by omega) (by omega) (j := k) ?_ (by rw [← Array.getElem?_toList]; exact h5) (Post.same g h6 q)
  unfold seqIndex?
  have hn : ¬ ((k : Int) < 0) := by omega
  simp only [hn, if_false]
  rw [if_pos (by rw [Bool.and_eq_true]; exact ⟨decide_eq_true (by omega), decide_eq_true (by omega)⟩)]
  simp
theorem sub_lst {l : List V} {k : Int} {z Q} (h0 : 0 ≤ k) (hk : k < 1000) (hz : l[k.toNat]? = some z) (q : Q z μ) : SubOk prog w B A (.lst l) (.int k) μ Q := fun ξ s v u g r r' => by
  obtain ⟨t, rfl⟩ := rep_int r'
  rw [Rep] at r
  obtain ⟨a, xs, n, rfl, _, h3, h4⟩ := r
  obtain ⟨y, h5, h6⟩ := h4.get hz
  exact ⟨"list", _, ⟨_, h3, rfl⟩, slot_list_getitem.lookup, wpAny_getItem_list ⟨_, h3, rfl, n, rfl⟩ h0 (by omega) (by rw [← Array.getElem?_toList]; exact h5) (Post.same g h6 q)⟩
theorem sub_list {a : Addr} {l : List V} {k : Int} {z Q} (hm : μ a = some (.list l)) (h0 : 0 ≤ k) (hk : k < 1000) (hz : l[k.toNat]? = some z) (q : Q z μ) : SubOk prog w B A (.raw (.ref a)) (.int k) μ Q := fun ξ s v u g r r' => by
  obtain ⟨t, rfl⟩ := rep_int r'
  rw [Rep] at r
  subst r
  obtain ⟨o, xs, n, h3, hc, _, hd, h4⟩ := g.rep a _ hm
  obtain ⟨y, h5, h6⟩ := h4.get hz
  exact ⟨"list", _, ⟨_, h3, hc⟩, slot_list_getitem.lookup, wpAny_getItem_list ⟨_, h3, hc, n, hd⟩ h0 (by omega) (by rw [← Array.getElem?_toList]; exact h5) (Post.same g h6 q)⟩
theorem sub_dict {a : Addr} {kvs : List (Int × V)} {k : Int} {z Q} (hm : μ a = some (.dict kvs)) (hz : dget kvs k = some z) (q : Q z μ) : SubOk prog w B A (.raw (.ref a)) (.int k) μ Q := fun ξ s v u g r r' => by
  obtain ⟨t, rfl⟩ := rep_int r'
  rw [Rep] at r
  subst r
  obtain ⟨h0, ws, h1, h2⟩ := dict_at g hm
  obtain ⟨v, h3, h4⟩ := (h2.get (k := k)).1 z hz
  exact ⟨"dict", _, h1.typeIs, PySem.slot_dict_getitem.lookup, wpAny_getItem_of (intKind_is prog w k t) h1.mapOf h3 (Post.tok _ g h4 q)⟩
end
end Tab
end
noncomputable section
open PySem PySem.W PyProof.Rows PySem.Calls
set_option maxRecDepth 100000
namespace Tab
section
variable {prog : Program} {w : World} {B : Heap} {A : Around} {env : Env} {ρ : Loc} {μ : Mem} {K : Frag}

def PostM (prog : Program) (w : World) (B : Heap) (μ : Mem) (ξ : Xs) (s : Shared) (Q : Mem → Prop) (_ : Unit) (s' : Shared) : Prop :=
  ∃ μ', Good prog w B μ' ξ s'.heap ∧ Evo μ ξ s μ' ξ s' ∧ Q μ'
def SetOk (prog : Program) (w : World) (B : Heap) (A : Around) (x y z : V) (μ : Mem) (Q : Mem → Prop) : Prop :=
  ∀ (ξ : Xs) (s : Shared) (v u t : Value), Good prog w B μ ξ s.heap → Rep μ ξ s.heap x v → Rep μ ξ s.heap y u → Rep μ ξ s.heap z t →
    wpAny (model prog w) A (setItem v u t) (PostM prog w B μ ξ s Q) (fun _ _ => False) s
theorem HX.setItem {o i pos' value pos} {Q : FR → Loc → Mem → Prop} (h : HE prog w B A env value ρ μ fun z μ₁ => HE prog w B A env o ρ μ₁ fun x μ₂ => HE prog w B A env i ρ μ₂ fun y μ₃ => SetOk prog w B A x y z μ₃ fun μ₄ => Q .next ρ μ₄)
    (hs : swapsWith value (some (.Subscript o i pos')) pos.line env = pure false := by rfl) : HX prog w B A env (.Assign [.Subscript o i pos'] value pos) ρ μ Q := fun ξ s g f =>
  wpAny_Assign_Subscript (hs := hs) (wpAny_mono (h ξ s g f) (fun t s₁ ⟨z, μ₁, ξ₁, rz, g₁, e₁, k₁, q⟩ =>
    wpAny_mono (q ξ₁ s₁ g₁ (f.stay e₁.stay k₁)) (fun v s₂ ⟨x, μ₂, ξ₂, rx, g₂, e₂, k₂, q₂⟩ =>
      wpAny_mono (q₂ ξ₂ s₂ g₂ ((f.stay e₁.stay k₁).stay e₂.stay k₂)) (fun u s₃ ⟨y, μ₃, ξ₃, ry, g₃, e₃, k₃, q₃⟩ =>
        wpAny_mono (q₃ ξ₃ s₃ v u t g₃ (rx.stay e₃.stay) ry ((rz.stay e₂.stay).stay e₃.stay)) (fun _ s₄ ⟨μ₄, g₄, e₄, q₄⟩ =>
          ⟨.next, ρ, μ₄, ξ₃, trivial, g₄, (((f.stay e₁.stay k₁).stay e₂.stay k₂).stay e₃.stay k₃).stay e₄.stay Kept.refl, e₁.trans (e₂.trans (e₃.trans e₄)), (k₁.trans (k₂.trans k₃)).but, q₄⟩) fun _ _ x => x) fun _ _ x => x) fun _ _ x => x) fun _ _ x => x)
theorem set_dict {a : Addr} {kvs : List (Int × V)} {k : Int} {z : V} {Q : Mem → Prop} (hm : μ a = some (.dict kvs)) (hz : kvs.length ≤ 1000) (q : Q (μ.set a (.dict (dset kvs k z)))) :
    SetOk prog w B A (.raw (.ref a)) (.int k) z μ Q := fun ξ s v u t g r r' rz => by
  obtain ⟨tk, rfl⟩ := rep_int r'
  rw [Rep] at r
  subst r
  obtain ⟨h0, ws, h1, h2⟩ := dict_at g hm
  have hl : ws.length = kvs.length := by have := congrArg List.length h2.1; simpa using this
  refine wpAny_setItem_pairs (intKind_is prog w k tk) h1 (fun h' hd hs => ?_) (by rw [hl]; exact Nat.le_trans hz (by decide))
  have ⟨g', e'⟩ := chg_mem (mo' := .dict (dset kvs k z)) (tk := s.toks + 1) g hm hs (fun st => by
    have d := (h2.stay st).set (k := k) (rz.stay st)
    exact ⟨h0, _, hd, d.1, d.2⟩)
  exact ⟨_, g', e', q⟩
theorem mapSeq_dict (f : Array Value → Array Value) (o : Obj) : (o.mapSeq f).dict = o.dict := by
  obtain ⟨c, d, dt, sl⟩ := o
  cases dt <;> rfl
theorem reps_set {ξ h} : ∀ {l : List V} {vs : List Value} (i : Nat) {z : V} {t : Value}, Reps μ ξ h l vs → Rep μ ξ h z t → Reps μ ξ h (l.set i z) (vs.set i t)
  | [], vs, i, z, t, r, _ => by rw [Reps] at r; subst r; exact .nil
  | x :: l, vs, 0, z, t, r, hz => by rw [Reps] at r; obtain ⟨v, r', rfl, _, h2⟩ := r; exact .cons hz h2
  | x :: l, vs, i + 1, z, t, r, hz => by rw [Reps] at r; obtain ⟨v, r', rfl, h1, h2⟩ := r; exact .cons h1 (reps_set i h2 hz)
theorem set_list {a : Addr} {l : List V} {k : Nat} {z : V} {Q : Mem → Prop} (hm : μ a = some (.list l)) (hk : k < l.length) (hl : l.length ≤ 1000) (q : Q (μ.set a (.list (l.set k z)))) :
    SetOk prog w B A (.raw (.ref a)) (.int k) z μ Q := fun ξ s v u t g r r' rz => by
  obtain ⟨tk, rfl⟩ := rep_int r'
  rw [Rep] at r
  subst r
  obtain ⟨o, xs, n, ho, hc, hdn, hd, hr⟩ := g.rep a _ hm
  have hsz : xs.size = l.length := by have := hr.length; simpa using this
  have hT : s.TypeIs (.ref a) "list" := ⟨o, ho, hc⟩
  generalize hki : (k : Int) = ki
  have hk0 : 0 ≤ ki := by omega
  have hk63 : ki < 2 ^ 63 := by omega
  unfold PySem.setItem
  try with_reducible refine wpAny_holding ?_
  refine wpAny_bind (wpAny_sequenceKey hT (by decide) ?_)
  refine wpAny_bind (wpAny_callSpecial?_slot (name := Str.ofString "__setitem__") hT PySem.slot_list_setitem (wpAny_call_entry PySem.slot_list_setitem hT PySem.entry_list_setitem ?_ (PySem.args_list_setitem _ _ _)))
  unfold Builtin.«list.__setitem__»
  have e1 : Builtin.List.listBlankSlotArgs "__setitem__" 2 ⟨[.ref a, .int ki tk, t], []⟩ = pure (.ref a, [.int ki tk, t]) := rfl
  refine wpAny_bind (wpAny_of_eq e1 ?_)
  dsimp only
  refine wpAny_bind (wpAny_listSubscript_int (fitsIndex_of hk0 hk63) ?_)
  dsimp only
  clear hk63 hk0
  subst hki
  refine wpAny_bind ?_
  show wpAny _ _ (seqItemAt a k >>= fun r => pure (r.map (k, ·))) _ _ s
  refine wpAny_bind (wpAny_seqItemAt ho hd (wpAny_pure ?_))
  have hx : xs[k]? = some (xs[k]'(by omega)) := Array.getElem?_eq_getElem (by omega)
  rw [hx]
  dsimp only [Option.map]
  obtain ⟨n', hd'⟩ := Obj.data_mapSeq hd (·.setIfInBounds k t)
  refine wpAny_bind (wpAny_setSeqItemAt ho hd ?_)
  have ⟨g', e'⟩ := chg_mem (mo' := .list (l.set k z)) (tk := s.toks) g hm (Heap.SameBut.update s.heap a (Obj.mapSeq (·.setIfInBounds k t))) (fun st =>
    ⟨_, _, n', Heap.get?_update_self _ ho (Obj.isFreed_of_seq hd'), (Obj.cls_mapSeq ..).trans hc, (mapSeq_dict _ _).trans hdn, hd', by
      have := reps_set k (hr.stay st) (rz.stay st)
      simpa using this⟩)
  first
    | exact wpAny_bind (wpAny_pure (wpAny_pure ⟨.none, rfl, wpAny_pure ⟨_, g', e', q⟩⟩))
    | exact wpAny_pure ⟨.none, rfl, wpAny_pure ⟨_, g', e', q⟩⟩

theorem HX.delItem {o i p pos} {Q : FR → Loc → Mem → Prop} (h : HE prog w B A env o ρ μ fun x μ₁ => HE prog w B A env i ρ μ₁ fun y μ₂ => ∃ a kvs k, x = .raw (.ref a) ∧ y = .int k ∧ μ₂ a = some (.dict kvs) ∧ (dget kvs k).isSome = true ∧ kvs.length ≤ 1000 ∧ Q .next ρ (μ₂.set a (.dict (ddel kvs k)))) :
    HX prog w B A env (.Delete [.Subscript o i p] pos) ρ μ Q := fun ξ s g f => by
  refine wpAny_Delete ?_
  show wpAny _ _ (do delete (.Subscript o i p) env; deleteEach [] env) _ _ _
  refine wpAny_bind (PyProof.Rows.delete_Subscript (wpAny_mono (h ξ s g f) (fun v s₁ ⟨x, μ₁, ξ₁, rx, g₁, e₁, k₁, q⟩ =>
    wpAny_mono (q ξ₁ s₁ g₁ (f.stay e₁.stay k₁)) (fun u s₂ ⟨y, μ₂, ξ₂, ry, g₂, e₂, k₂, a, kvs, k, hx, hy, hm, hk, hz, q₂⟩ => ?_) fun _ _ x => x) fun _ _ x => x))
  subst hx hy
  have rx' := rx.stay e₂.stay
  rw [Rep] at rx'
  subst rx'
  obtain ⟨tk, rfl⟩ := rep_int ry
  obtain ⟨h0, ws, h1, h2⟩ := dict_at g₂ hm
  have hl : ws.length = kvs.length := by have := congrArg List.length h2.1; simpa using this
  unfold PySem.delItem
  try with_reducible refine wpAny_holding ?_
  refine wpAny_bind (wpAny_sequenceKey h1.typeIs (by decide) ?_)
  refine wpAny_bind (wpAny_callSpecial?_slot (name := Str.ofString "__delitem__") h1.typeIs PySem.F.slot_dict_delitem
    (call_meetsIn PySem.F.slot_dict_delitem h1.typeIs PySem.F.entry_dict_delitem (PySem.F.args_dict_delitem_2 _ _) (meets_dict_delitem_pairs (intKind prog w) a (intKind_is prog w k tk)) ⟨ws, h1, by rw [hl]; exact Nat.le_trans hz (by decide), ?_, fun h' hd hs => ?_⟩))
  · obtain ⟨z, hz'⟩ := Option.isSome_iff_exists.mp hk
    obtain ⟨v, hv, _⟩ := (h2.get (k := k)).1 z hz'
    rw [valueAt_eq, hv]; rfl
  · have ⟨g', e'⟩ := chg_mem (mo' := .dict (ddel kvs k)) (tk := s₂.toks + 1) g₂ hm hs (fun st => by
      have d := (h2.stay st).del (k := k)
      exact ⟨h0, _, hd, d.1, d.2⟩)
    exact wpAny_pure (wpAny_pure ⟨.next, ρ, _, ξ₂, trivial, g', ((f.stay e₁.stay k₁).stay e₂.stay k₂).stay e'.stay Kept.refl, e₁.trans (e₂.trans e'), (k₁.trans k₂).but, q₂⟩)

theorem dict_ty {a : Addr} {kvs : List (Int × V)} (hm : μ a = some (.dict kvs)) : ∀ (ξ : Xs) (s : Shared) (v : Value), Good prog w B μ ξ s.heap → Rep μ ξ s.heap (.raw (.ref a)) v → s.TypeIs v "dict" ∧ ∀ b, v = .ref b → ∃ ob, s.heap.get? b = some ob ∧ ob.dict = none := fun ξ s v g r => by
  rw [Rep] at r
  subst r
  obtain ⟨h0, ws, h1, h2⟩ := dict_at g hm
  exact ⟨h1.typeIs, h1.mapOf.noDict⟩
theorem list_ty {a : Addr} {l : List V} (hm : μ a = some (.list l)) : ∀ (ξ : Xs) (s : Shared) (v : Value), Good prog w B μ ξ s.heap → Rep μ ξ s.heap (.raw (.ref a)) v → s.TypeIs v "list" ∧ ∀ b, v = .ref b → ∃ ob, s.heap.get? b = some ob ∧ ob.dict = none := fun ξ s v g r => by
  rw [Rep] at r
  subst r
  obtain ⟨o, xs, n, ho, hc, hdn, hd, hr⟩ := g.rep a _ hm
  exact ⟨⟨o, ho, hc⟩, fun b e => by cases e; exact ⟨o, ho, hdn⟩⟩
theorem reps2 {ξ h x y vs} (r : Reps μ ξ h [x, y] vs) : ∃ v u, vs = [v, u] ∧ Rep μ ξ h x v ∧ Rep μ ξ h y u := by
  obtain ⟨v, t, rfl, h1, u, t', rfl, h2, h3⟩ := r
  rw [Reps] at h3; subst h3
  exact ⟨v, u, rfl, h1, h2⟩
theorem reps3 {ξ h x y z vs} (r : Reps μ ξ h [x, y, z] vs) : ∃ v u t, vs = [v, u, t] ∧ Rep μ ξ h x v ∧ Rep μ ξ h y u ∧ Rep μ ξ h z t := by
  obtain ⟨v, t, rfl, h1, h2⟩ := r
  obtain ⟨u, t, rfl, h3, h4⟩ := reps2 h2
  exact ⟨v, u, t, rfl, h1, h3, h4⟩
theorem reps_reverse {ξ h} : ∀ {l : List V} {vs : List Value}, Reps μ ξ h l vs → Reps μ ξ h l.reverse vs.reverse
  | [], vs, r => by rw [Reps] at r; subst r; exact .nil
  | x :: l, vs, r => by
    rw [Reps] at r; obtain ⟨v, t, rfl, h1, h2⟩ := r
    rw [List.reverse_cons, List.reverse_cons]
    exact (reps_reverse h2).append (.one h1)
theorem reps1 {ξ h x vs} (r : Reps μ ξ h [x] vs) : ∃ v, vs = [v] ∧ Rep μ ξ h x v := by
  obtain ⟨v, t, rfl, h1, h2⟩ := r
  rw [Reps] at h2; subst h2
  exact ⟨v, rfl, h1⟩
theorem bc_get {a : Addr} {kvs : List (Int × V)} {k : Int} {d : V} {Q : V → Mem → Prop} (hm : μ a = some (.dict kvs)) (q : Q ((dget kvs k).getD d) μ) :
    BC prog w B A (.builtin "dict.get") [.raw (.ref a), .int k, d] μ Q := fun ξ s vs g r => by
  obtain ⟨v, u, t, rfl, r1, r2, r3⟩ := reps3 r
  rw [Rep] at r1; subst r1
  obtain ⟨tk, rfl⟩ := rep_int r2
  obtain ⟨h0, ws, h1, h2⟩ := dict_at g hm
  refine call_meetsIn F.slot_dict_get h1.typeIs F.entry_dict_get (F.args_dict_get_3 _ _ _) (meets_dict_get_default (intKind prog w) a (intKind_is prog w k tk) (not_sys h0) t) ⟨_, h1.mapOf, ?_⟩
  refine Post.tok (s.toks + 1) g ?_ q
  rw [valueAt_eq]
  have := h2.get (k := k)
  cases e : dget kvs k with
  | none => rw [this.2 e]; exact r3
  | some z => obtain ⟨v, e', rv⟩ := this.1 z e; rw [e']; exact rv
theorem bc_pop {a : Addr} {kvs : List (Int × V)} {k : Int} {z : V} {Q : V → Mem → Prop} (hm : μ a = some (.dict kvs)) (hz : dget kvs k = some z) (hl : kvs.length ≤ 1000) (q : Q z (μ.set a (.dict (ddel kvs k)))) :
    BC prog w B A (.builtin "dict.pop") [.raw (.ref a), .int k] μ Q := fun ξ s vs g r => by
  obtain ⟨v, u, rfl, r1, r2⟩ := reps2 r
  rw [Rep] at r1; subst r1
  obtain ⟨tk, rfl⟩ := rep_int r2
  obtain ⟨h0, ws, h1, h2⟩ := dict_at g hm
  have hln : ws.length = kvs.length := by have := congrArg List.length h2.1; simpa using this
  obtain ⟨v, hv, rv⟩ := (h2.get (k := k)).1 z hz
  refine call_meetsIn F.slot_dict_pop h1.typeIs F.entry_dict_pop (F.args_dict_pop_2 _ _) (meets_dict_pop_there (intKind prog w) a (intKind_is prog w k tk) [] (.inl rfl) rfl) ⟨ws, v, h1, by rw [hln]; exact Nat.le_trans hl (by decide), hv, fun h' hd hs => ?_⟩
  have ⟨g', e'⟩ := chg_mem (mo' := .dict (ddel kvs k)) (tk := s.toks + 1) g hm hs (fun st => by
    have d := (h2.stay st).del (k := k)
    exact ⟨h0, _, hd, d.1, d.2⟩)
  exact ⟨z, _, ξ, rv.stay e'.stay, g', e', Kept.refl, q⟩
theorem bc_popD {a : Addr} {kvs : List (Int × V)} {k : Int} {d : V} {Q : V → Mem → Prop} (hm : μ a = some (.dict kvs)) (hl : kvs.length ≤ 1000) (q : ∀ z, Q z (μ.set a (.dict (ddel kvs k)))) :
    BC prog w B A (.builtin "dict.pop") [.raw (.ref a), .int k, d] μ Q := fun ξ s vs g r => by
  obtain ⟨v, u, t, rfl, r1, r2, r3⟩ := reps3 r
  rw [Rep] at r1; subst r1
  obtain ⟨tk, rfl⟩ := rep_int r2
  obtain ⟨h0, ws, h1, h2⟩ := dict_at g hm
  have hln : ws.length = kvs.length := by have := congrArg List.length h2.1; simpa using this
  have hget := h2.get (k := k)
  cases e : dget kvs k with
  | some z =>
    obtain ⟨v, hv, rv⟩ := hget.1 z e
    refine call_meetsIn F.slot_dict_pop h1.typeIs F.entry_dict_pop (F.args_dict_pop_3 _ _ _) (meets_dict_pop_there (intKind prog w) a (intKind_is prog w k tk) [t] (.inr ⟨t, rfl⟩) rfl) ⟨ws, v, h1, by rw [hln]; exact Nat.le_trans hl (by decide), hv, fun h' hd hs => ?_⟩
    have ⟨g', e'⟩ := chg_mem (mo' := .dict (ddel kvs k)) (tk := s.toks + 1) g hm hs (fun st => by
      have d := (h2.stay st).del (k := k)
      exact ⟨h0, _, hd, d.1, d.2⟩)
    exact ⟨z, _, ξ, rv.stay e'.stay, g', e', Kept.refl, q z⟩
  | none =>
    refine call_meetsIn F.slot_dict_pop h1.typeIs F.entry_dict_pop (F.args_dict_pop_3 _ _ _) (meets_dict_pop_default (intKind prog w) a (intKind_is prog w k tk) (not_sys h0) rfl t) ⟨ws, h1, hget.2 e, ?_⟩
    have hid : ddel kvs k = kvs := by
      unfold ddel
      refine List.filter_eq_self.mpr fun p hp => decide_eq_true fun hpk => ?_
      unfold dget at e
      rw [Option.map_eq_none_iff, List.find?_eq_none] at e
      exact e p hp (by simpa using hpk)
    have hq := q d
    rw [hid, Mem.set_id hm] at hq
    exact Post.tok (s.toks + 1) g r3 hq
theorem bc_append {a : Addr} {l : List V} {z : V} {Q : V → Mem → Prop} (hm : μ a = some (.list l)) (hl : l.length ≤ 1000) (q : Q (.raw .none) (μ.set a (.list (l ++ [z])))) :
    BC prog w B A (.builtin "list.append") [.raw (.ref a), z] μ Q := fun ξ s vs g r => by
  obtain ⟨v, u, rfl, r1, r2⟩ := reps2 r
  rw [Rep] at r1; subst r1
  obtain ⟨o, xs, n, ho, hc, hdn, hd, hr⟩ := g.rep a _ hm
  have hsz : xs.size = l.length := by have := hr.length; simpa using this
  refine list_append_plainL ⟨o, n, ho, hc, hdn, hd⟩ (fun h' hp hs => ?_) (by rw [hsz]; exact Nat.le_trans hl (by decide))
  obtain ⟨o', n', ho', hc', hdn', hd'⟩ := hp
  have ⟨g', e'⟩ := chg_mem (mo' := .list (l ++ [z])) (tk := s.toks) g hm hs (fun st => ⟨o', _, n', ho', hc', hdn', hd', by
    have := (hr.stay st).append (.one (r2.stay st))
    simpa using this⟩)
  exact ⟨.raw .none, _, ξ, by rw [Rep], g', e', Kept.refl, q⟩

theorem bc_lenL {a : Addr} {l : List V} {Q : V → Mem → Prop} (hm : μ a = some (.list l)) (hl : l.length ≤ 1000) (q : Q (.int l.length) μ) : BC prog w B A (.builtin "len") [.raw (.ref a)] μ Q := fun ξ s vs g r => by
  obtain ⟨v, rfl, r1⟩ := reps1 r
  rw [Rep] at r1; subst r1
  obtain ⟨o, xs, n, ho, hc, hdn, hd, hr⟩ := g.rep a _ hm
  have hsz : xs.size = l.length := by have := hr.length; simpa using this
  refine call_len_list ⟨o, ho, hc, n, hd⟩ (by rw [hsz]; omega) (Post.tok _ g ?_ q)
  rw [hsz]; exact int_rep
theorem bc_lenI {l : List V} {Q : V → Mem → Prop} (hl : l.length ≤ 1000) (q : Q (.int l.length) μ) : BC prog w B A (.builtin "len") [.lst l] μ Q := fun ξ s vs g r => by
  obtain ⟨v, rfl, r1⟩ := reps1 r
  rw [Rep] at r1
  obtain ⟨a, xs, n, rfl, _, ho, hr⟩ := r1
  have hsz : xs.size = l.length := by have := hr.length; simpa using this
  refine call_len_list ⟨_, ho, rfl, n, rfl⟩ (by rw [hsz]; omega) (Post.tok _ g ?_ q)
  rw [hsz]; exact int_rep
theorem bc_lenD {a : Addr} {kvs : List (Int × V)} {Q : V → Mem → Prop} (hm : μ a = some (.dict kvs)) (hl : kvs.length ≤ 1000) (q : Q (.int kvs.length) μ) : BC prog w B A (.builtin "len") [.raw (.ref a)] μ Q := fun ξ s vs g r => by
  obtain ⟨v, rfl, r1⟩ := reps1 r
  rw [Rep] at r1; subst r1
  obtain ⟨h0, ws, h1, h2⟩ := dict_at g hm
  have hln : ws.length = kvs.length := by have := congrArg List.length h2.1; simpa using this
  refine call_len_dict (not_sys h0) h1 (by rw [hln]; omega) (Post.tok _ g ?_ q)
  rw [hln]; exact int_rep

def HAsg (prog : Program) (w : World) (B : Heap) (A : Around) (env : Env) (t : Expr) (x : V) (ρ : Loc) (μ : Mem) (Q : Loc → Mem → Prop) : Prop :=
  ∀ ξ s v, Good prog w B μ ξ s.heap → Frame B env ρ μ ξ s.heap → Rep μ ξ s.heap x v → wpAny (model prog w) A (assign t env v) (PostU prog w B env μ ξ s Q) (fun _ _ => False) s
theorem HAsg.name {n p x} {Q : Loc → Mem → Prop} (q : Q ((n, x) :: ρ) μ) (hk : env.scope.kind = .function := by rfl)
    (hn : (env.kindOf n == some .local || (env.kindOf n == some .cell && (env.cells.lookup n).isSome)) = true := by rfl) : HAsg prog w B A env (.Name n p) x ρ μ Q := fun ξ s v g f r =>
  wpAny_assign_Name (store_name g f r q hk hn)

def okName (env : Env) (n : Str) : Bool := env.kindOf n == some .local || (env.kindOf n == some .cell && (env.cells.lookup n).isSome)
theorem store_names {Q : Loc → Mem → Prop} (hk : env.scope.kind = .function) : ∀ (ns : List (Str × (Value → Sem Unit))) (xs : List V) (vs : List Value) (ρ : Loc) (ξ : Xs) (s : Shared),
    (∀ n ∈ ns, okName env n.1 = true ∧ ∀ (A : Around) (v : Value) (Q : Unit → Shared → Prop) (E : Value → Shared → Prop) (s : Shared), wpAny (model prog w) A (storeName env n.1 v) Q E s → wpAny (model prog w) A (n.2 v) Q E s) → xs.length = ns.length →
    Good prog w B μ ξ s.heap → Frame B env ρ μ ξ s.heap → Reps μ ξ s.heap xs vs → Q (((ns.map (·.1)).zip xs).reverse ++ ρ) μ →
    wpAny (model prog w) A (assignInOrder (ns.map (·.2)) vs) (PostU prog w B env μ ξ s Q) (fun _ _ => False) s := by
  intro ns
  induction ns with
  | nil =>
    intro xs vs ρ ξ s _ hl g f _ q
    have hx : xs = [] := List.length_eq_zero_iff.mp hl
    subst hx
    exact wpAny_pure ⟨ρ, μ, ξ, g, f, Evo.refl, fun _ _ e _ _ => e, q⟩
  | cons nt ns ih =>
    intro xs vs ρ ξ s hn hl g f r q
    obtain ⟨n, t⟩ := nt
    cases xs with
    | nil => cases hl
    | cons x xs =>
      rw [Reps] at r
      obtain ⟨v, r', rfl, h1, h2⟩ := r
      have hn1 := hn _ (.head _)
      show wpAny _ _ (do holding r' (t v); assignInOrder (ns.map (·.2)) r') _ _ _
      refine wpAny_bind (wpAny_holding (hn1.2 _ _ _ _ _ (wpAny_mono (store_name (Q := fun ρ' μ' => ρ' = (n, x) :: ρ ∧ μ = μ') g f h1 ⟨rfl, rfl⟩ hk hn1.1) (fun _ s' p => ?_) fun _ _ x => x)))
      obtain ⟨ρ', μ', ξ', a, b, c, d, e1, e2⟩ := p
      subst e1 e2
      refine wpAny_mono (ih xs r' _ ξ' s' (fun m hm => hn m (.tail _ hm)) (by simpa using hl) a b (h2.stay c.stay) ?_) (fun _ _ p => p.after c d) fun _ _ x => x
      simpa [List.zip_cons_cons] using q
theorem store_by_assign {n p} : ∀ (A : Around) (v : Value) (Q : Unit → Shared → Prop) (E : Value → Shared → Prop) (s : Shared), wpAny (model prog w) A (storeName env n v) Q E s → wpAny (model prog w) A (assign (.Name n p) env v) Q E s :=
  fun _ _ _ _ _ h => wpAny_assign_Name h
theorem store_by_bind {n} : ∀ (A : Around) (v : Value) (Q : Unit → Shared → Prop) (E : Value → Shared → Prop) (s : Shared), wpAny (model prog w) A (storeName env n v) Q E s → wpAny (model prog w) A (bindName env n v) Q E s :=
  fun _ _ _ _ _ h => wpAny_bindName h

theorem unpack_tup {ξ s l v} {Q : List Value → Shared → Prop} {E : Value → Shared → Prop} (hh : A.handled = none) (g : Good prog w B μ ξ s.heap) (f : Frame B env ρ μ ξ s.heap) (r : Rep μ ξ s.heap (.tup l) v)
    (h : ∀ h' vs, Good prog w B μ ξ h' → Frame B env ρ μ ξ h' → Evo μ ξ s μ ξ { s with heap := h' } → Reps μ ξ h' l vs → Q vs { s with heap := h' }) :
    wpAny (model prog w) A (unpackItems v l.length none) Q E s := by
  rw [Rep] at r
  obtain ⟨a, xs, n, rfl, _, ho, hr⟩ := r
  have hsz : xs.size = l.length := by have := hr.length; simpa using this
  rw [← hsz]
  refine unpackItems_tuple hh ⟨_, ho, rfl, n, rfl⟩ fun h' he => ?_
  have hk : ∀ b o, s.heap.get? b = some o → h'.get? b = some o := fun b o e => he b o (fun q => by rw [q, fresh_get _ (Nat.le_refl _)] at e; cases e) e
  have ⟨g', e', _⟩ := new_ex (ξ' := ξ) (tk := s.toks) g hk (fun _ _ _ => rfl) (fun b hb o e => by rw [(g.free hb).2] at e; cases e)
  exact h h' _ g' (f.stay e'.stay Kept.refl) e' (hr.stay e'.stay)

theorem assignEach_names : ∀ (ns : List (Str × Pos)), assignEach (ns.map fun n => .Name n.1 n.2) env = ns.map fun n => (false, assign (.Name n.1 n.2) env)
  | [] => rfl
  | (n, p) :: r => by rw [List.map_cons, List.map_cons, ← assignEach_names r]; rfl
theorem findIdx_none : ∀ (ns : List (Str × Pos)) (f : Str × Pos → Value → Sem Unit), (ns.map fun n => (false, f n)).findIdx? (·.1) = none
  | [], _ => rfl
  | n :: r, f => by simp [List.findIdx?_cons, findIdx_none r f]
theorem HAsg.tup {ns : List (Str × Pos)} {k p} {l : List V} {Q : Loc → Mem → Prop} (hh : A.handled = none) (hl : l.length = ns.length) (q : Q (((ns.map (·.1)).zip l).reverse ++ ρ) μ)
    (hk : env.scope.kind = .function := by rfl) (hn : (ns.all fun n => okName env n.1) = true := by rfl) : HAsg prog w B A env (.Tuple (ns.map fun n => .Name n.1 n.2) k p) (.tup l) ρ μ Q := fun ξ s v g f r => by
  rw [arm_assign_Tuple, assignEach_names]
  refine wpAny_bind (wpAny_standAt ?_)
  unfold unpack
  rw [findIdx_none, List.length_map, ← hl]
  refine wpAny_bind (wpAny_holding (unpack_tup hh g f r fun h' vs g' f' e' r' => ?_))
  have e : ((ns.map fun n => (false, assign (.Name n.1 n.2) env)).map (·.2)) = (ns.map fun n => (n.1, assign (.Name n.1 n.2) env)).map (·.2) := by simp
  rw [e]
  refine wpAny_mono (store_names hk (ns.map fun n => (n.1, assign (.Name n.1 n.2) env)) l vs ρ ξ _ (fun m hm => ?_) (by simpa using hl) g' f' r' (by rw [show (ns.map fun n => (n.1, assign (.Name n.1 n.2) env)).map (·.1) = ns.map (·.1) by rw [List.map_map]; rfl]; exact q)) (fun _ _ p => p.after e' fun _ _ x _ _ => x) fun _ _ x => x
  obtain ⟨n, hn', rfl⟩ := List.mem_map.mp hm
  exact ⟨List.all_eq_true.mp hn n hn', store_by_assign⟩

theorem HX.assignTup {es k tp value pos} {Q : FR → Loc → Mem → Prop} (h : HE prog w B A env value ρ μ fun x μ₁ => HAsg prog w B A env (.Tuple es k tp) x ρ μ₁ fun ρ' μ' => Q .next ρ' μ')
    (hs : swapsWithSole [.Tuple es k tp] value pos.line env = pure false := by rfl)
    (hw : swappedStores [.Tuple es k tp] value env = pure none := by rfl) : HX prog w B A env (.Assign [.Tuple es k tp] value pos) ρ μ Q := fun ξ s g f =>
  PyProof.Rows.Assign_Tuple (hs := hs) (hw := hw) (wpAny_mono (h ξ s g f) (fun v s₁ ⟨x, μ₁, ξ₁, r, g₁, e₁, k₁, q⟩ =>
    wpAny_mono (q ξ₁ s₁ v g₁ (f.stay e₁.stay k₁) r) (fun _ s' ⟨ρ', μ', ξ', a, b, c, d, q⟩ => ⟨.next, ρ', μ', ξ', trivial, a, b, e₁.trans c, k₁.but.trans d, q⟩) fun _ _ x => x) fun _ _ x => x)
theorem HX.assignSwap {es k tp value pos} {names : List Str} {Q : FR → Loc → Mem → Prop} (hh : A.handled = none) (h : HE prog w B A env value ρ μ fun x μ₁ => ∃ l, x = .tup l ∧ l.length = names.length ∧ Q .next (names.zip l ++ ρ) μ₁)
    (hs : swapsWithSole [.Tuple es k tp] value pos.line env = pure false := by rfl)
    (hw : swappedStores [.Tuple es k tp] value env = pure (some names) := by rfl)
    (hk : env.scope.kind = .function := by rfl) (hn : (names.all fun n => okName env n) = true := by rfl) : HX prog w B A env (.Assign [.Tuple es k tp] value pos) ρ μ Q := fun ξ s g f =>
  PyProof.Rows.Assign_Tuple_swapped (names := names) (hs := hs) (hw := hw) (wpAny_mono (h ξ s g f) (fun v s₁ ⟨x, μ₁, ξ₁, r, g₁, e₁, k₁, l, hx, hl, q⟩ => by
    subst hx
    rw [← hl]
    refine unpack_tup hh g₁ (f.stay e₁.stay k₁) r fun h' vs g' f' e' r' => ?_
    have e : (names.reverse.map fun n => bindName env n) = (names.reverse.map fun n => (n, bindName env n)).map (·.2) := by simp
    rw [e]
    have rr : Reps μ₁ ξ₁ h' l.reverse vs.reverse := reps_reverse r'
    refine wpAny_mono (store_names (Q := fun ρ' μ' => Q .next ρ' μ') hk (names.reverse.map fun n => (n, bindName env n)) l.reverse vs.reverse ρ ξ₁ _ (fun m hm => ?_) (by simpa using hl) g' f' rr ?_) (fun _ s' ⟨ρ', μ', ξ', a, b, c, d, q⟩ =>
      ⟨.next, ρ', μ', ξ', trivial, a, b, e₁.trans (e'.trans c), k₁.but.trans d, q⟩) fun _ _ x => x
    · obtain ⟨n, hn', rfl⟩ := List.mem_map.mp hm
      exact ⟨List.all_eq_true.mp hn n (List.mem_reverse.mp hn'), store_by_bind⟩
    · have : ((names.reverse.map fun n => (n, bindName env n)).map (·.1)) = names.reverse := by rw [List.map_map]; exact List.map_id' _
      rw [this, List.zip, ← List.reverse_zipWith hl.symm, List.reverse_reverse]
      exact q) fun _ _ x => x)
end
end Tab
end
noncomputable section
open PySem PySem.W PyProof.Rows PySem.Calls
set_option maxRecDepth 100000
namespace Tab
section
variable {prog : Program} {w : World} {B : Heap} {A : Around} {env : Env} {ρ : Loc} {μ : Mem} {K : Frag}

theorem HX.whileI {t body pos} {Q : FR → Loc → Mem → Prop} (I : Nat → Loc → Mem → Prop)
    (turn : ∀ n ρ μ, I n ρ μ → HB prog w B A env t ρ μ fun b μ' => if b then HS prog w B A env body ρ μ' (fun r ρ'' μ'' => r = .next ∧ ∃ m, m < n ∧ I m ρ'' μ'') else Q .next ρ μ')
    (n : Nat) (h : I n ρ μ) : HX prog w B A env (.While t body [] pos) ρ μ Q := fun ξ s g f => by
  refine wpAny_While (codeAny_whileLoop
    (fun k s' => ∃ ρ' μ' ξ', Good prog w B μ' ξ' s'.heap ∧ Frame B env ρ' μ' ξ' s'.heap ∧ Evo μ ξ s μ' ξ' s' ∧ KeptBut env ξ ξ' ∧ I k ρ' μ')
    (fun k s' ⟨ρ', μ', ξ', g', f', e', k', hI⟩ => ?_) n ⟨ρ, μ, ξ, g, f, Evo.refl, fun _ _ e _ _ => e, h⟩)
  refine wpAny_mono (turn k ρ' μ' hI ξ' s' g' f') (fun b s₁ ⟨μ₁, ξ₁, g₁, e₁, k₁, q⟩ => ?_) fun _ _ x => x.elim
  have f₁ := f'.stay e₁.stay k₁
  cases b with
  | true =>
    rw [if_pos rfl] at q ⊢
    refine wpAny_mono (q ξ₁ s₁ g₁ f₁) (fun fl s₂ ⟨r, ρ₂, μ₂, ξ₂, a, g₂, f₂, e₂, k₂, hr, m, hm, hI₂⟩ => ?_) fun _ _ x => x.elim
    subst hr
    cases fl with
    | next => exact ⟨m, hm, ρ₂, μ₂, ξ₂, g₂, f₂, e'.trans (e₁.trans e₂), k'.trans (k₁.but.trans k₂), hI₂⟩
    | _ => exact a.elim
  | false =>
    rw [if_neg (by simp)] at q ⊢
    exact wpAny_execs_nil ⟨.next, ρ', μ₁, ξ₁, trivial, g₁, f₁, e'.trans e₁, k'.trans k₁.but, q⟩

theorem lets_of {M : Model} {s : Shared} {r : Addr} {o : Obj} {n : String} {t : Expr} {v : Value} {Q : Unit → Shared → Prop} {E : Value → Shared → Prop} (ho : s.heap.get? r = some o) (hc : o.cls = .type n)
    (hn : n = "list_iterator" ∨ n = "range_iterator") (h : Q () s) : wpAny M A (letOwnedTupleGo t (.ref r) v) Q E s := by
  unfold letOwnedTupleGo
  split
  case h_3 => exact wpAny_pure h
  all_goals
    cases v <;> first
      | exact wpAny_pure h
      | (refine wpAny_bind (wpAny_load ho ?_)
         rw [hc]
         cases o.data <;> first
           | exact wpAny_pure h
           | (dsimp only
              rcases hn with rfl | rfl <;> (rw [if_neg (by simp)]; exact wpAny_pure h)))
structure IterAt (prog : Program) (w : World) (A : Around) (μ : Mem) (ξ : Xs) (h : Heap) (I : Addr) (i : Nat) (xs : List V) (fp : List Addr) (P : Nat → Value → Prop) (St : Nat → Heap → Prop) : Prop where
  walks : Walks prog w A I fp [I] xs.length P St
  now : St i h
  obj : ∀ i h', St i h' → ∃ o, h'.get? I = some o
  fpo : ∀ b ∈ fp, b = I ∨ (μ b = none ∧ ξ b = none ∧ ∃ o, h.get? b = some o)
  item : ∀ j v, j < xs.length → P j v → ∃ x, xs[j]? = some x ∧ Rep μ ξ h x v
  ex : ∃ o, ξ I = some o
  lets : ∀ i (s : Shared) t v (Q : Unit → Shared → Prop) (E : Value → Shared → Prop), St i s.heap → Q () s → wpAny (model prog w) A (letOwnedTupleGo t (.ref I) v) Q E s
theorem IterAt.stay {ξ h μ' ξ' h' I i xs fp P St} (t : IterAt prog w A μ ξ h I i xs fp P St) (st : Stay μ ξ h μ' ξ' h') (g : Good prog w B μ ξ h) (g' : Good prog w B μ' ξ' h') (k : ∀ o, ξ I = some o → ξ' I = some o) :
    IterAt prog w A μ' ξ' h' I i xs fp P St where
  walks := t.walks
  now := t.walks.frame i h h' t.now fun b hb o e => by
    rcases t.fpo b hb with rfl | ⟨h1, h2, h3⟩
    · obtain ⟨o', ho⟩ := t.ex
      have e1 := (g.ex _ _ ho).1
      rw [e1] at e; cases e
      exact (g'.ex _ _ (k _ ho)).1
    · exact (st b o e h1 h2).1
  obj := t.obj
  fpo b hb := by
    rcases t.fpo b hb with h1 | ⟨h1, h2, o, h3⟩
    · exact .inl h1
    · have q := st b o h3 h1 h2
      exact .inr ⟨q.2.1, q.2.2, o, q.1⟩
  item j v hl hp := let ⟨x, a, b⟩ := t.item j v hl hp; ⟨x, a, b.stay st⟩
  ex := let ⟨o, ho⟩ := t.ex; ⟨o, k _ ho⟩
  lets := t.lets

theorem IterAt.step {ξ s I i xs fp P St} {Q : Option Value → Shared → Prop} {E : Value → Shared → Prop} (t : IterAt prog w A μ ξ s.heap I i xs fp P St) (g : Good prog w B μ ξ s.heap) {x : V} (hx : xs[i]? = some x)
    (h : ∀ v h' tk o', Good prog w B μ (ξ.set I o') h' → Evo μ ξ s μ (ξ.set I o') { s with heap := h', toks := tk } → IterAt prog w A μ (ξ.set I o') h' I (i + 1) xs fp P St → Rep μ (ξ.set I o') h' x v → Q (some v) { s with heap := h', toks := tk }) :
    wpAny (model prog w) A (pyNext (.ref I)) Q E s := by
  have hi : i < xs.length := (List.getElem?_eq_some_iff.mp hx).1
  refine t.walks.item i s Q E hi t.now fun v h' tk hP hst hk => ?_
  obtain ⟨o, ho⟩ := t.ex
  obtain ⟨o', ho'⟩ := t.obj _ _ hst
  have ⟨g', e'⟩ := chg_exE (tk := tk) g ho (fun b ob hb e => hk b ob (by simpa using hb) e) ho'
  obtain ⟨y, hy, ry⟩ := t.item i v hi hP
  rw [hx] at hy; cases hy
  refine h v h' tk o' g' e' ⟨t.walks, hst, t.obj, fun b hb => ?_, fun j u hl hj => ?_, ⟨o', Xs.set_self ..⟩, t.lets⟩ (ry.stay e'.stay)
  · rcases t.fpo b hb with h1 | ⟨h1, h2, ob, h3⟩
    · exact .inl h1
    · have q := e'.stay b ob h3 h1 h2
      exact .inr ⟨q.2.1, q.2.2, ob, q.1⟩
  · obtain ⟨z, a, b⟩ := t.item j u hl hj
    exact ⟨z, a, b.stay e'.stay⟩
theorem IterAt.fin {ξ s I i xs fp P St} {Q : Option Value → Shared → Prop} {E : Value → Shared → Prop} (t : IterAt prog w A μ ξ s.heap I i xs fp P St) (g : Good prog w B μ ξ s.heap) (hi : i = xs.length)
    (h : ∀ h' tk, Good prog w B μ (ξ.del I) h' → Evo μ ξ s μ (ξ.del I) { s with heap := h', toks := tk } → Q none { s with heap := h', toks := tk }) :
    wpAny (model prog w) A (pyNext (.ref I)) Q E s := by
  refine t.walks.done s Q E (hi ▸ t.now) fun h' tk hk => ?_
  obtain ⟨o, ho⟩ := t.ex
  have ⟨g', e'⟩ := drop_exE (tk := tk) g ho (fun b ob hb e => hk b ob (by simpa using hb) e)
  exact h h' tk g' e'

def Iter (prog : Program) (w : World) (B : Heap) (A : Around) (x : V) (xs : List V) (μ : Mem) : Prop :=
  ∀ (ξ : Xs) (s : Shared) (v : Value) (Q : Value → Shared → Prop), Good prog w B μ ξ s.heap → Rep μ ξ s.heap x v →
    (∀ I h' tk ξ' fp P St, s.heap.get? I = none → Good prog w B μ ξ' h' → Evo μ ξ s μ ξ' { s with heap := h', toks := tk } → Kept ξ ξ' → IterAt prog w A μ ξ' h' I 0 xs fp P St → Q (.ref I) { s with heap := h', toks := tk }) →
    wpAny (model prog w) A (pyIter v) Q (fun _ _ => False) s
theorem Reps.get' {μ ξ h} : ∀ {l vs} {i : Nat} {v : Value}, Reps μ ξ h l vs → vs[i]? = some v → ∃ x, l[i]? = some x ∧ Rep μ ξ h x v
  | [], _, _, _, h, e => by rw [Reps] at h; subst h; simp at e
  | y :: r, _, i, v, h, e => by
    rw [Reps] at h
    obtain ⟨u, t, rfl, h1, h2⟩ := h
    cases i with
    | zero => simp at e; subst e; exact ⟨y, rfl, h1⟩
    | succ i => simpa using Reps.get' h2 (by simpa using e)
theorem iter_at {xs : List V} (hh : A.handled = none) {ξ : Xs} {s : Shared} {a : Addr} {ar : Array Value} {Q : Value → Shared → Prop} (g : Good prog w B μ ξ s.heap) (hl : s.heap.IsList a ar) (hf : μ a = none ∧ ξ a = none) (hr : Reps μ ξ s.heap xs ar.toList)
    (h : ∀ I h' tk ξ' fp P St, s.heap.get? I = none → Good prog w B μ ξ' h' → Evo μ ξ s μ ξ' { s with heap := h', toks := tk } → Kept ξ ξ' → IterAt prog w A μ ξ' h' I 0 xs fp P St → Q (.ref I) { s with heap := h', toks := tk }) :
    wpAny (model prog w) A (pyIter (.ref a)) Q (fun _ _ => False) s := by
  refine wpAny_pyIter_list hl ?_
  have hsz : ar.size = xs.length := by have := hr.length; simpa using this
  let I := s.heap.objs.size
  have hI : s.heap.get? I = none := fresh_get _ (Nat.le_refl _)
  let oI : Obj := { cls := .type "list_iterator", data := .fields #[.ref a, .int 0 0] }
  have hp : (s.heap.push oI).get? I = some oI := Heap.get?_push_size _ rfl
  have ⟨g', e', k'⟩ := new_ex (ξ' := ξ.set I oI) (tk := s.toks) (h' := s.heap.push oI) g push_keep (fun b o e => Xs.set_ne (fun q => by rw [q, hI] at e; cases e)) (fun b hb o e => by
    by_cases hbI : b = I
    · subst hbI; rw [Xs.set_self] at e; cases e; exact hp
    · rw [Xs.set_ne hbI, (g.free hb).2] at e; cases e)
  have hl' : (s.heap.push oI).IsList a ar := hl.push oI
  obtain ⟨oa, hoa, _⟩ := id hl
  have hne : a ≠ I := fun q => by rw [q, hI] at hoa; cases hoa
  refine h I _ s.toks _ [I, a] _ _ hI g' e' k' ⟨hsz ▸ Walks.list hh I a hne ar, ⟨⟨oI, hp, rfl, rfl⟩, hl'⟩, fun i h' st => ?_, fun b hb => ?_, fun j v _ hj => ?_, ⟨oI, Xs.set_self ..⟩, fun i s t v Q E st h => by obtain ⟨⟨o, ho, hc, _⟩, _⟩ := st; exact lets_of ho hc (by simp) h⟩
  · obtain ⟨⟨o, ho, _⟩, _⟩ := st; exact ⟨o, ho⟩
  · simp only [List.mem_cons, List.not_mem_nil, or_false] at hb
    rcases hb with hb | hb
    · exact .inl hb
    · subst hb
      exact .inr ⟨hf.1, by rw [Xs.set_ne hne]; exact hf.2, oa, push_keep _ _ hoa⟩
  · exact (hr.stay e'.stay).get' (by rw [← hj]; simp)
theorem iter_lst {xs : List V} (hh : A.handled = none) : Iter prog w B A (.lst xs) xs μ := fun ξ s v Q g r h => by
  rw [Rep] at r
  obtain ⟨a, ar, n, rfl, hf, ho, hr⟩ := r
  exact iter_at hh g ⟨_, ho, rfl, n, rfl⟩ hf hr h
theorem iter_frz {xs : List V} (hh : A.handled = none) : Iter prog w B A (.frz xs) xs μ := fun ξ s v Q g r h => by
  rw [Rep] at r
  obtain ⟨a, o, ar, n, rfl, hf, ho, hc, hd, hr⟩ := r
  exact iter_at hh g ⟨_, ho, hc, n, hd⟩ hf hr h
def rngV (a : Int) (n : Nat) : List V := (List.range n).map fun (i : Nat) => V.int (a + (i : Int))
theorem iter_rng {a : Int} {n : Nat} (hh : A.handled = none) (ha : 0 ≤ a) (ha' : a ≤ 1000) (hn : n ≤ 1000) : Iter prog w B A (.rng a (a + n)) (rngV a n) μ := fun ξ s v Q g r h => by
  rw [Rep] at r
  obtain ⟨r, t, u, k, rfl, hf, ho⟩ := r
  have hsize : Builtin.Range.rangeSize a (a + n) 1 = n := by
    unfold Builtin.Range.rangeSize
    simp only [show ¬ ((1 : Int) < 0) by omega, if_false, show (1 : Int) > 0 by omega, if_true]
    by_cases hz : a < a + n
    · rw [if_pos hz, Int.ediv_one]; omega
    · rw [if_neg hz]; omega
  have hsmall : Builtin.Range.small a (a + n) 1 = true := by
    have fits : ∀ z : Int, -5000 ≤ z → z ≤ 5000 → Builtin.Range.rangeFitsLong z = true := fun z h1 h2 => by
      unfold Builtin.Range.rangeFitsLong
      simp only [Bool.and_eq_true, decide_eq_true_eq]
      omega
    unfold Builtin.Range.small
    rw [hsize, fits a (by omega) (by omega), fits (a + n) (by omega) (by omega), fits 1 (by omega) (by omega), fits n (by omega) (by omega), if_pos (by omega), fits _ (by omega) (by omega)]
    simp
  refine wpAny_pyIter_range ho hsmall ?_
  rw [hsize]
  let I := s.heap.objs.size
  have hI : s.heap.get? I = none := fresh_get _ (Nat.le_refl _)
  let oI : Obj := { cls := .type "range_iterator", data := .fields #[rawInt a, rawInt n, rawInt 1] }
  have hp : (s.heap.push oI).get? I = some oI := Heap.get?_push_size _ rfl
  have ⟨g', e', k'⟩ := new_ex (ξ' := ξ.set I oI) (tk := s.toks) (h' := s.heap.push oI) g push_keep (fun b o e => Xs.set_ne (fun q => by rw [q, hI] at e; cases e)) (fun b hb o e => by
    by_cases hbI : b = I
    · subst hbI; rw [Xs.set_self] at e; cases e; exact hp
    · rw [Xs.set_ne hbI, (g.free hb).2] at e; cases e)
  have hlen : (rngV a n).length = n := by simp [rngV]
  refine h I _ s.toks _ [I] _ _ hI g' e' k' ⟨by rw [hlen]; exact Walks.range hh I a 1 n, ?_, fun i h' st => ⟨_, st⟩, fun b hb => .inl (by simpa using hb), fun j v hjl hj => ?_, ⟨oI, Xs.set_self ..⟩, fun i s t v Q E st h => lets_of st rfl (by simp) h⟩
  · show IsRangeIter _ I _ _ _
    simpa using hp
  · obtain ⟨t', rfl⟩ := hj
    rw [hlen] at hjl
    exact ⟨.int (a + j), by simp [rngV, hjl], by rw [Rep]; exact ⟨t', by rw [Int.mul_one]⟩⟩

theorem Frame.offx {I : Addr} {ξ ξ' : Xs} {h h' : Heap} (f : Frame B env ρ μ ξ h) (hL : I ≠ env.locals) (hc : ∀ y, env.cells.lookup y ≠ some I) (hx : ∀ b, b ≠ I → ξ' b = ξ b) (st : Stay μ ξ h μ ξ' h') : Frame B env ρ μ ξ' h' := by
  have ne : ∀ y c, env.cells.lookup y = some c → c ≠ I := fun y c e q => hc y (by rw [← q]; exact e)
  refine ⟨?_, fun y z hy hz => ?_, fun y c hc' => ?_, f.apart⟩
  · obtain ⟨o, es, n, a1, a2, a3, a4⟩ := f.loc
    exact ⟨o, es, n, by rw [hx _ (Ne.symm hL)]; exact a1, a2, a3, fun y z hy hz => let ⟨u, b1, b2⟩ := a4 y z hy hz; ⟨u, b1, b2.stay st⟩⟩
  · obtain ⟨c, o, u, c1, c2, c3, c4⟩ := f.cel y z hy hz
    exact ⟨c, o, u, c1, by rw [hx _ (ne y c c1)]; exact c2, c3, c4.stay st⟩
  · obtain ⟨o, u, c2, c3⟩ := f.has y c hc'
    exact ⟨o, u, by rw [hx _ (ne y c hc')]; exact c2, c3⟩

def HFor (prog : Program) (w : World) (B : Heap) (A : Around) (env : Env) (t : Expr) (body : List Stmt) (Q : FR → Loc → Mem → Prop) : List V → Loc → Mem → Prop
  | [], ρ, μ => Q .next ρ μ
  | x :: r, ρ, μ => HAsg prog w B A env t x ρ μ fun ρ' μ' => HS prog w B A env body ρ' μ' fun res ρ'' μ'' => match res with
      | .next | .cont => HFor prog w B A env t body Q r ρ'' μ''
      | .brk => Q .next ρ'' μ''
      | .ret v => Q (.ret v) ρ'' μ''
theorem HX.forI {t iter body pos} {Q : FR → Loc → Mem → Prop} (h : HE prog w B A env iter ρ μ fun x μ₁ => ∃ xs, Iter prog w B A x xs μ₁ ∧ HFor prog w B A env t body Q xs ρ μ₁)
    (hs : ∀ x, foldedSetIterable iter env x = pure x := by intro _; rfl) : HX prog w B A env (.For t iter body [] pos) ρ μ Q := fun ξ s g f => by
  refine wpAny_For (hs := hs) (wpAny_mono (h ξ s g f) (fun v s₁ ⟨x, μ₁, ξ₁, r, g₁, e₁, k₁, xs, it, hF⟩ => ?_) fun _ _ x => x)
  have f₁ := f.stay e₁.stay k₁
  refine it ξ₁ s₁ v _ g₁ r fun I h' tk ξ₂ fp P St hI g₂ e₂ k₂ tI => ?_
  have hIL : I ≠ env.locals := fun q => by
    obtain ⟨o, _, _, ho, _⟩ := f₁.loc
    have := (g₁.ex _ _ ho).1
    rw [← q, hI] at this; cases this
  have hIc : ∀ y, env.cells.lookup y ≠ some I := fun y q => by
    obtain ⟨o, _, ho, _⟩ := f₁.has y I q
    have := (g₁.ex _ _ ho).1
    rw [hI] at this; cases this
  refine codeAny_forLoop_any
    (fun k s' => ∃ i ρ' μ' ξ', k = xs.length - i ∧ i ≤ xs.length ∧ Good prog w B μ' ξ' s'.heap ∧ Frame B env ρ' μ' ξ' s'.heap ∧ Evo μ ξ s μ' ξ' s' ∧ KeptBut env ξ ξ' ∧
      IterAt prog w A μ' ξ' s'.heap I i xs fp P St ∧ HFor prog w B A env t body Q (xs.drop i) ρ' μ')
    (fun k s' ⟨i, ρ', μ', ξ', hk, hi, g', f', e', k', t', hF'⟩ => ?_) (xs.length - 0)
    ⟨0, ρ, μ₁, ξ₂, rfl, Nat.zero_le _, g₂, f₁.stay e₂.stay k₂, e₁.trans e₂, (k₁.trans k₂).but, tI, hF⟩
  rcases Nat.lt_or_ge i xs.length with hlt | hge
  · have hx : xs[i]? = some xs[i] := List.getElem?_eq_getElem hlt
    refine t'.step g' hx fun u h₃ tk₃ o' g₃ e₃ t₃ r₃ => ?_
    have f₃ : Frame B env ρ' μ' (ξ'.set I o') h₃ := f'.offx hIL hIc (fun b hb => Xs.set_ne hb) e₃.stay
    have kI : KeptBut env ξ (ξ'.set I o') := fun a o ha h1 h2 => by
      have hne : a ≠ I := fun q => by
        have e0 := (g.ex a o ha).1
        have z := k₁ a o ha
        have := (g₁.ex a o z).1
        rw [q, hI] at this; cases this
      rw [Xs.set_ne hne]; exact k' a o ha h1 h2
    rw [List.drop_eq_getElem_cons hlt] at hF'
    dsimp only
    refine t₃.lets _ _ _ _ _ _ t₃.now ?_
    refine wpAny_mono (hF' (ξ'.set I o') _ u g₃ f₃ r₃) (fun _ s₄ ⟨ρ₄, μ₄, ξ₄, g₄, f₄, e₄, k₄, q₄⟩ => ?_) fun _ _ x => x.elim
    have t₄ := t₃.stay e₄.stay g₃ g₄ fun o ho => k₄ _ _ ho hIL hIc
    refine wpAny_mono (q₄ ξ₄ s₄ g₄ f₄) (fun fl s₅ ⟨r, ρ₅, μ₅, ξ₅, a, g₅, f₅, e₅, k₅, q₅⟩ => ?_) fun _ _ x => x.elim
    have t₅ := t₄.stay e₅.stay g₄ g₅ fun o ho => k₅ _ _ ho hIL hIc
    have ee := e'.trans (e₃.trans (e₄.trans e₅))
    have kk := kI.trans (k₄.trans k₅)
    cases r <;> cases fl <;> first
      | exact a.elim
      | exact ⟨xs.length - (i + 1), by omega, i + 1, ρ₅, μ₅, ξ₅, rfl, hlt, g₅, f₅, ee, kk, t₅, q₅⟩
      | exact ⟨.next, ρ₅, μ₅, ξ₅, trivial, g₅, f₅, ee, kk, q₅⟩
      | exact ⟨_, ρ₅, μ₅, ξ₅, a, g₅, f₅, ee, kk, q₅⟩
  · have hie : i = xs.length := by omega
    refine t'.fin g' hie fun h₃ tk₃ g₃ e₃ => ?_
    have f₃ : Frame B env ρ' μ' (ξ'.del I) h₃ := f'.offx hIL hIc (fun b hb => Xs.del_ne hb) e₃.stay
    have kI : KeptBut env ξ (ξ'.del I) := fun a o ha h1 h2 => by
      have hne : a ≠ I := fun q => by
        have z := k₁ a o ha
        have := (g₁.ex a o z).1
        rw [q, hI] at this; cases this
      rw [Xs.del_ne hne]; exact k' a o ha h1 h2
    rw [hie, List.drop_length] at hF'
    exact wpAny_execs_nil ⟨.next, ρ', μ', ξ'.del I, trivial, g₃, f₃, e'.trans e₃, kI, hF'⟩
end
end Tab
end
noncomputable section
open PySem PySem.W PyProof.Rows PySem.Calls
set_option maxRecDepth 100000
namespace Tab
section
variable {prog : Program} {w : World} {B : Heap} {A : Around} {env : Env} {ρ : Loc} {μ : Mem} {K : Frag}

def clGo (env : Env) : List (Str × NameKind) → List (Str × Addr) → List (Str × Addr)
  | [], cs => cs
  | (n, k) :: r, cs => if k == .free then clGo env r ((n, (env.cells.lookup n).getD 0) :: cs) else clGo env r cs
def clOf (scope : Scope) (env : Env) : List (Str × Addr) := clGo env scope.names []
def freeOk (scope : Scope) (env : Env) : Bool := scope.names.all fun n => n.2 != .free || ((env.cells.lookup n.1).isSome && env.kindOf n.1 != some .local && scope.names.lookup n.1 == some .free)
theorem forIn_clGo {env : Env} (f : Str × NameKind → List (Str × Addr) → Sem (ForInStep (List (Str × Addr))))
    (hf : ∀ n k cs, f (n, k) cs = if k == .free then (do let y ← cellOf env n; pure (ForInStep.yield ((n, y) :: cs))) else pure (ForInStep.yield cs)) :
    ∀ (l : List (Str × NameKind)) (cs : List (Str × Addr)), (∀ n ∈ l, n.2 = .free → (env.cells.lookup n.1).isSome = true) → forIn l cs f = pure (clGo env l cs)
  | [], cs, _ => rfl
  | (n, k) :: r, cs, h => by
    rw [List.forIn_cons, hf, clGo]
    by_cases hk : (k == .free) = true
    · obtain ⟨c, hc⟩ := Option.isSome_iff_exists.mp (h _ (.head _) (by simpa using hk))
      have e : cellOf env n = pure c := by unfold cellOf; rw [hc]
      simp only at hc
      rw [if_pos hk, if_pos hk, e, hc]
      exact forIn_clGo f hf r _ fun x hx => h x (.tail _ hx)
    · rw [if_neg hk, if_neg hk]
      exact forIn_clGo f hf r _ fun x hx => h x (.tail _ hx)
theorem closureFor_is {scope : Scope} {env : Env} (h : freeOk scope env = true) : closureFor scope env = pure (clOf scope env) := by
  unfold closureFor
  dsimp only
  rw [forIn_clGo (env := env) _ (fun n k cs => rfl) scope.names [] (fun n hn e => by
    have := List.all_eq_true.mp h n hn
    simp [e] at this
    simpa using this.1.1)]
  rfl
theorem clGo_old {env : Env} : ∀ (l : List (Str × NameKind)) (cs : List (Str × Addr)), (∀ n ∈ l, n.2 = .free → (env.cells.lookup n.1).isSome = true) → (∀ m c, cs.lookup m = some c → env.cells.lookup m = some c) →
    ∀ m c, (clGo env l cs).lookup m = some c → env.cells.lookup m = some c
  | [], cs, _, h, m, c, e => h m c e
  | (n, k) :: r, cs, hf, h, m, c, e => by
    rw [clGo] at e
    by_cases hk : (k == .free) = true
    · rw [if_pos hk] at e
      refine clGo_old r _ (fun x hx => hf x (.tail _ hx)) (fun m c e => ?_) m c e
      rw [List.lookup_cons] at e
      by_cases hmn : m = n
      · subst hmn
        simp only [beq_self_eq_true] at e
        obtain ⟨d, hd⟩ := Option.isSome_iff_exists.mp (hf _ (.head _) (by simpa using hk))
        simp only at hd
        rw [hd] at e ⊢
        simpa using e
      · have : (m == n) = false := beq_eq_false_iff_ne.mpr hmn
        rw [this] at e
        exact h m c e
    · rw [if_neg hk] at e
      exact clGo_old r cs (fun x hx => hf x (.tail _ hx)) h m c e
theorem clGo_some {env : Env} : ∀ (l : List (Str × NameKind)) (cs : List (Str × Addr)) (m : Str), ((m, NameKind.free) ∈ l ∨ (cs.lookup m).isSome = true) → ((clGo env l cs).lookup m).isSome = true
  | [], cs, m, h => h.elim (fun e => by cases e) id
  | (n, k) :: r, cs, m, h => by
    rw [clGo]
    by_cases hk : (k == .free) = true
    · rw [if_pos hk]
      refine clGo_some r _ m ?_
      by_cases hmn : m = n
      · subst hmn; exact .inr (by rw [List.lookup_cons, beq_self_eq_true]; rfl)
      · rcases h with h | h
        · rcases List.mem_cons.mp h with h | h
          · cases h; exact absurd rfl hmn
          · exact .inl h
        · refine .inr ?_
          have : (m == n) = false := beq_eq_false_iff_ne.mpr hmn
          rw [List.lookup_cons, this]; exact h
    · rw [if_neg hk]
      refine clGo_some r _ m ?_
      rcases h with h | h
      · rcases List.mem_cons.mp h with h | h
        · cases h; exact absurd rfl hk
        · exact .inl h
      · exact .inr h

abbrev cEnv (scope : Scope) (env : Env) (C : Addr) : Env := compEnvC scope (clOf scope env) C env
def capt (scope : Scope) (ρ : Loc) : Loc := ρ.filter fun p => scope.names.lookup p.1 == some .free
theorem capt_lookup {scope : Scope} : ∀ {ρ : Loc} {x : Str} {y : V}, (capt scope ρ).lookup x = some y → ρ.lookup x = some y ∧ scope.names.lookup x = some .free
  | [], x, y, e => by simp [capt] at e
  | (n, z) :: r, x, y, e => by
    unfold capt at e
    rw [List.filter_cons] at e
    by_cases hp : (scope.names.lookup n == some .free) = true
    · rw [if_pos hp, List.lookup_cons] at e
      rw [List.lookup_cons]
      by_cases hx : x = n
      · subst hx
        simp only [beq_self_eq_true] at e ⊢
        exact ⟨e, by simpa using hp⟩
      · have : (x == n) = false := beq_eq_false_iff_ne.mpr hx
        rw [this] at e ⊢
        exact capt_lookup (ρ := r) e
    · rw [if_neg hp] at e
      have q := capt_lookup (ρ := r) e
      have hx : x ≠ n := by rintro rfl; rw [q.2] at hp; simp at hp
      have : (x == n) = false := beq_eq_false_iff_ne.mpr hx
      rw [List.lookup_cons, this]
      exact q
theorem relabel_free {env : Env} : ∀ {names : List (Str × NameKind)} {x : Str}, names.lookup x = some .free →
    (names.map fun (n, k) => if (k == NameKind.free && env.scope.kind == .function && env.kindOf n == some .cell) then (n, NameKind.cell) else (n, k)).lookup x ≠ some .local
  | [], _, h => by simp at h
  | (n, k) :: r, x, h => by
    rw [List.lookup_cons] at h
    rw [List.map_cons]
    by_cases hx : x = n
    · subst hx
      simp only [beq_self_eq_true] at h
      cases h
      dsimp only
      split <;> simp [List.lookup_cons]
    · have hb : (x == n) = false := beq_eq_false_iff_ne.mpr hx
      rw [hb] at h
      have ih := relabel_free (env := env) h
      dsimp only
      split <;> rw [List.lookup_cons, hb] <;> exact ih

theorem frame_comp {scope : Scope} {C : Addr} {oC : Obj} {es n} {ξ : Xs} {h : Heap} (f : Frame B env ρ μ ξ h) (hC : ξ C = some oC) (hd : oC.data = .dict es n) (hs : StrKeys es)
    (hfree : freeOk scope env = true) : Frame B (cEnv scope env C) (capt scope ρ) μ ξ h := by
  unfold freeOk at hfree
  have hf : ∀ n ∈ scope.names, n.2 = .free → (env.cells.lookup n.1).isSome = true ∧ env.kindOf n.1 ≠ some .local := fun n hn e => by
    have := List.all_eq_true.mp hfree n hn
    simp [e] at this
    exact ⟨by simpa using this.1.1, this.1.2⟩
  have hold := clGo_old (env := env) scope.names [] (fun n hn e => (hf n hn e).1) (fun m c e => by simp at e)
  refine ⟨⟨oC, es, n, hC, hd, hs, fun x y hx hk => ?_⟩, fun x y hx hk => ?_, fun x c hx => f.has x c (hold x c hx), fun x y c hx hy => f.apart x y c (hold x c hx) (hold y c hy)⟩
  · exact absurd hk (relabel_free (env := env) (capt_lookup hx).2)
  · obtain ⟨h1, h2⟩ := capt_lookup hx
    have hm := mem_of_lookup h2
    obtain ⟨c, o, v, c1, c2, c3, c4⟩ := f.cel x y h1 (hf _ hm rfl).2
    have hs' := clGo_some (env := env) scope.names [] x (.inl hm)
    obtain ⟨c', hc'⟩ := Option.isSome_iff_exists.mp hs'
    have := hold x c' hc'
    rw [c1] at this; cases this
    exact ⟨c, o, v, hc', c2, c3, c4⟩

theorem store_local {n : Str} {x : V} {ξ s v} {Q : Unit → Shared → Prop} {E : Value → Shared → Prop} (g : Good prog w B μ ξ s.heap) (f : Frame B env ρ μ ξ s.heap) (r : Rep μ ξ s.heap x v)
    (hk : env.scope.kind = .function) (hl : env.kindOf n = some .local)
    (h : ∀ h' o', Good prog w B μ (ξ.set env.locals o') h' → Frame B env ((n, x) :: ρ) μ (ξ.set env.locals o') h' → Evo μ ξ s μ (ξ.set env.locals o') { s with heap := h', toks := s.toks + 1 } → Q () { s with heap := h', toks := s.toks + 1 }) :
    wpAny (model prog w) A (storeName env n v) Q E s := by
  obtain ⟨o, es, k, h1, h2, h3, h4⟩ := f.loc
  refine wpAny_storeName_local hl ⟨o, es, k, (g.ex _ _ h1).1, h2, h3, fun _ => rfl⟩ (fun h' hns hs => ?_) (by rw [hk]; rfl)
  obtain ⟨o', es', k', p1, p2, p3, p4⟩ := hns
  have ⟨g', e'⟩ := chg_ex (tk := s.toks + 1) g h1 hs p1
  refine h h' o' g' ⟨⟨o', es', k', Xs.set_self .., p2, p3, fun y z hy hz => ?_⟩, fun y z hy hz => ?_, fun y c hc => ?_, f.apart⟩ e'
  · rw [p4]
    rw [List.lookup_cons] at hy
    by_cases hyn : y = n
    · subst hyn
      simp only [beq_self_eq_true] at hy
      cases hy
      exact ⟨v, if_pos rfl, r.stay e'.stay⟩
    · have : (y == n) = false := beq_eq_false_iff_ne.mpr hyn
      rw [this] at hy
      obtain ⟨u, u1, u2⟩ := h4 y z hy hz
      exact ⟨u, by show (if y = n then some v else nsFind es y) = some u; rw [if_neg hyn]; exact u1, u2.stay e'.stay⟩
  · rw [List.lookup_cons] at hy
    by_cases hyn : y = n
    · subst hyn; exact absurd hl hz
    · have : (y == n) = false := beq_eq_false_iff_ne.mpr hyn
      rw [this] at hy
      obtain ⟨c, oc, u, c1, c2, c3, c4⟩ := f.cel y z hy hz
      refine ⟨c, oc, u, c1, ?_, c3, c4.stay e'.stay⟩
      rw [Xs.set_ne (fun q => by subst q; rw [h1] at c2; cases c2; rw [h2] at c3; cases c3)]; exact c2
  · obtain ⟨oc, u, c2, c3⟩ := f.has y c hc
    exact ⟨oc, u, by rw [Xs.set_ne (fun q => by subst q; rw [h1] at c2; cases c2; rw [h2] at c3; cases c3)]; exact c2, c3⟩

def HTests (prog : Program) (w : World) (B : Heap) (A : Around) (env : Env) (ifs : List Expr) (ρ : Loc) (μ : Mem) (Q : Bool → Mem → Prop) : Prop :=
  ∀ ξ s, Good prog w B μ ξ s.heap → Frame B env ρ μ ξ s.heap →
    wpAny (model prog w) A (forIn ifs true fun c r => if r = true then do let ok ← isTrue c env (eval c env); pure (ForInStep.yield ok) else pure (ForInStep.yield r)) (PostB prog w B μ ξ s Q) (fun _ _ => False) s
theorem HTests.nil {Q : Bool → Mem → Prop} (q : Q true μ) : HTests prog w B A env [] ρ μ Q := fun ξ s g f => by
  rw [List.forIn_nil]
  exact wpAny_pure ⟨μ, ξ, g, Evo.refl, Kept.refl, q⟩
theorem HTests.one {c} {Q : Bool → Mem → Prop} (h : HB prog w B A env c ρ μ Q) : HTests prog w B A env [c] ρ μ Q := fun ξ s g f => by
  rw [List.forIn_cons]
  refine wpAny_bind ?_
  rw [if_pos rfl]
  refine wpAny_bind (wpAny_mono (h ξ s g f) (fun b s' p => wpAny_pure ?_) fun _ _ x => x)
  dsimp only
  rw [List.forIn_nil]
  exact wpAny_pure p
def HComp (prog : Program) (w : World) (B : Heap) (A : Around) (env : Env) (x : Str) (ifs : List Expr) (elt : Expr) (ρ : Loc) (Q : List V → Mem → Prop) : List V → List V → Mem → Prop
  | [], acc, μ => Q acc μ
  | y :: r, acc, μ => HTests prog w B A env ifs ((x, y) :: ρ) μ fun ok μ' =>
      if ok then HE prog w B A env elt ((x, y) :: ρ) μ' fun z μ'' => HComp prog w B A env x ifs elt ρ Q r (acc ++ [z]) μ''
      else HComp prog w B A env x ifs elt ρ Q r acc μ'

theorem comp_core {elt iter : Expr} {x : Str} {px : Pos} {ifs : List Expr} {scope : Scope} {pos : Pos} {ξ : Xs} {s : Shared} {I : Addr} {xs : List V} {fp P St} {Q : List V → Mem → Prop}
    {RR : Value → Addr → Result → Shared → Prop}
    (g : Good prog w B μ ξ s.heap) (f : Frame B env ρ μ ξ s.heap) (t : IterAt prog w A μ ξ s.heap I 0 xs fp P St)
    (hIL : I ≠ env.locals) (hIc : ∀ y, env.cells.lookup y ≠ some I) (hz : xs.length ≤ 1000)
    (hfree : freeOk scope env = true) (hcell : ∀ y ∈ scope.names, y.2 ≠ .cell) (hkind : scope.kind = .function) (hx : scope.names.lookup x = some .local)
    (hc : ∀ C, HComp prog w B A (cEnv scope env C) x ifs elt (capt scope ρ) Q xs [] μ)
    (hRR : ∀ D C ys μ' ξ' s' oC es n, Good prog w B μ' ξ' s'.heap → Evo μ ξ s μ' ξ' s' → (∀ a o, ξ a = some o → a ≠ I → ξ' a = some o) → Rep μ' ξ' s'.heap (.lst ys) (.ref D) → s.heap.get? C = none → ξ' C = some oC → oC.data = .dict es n → StrKeys es → Q ys μ' → RR (.ref D) C (.ok .next) s') :
    wpAny (model prog w) A (newList []) (fun acc s₃ => wpAny (model prog w) A (newFunctionEnv scope env.globals (clOf scope env) [] env.qual none .none (some env)) (fun cenv s₄ =>
      codeAny (model prog w) A (.compStart (.ListComp elt [⟨.Name x px, iter, ifs, 0⟩] scope pos) 0 (.ref I) acc { cenv with scope := relabel scope env }) (RR acc cenv.locals) s₄) (fun _ _ => False) s₃) (fun _ _ => False) s := by
  refine wpAny_newList ?_
  refine wpAny_newFunctionEnv hcell (by intro y hy; simp at hy) (fun h₁ hns hsb => ?_) hkind
  dsimp only at hns hsb ⊢
  let D := s.heap.objs.size
  let oD : Obj := seqO "list" #[] 0
  have hD : s.heap.get? D = none := fresh_get _ (Nat.le_refl _)
  have hCs : (s.heap.push oD).objs.size = D + 1 := Heap.size_push _ _
  generalize hCe : (s.heap.push { cls := .type "list", dict := none, data := .seq ([] : List Value).toArray }).objs.size = C at hns hsb
  have hCD : C = D + 1 := hCe.symm.trans hCs
  have hC : s.heap.get? C = none := fresh_get _ (by rw [hCD]; exact Nat.le_succ _)
  have hDC : D ≠ C := by rw [hCD]; exact Nat.ne_of_lt (Nat.lt_succ_self _)
  have old : ∀ b o, s.heap.get? b = some o → h₁.get? b = some o := fun b o e =>
    hsb.extBut b o (fun q => by rw [q, hC] at e; cases e) (push_keep _ _ (push_keep _ _ e))
  have hDo : h₁.get? D = some oD := hsb.extBut D oD hDC (push_keep _ _ (Heap.get?_push_size _ rfl))
  obtain ⟨oC, es, ep, hCo, hCd, hCk, _⟩ := hns
  have ⟨g₁, e₁, k₁⟩ := new_ex (ξ' := (ξ.set D oD).set C oC) (tk := s.toks + ([] : List (Str × Value)).length) (h' := h₁) g old
    (fun b o e => by rw [Xs.set_ne (fun q => by rw [q, hC] at e; cases e), Xs.set_ne (fun q => by rw [q, hD] at e; cases e)])
    (fun b hb o e => by
      by_cases hbC : b = C
      · subst hbC; rw [Xs.set_self] at e; cases e; exact hCo
      · rw [Xs.set_ne hbC] at e
        by_cases hbD : b = D
        · subst hbD; rw [Xs.set_self] at e; cases e; exact hDo
        · rw [Xs.set_ne hbD, (g.free hb).2] at e; cases e)
  have f₁ := f.stay e₁.stay k₁
  have t₁ := t.stay e₁.stay g g₁ fun o ho => k₁ _ _ ho
  have hI : s.heap.get? I ≠ none := by obtain ⟨o, ho⟩ := t.ex; rw [(g.ex _ _ ho).1]; simp
  have hID : I ≠ D := fun q => hI (q ▸ hD)
  have hIC : I ≠ C := fun q => hI (q ▸ hC)
  have fc : Frame B (cEnv scope env C) (capt scope ρ) μ ((ξ.set D oD).set C oC) h₁ := frame_comp f₁ (Xs.set_self ..) hCd hCk hfree
  have kx : (cEnv scope env C).kindOf x = some .local := lookup_relabel_local hx
  have kk : (cEnv scope env C).scope.kind = .function := hkind
  have hcD : ∀ y, (cEnv scope env C).cells.lookup y ≠ some D := fun y q => by
    obtain ⟨o, u, o1, o2⟩ := fc.has y D q
    rw [Xs.set_ne hDC, Xs.set_self] at o1; cases o1; cases o2
  have hcI : ∀ y, (cEnv scope env C).cells.lookup y ≠ some I := fun y q => by
    have hold := clGo_old (env := env) scope.names [] (fun n hn e => by
      have := List.all_eq_true.mp hfree n hn
      simp [e] at this
      simpa using this.1.1) (fun m c e => by simp at e)
    exact hIc y (hold y I q)
  have loop : codeAny (model prog w) A (.compLoop (.ListComp elt [⟨.Name x px, iter, ifs, 0⟩] scope pos) 0 (.ref I) (.ref D) (cEnv scope env C)) (RR (.ref D) C) { s with heap := h₁, toks := s.toks + ([] : List (Str × Value)).length } := by
    refine codeAny_compLoop_tests
      (fun k s' => ∃ i μ' ξ' acc ar n, k = xs.length - i ∧ i ≤ xs.length ∧ acc.length ≤ i ∧ Good prog w B μ' ξ' s'.heap ∧ Frame B (cEnv scope env C) (capt scope ρ) μ' ξ' s'.heap ∧ Evo μ ξ s μ' ξ' s' ∧ (∀ a o, ξ a = some o → a ≠ I → ξ' a = some o) ∧
        IterAt prog w A μ' ξ' s'.heap I i xs fp P St ∧ ξ' D = some (seqO "list" ar n) ∧ Reps μ' ξ' s'.heap acc ar.toList ∧ HComp prog w B A (cEnv scope env C) x ifs elt (capt scope ρ) Q (xs.drop i) acc μ')
      (fun k s' ⟨i, μ', ξ', acc, ar, n, hk, hi, hai, g', f', e', k', t', hDx, hr, hq⟩ => ?_) (xs.length - 0)
      ⟨0, μ, _, [], #[], 0, rfl, Nat.zero_le _, Nat.le_refl _, g₁, fc, e₁, fun a o e _ => k₁ a o e, t₁, by rw [Xs.set_ne hDC]; exact Xs.set_self .., .nil, hc C⟩
    rcases Nat.lt_or_ge i xs.length with hlt | hge
    · have hxi : xs[i]? = some xs[i] := List.getElem?_eq_getElem hlt
      refine t'.step g' hxi fun u h₃ tk₃ o' g₃ e₃ t₃ r₃ => ?_
      have f₃ : Frame B (cEnv scope env C) (capt scope ρ) μ' (ξ'.set I o') h₃ := f'.offx hIC hcI (fun b hb => Xs.set_ne hb) e₃.stay
      have hD₃ : (ξ'.set I o') D = some (seqO "list" ar n) := by rw [Xs.set_ne (Ne.symm hID)]; exact hDx
      have k₃ : ∀ a o, ξ a = some o → a ≠ I → (ξ'.set I o') a = some o := fun a o ha hne => by rw [Xs.set_ne hne]; exact k' a o ha hne
      rw [List.drop_eq_getElem_cons hlt] at hq
      dsimp only
      refine wpAny_assign_Name (store_local g₃ f₃ r₃ kk kx fun h₄ oC' g₄ f₄ e₄ => ?_)
      have hloc : (cEnv scope env C).locals = C := rfl
      rw [hloc] at g₄ f₄ e₄
      have k₄ : ∀ a o, ξ a = some o → a ≠ I → ((ξ'.set I o').set C oC') a = some o := fun a o ha hne => by
        rw [Xs.set_ne (fun (q : a = C) => by have := (g.ex a o ha).1; rw [q, hC] at this; cases this)]
        exact k₃ a o ha hne
      have hD₄ : ((ξ'.set I o').set C oC') D = some (seqO "list" ar n) := by rw [Xs.set_ne hDC]; exact hD₃
      have t₄ := t₃.stay e₄.stay g₃ g₄ fun o ho => by rw [Xs.set_ne hIC]; exact ho
      have r₄ := (hr.stay e₃.stay).stay e₄.stay
      refine wpAny_mono (hq _ _ g₄ f₄) (fun ok s₅ ⟨μ₅, ξ₅, g₅, e₅, k₅, q₅⟩ => ?_) fun _ _ x => x.elim
      have f₅ := f₄.stay e₅.stay k₅
      have t₅ := t₄.stay e₅.stay g₄ g₅ fun o ho => k₅ _ _ ho
      have r₅ := r₄.stay e₅.stay
      have ee₅ := e'.trans (e₃.trans (e₄.trans e₅))
      cases ok with
      | false =>
        rw [if_neg (by simp)] at q₅ ⊢
        exact ⟨xs.length - (i + 1), by omega, i + 1, μ₅, ξ₅, acc, ar, n, rfl, hlt, by omega, g₅, f₅.weaken (fun y z hy => by
          rw [List.lookup_cons]
          have : y ≠ x := fun q => by have := (capt_lookup hy).2; rw [q, hx] at this; cases this
          rw [beq_eq_false_iff_ne.mpr this]; exact hy), ee₅, fun a o ha hne => k₅ _ _ (k₄ a o ha hne), t₅, k₅ _ _ hD₄, r₅, q₅⟩
      | true =>
        rw [if_pos rfl] at q₅ ⊢
        refine wpAny_mono (q₅ ξ₅ s₅ g₅ f₅) (fun v₆ s₆ ⟨z, μ₆, ξ₆, r₆, g₆, e₆, k₆, q₆⟩ => ?_) fun _ _ x => x.elim
        have hD₆ := k₆ _ _ (k₅ _ _ hD₄)
        have rr₆ := r₅.stay e₆.stay
        have hsz : ar.size = acc.length := by have := hr.length; simpa using this
        refine wpAny_list_append_plain (items := ar) ⟨n, (g₆.ex _ _ hD₆).1⟩ (fun h₇ hp hs => ?_) (by rw [hsz]; exact Nat.le_trans hai (Nat.le_trans hi (Nat.le_trans hz (by decide))))
        obtain ⟨n', hp⟩ := hp
        have ⟨g₇, e₇⟩ := chg_ex (tk := s₆.toks) g₆ hD₆ hs hp
        have f₆ := f₅.stay e₆.stay k₆
        have f₇ : Frame B (cEnv scope env C) ((x, xs[i]) :: capt scope ρ) μ₆ (ξ₆.set D (seqO "list" (ar.push v₆) n')) h₇ := f₆.offx hDC hcD (fun b hb => Xs.set_ne hb) e₇.stay
        have t₇ := (t₅.stay e₆.stay g₅ g₆ fun o ho => k₆ _ _ ho).stay e₇.stay g₆ g₇ fun o ho => by rw [Xs.set_ne hID]; exact ho
        refine ⟨xs.length - (i + 1), by omega, i + 1, μ₆, _, acc ++ [z], ar.push v₆, n', rfl, hlt, by rw [List.length_append]; simp; omega, g₇, f₇.weaken (fun y z hy => by
          rw [List.lookup_cons]
          have : y ≠ x := fun q => by have := (capt_lookup hy).2; rw [q, hx] at this; cases this
          rw [beq_eq_false_iff_ne.mpr this]; exact hy), ee₅.trans (e₆.trans e₇), fun a o ha hne => ?_, t₇, Xs.set_self .., ?_, q₆⟩
        · rw [Xs.set_ne (fun (q : a = D) => by have := (g.ex a o ha).1; rw [q, hD] at this; cases this)]
          exact k₆ _ _ (k₅ _ _ (k₄ a o ha hne))
        · rw [Array.toList_push]
          exact (rr₆.stay e₇.stay).append (.one (r₆.stay e₇.stay))
    · have hie : i = xs.length := by omega
      refine t'.fin g' hie fun h₃ tk₃ g₃ e₃ => ?_
      rw [hie, List.drop_length] at hq
      have hD₃ : (ξ'.del I) D = some (seqO "list" ar n) := by rw [Xs.del_ne (Ne.symm hID)]; exact hDx
      have ⟨g₄, e₄⟩ := drop_ex (s := { s' with heap := h₃, toks := tk₃ }) g₃ hD₃
      obtain ⟨oC', es', n', c1, c2, c3, _⟩ := f'.loc
      have hμD : μ' D = none := (g₃.ex _ _ hD₃).2
      refine hRR D C acc μ' _ _ oC' es' n' g₄ ((e'.trans e₃).trans e₄) (fun a o ha hne => ?_) ?_ hC ?_ c2 c3 hq
      · rw [Xs.del_ne (fun (q : a = D) => by have := (g.ex a o ha).1; rw [q, hD] at this; cases this), Xs.del_ne hne]
        exact k' a o ha hne
      · rw [Rep]
        exact ⟨D, ar, n, rfl, ⟨hμD, Xs.del_self ..⟩, (g₃.ex _ _ hD₃).1, (hr.stay e₃.stay).stay e₄.stay⟩
      · rw [Xs.del_ne (Ne.symm hDC), Xs.del_ne (fun (q : C = I) => hIC q.symm)]
        exact c1
  exact codeAny_compStart_list loop (t₁.walks.self 0 _ _ _ t₁.now loop)

def namesOk (scope : Scope) : Bool := scope.names.all fun n => n.2 != .cell && (n.2 != .local || scope.names.lookup n.1 == some .local)
theorem namesOk_cell {scope : Scope} (h : namesOk scope = true) : ∀ y ∈ scope.names, y.2 ≠ .cell := fun y hy e => by
  have := List.all_eq_true.mp h y hy
  simp [e] at this
theorem namesOk_local {scope : Scope} (h : namesOk scope = true) : ∀ y ∈ scope.names, y.2 = .local → scope.names.lookup y.1 = some .local := fun y hy e => by
  have := List.all_eq_true.mp h y hy
  simpa [e] using this

theorem HE.comp {elt iter : Expr} {x : Str} {px : Pos} {ifs : List Expr} {scope : Scope} {pos : Pos} {Q}
    (h : HE prog w B A env iter ρ μ fun v μ₁ => ∃ xs, Iter prog w B A v xs μ₁ ∧ xs.length ≤ 1000 ∧ ∀ C, HComp prog w B A (cEnv scope env C) x ifs elt (capt scope ρ) (fun ys μ₂ => Q (.lst ys) μ₂) xs [] μ₁)
    (hfree : freeOk scope env = true := by rfl) (hno : namesOk scope = true := by rfl) (hkind : scope.kind = .function := by rfl) (hx : scope.names.lookup x = some .local := by rfl)
    (hs : ∀ v, foldedSetIterable iter env v = pure v := by intro _; rfl) :
    HE prog w B A env (.ListComp elt [⟨.Name x px, iter, ifs, 0⟩] scope pos) ρ μ Q := fun ξ s g f => by
  rw [eval_ListComp]
  refine wpAny_comprehension_free (use := none) rfl hs (closureFor_is hfree) hkind (namesOk_local hno) (wpAny_mono (h ξ s g f) (fun v s₁ ⟨z, μ₁, ξ₁, r, g₁, e₁, k₁, xs, it, hz, hc⟩ => ?_) fun _ _ x => x)
  have f₁ := f.stay e₁.stay k₁
  refine it ξ₁ s₁ v _ g₁ r fun I h' tk ξ₂ fp P St hI g₂ e₂ k₂ tI => ?_
  have hIL : I ≠ env.locals := fun q => by
    obtain ⟨o, _, _, ho, _⟩ := f₁.loc
    have := (g₁.ex _ _ ho).1
    rw [← q, hI] at this; cases this
  have hIc : ∀ y, env.cells.lookup y ≠ some I := fun y q => by
    obtain ⟨o, _, ho, _⟩ := f₁.has y I q
    have := (g₁.ex _ _ ho).1
    rw [hI] at this; cases this
  refine comp_core (RR := fun acc C r s' => compPost (model prog w) A (fun _ _ => False) none (Post prog w B μ ξ s Q) acc C r s') g₂ (f₁.stay e₂.stay k₂) tI hIL hIc hz hfree (namesOk_cell hno) hkind hx hc
    fun D C ys μ' ξ' s' oC es n g' e' k' rD hC hCx hCd hCk q => ?_
  refine ⟨fun y => nsFind es y, ⟨oC, es, n, (g'.ex _ _ hCx).1, hCd, hCk, fun _ => rfl⟩, fun h'' hs'' => ?_⟩
  have ⟨g₃, e₃⟩ := drop_exE (tk := s'.toks) g' hCx hs''.extBut
  refine ⟨.lst ys, μ', _, rD.stay e₃.stay, g₃, e₁.trans (e₂.trans (e'.trans e₃)), fun a o ha => ?_, q⟩
  have ha₁ := k₁ a o ha
  have ha₂ := k₂ a o ha₁
  have hne : a ≠ I := fun q => by have := (g₁.ex a o ha₁).1; rw [q, hI] at this; cases this
  rw [Xs.del_ne (fun (q : a = C) => by have := (g₂.ex a o ha₂).1; rw [q, hC] at this; cases this)]
  exact k' a o ha₂ hne

theorem HX.assignComp {elt iter : Expr} {x y : Str} {px py : Pos} {ifs : List Expr} {scope : Scope} {pos spos : Pos} {Q : FR → Loc → Mem → Prop}
    (h : HE prog w B A env iter ρ μ fun v μ₁ => ∃ xs, Iter prog w B A v xs μ₁ ∧ xs.length ≤ 1000 ∧ ∀ C, HComp prog w B A (cEnv scope env C) x ifs elt (capt scope ρ) (fun ys μ₂ => Q .next ((y, .lst ys) :: ρ) μ₂) xs [] μ₁)
    (hsw : swapsWith (.ListComp elt [⟨.Name x px, iter, ifs, 0⟩] scope pos) (some (.Name y py)) spos.line env = pure true := by rfl)
    (hfree : freeOk scope env = true := by rfl) (hno : namesOk scope = true := by rfl) (hkind : scope.kind = .function := by rfl) (hx : scope.names.lookup x = some .local := by rfl)
    (hy : env.kindOf y = some .local := by rfl) (hk : env.scope.kind = .function := by rfl)
    (hs : ∀ v, foldedSetIterable iter env v = pure v := by intro _; rfl) :
    HX prog w B A env (.Assign [.Name y py] (.ListComp elt [⟨.Name x px, iter, ifs, 0⟩] scope pos) spos) ρ μ Q := fun ξ s g f => by
  rw [exec_Assign_Name_used _ _ _ _ hsw]
  refine wpAny_bind (wpAny_standAt (wpAny_bind ?_))
  show wpAny _ A (do let _ ← comprehension (.ListComp elt [⟨.Name x px, iter, ifs, 0⟩] scope pos) scope env _ (newList []) false (eval iter env) (some (PySem.assign (.Name y py) env))) _ _ s
  refine wpAny_bind (wpAny_mono (wpAny_comprehension_free (use := some (PySem.assign (.Name y py) env)) (Q := fun _ s' => PostS prog w B env μ ξ s Q .next s') rfl hs (closureFor_is hfree) hkind (namesOk_local hno)
    (wpAny_mono (h ξ s g f) (fun v s₁ ⟨z, μ₁, ξ₁, r, g₁, e₁, k₁, xs, it, hz, hc⟩ => ?_) fun _ _ x => x)) (fun _ s' hq => wpAny_pure (wpAny_pure hq)) fun _ _ e => e)
  have f₁ := f.stay e₁.stay k₁
  refine it ξ₁ s₁ v _ g₁ r fun I h' tk ξ₂ fp P St hI g₂ e₂ k₂ tI => ?_
  have hIL : I ≠ env.locals := fun q => by
    obtain ⟨o, _, _, ho, _⟩ := f₁.loc
    have := (g₁.ex _ _ ho).1
    rw [← q, hI] at this; cases this
  have hIc : ∀ y, env.cells.lookup y ≠ some I := fun y q => by
    obtain ⟨o, _, ho, _⟩ := f₁.has y I q
    have := (g₁.ex _ _ ho).1
    rw [hI] at this; cases this
  have f₂ := f₁.stay e₂.stay k₂
  refine comp_core (RR := fun acc C r s' => compPost (model prog w) A (fun _ _ => False) (some (PySem.assign (.Name y py) env)) (fun _ s' => PostS prog w B env μ ξ s Q .next s') acc C r s') g₂ f₂ tI hIL hIc hz hfree (namesOk_cell hno) hkind hx hc
    fun D C ys μ' ξ' s' oC es n g' e' k' rD hC hCx hCd hCk q => ?_
  have kk : ∀ a o, ξ a = some o → ξ' a = some o := fun a o ha => by
    have ha₁ := k₁ a o ha
    have hne : a ≠ I := fun q => by have := (g₁.ex a o ha₁).1; rw [q, hI] at this; cases this
    exact k' a o (k₂ a o ha₁) hne
  have f' : Frame B env ρ μ' ξ' s'.heap := f.stay (e₁.trans (e₂.trans e')).stay kk
  have hLC : env.locals ≠ C := fun q => by
    obtain ⟨o, _, _, ho, _⟩ := f₂.loc
    have := (g₂.ex _ _ ho).1
    rw [q] at this
    exact absurd (this.symm.trans hC) (by simp)
  show wpAny _ A (PySem.assign (.Name y py) env (.ref D)) _ _ s'
  refine wpAny_assign_Name (store_local g' f' rD hk hy fun h₃ o' g₃ f₃ e₃ => ?_)
  have hCx₃ : (ξ'.set env.locals o') C = some oC := by rw [Xs.set_ne (Ne.symm hLC)]; exact hCx
  refine ⟨fun y => nsFind es y, ⟨oC, es, n, (g₃.ex _ _ hCx₃).1, hCd, hCk, fun _ => rfl⟩, fun h'' hs'' => ?_⟩
  have ⟨g₄, e₄⟩ := drop_exE (s := { s' with heap := h₃, toks := s'.toks + 1 }) (tk := s'.toks + 1) g₃ hCx₃ hs''.extBut
  have hcC : ∀ y, env.cells.lookup y ≠ some C := fun y q => by
    obtain ⟨o, u, o1, o2⟩ := f₂.has y C q
    have := (g₂.ex _ _ o1).1
    exact absurd (this.symm.trans hC) (by simp)
  refine ⟨.next, (y, .lst ys) :: ρ, μ', _, trivial, g₄, f₃.offx (Ne.symm hLC) hcC (fun b hb => Xs.del_ne hb) e₄.stay, e₁.trans (e₂.trans (e'.trans (e₃.trans e₄))), fun a o ha h1 h2 => ?_, q⟩
  rw [Xs.del_ne (fun (q : a = C) => by
    have := (g₂.ex a o (k₂ a o (k₁ a o ha))).1
    rw [q] at this
    exact absurd (this.symm.trans hC) (by simp)), Xs.set_ne h1]
  exact kk a o ha
end
end Tab
end
noncomputable section
open PySem PySem.W PyProof.Rows PySem.Calls
set_option maxRecDepth 100000
namespace Tab
section
variable {prog : Program} {w : World} {B : Heap} {A : Around} {env : Env} {ρ : Loc} {μ : Mem} {K : Frag}

theorem DivRoom.of {K : Frag} {e : Env} {n : Nat} (am : Amb K B) (hA : Room n A) (hf : ∃ l, A.frames = some (e :: l)) (ht : prog.given.tree = none := by rfl) (h1 : e.scope.isGenerator = false := by rfl) (h2 : e.scope.isCoroutine = false := by rfl)
    (h3 : e.builtins = builtinsNs := by rfl) (h4 : e.globals = mainGlobals := by rfl) : DivRoom prog B A := by
  obtain ⟨l, hl⟩ := hf
  obtain ⟨_, _, _, _, T⟩ := am.top
  exact ⟨ht, am.seer, T.nolimit, by have := hA.depth; omega, e, l, hl, h1, h2, h3, h4⟩

theorem HB.val {e} {Q : Bool → Mem → Prop} (h : HE prog w B A env e ρ μ fun z μ' => ∃ b, z = .raw (.bool b) ∧ Q b μ')
    (he : isTrue e env (eval e env) = (do let v ← eval e env; standAt e.pos; holding [v] (truthy v)) := by rfl) : HB prog w B A env e ρ μ Q := fun ξ s g f => by
  refine PyProof.Rows.isTrue_plain (wpAny_mono (h ξ s g f) (fun v s₁ ⟨x, μ₁, ξ₁, r, g₁, e₁, k₁, b, hx, q⟩ => ?_) fun _ _ x => x) he
  subst hx
  rw [Rep] at r
  subst r
  exact wpAny_truthy_bool ⟨μ₁, ξ₁, g₁, e₁, k₁, q⟩
theorem HB.chain {l op₁ op₂ w₁ w₂ pos} {Q : Bool → Mem → Prop}
    (h : HE prog w B A env l ρ μ fun x μ₁ => HE prog w B A env w₁ ρ μ₁ fun y μ₂ => HT2 prog w B A (compareOp op₁) x y μ₂ fun z μ₃ => ∃ b, z = .raw (.bool b) ∧
      if b then HE prog w B A env w₂ ρ μ₃ fun u μ₄ => HT2 prog w B A (compareOp op₂) y u μ₄ fun z μ₅ => ∃ b, z = .raw (.bool b) ∧ Q b μ₅ else Q false μ₃)
    (hm : lastMarks (op₁ :: op₂ :: []) (w₁ :: w₂ :: []) = false := by with_unfolding_all rfl) :
    HB prog w B A env (.Compare l [op₁, op₂] [w₁, w₂] pos) ρ μ Q := fun ξ s g f => by
  refine PyProof.Rows.isTrue_chain (wpAny_mono (h ξ s g f) (fun v s₁ ⟨x, μ₁, ξ₁, r, g₁, e₁, k₁, q⟩ => ?_) fun _ _ x => x) hm
  have f₁ := f.stay e₁.stay k₁
  unfold testChain
  refine wpAny_bind (wpAny_holding (wpAny_mono (q ξ₁ s₁ g₁ f₁) (fun u s₂ ⟨y, μ₂, ξ₂, r₂, g₂, e₂, k₂, q₂⟩ => ?_) fun _ _ x => x))
  have f₂ := f₁.stay e₂.stay k₂
  refine wpAny_bind (wpAny_standAt (wpAny_bind (wpAny_holding (wpAny_mono (q₂ ξ₂ s₂ v u g₂ (r.stay e₂.stay) r₂) (fun c s₃ ⟨z, μ₃, ξ₃, r₃, g₃, e₃, k₃, b, hz, q₃⟩ => ?_) fun _ _ x => x))))
  subst hz
  rw [Rep] at r₃
  subst r₃
  have f₃ := f₂.stay e₃.stay k₃
  refine wpAny_bind (wpAny_release' (wpAny_bind (wpAny_holding (wpAny_truthy_bool ?_))))
  cases b with
  | false =>
    rw [if_neg (by simp)] at q₃ ⊢
    exact wpAny_pure ⟨μ₃, ξ₃, g₃, e₁.trans (e₂.trans e₃), k₁.trans (k₂.trans k₃), q₃⟩
  | true =>
    rw [if_pos rfl] at q₃ ⊢
    show wpAny _ _ (testChain pos u [op₂] (eval w₂ env :: evalEach [] env)) _ _ _
    unfold testChain
    refine wpAny_bind (wpAny_holding (wpAny_mono (q₃ ξ₃ s₃ g₃ f₃) (fun v₄ s₄ ⟨y₄, μ₄, ξ₄, r₄, g₄, e₄, k₄, q₄⟩ => ?_) fun _ _ x => x))
    refine wpAny_bind (wpAny_standAt (wpAny_bind (wpAny_operate' (wpAny_mono (q₄ ξ₄ s₄ u v₄ g₄ ((r₂.stay e₃.stay).stay e₄.stay) r₄) (fun c s₅ ⟨z, μ₅, ξ₅, r₅, g₅, e₅, k₅, b, hz, q₅⟩ => ?_) fun _ _ x => x))))
    subst hz
    rw [Rep] at r₅
    subst r₅
    exact wpAny_holding (wpAny_truthy_bool ⟨μ₅, ξ₅, g₅, e₁.trans (e₂.trans (e₃.trans (e₄.trans e₅))), k₁.trans (k₂.trans (k₃.trans (k₄.trans k₅))), q₅⟩)

theorem HS.freeze {sts n a l} {Q : FR → Loc → Mem → Prop} (hn : ρ.lookup n = some (.raw (.ref a))) (hm : μ a = some (.list l)) (h : HS prog w B A env sts ((n, .frz l) :: ρ) (μ.del a) Q) : HS prog w B A env sts ρ μ Q := fun ξ s g f => by
  have ⟨g', e'⟩ := drop_mem g hm
  have hξ : ξ a = none := by
    cases e : ξ a with
    | none => rfl
    | some o => have := (g.ex a o e).2; rw [hm] at this; cases this
  have f' := f.stay e'.stay Kept.refl
  obtain ⟨o, xs, k, ho, hc, _, hd, hr⟩ := g.rep a _ hm
  have rr : Rep (μ.del a) ξ s.heap (.frz l) (.ref a) := by rw [Rep]; exact ⟨a, o, xs, k, rfl, ⟨Mem.del_self .., hξ⟩, ho, hc, hd, hr.stay e'.stay⟩
  refine wpAny_mono (h ξ s g' ⟨?_, fun y z hy hz => ?_, f'.has, f'.apart⟩) (fun _ _ p => p.after e' fun _ _ e _ _ => e) fun _ _ x => x
  · obtain ⟨oL, es, kL, a1, a2, a3, a4⟩ := f'.loc
    refine ⟨oL, es, kL, a1, a2, a3, fun y z hy hz => ?_⟩
    rw [List.lookup_cons] at hy
    by_cases hyn : y = n
    · subst hyn
      simp only [beq_self_eq_true] at hy
      cases hy
      obtain ⟨v, v1, v2⟩ := a4 y _ hn hz
      rw [Rep] at v2
      exact ⟨v, v1, v2 ▸ rr⟩
    · have : (y == n) = false := beq_eq_false_iff_ne.mpr hyn
      rw [this] at hy
      exact a4 y z hy hz
  · rw [List.lookup_cons] at hy
    by_cases hyn : y = n
    · subst hyn
      simp only [beq_self_eq_true] at hy
      cases hy
      obtain ⟨c, o, v, c1, c2, c3, c4⟩ := f'.cel y _ hn hz
      rw [Rep] at c4
      exact ⟨c, o, v, c1, c2, c3, c4 ▸ rr⟩
    · have : (y == n) = false := beq_eq_false_iff_ne.mpr hyn
      rw [this] at hy
      exact f'.cel y z hy hz

theorem HE.dict1 {K : Frag} {ke ve pos Q} (am : Amb K B) (h : HE prog w B A env ke ρ μ fun x μ₁ => HE prog w B A env ve ρ μ₁ fun y μ₂ => ∃ i, x = .int i ∧ ∀ a, μ₂ a = none → Q (.raw (.ref a)) (μ₂.set a (.dict [(i, y)]))) :
    HE prog w B A env (.Dict [some ke] [ve] pos) ρ μ Q := fun ξ s g f => by
  refine wpAny_Dict_pairs (knd := intKind prog w) (pairs := [(eval ke env, do let x ← eval ve env; standAt pos; pure x)]) rfl (by simp) (by simp) ?_
  let D := s.heap.objs.size
  let oD : Obj := { cls := .type "dict", data := .dict #[] }
  have hD : s.heap.get? D = none := fresh_get _ (Nat.le_refl _)
  have hp : (s.heap.push oD).get? D = some oD := Heap.get?_push_size _ rfl
  have ⟨g₀, e₀, k₀⟩ := new_ex (ξ' := ξ.set D oD) (tk := s.toks) (h' := s.heap.push oD) g push_keep (fun b o e => Xs.set_ne (fun q => by rw [q, hD] at e; cases e)) (fun b hb o e => by
    by_cases hbI : b = D
    · subst hbI; rw [Xs.set_self] at e; cases e; exact hp
    · rw [Xs.set_ne hbI, (g.free hb).2] at e; cases e)
  have f₀ := f.stay e₀.stay k₀
  unfold evalPairs
  refine wpAny_bind (wpAny_mono (h _ _ g₀ f₀) (fun v s₁ ⟨x, μ₁, ξ₁, r, g₁, e₁, k₁, q⟩ => ?_) fun _ _ x => x)
  have f₁ := f₀.stay e₁.stay k₁
  refine wpAny_bind (wpAny_holding (wpAny_bind (wpAny_mono (q _ _ g₁ f₁) (fun u s₂ ⟨y, μ₂, ξ₂, r₂, g₂, e₂, k₂, i, hx, q₂⟩ => ?_) fun _ _ x => x)))
  subst hx
  obtain ⟨t, rfl⟩ := rep_int (r.stay e₂.stay)
  refine wpAny_bind (wpAny_standAt (wpAny_pure ?_))
  refine wpAny_bind (wpAny_holding ?_)
  unfold evalPairs
  have hξ : ξ₂ D = some oD := k₂ _ _ (k₁ _ _ (Xs.set_self ..))
  have hget := (g₂.ex D oD hξ).1
  have hD0 : s₂.heap.DictOf (intKind prog w) D [] := by
    have := Heap.DictOf.new (knd := intKind prog w) s.heap
    obtain ⟨o, es, ep, h1, h2⟩ := this
    have e : o = oD := by
      have h1' : (s.heap.push oD).get? D = some o := h1
      rw [hp] at h1'
      exact (Option.some.inj h1').symm
    exact ⟨o, es, ep, e ▸ hget, h2⟩
  refine wpAny_pure (wpAny_pure ⟨[(i, u)], ⟨intKind_is prog w i t, rfl, trivial⟩, hD0, fun h' hd hs => ?_⟩)
  have am2 := am.two g
  have ⟨g₃, e₃⟩ := turn_mem (mo := .dict [(i, y)]) (tk := s₂.toks + [(Value.int i t, u)].length) g₂ hξ hs (fun st => ⟨am2, [(i, u)], hd, rfl, .one (r₂.stay st)⟩)
  refine ⟨.raw (.ref D), _, _, by rw [Rep], g₃, e₀.trans (e₁.trans (e₂.trans e₃)), fun a o ha => ?_, q₂ D (g₂.ex D oD hξ).2⟩
  rw [Xs.del_ne (fun (q : a = D) => by have := (g.ex a o ha).1; rw [q, hD] at this; cases this)]
  exact k₂ _ _ (k₁ _ _ (k₀ _ _ ha))

theorem keys_plain {es : List DictEntry} (h : ∀ e ∈ es, ∃ x t, e.key = .str x t) : es.any (·.refKey) = false := by
  rw [List.any_eq_false]
  intro e he
  obtain ⟨x, t, q⟩ := h e he
  simp [DictEntry.refKey, q]
theorem getL_plain {es : List DictEntry} {y : Str} (h : ∀ e ∈ es, ∃ x t, e.key = .str x t) : getL y es = some ((es.find? (·.key.isStr y)).map (·.val)) := by
  unfold getL
  cases q : es.find? (·.key.isStr y) with
  | none => simp [keys_plain h]
  | some e => rfl
theorem putL_keys {name : Str} {hsh : Int} {tk : Tok} {v : Value} : ∀ {es : List DictEntry}, (∀ e ∈ es, ∃ x t, e.key = .str x t) → ∀ e ∈ putL name hsh (.str name tk) v es, ∃ x t, e.key = .str x t
  | [], _, e, he => by
    rw [putL, List.mem_singleton] at he
    subst he
    exact ⟨name, tk, rfl⟩
  | d :: r, h, e, he => by
    rw [putL] at he
    split at he
    · rcases List.mem_cons.mp he with rfl | he
      · exact h d (.head _)
      · exact h e (.tail _ he)
    · rcases List.mem_cons.mp he with rfl | he
      · exact h _ (.head _)
      · exact putL_keys (fun e he => h e (.tail _ he)) e he
theorem putL_length {name : Str} {hsh : Int} {tk : Tok} {v : Value} : ∀ {es : List DictEntry}, (putL name hsh (.str name tk) v es).length ≤ es.length + 1
  | [] => by simp [putL]
  | d :: r => by
    rw [putL]
    split
    · simp
    · simpa using putL_length (es := r)
theorem isStr_eq {x y : Str} {t : Tok} : (Value.str x t).isStr y = decide (x = y) := by
  unfold Value.isStr
  simp [BEq.beq]
theorem putL_get {name : Str} {hsh : Int} {tk : Tok} {v : Value} {y : Str} : ∀ {es : List DictEntry}, (∀ e ∈ es, ∃ x t, e.key = .str x t) →
    ((putL name hsh (.str name tk) v es).find? (·.key.isStr y)).map (·.val) = if y = name then some v else (es.find? (·.key.isStr y)).map (·.val)
  | [], _ => by
    rw [putL]
    by_cases h : y = name
    · simp [h, isStr_eq]
    · simp [h, isStr_eq, Ne.symm h]
  | d :: r, hk => by
    obtain ⟨x, t, hx⟩ := hk d (.head _)
    have ih := putL_get (name := name) (hsh := hsh) (tk := tk) (v := v) (y := y) (fun e he => hk e (.tail _ he))
    rw [putL]
    by_cases h : x = name
    · have h1 : d.key.isStr name = true := by rw [hx, isStr_eq]; exact decide_eq_true h
      rw [if_pos h1]
      by_cases hy : y = name
      · have h2 : d.key.isStr y = true := by rw [hy]; exact h1
        simp [List.find?_cons, h2, hy, h1]
      · have h2 : d.key.isStr y = false := by rw [hx, isStr_eq]; exact decide_eq_false (by rw [h]; exact Ne.symm hy)
        simp [List.find?_cons, h2, hy]
    · have h1 : d.key.isStr name = false := by rw [hx, isStr_eq]; exact decide_eq_false h
      rw [if_neg (by simp [h1])]
      cases h2 : d.key.isStr y with
      | true =>
        have hxy : x = y := by rw [hx, isStr_eq] at h2; exact of_decide_eq_true h2
        have hy : y ≠ name := fun q => h (hxy.trans q)
        simp [List.find?_cons, h2, hy]
      | false => simpa [List.find?_cons, h2] using ih

theorem HX.setAttr {K : Frag} {o attr pos' value pos} {C : Addr} {Q : FR → Loc → Mem → Prop} (am : Amb K B) (hs : findIn K (.ref C) "__setattr__" = some (some (.builtin "object.__setattr__"))) (hp : plainOver K C = true) (ht : takerIn K C attr = some none) (hh : (clsIn K C).any (·.hasDict) = true)
    (h : HE prog w B A env value ρ μ fun z μ₁ => HE prog w B A env o ρ μ₁ fun x μ₂ => ∃ a dx kvs, x = .obj a C dx ∧ μ₂ dx = some (.attrs kvs) ∧ kvs.length < 1000 ∧ Q .next ρ (μ₂.set dx (.attrs ((attr, z) :: kvs))))
    (hsw : swapsWith value (some (.Attribute o attr pos')) pos.line env = pure false := by rfl) : HX prog w B A env (.Assign [.Attribute o attr pos'] value pos) ρ μ Q := fun ξ s g f => by
  refine plainObj_wpAny_Assign_Attribute (wpAny_mono (h ξ s g f) (fun v s₁ ⟨z, μ₁, ξ₁, r, g₁, e₁, k₁, q⟩ => wpAny_mono (q ξ₁ s₁ g₁ (f.stay e₁.stay k₁)) (fun u s₂ ⟨x, μ₂, ξ₂, r₂, g₂, e₂, k₂, a, dx, kvs, hx, hm, hz, q₂⟩ => ?_) fun _ _ x => x) fun _ _ x => x) hsw
  subst hx
  rw [Rep] at r₂
  obtain ⟨hu, hfree, hobj⟩ := r₂
  subst hu
  obtain ⟨es, n, hd, hkeys, hlen, hno, hyes⟩ := g₂.rep dx _ hm
  have X := am.now g₂
  have I : InstAt s₂.heap a (instObj C dx) C (some (dictOf es n)) := ⟨hobj, rfl, rfl, hd⟩
  refine set_plain X I hs (osa_open (s := { s₂ with toks := s₂.toks + 1 }) X I hp ht fun b => ?_)
  obtain ⟨cd, hc, hd'⟩ := any_some hh
  dsimp only
  refine wpAny_bind (wpAny_pure (wpAny_bind (wpAny_bind (wpAny_loadPart hobj (wpAny_bind (Looks.here (s := { s₂ with toks := s₂.toks + 1 }) (looks_clsIn X hc) ?_))))))
  rw [hd']
  refine wpAny_pure (a := some dx) (wpAny_bind (wpAny_pure (wpAny_bind ?_)))
  unfold nsSet
  refine wpAny_bind (wpAny_bind (wpAny_askSetting (wpAny_pure (wpAny_bind (wpAny_mkText (wpAny_bind (wpAny_loadPart hd ?_)))))))
  dsimp only
  have hany : es.toArray.any (·.refKey) = false := by rw [← Array.any_toList]; exact keys_plain hkeys
  rw [aRefKeyMayBeTheName_at, hany, Bool.and_false]
  refine wpAny_updatePart hd ?_
  have D' : ∀ (hsh : Int) (tk : Tok), (s₂.heap.update dx (Obj.putName attr hsh (.str attr tk) v)).get? dx = some (dictOf (putL attr hsh (.str attr tk) v es) (putN attr es n)) := fun hsh tk => by
    have := Heap.get?_update_self (Obj.putName attr hsh (.str attr tk) v) hd (by rw [putName_dict]; rfl)
    rw [putName_dict] at this
    exact this
  have fin : ∀ (hsh : Int) (tk : Tok) (n : Nat), Good prog w B (μ₂.set dx (.attrs ((attr, z) :: kvs))) ξ₂ (s₂.heap.update dx (Obj.putName attr hsh (.str attr tk) v)) ∧
      Evo μ₂ ξ₂ s₂ (μ₂.set dx (.attrs ((attr, z) :: kvs))) ξ₂ { s₂ with heap := s₂.heap.update dx (Obj.putName attr hsh (.str attr tk) v), toks := n } := fun hsh tk _ =>
    chg_mem g₂ hm (Heap.SameBut.update ..) fun st => ⟨_, _, D' hsh tk, putL_keys hkeys, Nat.le_trans putL_length (by simpa using hlen), fun x hx => by
      rw [List.lookup_cons] at hx
      by_cases e : x = attr
      · subst e; simp at hx
      · rw [beq_eq_false_iff_ne.mpr e] at hx
        rw [getL_plain (putL_keys hkeys), putL_get hkeys, if_neg e, ← getL_plain hkeys]
        exact hno x hx, fun x y hx => by
      rw [List.lookup_cons] at hx
      rw [getL_plain (putL_keys hkeys), putL_get hkeys]
      by_cases e : x = attr
      · subst e
        simp only [beq_self_eq_true] at hx
        cases hx
        exact ⟨v, by rw [if_pos rfl], (r.stay e₂.stay).stay st⟩
      · rw [beq_eq_false_iff_ne.mpr e] at hx
        rw [if_neg e, ← getL_plain hkeys]
        obtain ⟨u, u1, u2⟩ := hyes x y hx
        exact ⟨u, u1, u2.stay st⟩⟩
  refine wpAny_bind (wpAny_lookBehind (D' _ _) (pastItsLine_dict (by rw [List.size_toArray, sizeLine_eq]; have := putL_length (name := attr) (hsh := (if attr.cps.isEmpty = true then 0 else reduceHash ((model prog w).w.params.strHash attr.cps))) (tk := s₂.toks + 1) (v := v) (es := es); omega)) ?_)
  have ⟨g₃, e₃⟩ := fin (if attr.cps.isEmpty = true then 0 else reduceHash ((model prog w).w.params.strHash attr.cps)) (s₂.toks + 1) (s₂.toks + 1 + 1)
  exact wpAny_pure ⟨.next, ρ, _, ξ₂, trivial, g₃, ((f.stay e₁.stay k₁).stay e₂.stay k₂).stay e₃.stay Kept.refl, e₁.trans (e₂.trans e₃), (k₁.trans k₂).but, q₂⟩

theorem bc_make {K : Frag} {n : Nat} {C fI : Addr} {Q : V → Mem → Prop} (am : Amb K B) (hm : makesIn K C = true) (hi : findIn K (.ref C) "__init__" = some (some (.ref fI))) (hf : typeIn K (.ref fI) = some (.type "function"))
    (h : ∀ x dx, μ x = none → μ dx = none → x ≠ dx → Fn prog w B n (.ref fI) [.obj x C dx] (μ.set dx (.attrs [])) fun v μ' => v = .raw .none ∧ Q (.obj x C dx) μ') (hA : Room (n + 1) A) : BC prog w B A (.ref C) [] μ Q := fun ξ s vs g r => by
  rw [Reps] at r
  subst r
  obtain ⟨hp, gg, dd, tk, os⟩ := s
  have X := am.now g
  let D := hp.objs.size
  have hD : hp.get? D = none := fresh_get _ (Nat.le_refl _)
  have frD := g.free hD
  have ⟨g₁, e₁⟩ := new_mem (mo := .attrs []) (tk := tk) (h' := hp.push emptyDict) (s := ⟨hp, gg, dd, tk, os⟩) g hD push_keep (fun st => ⟨[], 0, Heap.get?_push_size _ rfl, fun e he => (nomatch he), Nat.le_refl _, fun x _ => rfl, fun x y e => by simp at e⟩)
  have hsz : (hp.push emptyDict).objs.size = D + 1 := size_push' ..
  have hX : (hp.push emptyDict).get? (D + 1) = none := fresh_get _ (by rw [hsz]; exact Nat.le_refl _)
  have frX := g₁.free hX
  have ⟨g₂, e₂, k₂⟩ := new_ex (ξ' := ξ) (tk := tk) (h' := (hp.push emptyDict).push (instObj C D)) (s := ⟨hp.push emptyDict, gg, dd, tk, os⟩) g₁ push_keep (fun _ _ _ => rfl) (fun b hb o e => by rw [(g₁.free hb).2] at e; cases e)
  have ho : ((hp.push emptyDict).push (instObj C D)).get? (D + 1) = some (instObj C D) := by rw [← hsz]; exact Heap.get?_push_size _ rfl
  have hne : D + 1 ≠ D := Nat.succ_ne_self D
  have hxm : μ (D + 1) = none := by have := frX.1; rwa [Mem.set_ne hne] at this
  refine wpAny_call (make_core (makes_of X hm) (looks_findIn X hi) (fun self => bind_fn X self hf) (.inl rfl) ?_)
  have room : Room n (A.under (.builtin "type.__call__" ⟨[.ref C], []⟩)) := by
    have e1 : (Code.builtin "type.__call__" ⟨[.ref C], []⟩).weight = 1 := by rfl
    have e2 : (Code.builtin "type.__call__" ⟨[.ref C], []⟩).cUnits = 1 := by rfl
    have e3 : (Code.builtin "type.__call__" ⟨[.ref C], []⟩).envs = [] := by rfl
    refine ⟨hA.handled, ?_, ?_, ?_⟩
    · show A.depth + Code.weight _ + 3 * n + 103 < 1000
      rw [e1]
      have := hA.depth
      omega
    · show A.units + Code.cUnits _ + 100 * n + 200 < 9900
      rw [e2]
      have := hA.units
      omega
    · obtain ⟨l, hl⟩ := hA.frames
      exact ⟨l, by unfold Around.under; dsimp only; rw [e3]; exact hl⟩
  refine codeAny_mono (h (D + 1) D hxm frD.1 hne _ room ξ _ _ g₂ (.one (by rw [Rep]; exact ⟨rfl, frX, ho⟩))) fun q s' ⟨v, e, p⟩ => ?_
  subst e
  obtain ⟨x, μ', ξ', a, b, c, d, hv, q⟩ := p
  subst hv
  rw [Rep] at a
  refine ⟨a, _, μ', ξ', ?_, b, e₁.trans (e₂.trans c), k₂.trans d, q⟩
  have := c.stay (D + 1) _ ho frX.1 frX.2
  rw [Rep]
  exact ⟨rfl, this.2, this.1⟩
end
end Tab
end
noncomputable section
open PySem PySem.W PyProof.Rows PySem.Calls
set_option maxRecDepth 100000
namespace Tab
section
variable {prog : Program} {w : World} {B : Heap} {A : Around} {env : Env} {ρ : Loc} {μ : Mem} {K : Frag}

def ins (x : Int) : List Int → List Int
  | [] => [x]
  | y :: r => if x ≤ y then x :: y :: r else y :: ins x r
def srt : List Int → List Int
  | [] => []
  | x :: r => ins x (srt r)
theorem ins_perm (x : Int) : ∀ l : List Int, (ins x l).Perm (x :: l)
  | [] => .refl _
  | y :: r => by
    rw [ins]
    split
    · exact .refl _
    · exact ((ins_perm x r).cons y).trans (.swap x y r)
theorem srt_perm : ∀ l : List Int, (srt l).Perm l
  | [] => .refl _
  | x :: r => (ins_perm x (srt r)).trans ((srt_perm r).cons x)
theorem ins_sorted (x : Int) : ∀ l : List Int, l.Pairwise (· ≤ ·) → (ins x l).Pairwise (· ≤ ·)
  | [], _ => by simp [ins]
  | y :: r, h => by
    rw [List.pairwise_cons] at h
    rw [ins]
    split
    · rename_i hxy
      rw [List.pairwise_cons, List.pairwise_cons]
      refine ⟨fun z hz => ?_, h.1, h.2⟩
      rcases List.mem_cons.mp hz with rfl | hz
      · exact hxy
      · exact Int.le_trans hxy (h.1 z hz)
    · rename_i hxy
      rw [List.pairwise_cons]
      refine ⟨fun z hz => ?_, ins_sorted x r h.2⟩
      rcases List.mem_cons.mp ((ins_perm x r).mem_iff.mp hz) with rfl | hz
      · omega
      · exact h.1 z hz
theorem srt_sorted : ∀ l : List Int, (srt l).Pairwise (· ≤ ·)
  | [] => .nil
  | x :: r => ins_sorted x _ (srt_sorted r)
theorem srt_is {l m : List Int} (p : m.Perm l) (s : m.Pairwise (· ≤ ·)) : m = srt l := by
  have p2 : m.Perm (srt l) := p.trans (srt_perm l).symm
  exact p2.eq_of_pairwise (fun a b _ _ h1 h2 => Int.le_antisymm h1 h2) s (srt_sorted l)

def il (l : List Int) : List V := l.map V.int
theorem ints_are {ξ h} : ∀ {l : List Int} {vs : List Value}, Reps μ ξ h (il l) vs → IntsAre vs l
  | [], vs, r => by unfold il at r; rw [List.map_nil, Reps] at r; subst r; exact .nil
  | x :: l, vs, r => by
    unfold il at r
    rw [List.map_cons, Reps] at r
    obtain ⟨v, t, rfl, h1, h2⟩ := r
    obtain ⟨tk, rfl⟩ := rep_int h1
    exact .cons _ _ (ints_are h2)
theorem are_ints {ξ h} : ∀ {l : List Int} {vs : List Value}, IntsAre vs l → Reps μ ξ h (il l) vs
  | _, _, .nil => .nil
  | _, _, .cons n t r => .cons int_rep (are_ints r)

theorem bc_sortedL {l : List Int} {Q : V → Mem → Prop} (hl : l.length < 64) (q : Q (.lst (il (srt l))) μ) : BC prog w B A (.builtin "sorted") [.lst (il l)] μ Q := fun ξ s vs g r => by
  obtain ⟨v, rfl, r1⟩ := reps1 r
  rw [Rep] at r1
  obtain ⟨a, xs, n, rfl, _, ho, hr⟩ := r1
  have hI := ints_are hr
  have hlen : xs.toList.length < 64 := by rw [hr.length]; simpa [il] using hl
  refine sorted_ints (vs := xs.toList) ⟨_, ho, rfl, n, by simp⟩ hI hlen fun out ns' a1 a2 a3 => ?_
  obtain ⟨e, he⟩ := sortedAll_at s.heap xs.toList out
  have := srt_is a2 a3
  subst this
  have hk : ∀ b o, s.heap.get? b = some o → (sortedAll s.heap xs.toList out).get? b = some o := fun b o e => sortedAll_old e
  have fr := g.free (a := s.heap.objs.size + 1) (fresh_get _ (Nat.le_succ _))
  refine Post.here (tk := s.toks) g hk ?_ q
  rw [Rep]
  exact ⟨_, out, e, rfl, fr, he, are_ints a1⟩
theorem sortedHeap_old' {h : Heap} {a b : Addr} {vs : List Value} {out : Array Value} {o : Obj} (hne : b ≠ a) (hb : h.get? b = some o) : (sortedHeap h a vs out).get? b = some o := by
  unfold sortedHeap
  rw [Heap.get?_update_ne _ _ _ _ hne]
  refine Heap.get?_push_of_some _ (Heap.get?_push_of_some _ ?_)
  rw [Heap.get?_update_ne _ _ _ _ hne]; exact hb
theorem items_ints {P : Nat → Value → Prop} {ks : List Int} {acc : Array Value} (h : ItemsOf P acc ks.length) (hp : ∀ j v, j < ks.length → P j v → ∃ k t, ks[j]? = some k ∧ v = .int k t) : IntsAre acc.toList ks := by
  obtain ⟨h1, h2⟩ := h
  have key : ∀ (vs : List Value) (ks : List Int), vs.length = ks.length → (∀ (j : Nat) v, vs[j]? = some v → ∃ k t, ks[j]? = some k ∧ v = .int k t) → IntsAre vs ks := by
    intro vs
    induction vs with
    | nil => intro ks e _; cases ks with
      | nil => exact .nil
      | cons _ _ => simp at e
    | cons v vs ih =>
      intro ks e hj
      cases ks with
      | nil => simp at e
      | cons k ks =>
        obtain ⟨k', t, e1, e2⟩ := hj 0 v rfl
        simp at e1
        subst e1 e2
        exact .cons _ _ (ih ks (by simpa using e) fun j v hv => by simpa using hj (j + 1) v (by simpa using hv))
  exact key _ _ (by simpa using h1) fun j v hv => hp j v (by have := (List.getElem?_eq_some_iff.mp hv).1; simp at this; omega) (h2 j v (by simpa [Array.getElem?_toList] using hv))
theorem is_int {k : Int} {v : Value} (h : (intKind prog w).is k v = true) : ∃ t, v = .int k t := by
  cases v with
  | int n t => exact ⟨t, by simp [intKind, Value.isInt] at h; rw [h]⟩
  | _ => simp [intKind, Value.isInt] at h
theorem bc_sortedD {a : Addr} {kvs : List (Int × V)} {Q : V → Mem → Prop} (hh : A.handled = none) (hm : μ a = some (.dict kvs)) (hl : kvs.length < 64) (q : Q (.lst (il (srt (kvs.map (·.1))))) μ) :
    BC prog w B A (.builtin "sorted") [.raw (.ref a)] μ Q := fun ξ s vs g r => by
  obtain ⟨v, rfl, r1⟩ := reps1 r
  rw [Rep] at r1; subst r1
  obtain ⟨h0, ws, h1, h2⟩ := dict_at g hm
  have hln : ws.length = kvs.length := by have := congrArg List.length h2.1; simpa using this
  obtain ⟨ep, hat⟩ := h1.dictAt
  refine Calls.call_function_entry kind_sorted plain_sorted entry_sorted (args_sorted1 _) ?_
  unfold Builtin.«sorted»
  refine wpAny_bind (m := checkCount "sorted" 1 1 _) (wpAny_pure ?_)
  refine wpAny_bind (kdu_collect (kdl_dict (knd := intKind prog w) (kvs := ws) (ep := ep) (not_sys h0)) hh hat (by rw [hln, sizeLine_eq]; omega) fun h' tk acc hk hacc => ?_)
  have hlenN : acc.toList.length = kvs.length := by rw [← hln, ← hacc.1]; simp
  have hlen : acc.toList.length < 64 := by omega
  have hI : IntsAre acc.toList (ws.map (·.1)) := items_ints (P := fun i v => ∃ k x, ws[i]? = some (k, x) ∧ (intKind prog w).is k v = true) (by rw [List.length_map]; exact hacc) fun j v _ ⟨k, x, e1, e2⟩ => by
    obtain ⟨t, rfl⟩ : ∃ t, v = .int k t := is_int e2
    exact ⟨k, t, by simp [e1], rfl⟩
  refine wpAny_bind (wpAny_newList ?_ (by rw [hlenN, sizeLine_eq]; omega))
  have hoL : (h'.push (seqObj "list" acc.toList.toArray 0)).get? h'.objs.size = some (seqObj "list" acc.toList.toArray 0) := Heap.get?_push_size _ rfl
  refine wpAny_bind (wpAny_holding (wpAny_call_entry slot_list_sort ⟨_, hoL, rfl⟩ entry_list_sort (list_sort_tree hoL hI hlen fun out ns' a1 a2 a3 => ⟨_, rfl, ?_⟩) (args_list_sort _)))
  have := srt_is a2 a3
  subst this
  have hne : ∀ b o, s.heap.get? b = some o → b ≠ h'.objs.size := fun b o e q => by
    have := Heap.lt_size (hk b o e)
    rw [q] at this; exact absurd this (Nat.lt_irrefl _)
  have hN : s.heap.get? h'.objs.size = none := by
    cases e : s.heap.get? h'.objs.size with
    | none => rfl
    | some o => exact absurd rfl (hne _ o e)
  obtain ⟨e, he⟩ := sortedHeap_at (vs := acc.toList) (out := out) hoL
  refine wpAny_pure ⟨_, rfl, Post.here (tk := tk) g (fun b o e => sortedHeap_old' (hne b o e) (push_keep _ _ (hk b o e))) ?_ (by rw [← h2.1] at q; exact q)⟩
  rw [Rep]
  exact ⟨_, out, e, rfl, g.free hN, he, are_ints a1⟩

theorem bc_range1 {n : Int} {Q : V → Mem → Prop} (q : Q (.rng 0 n) μ) : BC prog w B A (.type "range") [.int n] μ Q := fun ξ s vs g r => by
  obtain ⟨v, rfl, r1⟩ := reps1 r
  obtain ⟨t, rfl⟩ := rep_int r1
  refine call_range_1 (Post.here g push_keep ?_ q)
  rw [Rep]
  exact ⟨_, _, _, _, rfl, g.free (fresh_get _ (Nat.le_refl _)), IsRange.new ..⟩
theorem bc_range2 {a b : Int} {Q : V → Mem → Prop} (q : Q (.rng a b) μ) : BC prog w B A (.type "range") [.int a, .int b] μ Q := fun ξ s vs g r => by
  obtain ⟨v, u, rfl, r1, r2⟩ := reps2 r
  obtain ⟨t, rfl⟩ := rep_int r1
  obtain ⟨t', rfl⟩ := rep_int r2
  refine call_range_2 (Post.here g push_keep ?_ q)
  rw [Rep]
  exact ⟨_, _, _, _, rfl, g.free (fresh_get _ (Nat.le_refl _)), IsRange.new ..⟩
theorem bc_intBool {b : Bool} {Q : V → Mem → Prop} (q : Q (.int (if b then 1 else 0)) μ) : BC prog w B A (.type "int") [.raw (.bool b)] μ Q := fun ξ s vs g r => by
  obtain ⟨v, rfl, r1⟩ := reps1 r
  rw [Rep] at r1; subst r1
  exact call_int_bool (Post.tok _ g int_rep q)
theorem rng_size {a : Int} {n : Nat} : Builtin.Range.rangeSize a (a + n) 1 = n := by
  unfold Builtin.Range.rangeSize
  simp only [show ¬ ((1 : Int) < 0) by omega, if_false, show (1 : Int) > 0 by omega, if_true]
  by_cases hz : a < a + n
  · rw [if_pos hz, Int.ediv_one]; omega
  · rw [if_neg hz]; omega
theorem rng_small {a : Int} {n : Nat} (ha : 0 ≤ a) (ha' : a ≤ 1000) (hn : n ≤ 1000) : Builtin.Range.small a (a + n) 1 = true := by
  have fits : ∀ z : Int, -5000 ≤ z → z ≤ 5000 → Builtin.Range.rangeFitsLong z = true := fun z h1 h2 => by
    unfold Builtin.Range.rangeFitsLong
    simp only [Bool.and_eq_true, decide_eq_true_eq]
    omega
  unfold Builtin.Range.small
  rw [rng_size, fits a (by omega) (by omega), fits (a + n) (by omega) (by omega), fits 1 (by omega) (by omega), fits n (by omega) (by omega), if_pos (by omega), fits _ (by omega) (by omega)]
  simp
theorem bc_listRange {a : Int} {n : Nat} {Q : V → Mem → Prop} (hh : A.handled = none) (ha : 0 ≤ a) (ha' : a ≤ 1000) (hn : n ≤ 1000) (q : Q (.lst (rngV a n)) μ) : BC prog w B A (.type "list") [.rng a (a + n)] μ Q := fun ξ s vs g r => by
  obtain ⟨v, rfl, r1⟩ := reps1 r
  rw [Rep] at r1
  obtain ⟨r, t, u, k, rfl, hf, ho⟩ := r1
  refine call_list_range hh ho (rng_small ha ha' hn) rng_size (by omega) fun h' tk acc c' hk hS hacc => Post.here (tk := tk) g hk ?_ q
  rw [Rep]
  refine ⟨_, acc, c', rfl, g.free (fresh_get _ (Nat.le_refl _)), hS, ?_⟩
  have hI : IntsAre acc.toList ((List.range n).map fun (i : Nat) => a + (i : Int)) := items_ints (P := fun i v => ∃ t, v = .int (a + i * 1) t) (by simpa using hacc) fun j v hj hv => by
    obtain ⟨t, hv⟩ := hv
    have hj' : j < n := by simpa using hj
    exact ⟨a + j, t, by simp [hj'], by rw [hv, Int.mul_one]⟩
  have := are_ints (μ := μ) (ξ := ξ) (h := h') hI
  simpa [rngV, il, List.map_map, Function.comp_def] using this

theorem reps_take {ξ h} : ∀ {l : List V} {vs : List Value} (n : Nat), Reps μ ξ h l vs → Reps μ ξ h (l.take n) (vs.take n)
  | _, _, 0, r => by simpa using Reps.nil
  | [], vs, n + 1, r => by rw [Reps] at r; subst r; simpa using Reps.nil
  | x :: l, vs, n + 1, r => by rw [Reps] at r; obtain ⟨v, t, rfl, h1, h2⟩ := r; simpa using Reps.cons h1 (reps_take n h2)
theorem reps_drop {ξ h} : ∀ {l : List V} {vs : List Value} (n : Nat), Reps μ ξ h l vs → Reps μ ξ h (l.drop n) (vs.drop n)
  | _, _, 0, r => by simpa using r
  | [], vs, n + 1, r => by rw [Reps] at r; subst r; simpa using Reps.nil
  | x :: l, vs, n + 1, r => by rw [Reps] at r; obtain ⟨v, t, rfl, h1, h2⟩ := r; simpa using reps_drop n h2

theorem slice_core {l l' : List V} {ξ : Xs} {s : Shared} {v x y : Value} {lo hi : Option Int} {ξ₀ : Xs} {s₀ : Shared} {μ₀ : Mem} {tk : Nat} {Q : V → Mem → Prop} (g : Good prog w B μ ξ s.heap) (hx : ∃ a xs, v = .ref a ∧ s.heap.IsList a xs ∧ Reps μ ξ s.heap l xs.toList) (hl : l.length ≤ 1000)
    (hp : IsPart x lo) (hq : IsPart y hi) (hpick : ∀ xs : Array Value, Reps μ ξ s.heap l xs.toList → Reps μ ξ s.heap l' (slicePick xs lo hi none).toList) (e : Evo μ₀ ξ₀ s₀ μ ξ s) (k : Kept ξ₀ ξ) (q : Q (.lst l') μ) :
    ∃ a items lo hi, v = .ref a ∧ s.heap.IsList a items ∧ items.size ≤ sizeLine ∧ IsPart x lo ∧ IsPart y hi ∧
      Post prog w B μ₀ ξ₀ s₀ Q (.ref (s.heap.objs.size + 1)) { s with heap := (s.heap.push { cls := .type "slice", data := .fields #[x, y, .none] }).push { cls := .type "list", data := .seq (slicePick items lo hi none) }, toks := tk } := by
  obtain ⟨a, xs, rfl, hIs, hr⟩ := hx
  have hsz : xs.size = l.length := by have := hr.length; simpa using this
  have hk : ∀ b o, s.heap.get? b = some o → ((s.heap.push { cls := .type "slice", data := .fields #[x, y, .none] }).push { cls := .type "list", data := .seq (slicePick xs lo hi none) }).get? b = some o := fun b o h => push_keep _ _ (push_keep _ _ h)
  refine ⟨a, xs, lo, hi, rfl, hIs, by rw [hsz, sizeLine_eq]; omega, hp, hq, (Post.here (tk := tk) g hk ?_ q).after e k⟩
  rw [Rep]
  have hs : (s.heap.push { cls := .type "slice", data := .fields #[x, y, .none] }).objs.size = s.heap.objs.size + 1 := size_push' ..
  refine ⟨_, slicePick xs lo hi none, 0, rfl, g.free (fresh_get _ (Nat.le_succ _)), by rw [← hs]; exact Heap.get?_push_size _ rfl, (hpick xs hr).stay fun b o h m n => ⟨hk b o h, m, n⟩⟩
theorem seq_of {ξ h x v l} (hx : x = V.lst l ∨ x = V.frz l) (r : Rep μ ξ h x v) : ∃ a xs, v = .ref a ∧ h.IsList a xs ∧ Reps μ ξ h l xs.toList := by
  rcases hx with rfl | rfl
  · rw [Rep] at r; obtain ⟨a, xs, n, rfl, _, ho, hr⟩ := r; exact ⟨a, xs, rfl, ⟨_, ho, rfl, n, rfl⟩, hr⟩
  · rw [Rep] at r; obtain ⟨a, o, xs, n, rfl, _, ho, hc, hd, hr⟩ := r; exact ⟨a, xs, rfl, ⟨_, ho, hc, n, hd⟩, hr⟩
theorem HE.upto {value : Expr} {i : Int} (k : Nat) {kk pk p pos Q}
    (h : HE prog w B A env value ρ μ fun x μ₁ => ∃ l, (x = .lst l ∨ x = .frz l) ∧ l.length ≤ 1000 ∧ Q (.lst (l.take k)) μ₁) (hk : i = k := by rfl)
    (ht : ∀ o r, letTemporaryGo value o r = pure () := by intro _ _; rfl) : HE prog w B A env (.Subscript value (.Slice none (some (.Constant (.int i) kk pk)) none p) pos) ρ μ Q := fun ξ s g f => by
  subst hk
  refine wpAny_Subscript_list_slice (wpAny_mono (h ξ s g f) (fun v s₁ ⟨x, μ₁, ξ₁, r, g₁, e₁, k₁, l, hx, hl, q⟩ => ?_) fun _ _ x => x) ht
  refine wpAny_evalPart_none (wpAny_evalPart_some (wpAny_Constant_int ?_))
  exact slice_core (s := s₁) (tk := s₁.toks + 1) g₁ (seq_of hx r) hl .none (.int _ _) (fun xs hr => by rw [slicePick_upto']; simpa using reps_take k hr) e₁ k₁ q
theorem HE.from {value : Expr} {i : Int} (k : Nat) {kk pk p pos Q}
    (h : HE prog w B A env value ρ μ fun x μ₁ => ∃ l, (x = .lst l ∨ x = .frz l) ∧ l.length ≤ 1000 ∧ Q (.lst (l.drop k)) μ₁) (hk : i = k := by rfl)
    (ht : ∀ o r, letTemporaryGo value o r = pure () := by intro _ _; rfl) : HE prog w B A env (.Subscript value (.Slice (some (.Constant (.int i) kk pk)) none none p) pos) ρ μ Q := fun ξ s g f => by
  subst hk
  refine wpAny_Subscript_list_slice (wpAny_mono (h ξ s g f) (fun v s₁ ⟨x, μ₁, ξ₁, r, g₁, e₁, k₁, l, hx, hl, q⟩ => ?_) fun _ _ x => x) ht
  refine wpAny_evalPart_some (wpAny_Constant_int (wpAny_evalPart_none ?_))
  exact slice_core (s := s₁) (tk := s₁.toks + 1) g₁ (seq_of hx r) hl (.int _ _) .none (fun xs hr => by rw [slicePick_from']; simpa using reps_drop k hr) e₁ k₁ q
theorem op_addL {l m : List V} {Q} (hl : l.length + m.length ≤ 1000) (q : Q (.lst (l ++ m)) μ) : HT2 prog w B A (binaryOp .Add) (.lst l) (.lst m) μ Q := fun ξ s v u g r r' => by
  rw [Rep] at r r'
  obtain ⟨a, xs, n, rfl, _, ho, hr⟩ := r
  obtain ⟨b, ys, k, rfl, _, ho', hr'⟩ := r'
  have h1 : xs.size = l.length := by have := hr.length; simpa using this
  have h2 : ys.size = m.length := by have := hr'.length; simpa using this
  refine PySem.P.add_list ho ho' (Post.here (tk := s.toks) g push_keep ?_ q) (by rw [sizeLine_eq]; omega)
  rw [Rep]
  refine ⟨_, xs ++ ys, 0, rfl, g.free (fresh_get _ (Nat.le_refl _)), Heap.get?_push_size _ rfl, ?_⟩
  have st : Stay μ ξ s.heap μ ξ (s.heap.push (seqO "list" (xs ++ ys) 0)) := fun a o e m n => ⟨push_keep _ _ e, m, n⟩
  rw [Array.toList_append]
  exact (hr.stay st).append (hr'.stay st)
theorem op_mulL {x : V} {k : Nat} {Q} (hk : k ≤ 1000) (q : Q (.lst (List.replicate k x)) μ) : HT2 prog w B A (binaryOp .Mult) (.lst [x]) (.int k) μ Q := fun ξ s v u g r r' => by
  rw [Rep] at r
  obtain ⟨a, xs, n, rfl, _, ho, hr⟩ := r
  obtain ⟨t, rfl⟩ := rep_int r'
  obtain ⟨y, hy, rr⟩ := reps1 hr
  have hxs : xs = #[y] := by rw [← Array.toArray_toList (xs := xs), hy]
  subst hxs
  generalize hki : (k : Int) = ki
  have hk1 : ki.toNat = k := by omega
  refine wpAny_binaryOp_repeat_ref (T := "list") (U := "int") (by decide) ⟨_, ho, rfl⟩ (fun s' => typeIs_int s' ki t) noFill_list_mul F.fills_int_mul F.slot_int_rmul repeat_list F.slot_int_index.lookup
    (call_meets F.slot_int_rmul (typeIs_int s ki t) F.entry_int_rmul (F.args_int_rmul_2 _ _) (int___rmul___int_list ki t a #[y] n)
      ⟨ho, rfl, ⟨_, ho, rfl⟩, call_meets F.slot_list_mul ⟨_, ho, rfl⟩ F.entry_list_mul (F.args_list_mul_2 _ _)
        (AutoListH.list___mul___list_int_3 a #[y] n ki t (by simp [Builtin.List.listFitsIndex]; omega) (by simp; omega) (by simp [Builtin.List.listTooLong, sizeLine]; omega))
        ⟨ho, ?_⟩⟩)
  refine Post.here (tk := s.toks) g push_keep ?_ q
  rw [Rep]
  refine ⟨_, _, 0, rfl, g.free (fresh_get _ (Nat.le_refl _)), Heap.get?_push_size _ rfl, ?_⟩
  rw [hk1]
  have e : (List.foldl (fun x1 x2 => x1 ++ x2) #[] (List.replicate (if (#[y] : Array Value).isEmpty = true then 0 else k) #[y])).toList = List.replicate k y := by
    have key : ∀ (n : Nat) (acc : Array Value), (List.foldl (fun x1 x2 => x1 ++ x2) acc (List.replicate n #[y])).toList = acc.toList ++ List.replicate n y := by
      intro n
      induction n with
      | zero => intro acc; simp
      | succ n ih => intro acc; rw [List.replicate_succ, List.foldl_cons, ih]; simp [List.replicate_succ]
    have := key k #[]
    simpa using this
  rw [e]
  have key : ∀ (n : Nat) (h : Heap), Rep μ ξ h x y → Reps μ ξ h (List.replicate n x) (List.replicate n y) := by
    intro n h hx
    induction n with
    | zero => exact .nil
    | succ n ih => rw [List.replicate_succ, List.replicate_succ]; exact .cons hx ih
  exact key k _ (rr.stay fun a o e m n => ⟨push_keep _ _ e, m, n⟩)
end
end Tab
end
noncomputable section
open PySem PySem.W PyProof.Rows PySem.Calls
set_option maxRecDepth 100000
namespace Tab
abbrev LayOk (led : Bool) (ks : List Int) (k : Int) : Prop :=
  (tab led ks).freeSlot k = some (k.toNat, false) ∧ (tab led ks).put k.toNat = (tab led (ks ++ [k]), ks.length) ∧ (tab led (ks ++ [k])).tooFull = false ∧ (tab led (ks ++ [k])).fits (ks ++ [k]).length = true
theorem lay1 : ∀ led : Bool, ∀ k ∈ ([1, 2, 3, 4, 5] : List Int), LayOk led [] k := by decide +kernel
theorem lay2 : ∀ led : Bool, ∀ a ∈ ([1, 2, 3, 4, 5] : List Int), ∀ k ∈ ([1, 2, 3, 4, 5] : List Int), a < k → LayOk led [a] k := by decide +kernel
theorem lay3 : ∀ led : Bool, ∀ a ∈ ([1, 2, 3, 4, 5] : List Int), ∀ b ∈ ([1, 2, 3, 4, 5] : List Int), ∀ k ∈ ([1, 2, 3, 4, 5] : List Int), a < b → b < k → LayOk led [a, b] k := by decide +kernel
def Asc (ks : List Int) : Prop := ks.Pairwise (· < ·) ∧ (∀ k ∈ ks, 1 ≤ k ∧ k ≤ 5) ∧ ks.length ≤ 3
theorem in15 {k : Int} (h : 1 ≤ k ∧ k ≤ 5) : k ∈ ([1, 2, 3, 4, 5] : List Int) := by
  simp only [List.mem_cons, List.not_mem_nil, or_false]; omega
theorem lay_ok (led : Bool) {ks : List Int} {k : Int} (h : Asc (ks ++ [k])) : LayOk led ks k := by
  obtain ⟨h1, h2, h3⟩ := h
  match ks, h1, h2, h3 with
  | [], _, h2, _ => exact lay1 led k (in15 (h2 k (by simp)))
  | [a], h1, h2, _ => exact lay2 led a (in15 (h2 a (by simp))) k (in15 (h2 k (by simp))) (by simp at h1; exact h1)
  | [a, b], h1, h2, _ =>
    simp at h1
    exact lay3 led a (in15 (h2 a (by simp))) b (in15 (h2 b (by simp))) k (in15 (h2 k (by simp))) (by omega) (by omega)
  | _ :: _ :: _ :: _, _, _, h3 => simp at h3
theorem Asc.left {ks l : List Int} (h : Asc (ks ++ l)) : Asc ks := ⟨(List.pairwise_append.mp h.1).1, fun k hk => h.2.1 k (List.mem_append_left _ hk), by have := h.2.2; rw [List.length_append] at this; omega⟩
section
variable {prog : Program} {w : World}
def Ents (prog : Program) (w : World) : List (Int × Value) → List Int → Prop
  | [], ks => ks = []
  | e :: r, ks => ∃ k l t, ks = k :: l ∧ e = ((intKind prog w).hash k, .int k t) ∧ Ents prog w r l
theorem Ents.len : ∀ {es ks}, Ents prog w es ks → es.length = ks.length
  | [], _, h => by rw [Ents] at h; rw [h]; rfl
  | e :: r, _, h => by
    obtain ⟨k, l, t, rfl, _, h⟩ := h
    simp [Ents.len h]
theorem Ents.elems : ∀ {es ks}, Ents prog w es ks → ElemsOf (intKind prog w) es
  | [], _, _ => fun e he => by cases he
  | e :: r, _, h => by
    obtain ⟨k, l, t, rfl, rfl, h⟩ := h
    intro e he
    rcases List.mem_cons.mp he with rfl | he
    · exact ⟨⟨k, intKind_is .., rfl⟩, rfl⟩
    · exact Ents.elems h e he
theorem Ents.none : ∀ {es ks} {k : Int}, Ents prog w es ks → k ∉ ks → es.findIdx? (fun e => (intKind prog w).is k e.2) = none
  | [], _, k, _, _ => rfl
  | e :: r, _, k, h, hk => by
    obtain ⟨k', l, t, rfl, rfl, h⟩ := h
    have hn : k ≠ k' := fun e => hk (by simp [e])
    have hl : k ∉ l := fun e => hk (by simp [e])
    rw [List.findIdx?_cons]
    have : (intKind prog w).is k (.int k' t) = false := by simp [intKind, Value.isInt, Ne.symm hn]
    rw [this, if_neg (by simp), Ents.none h hl]
    rfl
theorem Ents.snoc : ∀ {es ks} {k : Int} {t}, Ents prog w es ks → Ents prog w (es ++ [((intKind prog w).hash k, .int k t)]) (ks ++ [k])
  | [], _, k, t, h => by rw [Ents] at h; subst h; exact ⟨k, [], t, rfl, rfl, rfl⟩
  | e :: r, _, k, t, h => by
    obtain ⟨k', l, t', rfl, rfl, h⟩ := h
    exact ⟨k', l ++ [k], t', rfl, rfl, Ents.snoc h⟩
theorem Ents.ints : ∀ {es ks}, Ents prog w es ks → IntsAre (es.map (·.2)) ks
  | [], _, h => by rw [Ents] at h; subst h; exact .nil
  | e :: r, _, h => by
    obtain ⟨k', l, t', rfl, rfl, h⟩ := h
    exact .cons _ _ (Ents.ints h)
theorem hash_small : ∀ k ∈ ([1, 2, 3, 4, 5] : List Int), (intKind prog w).hash k = k := by
  intro k hk
  simp only [List.mem_cons, List.not_mem_nil, or_false] at hk
  rcases hk with rfl | rfl | rfl | rfl | rfl <;> rfl
theorem tab_fits (led : Bool) {ks : List Int} (h : ks.length ≤ 3) {n : Nat} (hn : n = ks.length) : (tab led ks).fits n = true := by
  subst hn
  unfold SetTable.fits tab SetTable.fill
  simp
  omega
variable {A : Around} {E : Value → Shared → Prop} {s : Shared}
theorem set_add {S : Addr} {es : Array (Int × Value)} {ep : Nat} {led : Bool} {ks : List Int} {k : Int} {tk : Tok} {Q : Bool → Shared → Prop} (ho : s.heap.get? S = some (setO es ep (tab led ks))) (he : Ents prog w es.toList ks) (ha : Asc (ks ++ [k]))
    (h : ∀ h' es' ep', Heap.SameBut S s.heap h' → h'.get? S = some (setO es' ep' (tab led (ks ++ [k]))) → Ents prog w es'.toList (ks ++ [k]) → Q true { s with heap := h' }) :
    wpAny (model prog w) A (setAddHashed S (.int k tk) ((intKind prog w).hash k)) Q E s := by
  have hsz : es.size = ks.length := by have := he.len; simpa using this
  have h3 : ks.length ≤ 3 := ha.left.2.2
  have hf : (tab led ks).fits es.size = true := tab_fits led h3 hsz
  have hkn : k ∉ ks := fun hm => by
    have := (List.pairwise_append.mp ha.1).2.2 k hm k (by simp)
    omega
  have hh : (intKind prog w).hash k = k := hash_small k (in15 (ha.2.1 k (by simp)))
  obtain ⟨L1, L2, L3, L4⟩ := lay_ok led ha
  have lay : layNew (tab led ks) es ((intKind prog w).hash k) (.int k tk) = (es.push ((intKind prog w).hash k, .int k tk), tab led (ks ++ [k]), false, false) := by
    unfold layNew
    rw [hh, L1]
    dsimp only
    rw [L2]
    dsimp only
    have e : SetTable.insertAt es ks.length (k, Value.int k tk) = es.push (k, .int k tk) := by
      unfold SetTable.insertAt
      rw [← hsz]
      simp
    rw [e]
    have hs2 : (es.push (k, Value.int k tk)).size = (ks ++ [k]).length := by simp [hsz]
    unfold SetTable.orStandIn
    rw [hs2, L4]
    rfl
  unfold setAddHashed setAddHashedIn
  refine wpAny_holding (wpAny_bind (wpAny_setState_of ho rfl hf ?_))
  dsimp only
  rw [byScan_of (knd := intKind prog w) rfl (by rw [hsz]; unfold scanBound; omega) he.elems]
  simp only [↓reduceIte]
  unfold setAddByScan
  refine wpAny_bind ?_
  refine wpAny_bind (wpAny_rule ?_)
  refine wpAny_bind (wpAny_setScan_of (knd := intKind prog w) (intKind_is ..) ho rfl hf he.elems ?_)
  rw [he.none hkn]
  dsimp only
  rw [lay]
  dsimp only
  refine wpAny_bind (wpAny_pure ?_)
  rw [if_pos (show (tab led (ks ++ [k])).plain = true from rfl)]
  refine wpAny_bind ?_
  rw [hashByValue_scannable 8 rfl]
  refine wpAny_pure ?_
  rw [if_pos (show plainKind (Value.int k tk) = true from rfl)]
  refine wpAny_bind (wpAny_storeSet_of ho rfl ?_ (by rw [sizeLine_eq]; simp [hsz]; omega))
  rw [L3, if_neg (by simp)]
  refine wpAny_pure (wpAny_pure ?_)
  have hg : (s.heap.update S (Obj.putSet (es.push ((intKind prog w).hash k, .int k tk)) (tab led (ks ++ [k])))).get? S = some (setO (es.push ((intKind prog w).hash k, .int k tk)) (ep + 1) (tab led (ks ++ [k]))) := by
    have := Heap.get?_update_self (Obj.putSet (es.push ((intKind prog w).hash k, .int k tk)) (tab led (ks ++ [k]))) ho (by rw [putSet_of _ _ rfl]; rfl)
    rw [putSet_of _ _ rfl] at this
    exact this
  exact h _ _ _ (Heap.SameBut.update ..) hg (by rw [Array.toList_push]; exact he.snoc)
end
end Tab
end
noncomputable section
open PySem PySem.W PyProof.Rows PySem.Calls
set_option maxRecDepth 100000
namespace Tab
theorem perm_erase {α : Type} : ∀ (l : List α) (i : Nat) (x : α), l[i]? = some x → l.Perm (x :: l.eraseIdx i)
  | [], _, _, h => by simp at h
  | y :: r, 0, x, h => by simp at h; subst h; exact .refl _
  | y :: r, i + 1, x, h => by
    have ih := perm_erase r i x (by simpa using h)
    rw [List.eraseIdx_cons_succ]
    exact (ih.cons y).trans (.swap x y _)
theorem pick_perm {α : Type} (f : Nat → Nat) : ∀ (n k : Nat) (left : List α) (out : Array α), left.length = n → (pickOrder.go f n k left out).toList.Perm (out.toList ++ left)
  | 0, k, left, out, h => by
    have : left = [] := List.length_eq_zero_iff.mp h
    subst this
    unfold pickOrder.go
    simp
  | n + 1, k, left, out, h => by
    have hlt : f k % left.length < left.length := Nat.mod_lt _ (by omega)
    have hx : left[f k % left.length]? = some left[f k % left.length] := List.getElem?_eq_getElem hlt
    unfold pickOrder.go
    rw [hx]
    dsimp only
    refine (pick_perm f n (k + 1) (left.eraseIdx (f k % left.length)) (out.push left[f k % left.length]) (by rw [List.length_eraseIdx]; simp [hlt]; omega)).trans ?_
    rw [Array.toList_push, List.append_assoc]
    exact (List.Perm.refl _).append (perm_erase left _ _ hx).symm
theorem pick_is {α : Type} (f : Nat → Nat) (xs : Array α) : (pickOrder f xs).toList.Perm xs.toList := by
  unfold pickOrder
  have := pick_perm f xs.size 0 xs.toList #[] (by simp)
  simpa using this

theorem sl_next : Slot "set_iterator" "__next__" "set_iterator.__next__" :=
  .of (owner := "set_iterator") (n := "__next__") (by rw [typeLookup_type, builtinLookup_eq_fast]; kernel_rfl) (by decide +kernel) (by decide +kernel) (by decide +kernel)
    (by first | exact .inl (by decide +kernel) | exact .inr (by decide +kernel)) (by rw [isSubtype_type]; kernel_rfl)
theorem en_next : entryFor table "set_iterator.__next__" = some Builtin.«set_iterator.__next__» := entryFor_of_tree (by kernel_rfl)
theorem ow_setit : Manifest.owners.lookup (String.ofList ['r', 'o', 't', 'a', 'r', 'e', 't', 'i', '_', 't', 'e', 's'].reverse) = some Manifest.sig_set_iterator := by kernel_rfl
theorem ar_next (a : Value) : argsOk "set_iterator.__next__" ⟨[a], []⟩ := by
  unfold argsOk; rw [signature?_of (id := "set_iterator.__next__") (n := ['_', '_', 't', 'x', 'e', 'n', '_', '_']) (o := ['r', 'o', 't', 'a', 'r', 'e', 't', 'i', '_', 't', 'e', 's']) (by kernel_rfl) ow_setit]; kernel_rfl
theorem sl_iter : Slot "set_iterator" "__iter__" "set_iterator.__iter__" :=
  .of (owner := "set_iterator") (n := "__iter__") (by rw [typeLookup_type, builtinLookup_eq_fast]; kernel_rfl) (by decide +kernel) (by decide +kernel) (by decide +kernel)
    (by first | exact .inl (by decide +kernel) | exact .inr (by decide +kernel)) (by rw [isSubtype_type]; kernel_rfl)
theorem en_iter : entryFor table "set_iterator.__iter__" = some Builtin.«dict_keyiterator.__iter__» :=
  entryFor_alias (id' := "dict_keyiterator.__iter__") (by kernel_rfl) rfl (by decide +kernel) (by kernel_rfl)
theorem ar_iter (a : Value) : argsOk "set_iterator.__iter__" ⟨[a], []⟩ := by
  unfold argsOk; rw [signature?_of (id := "set_iterator.__iter__") (n := ['_', '_', 'r', 'e', 't', 'i', '_', '_']) (o := ['r', 'o', 't', 'a', 'r', 'e', 't', 'i', '_', 't', 'e', 's']) (by kernel_rfl) ow_setit]; kernel_rfl
theorem en_set_iter : entryFor table "set.__iter__" = some Builtin.«frozenset.__iter__» :=
  entryFor_alias (id' := "frozenset.__iter__") (by kernel_rfl) rfl (by decide +kernel) (by kernel_rfl)

section
variable {prog : Program} {w : World} {A : Around} {E : Value → Shared → Prop} {s : Shared}
abbrev byT (w : World) : Bool := w.params.followText "set-order"
theorem wp_byText {Q : Bool → Shared → Prop} (h : Q (byT w) s) : wpAny (model prog w) A setsByText Q E s := by
  unfold setsByText
  exact wpAny_bind (wpAny_askSetting (wpAny_pure h))
def ordOf (w : World) (d : Addr) (ep : Nat) (es : Array (Int × Value)) : Array (Int × Value) := if byT w then pickOrder (w.params.setOrder d ep) es else es
theorem ord_perm {d ep} {es : Array (Int × Value)} : (ordOf w d ep es).toList.Perm es.toList := by
  unfold ordOf; split
  · exact pick_is _ _
  · exact .refl _
theorem ord_size {d ep} {es : Array (Int × Value)} : (ordOf w d ep es).size = es.size := by
  have := (ord_perm (w := w) (d := d) (ep := ep) (es := es)).length_eq
  simpa using this
theorem drawn_tab {es : Array (Int × Value)} {led ks} {Q : Bool → Shared → Prop} {d : Addr} {ep : Nat} (ho : s.heap.get? d = some (setO es ep (tab led ks))) (hf : (tab led ks).fits es.size = true) (h : Q false s) : wpAny (model prog w) A (setDrawn d) Q E s := by
  unfold setDrawn
  refine wpAny_bind (wpAny_setState_of ho rfl hf ?_)
  refine wpAny_bind (wp_byText ?_)
  refine wpAny_pure ?_
  have : (!(byT w) && (!(tab led ks).plain && decide (es.size > 1))) = false := by
    rw [show (tab led ks).plain = true from rfl]; simp
  exact this ▸ h
def slotAt (w : World) (ks : List Int) (i : Nat) : Nat := if byT w then 0 else match i with
  | 0 => 0
  | j + 1 => (ks.getD j 0).toNat + 1
abbrev BelowOk (ks : List Int) : Prop := ∀ i ∈ List.range (ks.length + 1), SetTable.below ((ks.map Int.toNat).toArray) (match i with | 0 => 0 | j + 1 => (ks.getD j 0).toNat + 1) = i
theorem bel0 : BelowOk [] := by decide +kernel
theorem bel1 : ∀ a ∈ ([1, 2, 3, 4, 5] : List Int), BelowOk [a] := by decide +kernel
theorem bel2 : ∀ a ∈ ([1, 2, 3, 4, 5] : List Int), ∀ b ∈ ([1, 2, 3, 4, 5] : List Int), a < b → BelowOk [a, b] := by decide +kernel
theorem bel3 : ∀ a ∈ ([1, 2, 3, 4, 5] : List Int), ∀ b ∈ ([1, 2, 3, 4, 5] : List Int), ∀ c ∈ ([1, 2, 3, 4, 5] : List Int), a < b → b < c → BelowOk [a, b, c] := by decide +kernel
theorem bel_ok {ks : List Int} (h : Asc ks) : BelowOk ks := by
  obtain ⟨h1, h2, h3⟩ := h
  match ks, h1, h2, h3 with
  | [], _, h2, _ => exact bel0
  | [a], h1, h2, _ => exact bel1 a (in15 (h2 a (by simp)))
  | [a, b], h1, h2, _ =>
    simp at h1
    exact bel2 a (in15 (h2 a (by simp))) b (in15 (h2 b (by simp))) h1
  | [a, b, c], h1, h2, _ =>
    simp at h1
    exact bel3 a (in15 (h2 a (by simp))) b (in15 (h2 b (by simp))) c (in15 (h2 c (by simp))) (by omega) (by omega)
  | _ :: _ :: _ :: _ :: _, _, _, h3 => simp at h3
theorem next_some {d : Addr} {ep : Nat} {es : Array (Int × Value)} {ks : List Int} {i : Nat} {e : Int × Value} {Q : Option (Value × Nat) → Shared → Prop} (ho : s.heap.get? d = some (setO es ep (tab (!(byT w)) ks))) (ha : Asc ks) (hl : es.size = ks.length)
    (he : (ordOf w d ep es)[i]? = some e) (h : Q (some (e.2, slotAt w ks (i + 1))) s) : wpAny (model prog w) A (setNext d (slotAt w ks i) i ep) Q E s := by
  have hf := tab_fits (!(byT w)) ha.2.2 hl
  have hi : i < es.size := by
    have := (Array.getElem?_eq_some_iff.mp he).1
    rwa [ord_size] at this
  unfold setNext
  refine wpAny_bind (wpAny_setState_of ho rfl hf ?_)
  refine wpAny_bind (wp_byText ?_)
  cases hb : byT w with
  | true =>
    dsimp only
    rw [if_pos rfl]
    rw [if_neg (by simp)]
    unfold setWalk
    refine wpAny_bind (wpAny_bind (wpAny_setState_of ho rfl hf ?_))
    refine wpAny_bind (wp_byText ?_)
    rw [hb, if_pos rfl]
    refine wpAny_bind (wpAny_askSetting (wpAny_pure (wpAny_pure ?_)))
    unfold ordOf at he
    rw [hb, if_pos rfl] at he
    have : slotAt w ks (i + 1) = slotAt w ks i := by unfold slotAt; rw [hb]; rfl
    rw [this] at h
    dsimp only [model] at he ⊢
    rw [he]
    exact h
  | false =>
    dsimp only
    rw [if_neg (by simp)]
    split
    · rename_i hd
      have hd' : (!true && decide (es.size > 1)) = true := hd
      simp at hd'
    refine wpAny_bind ?_
    show wpAny _ _ (if (!true && !es.isEmpty) = true then _ else pure ()) _ _ _
    rw [if_neg (by simp)]
    refine wpAny_pure (wpAny_pure ?_)
    unfold ordOf at he
    rw [hb, if_neg (by simp)] at he
    have hbel : SetTable.below (tab (!false) ks).place (slotAt w ks i) = i := by
      unfold slotAt
      rw [hb, if_neg (by simp)]
      exact bel_ok ha i (List.mem_range.mpr (by omega))
    rw [hbel, he]
    have hp : (tab (!false) ks).place[i]? = some (ks.getD i 0).toNat := by
      have : i < ks.length := by omega
      show ((ks.map Int.toNat).toArray)[i]? = _
      simp [this]
    rw [hp]
    have : slotAt w ks (i + 1) = (ks.getD i 0).toNat + 1 := by unfold slotAt; rw [hb]; rfl
    rw [this] at h
    exact h
theorem next_none {d : Addr} {ep : Nat} {es : Array (Int × Value)} {ks : List Int} {Q : Option (Value × Nat) → Shared → Prop} (ho : s.heap.get? d = some (setO es ep (tab (!(byT w)) ks))) (ha : Asc ks) (hl : es.size = ks.length)
    (h : Q none s) : wpAny (model prog w) A (setNext d (slotAt w ks es.size) es.size ep) Q E s := by
  have hf := tab_fits (!(byT w)) ha.2.2 hl
  unfold setNext
  refine wpAny_bind (wpAny_setState_of ho rfl hf ?_)
  refine wpAny_bind (wp_byText ?_)
  cases hb : byT w with
  | true =>
    dsimp only
    rw [if_pos rfl]
    rw [if_neg (by simp)]
    unfold setWalk
    refine wpAny_bind (wpAny_bind (wpAny_setState_of ho rfl hf ?_))
    refine wpAny_bind (wp_byText ?_)
    rw [hb, if_pos rfl]
    refine wpAny_bind (wpAny_askSetting (wpAny_pure (wpAny_pure ?_)))
    have he : (pickOrder (w.params.setOrder d ep) es)[es.size]? = none := by
      have := (pick_is (w.params.setOrder d ep) es).length_eq
      exact Array.getElem?_eq_none (by simp at this; omega)
    dsimp only [model] at he ⊢
    rw [he]
    exact h
  | false =>
    dsimp only
    rw [if_neg (by simp)]
    split
    · rename_i hd
      have hd' : (!true && decide (es.size > 1)) = true := hd
      simp at hd'
    refine wpAny_bind ?_
    show wpAny _ _ (if (!true && !es.isEmpty) = true then _ else pure ()) _ _ _
    rw [if_neg (by simp)]
    refine wpAny_pure (wpAny_pure ?_)
    have hbel : SetTable.below (tab (!false) ks).place (slotAt w ks es.size) = es.size := by
      unfold slotAt
      rw [hb, if_neg (by simp)]
      exact bel_ok ha es.size (List.mem_range.mpr (by omega))
    rw [hbel, Array.getElem?_eq_none (Nat.le_refl _)]
    exact h
end
end Tab
end
noncomputable section
open PySem PySem.W PyProof.Rows PySem.Calls
set_option maxRecDepth 100000
namespace Tab
section
variable {prog : Program} {w : World} {A : Around} {E : Value → Shared → Prop} {s : Shared}
abbrev itF (w : World) (ks : List Int) (d : Addr) (ep n i : Nat) : Array Value := #[rawInt (slotAt w ks i), rawInt i, .ref d, rawInt n, rawInt ep]
abbrev itO (w : World) (ks : List Int) (d : Addr) (ep n i : Nat) : Obj := { cls := .type "set_iterator", dict := none, data := .fields (itF w ks d ep n i), slots := #[] }
structure StS (w : World) (ks : List Int) (I d : Addr) (es : Array (Int × Value)) (ep i : Nat) (h : Heap) : Prop where
  it : ∃ o, h.get? I = some o ∧ o.cls = .type "set_iterator" ∧ o.data = .fields (itF w ks d ep es.size i)
  st : h.get? d = some (setO es ep (tab (!(byT w)) ks))
theorem StS.ty {ks I d es ep i} (h : StS w ks I d es ep i s.heap) : s.TypeIs (.ref I) "set_iterator" := let ⟨o, ho, hc, _⟩ := h.it; ⟨o, ho, hc⟩
theorem set_next {ks : List Int} {I d : Addr} {es : Array (Int × Value)} {ep i : Nat} {e : Int × Value} {Q : Option Value → Shared → Prop} (hst : StS w ks I d es ep i s.heap) (hne : d ≠ I) (ha : Asc ks) (hl : es.size = ks.length) (he : (ordOf w d ep es)[i]? = some e)
    (h : ∀ h', StS w ks I d es ep (i + 1) h' → Heap.ExtBut I s.heap h' → Q (some e.2) { s with heap := h' }) : wpAny (model prog w) A (pyNext (.ref I)) Q E s := by
  obtain ⟨o, ho, hc, hd⟩ := hst.it
  have hf := tab_fits (!(byT w)) ha.2.2 hl
  unfold pyNext
  refine wpAny_bind (wpAny_attempt (wpAny_callSpecial?_slot (name := Str.ofString "__next__") hst.ty sl_next (wpAny_call_entry sl_next hst.ty en_next ?_ (ar_next _))))
  refine wpAny_bind (wpAny_pure ?_)
  refine wpAny_bind (wpAny_fieldsOf ho hd ?_)
  show wpAny _ _ (do if ((← setEntries d).size : Int) != (es.size : Int) then _ else _) _ _ s
  refine wpAny_bind ?_
  unfold setEntries
  refine wpAny_bind (wpAny_setState_of hst.st rfl hf (wpAny_pure ?_))
  rw [if_neg (by simp)]
  show wpAny _ _ (setNext d (slotAt w ks i) i ep >>= _) _ _ s
  refine wpAny_bind (next_some hst.st ha hl he ?_)
  show wpAny _ _ (setField (.ref I) 0 (rawInt (slotAt w ks (i + 1))) >>= fun _ => setField (.ref I) 1 (rawInt ((i : Int) + 1)) >>= fun _ => ret e.2) _ _ s
  refine wpAny_bind (wpAny_setField ho hd (by simp) ?_)
  have h1 := Heap.get?_update_self (Obj.mapFields (·.setIfInBounds 0 (rawInt (slotAt w ks (i + 1))))) ho (Obj.isFreed_of_fields (Obj.data_mapFields hd _))
  have d1 := Obj.data_mapFields hd (·.setIfInBounds 0 (rawInt (slotAt w ks (i + 1))))
  refine wpAny_bind (wpAny_setField h1 d1 (by simp) ?_)
  have h2 := Heap.get?_update_self (Obj.mapFields (·.setIfInBounds 1 (rawInt ((i : Int) + 1)))) h1 (Obj.isFreed_of_fields (Obj.data_mapFields d1 _))
  have d2 := Obj.data_mapFields d1 (·.setIfInBounds 1 (rawInt ((i : Int) + 1)))
  have sb := (Heap.SameBut.update s.heap I (Obj.mapFields (·.setIfInBounds 0 (rawInt (slotAt w ks (i + 1)))))).trans (Heap.SameBut.update _ I (Obj.mapFields (·.setIfInBounds 1 (rawInt ((i : Int) + 1)))))
  refine wpAny_pure ⟨_, rfl, wpAny_pure (h _ ⟨⟨_, h2, by rw [Obj.cls_mapFields, Obj.cls_mapFields]; exact hc, by rw [d2]; simp [itF, rawInt]⟩, ?_⟩ sb.extBut)⟩
  exact sb.extBut d _ hne hst.st
theorem set_end {ks : List Int} {I d : Addr} {es : Array (Int × Value)} {ep : Nat} {Q : Option Value → Shared → Prop} (hh : A.handled = none) (hst : StS w ks I d es ep es.size s.heap) (ha : Asc ks) (hl : es.size = ks.length)
    (h : ∀ h', Heap.ExtBut I s.heap h' → Q none { s with heap := h' }) : wpAny (model prog w) A (pyNext (.ref I)) Q E s := by
  obtain ⟨o, ho, hc, hd⟩ := hst.it
  have hf := tab_fits (!(byT w)) ha.2.2 hl
  unfold pyNext
  refine wpAny_bind (wpAny_attempt (wpAny_callSpecial?_slot (name := Str.ofString "__next__") hst.ty sl_next (wpAny_call_entry sl_next hst.ty en_next ?_ (ar_next _))))
  refine wpAny_bind (wpAny_pure ?_)
  refine wpAny_bind (wpAny_fieldsOf ho hd ?_)
  show wpAny _ _ (do if ((← setEntries d).size : Int) != (es.size : Int) then _ else _) _ _ s
  refine wpAny_bind ?_
  unfold setEntries
  refine wpAny_bind (wpAny_setState_of hst.st rfl hf (wpAny_pure ?_))
  rw [if_neg (by simp)]
  show wpAny _ _ (setNext d (slotAt w ks es.size) es.size ep >>= _) _ _ s
  refine wpAny_bind (next_none hst.st ha hl ?_)
  show wpAny _ _ (setField (.ref I) 2 .none >>= _) _ _ s
  refine wpAny_bind (wpAny_setField ho hd (by simp) ?_)
  show wpAny _ _ (newExc (.type "StopIteration") [] >>= _) _ _ _
  refine wpAny_bind ?_
  simp only [newExc, newTuple]
  refine wpAny_bind (wpAny_newObj_type ?_ (by size_fits))
  refine wpAny_bind (m := firstArgMember _ _) (wpAny_of_eq (a := Value.none) (by first | rfl | (simp only [firstArgMember]; rfl)) ?_)
  refine wpAny_newObj_type ?_ (by size_fits)
  simp only [raiseNew]
  refine wpAny_bind (wpAny_handled ?_)
  rw [show A.in1.handled = none from hh]
  refine wpAny_bind (wpAny_pure (wpAny_throw ?_))
  refine wpAny_bind (wpAny_isInstance (T := "StopIteration") (b := true) ⟨_, Heap.get?_push_size _ rfl, rfl⟩ isSubtype_stop ?_)
  exact wpAny_pure (h _ (((Heap.SameBut.update ..).extBut.push _).push _))
theorem walks_set (hh : A.handled = none) (I d : Addr) (hne : d ≠ I) (ks : List Int) (ha : Asc ks) (es : Array (Int × Value)) (hl : es.size = ks.length) (ep : Nat) :
    Walks prog w A I [I, d] [I] es.size (fun i v => ∃ e, (ordOf w d ep es)[i]? = some e ∧ v = e.2) (StS w ks I d es ep) where
  sub := fun b hb => by simp at hb; simp [hb]
  frame := fun _ _ _ st hk => ⟨let ⟨o, ho, r⟩ := st.it; ⟨o, hk I (by simp) o ho, r⟩, hk d (by simp) _ st.st⟩
  item := fun i s Q E hi st hQ => by
    have hx : (ordOf w d ep es)[i]? = some ((ordOf w d ep es)[i]'(by rw [ord_size]; exact hi)) := Array.getElem?_eq_getElem _
    refine set_next st hne ha hl hx fun h' st' he => ?_
    exact hQ _ h' s.toks ⟨_, hx, rfl⟩ st' fun b o hb e => he b o (fun h => hb (by simp [h])) e
  done := fun s Q E st hQ => set_end hh st ha hl fun h' he' => hQ h' s.toks fun b o hb e => he' b o (fun h => hb (by simp [h])) e
  self := fun i s Q E st hQ => by
    refine wpAny_pyIter_slot st.ty sl_iter (wpAny_call_entry sl_iter st.ty en_iter ?_ (ar_iter _))
    show wpAny _ _ (ret (.ref I)) _ _ s
    exact wpAny_pure ⟨_, rfl, "set_iterator", _, st.ty, sl_next.lookup, hQ⟩
theorem set_iter {ks : List Int} {d : Addr} {es : Array (Int × Value)} {ep : Nat} {Q : Value → Shared → Prop} (ho : s.heap.get? d = some (setO es ep (tab (!(byT w)) ks))) (ha : Asc ks) (hl : es.size = ks.length)
    (h : Q (.ref s.heap.objs.size) { s with heap := s.heap.push (itO w ks d ep es.size 0) }) : wpAny (model prog w) A (pyIter (.ref d)) Q E s := by
  have hT : s.TypeIs (.ref d) "set" := ⟨_, ho, rfl⟩
  have hf := tab_fits (!(byT w)) ha.2.2 hl
  refine wpAny_pyIter_slot hT PySem.F.slot_set_iter (wpAny_call_entry PySem.F.slot_set_iter hT en_set_iter ?_ (PySem.F.args_set_iter_1 _))
  refine wpAny_bind (m := Builtin.Frozenset.slot0 "__iter__" _) (wpAny_pure ?_)
  refine wpAny_bind ?_
  unfold Builtin.Frozenset.sizeOf setEntries
  refine wpAny_bind (wpAny_bind (wpAny_setState_of ho rfl hf (wpAny_pure (wpAny_pure ?_))))
  refine wpAny_bind (drawn_tab ho hf ?_)
  rw [if_neg (by simp)]
  refine wpAny_bind (wpAny_pure ?_)
  refine wpAny_bind (wpAny_setEpoch_of ho rfl hf ?_)
  have e0 : slotAt w ks 0 = 0 := by unfold slotAt; split <;> rfl
  refine wpAny_bind (wpAny_newObj_type (wpAny_pure ⟨_, rfl, "set_iterator", _, ⟨_, Heap.get?_push_size _ rfl, rfl⟩, sl_next.lookup, ?_⟩))
  have : itF w ks d ep es.size 0 = #[rawInt 0, rawInt 0, .ref d, rawInt es.size, rawInt ep] := by unfold itF; rw [e0]; rfl
  rw [itO, this] at h
  exact h
theorem set_hint {r : Addr} {Q : Bool → Shared → Prop} (hT : s.TypeIs (.ref r) "set") (h : Q false s) : wpAny (model prog w) A (Builtin.List.listLengthHint (.ref r)) Q E s := by
  unfold Builtin.List.listLengthHint
  refine wpAny_bind (wpAny_specialOf hT PySem.F.slot_set_len.lookup ?_)
  generalize hid : ("set.__len__" : String) = id0
  wp_delta
  rw [show splitId id0 = some ("set", "__len__") from by subst hid; decide +kernel]
  subst hid
  refine wpAny_bind (wpAny_isInstance (T := "set") (b := true) hT (by rw [isSubtype_type]; kernel_rfl) ?_)
  refine wpAny_ite_split (fun hab => absurd hab (by decide)) (fun _ => ?_)
  refine wpAny_ite_split (fun _ => ?_) (fun hab => absurd (by decide +kernel) hab)
  refine wpAny_bind (wpAny_typeOf hT ?_)
  exact wpAny_pure h
theorem src_set {ks : List Int} {d : Addr} {es : Array (Int × Value)} {ep : Nat} (ha : Asc ks) (hl : es.size = ks.length) :
    KdlSrc prog w "set" d d es.size (fun i v => ∃ e, (ordOf w d ep es)[i]? = some e ∧ v = e.2) (fun h => h.get? d = some (setO es ep (tab (!(byT w)) ks))) where
  type := fun _ hm => ⟨_, hm, rfl⟩
  there := fun _ hm => ⟨Heap.lt_size hm, Heap.lt_size hm⟩
  keep := fun _ _ hm hk => hk d (.inl rfl) _ hm
  notList := by decide
  notTuple := by decide
  hint := fun _ _ _ _ hm hq => set_hint ⟨_, hm, rfl⟩ hq
  iter := fun A s hh hm => ⟨itO w ks d ep es.size 0, StS w ks s.heap.objs.size d es ep, (fun _ _ hq => set_iter hm ha hl hq), walks_set hh _ d (Nat.ne_of_lt (Heap.lt_size hm)) ks ha es hl ep,
    ⟨⟨_, Heap.get?_push_size _ rfl, rfl, rfl⟩, Heap.get?_push_of_some _ hm⟩⟩
end
end Tab
end
noncomputable section
open PySem PySem.W PyProof.Rows PySem.Calls
set_option maxRecDepth 100000
set_option maxHeartbeats 3200000
namespace Tab
theorem perm_ints {vs vs' : List Value} (p : vs'.Perm vs) : ∀ {ks : List Int}, IntsAre vs ks → ∃ ks', IntsAre vs' ks' ∧ ks'.Perm ks := by
  induction p with
  | nil => intro ks h; cases h; exact ⟨[], .nil, .nil⟩
  | cons x _ ih =>
    intro ks h
    cases h with
    | cons n t h =>
      obtain ⟨ks', h1, h2⟩ := ih h
      exact ⟨_, .cons n t h1, h2.cons n⟩
  | swap x y l =>
    intro ks h
    cases h with
    | cons n t h =>
      cases h with
      | cons m u h => exact ⟨_, .cons _ _ (.cons _ _ h), .swap _ _ _⟩
  | trans _ _ h1 h2 =>
    intro ks h
    obtain ⟨ks1, a, b⟩ := h2 h
    obtain ⟨ks2, c, d⟩ := h1 a
    exact ⟨ks2, c, d.trans b⟩
section
variable {prog : Program} {w : World} {A : Around} {E : Value → Shared → Prop} {s : Shared}
theorem set_new (a : Value) {Q₁ : Value → Shared → Prop} (h : Q₁ (.ref s.heap.objs.size) { s with heap := s.heap.push (setO #[] 0 (tab (!(byT w)) [])) }) :
    codeAny (model prog w) A (.call (.builtin "set.__new__") ⟨[.type "set", a], []⟩) (wants Q₁ E) s := by
  refine codeAny_of_tree ?_
  show wpAny _ A.in1 (do checkBuiltinCall "set.__new__" ⟨[.type "set", a], []⟩; again (.builtin "set.__new__" ⟨[.type "set", a], []⟩)) _ _ s
  refine wpAny_bind (wpAny_of_eq (PySem.F.newCall_set_1 a) (wpAny_pure ⟨plainId_quiet PySem.F.plain_set_new _, codeAny_builtin PySem.F.entry_set_new ?_⟩))
  rw [Around.under_plainId PySem.F.plain_set_new _]
  unfold Builtin.«set.__new__» Builtin.Frozenset.newClass
  have hsub := sub_set_self
  obtain ⟨hp, g, d, tk, os⟩ := s
  dsimp only at h ⊢
  wp_walk
  refine wpAny_askSetting (wpAny_pure ?_)
  dsimp only
  simp only [newObj]
  refine wpAny_bind (wpAny_alloc (wpAny_pure ?_))
  exact wpAny_pure h
theorem set_loop {R : Result → Shared → Prop} {I S l : Addr} {items : Array Value} {ks : List Int} (hh : A.handled = none) (W : Walks prog w A.in1 I [I, l] [I] items.size (fun i v => items[i]? = some v) (fun i h => h.IsListIter I l i ∧ h.IsList l items))
    (hS : S ∉ [I, l]) (hi : IntsAre items.toList ks) (ha : Asc ks)
    : ∀ (k i : Nat) (s : Shared) (es : Array (Int × Value)) (ep : Nat), items.size - i = k → i ≤ items.size → (s.heap.IsListIter I l i ∧ s.heap.IsList l items) → s.heap.get? S = some (setO es ep (tab (!(byT w)) (ks.take i))) → Ents prog w es.toList (ks.take i) →
      (∀ h' tk es' ep', (∀ b o, b ∉ [S, I] → s.heap.get? b = some o → h'.get? b = some o) → h'.get? S = some (setO es' ep' (tab (!(byT w)) ks)) → Ents prog w es'.toList ks → R (.ok (.ret .none)) { s with heap := h', toks := tk }) →
      codeAny (model prog w) A (.builtin "set.update.loop" ⟨[.ref S, .ref I], []⟩) R s := by
  have hlen : items.size = ks.length := by have := IntsAre.length hi; simpa using this
  have hSI : S ≠ I := fun e => hS (by simp [e])
  have hSl : S ≠ l := fun e => hS (by simp [e])
  intro k
  induction k with
  | zero =>
    intro i s es ep hk hile hst hSo he hR
    have hin : i = items.size := by omega
    subst hin
    refine codeAny_builtin F.entry_set_update_loop ?_
    rw [Around.under_plainId F.plain_set_update_loop _]
    show wpAny _ A.in1 (pyNext (.ref I) >>= _) _ _ s
    refine wpAny_bind (W.done s _ _ hst fun h' tk hm => ?_)
    show wpAny _ A.in1 (ret Value.none) _ _ _
    rw [hlen, List.take_length] at hSo he
    exact wpAny_pure (hR h' tk es ep (fun b o hb e => hm b o (fun q => hb (by simp at q; simp [q])) e) (hm S _ (by simpa using hSI) hSo) he)
  | succ k ih =>
    intro i s es ep hk hile hst hSo he hR
    have hlt : i < items.size := by omega
    have hlk : i < ks.length := by omega
    refine codeAny_builtin F.entry_set_update_loop ?_
    rw [Around.under_plainId F.plain_set_update_loop _]
    show wpAny _ A.in1 (pyNext (.ref I) >>= _) _ _ s
    refine wpAny_bind (W.item i s _ _ hlt hst fun v h' tk hP hst' hm => ?_)
    obtain ⟨t, rfl⟩ := PyProof.Rows.IntsAre.int_at hi i v (by rw [Array.getElem?_toList]; exact hP)
    have hSo' : h'.get? S = some (setO es ep (tab (!(byT w)) (ks.take i))) := hm S _ (by simpa using hSI) hSo
    have htake : ks.take (i + 1) = ks.take i ++ [ks.getD i 0] := by
      rw [List.take_succ_eq_append_getElem hlk]; simp [hlk]
    have hasc : Asc (ks.take i ++ [ks.getD i 0]) := by
      rw [← htake]
      have := ha
      rw [← List.take_append_drop (i + 1) ks] at this
      exact this.left
    show wpAny _ A.in1 (holding [Value.int (ks.getD i 0) t] (setAdd S (.int (ks.getD i 0) t)) >>= _) _ _ _
    refine wpAny_bind (wpAny_holding ?_)
    unfold setAdd
    refine wpAny_holding ?_
    refine wpAny_bind ((intKind prog w).pyHash (k := ks.getD i 0) (intKind_is _ _ _ _) ?_)
    refine set_add (s := { s with heap := h', toks := tk + 1 }) hSo' he hasc fun h₂ es₂ ep₂ hsb h1 h2 => ?_
    rw [← htake] at h1 h2
    have st₂ : h₂.IsListIter I l (i + 1) ∧ h₂.IsList l items := W.frame (i + 1) h' h₂ hst' fun b hb o e => by
      have hbS : b ≠ S := fun q => hS (q ▸ hb)
      exact (hsb.2 b hbS).trans e
    refine wpAny_pure ⟨plainId_quiet F.plain_set_update_loop _, ih (i + 1) _ es₂ ep₂ (by omega) hlt st₂ h1 h2 fun h₃ tk₃ es₃ ep₃ hk₃ h3 h4 => ?_⟩
    refine hR h₃ tk₃ es₃ ep₃ (fun b o hb e => hk₃ b o hb ?_) h3 h4
    have hbS : b ≠ S := fun q => hb (by simp [q])
    exact (hsb.2 b hbS).trans (hm b o (fun q => hb (by simp at q; simp [q])) e)
theorem set_from {l : Addr} {items : Array Value} {ks : List Int} {Q : Value → Shared → Prop} (hh : A.handled = none) (hl : s.heap.IsList l items) (hi : IntsAre items.toList ks) (ha : Asc ks)
    (h : ∀ h' tk es ep, (∀ b o, s.heap.get? b = some o → h'.get? b = some o) → h'.get? s.heap.objs.size = some (setO es ep (tab (!(byT w)) ks)) → Ents prog w es.toList ks → Q (.ref s.heap.objs.size) { s with heap := h', toks := tk }) :
    wpAny (model prog w) A (call (.type "set") [.ref l]) Q E s := by
  obtain ⟨c, tl, hmro⟩ := PySem.F.called_set.mro
  have hmade := PySem.F.called_set.made
  have hsub := PySem.F.called_set.sub
  refine wpAny_call (codeAny_of_tree ?_)
  show wpAny _ _ (callAny (.type "set") _) _ _ _
  refine wpAny_pure ⟨Code.quiet_builtin _ (by decide +kernel), codeAny_builtin PySem.F.entry_type_call ?_⟩
  rw [Around.under_plain (weight_type_call_type "set" [.ref l] []) rfl]
  have h1 := PySem.F.called_set.notType
  have h2 := PySem.F.called_set.canCreate
  have hct := PySem.F.typeCall_set_1 (.ref l)
  repeat (any_goals (first | assumption | wp_step))
  refine codeAny_mono (set_new (.ref l) (E := E) (Q₁ := fun obj s₁ => obj = .ref s.heap.objs.size ∧ s₁ = { s with heap := s.heap.push (setO #[] 0 (tab (!(byT w)) [])) }) ⟨rfl, rfl⟩) fun r s₁ hr => ?_
  cases r with
  | error e => exact hr
  | ok fl =>
    cases fl with
    | ret obj =>
      obtain ⟨rfl, rfl⟩ := hr
      have hS : (s.heap.push (setO #[] 0 (tab (!(byT w)) []))).get? s.heap.objs.size = some (setO #[] 0 (tab (!(byT w)) [])) := Heap.get?_push_size _ rfl
      have hT : Shared.TypeIs { s with heap := s.heap.push (setO #[] 0 (tab (!(byT w)) [])) } (.ref s.heap.objs.size) "set" := ⟨_, hS, rfl⟩
      have hli := PySem.F.called_set.init.lookup
      have hbi := PySem.F.called_set.init.bind (.ref s.heap.objs.size)
      repeat (any_goals (first | assumption | wp_step))
      refine codeAny_mono (codeAny_call_builtin (R := wants (fun r s₂ => r = .none ∧ ∃ h' tk es ep, s₂ = { s with heap := h', toks := tk } ∧ (∀ b o, s.heap.get? b = some o → h'.get? b = some o) ∧
          h'.get? s.heap.objs.size = some (setO es ep (tab (!(byT w)) ks)) ∧ Ents prog w es.toList ks) E) PySem.F.called_set.init.plain PySem.F.entry_set_init (check_set_init_1 hT ?_)) fun r₂ s₂ hr₂ => ?_
      · obtain ⟨ol, hol, hcl, nl, hdl⟩ := hl
        obtain ⟨ocls, odict, odata, oslots⟩ := ol
        simp only at hcl hdl
        subst hcl; subst hdl
        have hol' : (s.heap.push (setO #[] 0 (tab (!(byT w)) []))).get? l = some { cls := .type "list", dict := odict, data := .seq items nl, slots := oslots } := Heap.get?_push_of_some _ hol
        have hsls := PySem.F.sub_list_set
        have hslf := PySem.F.sub_list_frozenset
        have hne : (Value.type "list" == Value.type "dict") = false := by decide
        have hl1 : (s.heap.push (setO #[] 0 (tab (!(byT w)) []))).IsList l items := ⟨_, hol', rfl, nl, rfl⟩
        have hS' : (s.heap.push (setO #[] 0 (tab (!(byT w)) []))).get? s.heap.objs.size = some { cls := .type "set", dict := none, data := .set #[] 0 (.fresh 0 0 (!(byT w))), slots := #[] } := hS
        unfold Builtin.«set.__init__» noKeywords Builtin.Frozenset.updateFrom
        generalize hPI : pyIter = PI
        wp_walk
        subst hPI
        refine wpAny_pyIter_list hl1 ?_
        refine wpAny_bind (wpAny_runValue ?_)
        have hlS : l < s.heap.objs.size := Heap.lt_size hol
        have hh3 : A.in1.in1.in1.handled = none := by simp [hh]
        have hneI : l ≠ (s.heap.push (setO #[] 0 (tab (!(byT w)) []))).objs.size := by
          rw [Heap.size_push]; exact Nat.ne_of_lt (Nat.lt_succ_of_lt hlS)
        have hSf : s.heap.objs.size ∉ [(s.heap.push (setO #[] 0 (tab (!(byT w)) []))).objs.size, l] := by
          rw [Heap.size_push]; simp only [List.mem_cons, List.mem_singleton, List.not_mem_nil, or_false, not_or]
          exact ⟨Nat.ne_of_lt (Nat.lt_succ_self _), Nat.ne_of_gt hlS⟩
        refine set_loop (by simp [hh]) (Walks.list hh3 _ l hneI items) hSf hi ha (items.size - 0) 0 _ #[] 0 rfl (Nat.zero_le _) ⟨⟨_, Heap.get?_push_size _ rfl, rfl, rfl⟩, hl1.push _⟩ (Heap.get?_push_of_some _ hS) rfl fun h' tk es ep hk hSo he => ?_
        show wpAny _ _ _ _ _ _
        refine wpAny_pure ?_
        show wpAny _ _ (ret Value.none) _ _ _
        refine wpAny_pure ⟨rfl, h', tk, es, ep, rfl, fun b o e => hk b o (fun q => ?_) (Heap.get?_push_of_some _ (Heap.get?_push_of_some _ e)), hSo, he⟩
        have hlt := Heap.lt_size e
        simp only [List.mem_cons, List.not_mem_nil, or_false] at q
        rcases q with q | q
        · rw [q] at hlt; exact absurd hlt (Nat.lt_irrefl _)
        · rw [q, Heap.size_push] at hlt; exact absurd hlt (Nat.not_lt.mpr (Nat.le_succ _))
      · cases r₂ with
        | error e => exact hr₂
        | ok fl₂ =>
          cases fl₂ with
          | ret r =>
            obtain ⟨rfl, h', tk, es, ep, rfl, hk, hSo, he⟩ := hr₂
            repeat (any_goals (first | assumption | wp_step))
            exact h _ _ _ _ hk hSo he
          | _ => exact hr₂.elim
    | _ => exact hr.elim
end
section
variable {prog : Program} {w : World} {B : Heap} {A : Around} {μ : Mem}
theorem bc_set {ks : List Int} {Q : V → Mem → Prop} (hh : A.handled = none) (ha : Asc ks) (q : Q (.st (!(byT w)) ks) μ) : BC prog w B A (.type "set") [.lst (il ks)] μ Q := fun ξ s vs g r => by
  obtain ⟨v, rfl, r1⟩ := reps1 r
  rw [Rep] at r1
  obtain ⟨a, xs, n, rfl, _, ho, hr⟩ := r1
  refine set_from hh ⟨_, ho, rfl, n, rfl⟩ (ints_are hr) ha fun h' tk es ep hk hSo he => Post.here (tk := tk) g hk ?_ q
  rw [Rep]
  exact ⟨_, es, ep, rfl, g.free (fresh_get _ (Nat.le_refl _)), hSo, by have := he.len; simpa using this, he.ints⟩
theorem asc_srt {ks : List Int} (h : Asc ks) : srt ks = ks := (srt_is (.refl ks) (h.1.imp fun h => Int.le_of_lt h)).symm
theorem bc_sortedS {ks : List Int} {Q : V → Mem → Prop} (hh : A.handled = none) (ha : Asc ks) (q : Q (.lst (il ks)) μ) : BC prog w B A (.builtin "sorted") [.st (!(byT w)) ks] μ Q := fun ξ s vs g r => by
  obtain ⟨v, rfl, r1⟩ := reps1 r
  rw [Rep] at r1
  obtain ⟨a, es, ep, rfl, _, ho, hl, hi⟩ := r1
  have h3 := ha.2.2
  refine Calls.call_function_entry kind_sorted plain_sorted entry_sorted (args_sorted1 _) ?_
  unfold Builtin.«sorted»
  refine wpAny_bind (m := checkCount "sorted" 1 1 _) (wpAny_pure ?_)
  refine wpAny_bind (kdu_collect (src_set (w := w) (d := a) (es := es) (ep := ep) ha hl) hh ho (by rw [hl, sizeLine_eq]; omega) fun h' tk acc hk hacc => ?_)
  have hlenN : acc.toList.length = ks.length := by rw [← hl, ← hacc.1]; simp
  have hacc2 : acc.toList = (ordOf w a ep es).toList.map (·.2) := by
    apply List.ext_getElem?
    intro i
    by_cases hi : i < es.size
    · obtain ⟨e, e1, e2⟩ := hacc.2 i (acc[i]'(by rw [hacc.1]; exact hi)) (Array.getElem?_eq_getElem _)
      rw [List.getElem?_map, Array.getElem?_toList, Array.getElem?_toList, e1, Array.getElem?_eq_getElem (by rw [hacc.1]; exact hi), e2]
      rfl
    · rw [List.getElem?_eq_none (by rw [hlenN, ← hl]; omega), List.getElem?_eq_none (by rw [List.length_map, Array.length_toList, ord_size]; omega)]
  obtain ⟨ks', hI, hp⟩ := perm_ints (vs' := acc.toList) (by rw [hacc2]; exact (ord_perm (w := w) (d := a) (ep := ep) (es := es)).map _) hi
  have hlen : acc.toList.length < 64 := by omega
  refine wpAny_bind (wpAny_newList ?_ (by rw [hlenN, sizeLine_eq]; omega))
  have hoL : (h'.push (seqObj "list" acc.toList.toArray 0)).get? h'.objs.size = some (seqObj "list" acc.toList.toArray 0) := Heap.get?_push_size _ rfl
  refine wpAny_bind (wpAny_holding (wpAny_call_entry slot_list_sort ⟨_, hoL, rfl⟩ entry_list_sort (list_sort_tree hoL hI hlen fun out ns' a1 a2 a3 => ⟨_, rfl, ?_⟩) (args_list_sort _)))
  have e := srt_is (a2.trans hp) a3
  rw [asc_srt ha] at e
  subst e
  have hne : ∀ b o, s.heap.get? b = some o → b ≠ h'.objs.size := fun b o e q => by
    have := Heap.lt_size (hk b o e)
    rw [q] at this; exact absurd this (Nat.lt_irrefl _)
  have hN : s.heap.get? h'.objs.size = none := by
    cases e : s.heap.get? h'.objs.size with
    | none => rfl
    | some o => exact absurd rfl (hne _ o e)
  obtain ⟨e, he⟩ := sortedHeap_at (vs := acc.toList) (out := out) hoL
  refine wpAny_pure ⟨_, rfl, Post.here (tk := tk) g (fun b o e => sortedHeap_old' (hne b o e) (push_keep _ _ (hk b o e))) ?_ q⟩
  rw [Rep]
  exact ⟨_, out, e, rfl, g.free hN, he, are_ints a1⟩
end
end Tab
end
noncomputable section
open PySem PySem.W PyProof.Rows PySem.Calls
set_option maxRecDepth 100000
namespace Tab
abbrev PG : Program := PySem.Challenge.rw_no0007_01.row.prog
abbrev Am (w : World) (B : Heap) : Prop := Amb (laid w.params) B
theorem filled (w : World) : True ∧ (laid w.params) = (laid w.params) ∧ PySem.Challenge.rw_no0007_01 = PySem.Challenge.rw_no0007_01 := by
  k_fill
  exact ⟨trivial, rfl, rfl⟩
abbrev Loc.get (ρ : Loc) (x : Str) : Option V := List.lookup x ρ
theorem len1 {α : Type} {l : List α} (h : l.length = 1) : ∃ x, l = [x] := by
  match l, h with | [x], _ => exact ⟨x, rfl⟩
theorem len2 {α : Type} {l : List α} (h : l.length = 2) : ∃ x y, l = [x, y] := by
  match l, h with | [x, y], _ => exact ⟨x, y, rfl⟩
theorem len3 {α : Type} {l : List α} (h : l.length = 3) : ∃ x y z, l = [x, y, z] := by
  match l, h with | [x, y, z], _ => exact ⟨x, y, z, rfl⟩
theorem len4 {α : Type} {l : List α} (h : l.length = 4) : ∃ x y z u, l = [x, y, z, u] := by
  match l, h with | [x, y, z, u], _ => exact ⟨x, y, z, u, rfl⟩
section
variable {w : World} {B : Heap} {μ : Mem}
theorem gcd_step (a b : Nat) : Nat.gcd b (a % b) = Nat.gcd a b := by
  rw [Nat.gcd_comm b, ← Nat.gcd_rec, Nat.gcd_comm]
theorem abs_nat (a : Int) : (if a < 0 then -a else a) = ((a.natAbs : Nat) : Int) := by split <;> omega
theorem fn_gcd (am : Am w B) (a b : Int) {Q : V → Mem → Prop} (q : Q (.int (Int.gcd a b)) μ) : Fn PG w B 1 (.ref 59) [.int a, .int b] μ Q := by
  refine Fn.enter (K := laid w.params) (names := ["a", "b"]) am (ho := by k_is) (hcd := by k_is) ?_ rfl rfl rfl (fun vs h => by obtain ⟨x, y, rfl⟩ := len2 h; rfl) (by decide) (by rfl) (by decide)
  intro A L hA hF
  refine HS.cons (HX.assignSwap (names := ["a", "b"]) hA.handled ?_)
  refine HE.tuple (HAs.cons ?_)
  refine HE.call am (HE.builtin am (by k_is) (by rfl) ⟨_, rfl, keepsP_B, HAs.cons (HE.var rfl (HAs.nil (bc_abs ?_)))⟩)
  refine HAs.cons (HE.call am (HE.builtin am (by k_is) (by rfl) ⟨_, rfl, keepsP_B, HAs.cons (HE.var rfl (HAs.nil (bc_abs ?_)))⟩))
  refine HAs.nil ⟨_, rfl, rfl, ?_⟩
  rw [abs_nat, abs_nat]
  refine HS.cons (HX.whileI (fun n ρ' μ' => ∃ x : Nat, ρ'.get "a" = some (.int x) ∧ ρ'.get "b" = some (.int n) ∧ Nat.gcd x n = Int.gcd a b ∧ μ' = μ) (fun n ρ' μ' ⟨x, h1, h2, h3, h4⟩ => ?_) b.natAbs ⟨a.natAbs, rfl, rfl, rfl, rfl⟩)
  subst h4
  refine HB.compare (HE.var h2 (HE.cInt (op_ne rfl rfl (by have := hA.units; omega) fun c hc => ⟨c, rfl, ?_⟩)))
  cases c with
  | true =>
    have hn : n ≠ 0 := fun e => by have := hc.mp rfl; rw [e] at this; exact this rfl
    refine HS.one (HX.assignSwap (names := ["a", "b"]) hA.handled (HE.tuple (HAs.cons (HE.var h2 (HAs.cons (HE.binary (HE.var h1 (HE.var h2 (op_mod (by omega) ?_)))))))))
    refine HAs.nil ⟨_, rfl, rfl, rfl, x % n, Nat.mod_lt _ (by omega), n, rfl, ?_, ?_, rfl⟩
    · show some (V.int _) = _
      rw [Int.fmod_eq_emod_of_nonneg _ (by omega)]
      rfl
    · rw [gcd_step]; exact h3
  | false =>
    have hn : n = 0 := by
      have : ¬ (V.int n ≠ V.int 0) := fun h => by have := hc.mpr h; cases this
      simpa using this
    subst hn
    refine HS.one (HX.ret (HE.var h1 ?_))
    rw [← h3, Nat.gcd_zero_right] at q
    exact q
end
end Tab
end
noncomputable section
open PySem PySem.W PyProof.Rows PySem.Calls
open Builtin.Int (intBits)
set_option maxRecDepth 100000
namespace Tab
section
variable {prog : Program} {w : World} {B : Heap} {A : Around} {env : Env} {ρ : Loc} {μ : Mem} {K : Frag}
theorem HE.fn {x p f e es pos Q} (am : Amb K B) (h1 : nsIn K mainGlobals x = some (some (.ref f))) (h2 : keepIn K (.ref f) = true) (h : HAs prog w B A env (e :: es) ρ μ fun xs μ' => BC prog w B A (.ref f) xs μ' Q)
    (hk : env.scope.kind = .function := by rfl) (hx : env.kindOf x = some .globalImplicit := by rfl) (hG : env.globals = mainGlobals := by rfl) (hd : (x == ("__debug__" : Str)) = false := by decide)
    (he : starEach (e :: es) env = (false, eval e env) :: starEach es env := by rfl) (hplain : (backTo pos (starEach es env)).any (·.1) = false := by rfl) :
    HE prog w B A env (.Call (.Name x p) (e :: es) [] pos) ρ μ Q :=
  HE.call am (HE.globRaw am h1 ⟨_, rfl, keepsP_K h2, h⟩ hk hx hG hd) he hplain
theorem HE.bi {x p id e es pos Q} (am : Amb K B) (h1 : nsIn K mainGlobals x = some none) (hv : bootBuiltins x = some (.builtin id)) (h : HAs prog w B A env (e :: es) ρ μ fun xs μ' => BC prog w B A (.builtin id) xs μ' Q) (hn : x ≠ "__name__" := by decide)
    (hk : env.scope.kind = .function := by rfl) (hx : env.kindOf x = some .globalImplicit := by rfl) (hG : env.globals = mainGlobals := by rfl) (hB : env.builtins = builtinsNs := by rfl) (hd : (x == ("__debug__" : Str)) = false := by decide)
    (he : starEach (e :: es) env = (false, eval e env) :: starEach es env := by rfl) (hplain : (backTo pos (starEach es env)).any (·.1) = false := by rfl) :
    HE prog w B A env (.Call (.Name x p) (e :: es) [] pos) ρ μ Q :=
  HE.call am (HE.builtin am h1 hv ⟨_, rfl, keepsP_B, h⟩ hn hk hx hG hB hd) he hplain
theorem HE.ty {x p id e es pos Q} (am : Amb K B) (h1 : nsIn K mainGlobals x = some none) (hv : bootBuiltins x = some (.type id)) (h : HAs prog w B A env (e :: es) ρ μ fun xs μ' => BC prog w B A (.type id) xs μ' Q) (hn : x ≠ "__name__" := by decide)
    (hk : env.scope.kind = .function := by rfl) (hx : env.kindOf x = some .globalImplicit := by rfl) (hG : env.globals = mainGlobals := by rfl) (hB : env.builtins = builtinsNs := by rfl) (hd : (x == ("__debug__" : Str)) = false := by decide)
    (he : starEach (e :: es) env = (false, eval e env) :: starEach es env := by rfl) (hplain : (backTo pos (starEach es env)).any (·.1) = false := by rfl) :
    HE prog w B A env (.Call (.Name x p) (e :: es) [] pos) ρ μ Q :=
  HE.call am (HE.builtin am h1 hv ⟨_, rfl, keepsP_T, h⟩ hn hk hx hG hB hd) he hplain
theorem HE.nth {x px i kk pk pos l z Q} (n : Nat) (hv : ρ.lookup x = some (.tup l)) (hz : l[n]? = some z) (q : Q z μ) (hi : i = (n : Int) := by rfl) (hn : n < 1000 := by decide)
    (hk : env.scope.kind = .function := by rfl) (hx : (env.kindOf x == some .local || env.kindOf x == some .cell || env.kindOf x == some .free) = true := by rfl)
    (hd : (x == ("__debug__" : Str)) = false := by decide) (hc : (x == ("__classdict__" : Str)) = false := by decide) 
    (hs : ∀ o j, subscripted (.Constant (.int i) kk pk) false o j = operate [o, j] (getItem o j) := by intro _ _; rfl) : HE prog w B A env (.Subscript (.Name x px) (.Constant (.int i) kk pk) pos) ρ μ Q := by
  subst hi
  exact HE.sub (HE.var hv (HE.cInt (sub_tup hz hn q)) hk hx hd hc) hs

def rat (q : Rat) : V := .tup [.int q.num, .int (q.den : Int)]
def rat2 (q : Rat × Rat) : V := .tup [rat q.1, rat q.2]
def Sz (n : Nat) (q : Rat) : Prop := intBits q.num ≤ n ∧ intBits (q.den : Int) ≤ n
theorem rat_inj {p q : Rat} (h : rat p = rat q) : p = q := by
  unfold rat at h
  simp only [V.tup.injEq, List.cons.injEq, V.int.injEq, and_true] at h
  exact Rat.ext h.1 (by omega)
theorem rat2_inj {p q : Rat × Rat} (h : rat2 p = rat2 q) : p = q := by
  unfold rat2 at h
  simp only [V.tup.injEq, List.cons.injEq, and_true] at h
  exact Prod.ext (rat_inj h.1) (rat_inj h.2)
theorem okV_rat {q : Rat} {n : Nat} : okV (n + 1) (rat q) = true := by
  unfold rat
  simp [okV]
theorem okV_rat2 {q : Rat × Rat} {n : Nat} : okV (n + 2) (rat2 q) = true := by
  unfold rat2
  simp [okV, okV_rat]

theorem low_num (t b : Int) (hb : b ≠ 0) : t.fdiv (if b < 0 then -(Int.gcd t b : Int) else Int.gcd t b) = (Rat.divInt t b).num := by
  rw [Rat.num_divInt, Int.gcd_comm b t]
  have h1 : (Int.gcd t b : Int) ∣ t := Int.gcd_dvd_left ..
  split
  · rename_i h
    rw [Int.sign_eq_neg_one_of_neg h, Int.fdiv_eq_ediv_of_dvd (Int.neg_dvd.mpr h1), Int.ediv_neg, Int.neg_one_mul, Int.neg_ediv_of_dvd h1]
  · rename_i h
    rw [Int.sign_eq_one_of_pos (by omega), Int.fdiv_eq_ediv_of_dvd h1, Int.one_mul]
theorem low_den (t b : Int) (hb : b ≠ 0) : b.fdiv (if b < 0 then -(Int.gcd t b : Int) else Int.gcd t b) = ((Rat.divInt t b).den : Int) := by
  rw [Rat.den_divInt, if_neg hb, Int.gcd_comm b t]
  have h1 : (Int.gcd t b : Int) ∣ b := Int.gcd_dvd_right ..
  rw [Int.natCast_ediv]
  split
  · rename_i h
    rw [Int.fdiv_eq_ediv_of_dvd (Int.neg_dvd.mpr h1), Int.ediv_neg, ← Int.neg_ediv_of_dvd h1]
    congr 1; omega
  · rename_i h
    rw [Int.fdiv_eq_ediv_of_dvd h1]
    congr 1; omega
theorem sz_divInt {t b : Int} {n : Nat} (ht : intBits t ≤ n) (hb : intBits b ≤ n) (h0 : b ≠ 0) : Sz n (Rat.divInt t b) := by
  refine ⟨?_, ?_⟩
  · rw [← low_num t b h0]; exact intBits_fdiv_le ht
  · rw [← low_den t b h0]; exact intBits_fdiv_le hb
theorem den_ne {q : Rat} : (q.den : Int) ≠ 0 := by have := q.den_nz; omega
theorem mul_den_ne {p q : Rat} : (p.den : Int) * q.den ≠ 0 := Int.mul_ne_zero den_ne den_ne
theorem add_is (p q : Rat) : p + q = Rat.divInt (p.num * q.den + q.num * p.den) (p.den * q.den) := by
  have h := Rat.divInt_add_divInt p.num q.num (d₁ := p.den) (d₂ := q.den) den_ne den_ne
  rw [Rat.num_divInt_den, Rat.num_divInt_den] at h
  exact h
theorem mul_is (p q : Rat) : p * q = Rat.divInt (p.num * q.num) (p.den * q.den) := by
  have h := Rat.divInt_mul_divInt p.num q.num (d₁ := p.den) (d₂ := q.den)
  rw [Rat.num_divInt_den, Rat.num_divInt_den] at h
  exact h
theorem inv_is (q : Rat) : q⁻¹ = Rat.divInt q.den q.num := Rat.inv_def q
theorem div_is (p q : Rat) : p / q = Rat.divInt (p.num * q.den) (p.den * q.num) := by
  rw [Rat.div_def, inv_is]
  have h := Rat.divInt_mul_divInt p.num q.den (d₁ := p.den) (d₂ := q.num)
  rw [Rat.num_divInt_den] at h
  exact h
theorem Sz.mono {m n q} (h : Sz m q) (k : m ≤ n) : Sz n q := ⟨Nat.le_trans h.1 k, Nat.le_trans h.2 k⟩
theorem Sz.add {m n p q} (hp : Sz m p) (hq : Sz n q) : Sz (m + n + 1) (p + q) := by
  rw [add_is]
  refine sz_divInt ?_ ?_ mul_den_ne
  · have := intBits_add_le (intBits_mul_le hp.1 hq.2) (intBits_mul_le hq.1 hp.2)
    omega
  · have := intBits_mul_le hp.2 hq.2
    omega
theorem Sz.mul {m n p q} (hp : Sz m p) (hq : Sz n q) : Sz (m + n) (p * q) := by
  rw [mul_is]
  exact sz_divInt (intBits_mul_le hp.1 hq.1) (intBits_mul_le hp.2 hq.2) mul_den_ne
theorem Sz.neg {m p} (hp : Sz m p) : Sz m (-p) := ⟨by rw [Rat.neg_num]; exact intBits_neg_le hp.1, by rw [Rat.neg_den]; exact hp.2⟩
theorem Sz.sub {m n p q} (hp : Sz m p) (hq : Sz n q) : Sz (m + n + 1) (p - q) := by
  rw [Rat.sub_eq_add_neg]; exact hp.add hq.neg
theorem Sz.div {m n p q} (hp : Sz m p) (hq : Sz n q) (h : q ≠ 0) : Sz (m + n) (p / q) := by
  rw [div_is]
  refine sz_divInt (intBits_mul_le hp.1 hq.2) (intBits_mul_le hp.2 hq.1) (Int.mul_ne_zero den_ne ?_)
  exact fun e => h (Rat.num_eq_zero.mp e)
end

section
variable {w : World} {B : Heap} {μ : Mem}
theorem fn_ratio (am : Am w B) {t b : Int} (hb : b ≠ 0) {Q : V → Mem → Prop} (q : Q (rat (Rat.divInt t b)) μ) : Fn PG w B 2 (.ref 66) [.int t, .int b] μ Q := by
  refine Fn.enter (K := laid w.params) (names := ["top", "bottom"]) am (ho := by k_is) (hcd := by k_is) ?_ rfl rfl rfl (fun vs h => by obtain ⟨x, y, rfl⟩ := len2 h; rfl) (by decide) (by rfl) (by decide)
  intro A L hA hF
  have hu : A.units + 64 < 9900 := by have := hA.units; omega
  refine HS.cons (HX.ite (HB.compare (HE.var rfl (HE.cInt (op_eq rfl rfl hu fun c hc => ⟨c, rfl, ?_⟩)))))
  have : c = false := by
    cases c with
    | false => rfl
    | true => exact absurd (by simpa using hc.mp rfl) hb
  subst this
  refine HS.nil (HS.cons (HX.assign (HE.fn am (by k_is) (by k_is) (HAs.cons (HE.var rfl (HAs.cons (HE.var rfl (HAs.nil (BC.of_fn (fn_gcd am t b ?_) (hA.less (by decide)))))))))))
  have h0 : (if b < 0 then -(Int.gcd t b : Int) else Int.gcd t b) ≠ 0 := by
    have : Int.gcd t b ≠ 0 := fun e => hb (Int.gcd_eq_zero_iff.mp e).2
    split <;> omega
  refine HS.cons (HX.mono (Q := fun r ρ' μ' => r = .next ∧ ρ'.get "common" = some (.int (if b < 0 then -(Int.gcd t b : Int) else Int.gcd t b)) ∧ ρ'.get "top" = some (.int t) ∧ ρ'.get "bottom" = some (.int b) ∧ μ' = μ) (HX.ite ?_) fun r ρ' μ' ⟨e, h1, h2, h3, e'⟩ => ?_)
  · refine HB.compare (HE.var rfl (HE.cInt (op_lt ⟨_, rfl, ?_⟩)))
    by_cases hlt : b < 0
    · rw [if_pos (by simpa using hlt)]
      refine HS.one (HX.assign (HE.unary (HE.var rfl (op_neg ⟨rfl, ?_, rfl, rfl, rfl⟩))))
      rw [if_pos hlt]; rfl
    · rw [if_neg (by simpa using hlt)]
      refine HS.nil ⟨rfl, ?_, rfl, rfl, rfl⟩
      rw [if_neg hlt]; rfl
  · subst e e'
    refine HS.one (HX.ret (HE.tuple (HAs.cons ?_)))
    refine HE.binary (HE.var h2 (HE.var h1 (op_div h0 (DivRoom.of am hA hF) (HAs.cons ?_))))
    refine HE.binary (HE.var h3 (HE.var h1 (op_div h0 (DivRoom.of am hA hF) (HAs.nil ?_))))
    rw [low_num t b hb, low_den t b hb]
    exact q
theorem one_num (t : Int) : (Rat.divInt t 1).num = t := by rw [Rat.num_divInt]; simp
theorem one_den (t : Int) : (Rat.divInt t 1).den = 1 := by rw [Rat.den_divInt]; simp
theorem int_eq {a b : Int} {c : Bool} (h : c = true ↔ V.int a = V.int b) : c = decide (a = b) := by
  rw [V.int.injEq] at h
  cases c with
  | true => exact (decide_eq_true (h.mp rfl)).symm
  | false => exact (decide_eq_false fun e => by have := h.mpr e; cases this).symm
theorem fn_add (am : Am w B) {m n : Nat} {p q : Rat} (hp : Sz m p) (hq : Sz n q) (hz : m + n ≤ 134217728) {Q : V → Mem → Prop} (k : Q (rat (p + q)) μ) : Fn PG w B 3 (.ref 73) [rat p, rat q] μ Q := by
  refine Fn.enter (K := laid w.params) (names := ["a", "b"]) am (ho := by k_is) (hcd := by k_is) ?_ rfl rfl rfl (fun vs h => by obtain ⟨x, y, rfl⟩ := len2 h; rfl) (by decide) (by rfl) (by decide)
  intro A L hA hF
  have hu : A.units + 64 < 9900 := by have := hA.units; omega
  refine HS.cons (HX.ite (HB.chain ?_))
  refine HE.nth 1 rfl rfl (HE.nth 1 rfl rfl (op_eq rfl rfl hu fun c hc => ⟨c, rfl, ?_⟩))
  rw [int_eq hc]
  by_cases h1 : (p.den : Int) = q.den
  · rw [decide_eq_true h1, if_pos rfl]
    refine HE.cInt (op_eq rfl rfl hu fun d hd => ⟨d, rfl, ?_⟩)
    rw [int_eq hd]
    by_cases h2 : (q.den : Int) = 1
    · rw [decide_eq_true h2, if_pos rfl]
      refine HS.one (HX.ret (HE.tuple (HAs.cons ?_)))
      refine HE.binary (HE.nth 0 rfl rfl (HE.nth 0 rfl rfl (op_add (HAs.cons (HE.cInt (HAs.nil ?_))))))
      rw [add_is, h1, h2] at k
      simp only [Int.mul_one] at k
      unfold rat at k
      rw [one_num, one_den] at k
      exact k
    · rw [decide_eq_false h2, if_neg (by simp)]
      refine HS.nil (HS.one (HX.ret (HE.fn am (by k_is) (by k_is) (HAs.cons ?_))))
      refine HE.binary (HE.binary (HE.nth 0 rfl rfl (HE.nth 1 rfl rfl (op_mul (.of_le hp.1 hq.2 hz) ?_))))
      refine HE.binary (HE.nth 0 rfl rfl (HE.nth 1 rfl rfl (op_mul (.of_le hq.1 hp.2 (by omega)) (op_add (HAs.cons ?_)))))
      refine HE.binary (HE.nth 1 rfl rfl (HE.nth 1 rfl rfl (op_mul (.of_le hp.2 hq.2 hz) (HAs.nil (BC.of_fn (fn_ratio am mul_den_ne ?_) hA)))))
      rw [← add_is]; exact k
  · rw [decide_eq_false h1, if_neg (by simp)]
    refine HS.nil (HS.one (HX.ret (HE.fn am (by k_is) (by k_is) (HAs.cons ?_))))
    refine HE.binary (HE.binary (HE.nth 0 rfl rfl (HE.nth 1 rfl rfl (op_mul (.of_le hp.1 hq.2 hz) ?_))))
    refine HE.binary (HE.nth 0 rfl rfl (HE.nth 1 rfl rfl (op_mul (.of_le hq.1 hp.2 (by omega)) (op_add (HAs.cons ?_)))))
    refine HE.binary (HE.nth 1 rfl rfl (HE.nth 1 rfl rfl (op_mul (.of_le hp.2 hq.2 hz) (HAs.nil (BC.of_fn (fn_ratio am mul_den_ne ?_) hA)))))
    rw [← add_is]; exact k
theorem fn_neg (am : Am w B) {p : Rat} {Q : V → Mem → Prop} (k : Q (rat (-p)) μ) : Fn PG w B 1 (.ref 80) [rat p] μ Q := by
  refine Fn.enter (K := laid w.params) (names := ["a"]) am (ho := by k_is) (hcd := by k_is) ?_ rfl rfl rfl (fun vs h => by obtain ⟨x, rfl⟩ := len1 h; rfl) (by decide) (by rfl) (by decide)
  intro A L hA hF
  have hu : A.units + 64 < 9900 := by have := hA.units; omega
  refine HS.one (HX.ret (HE.tuple (HAs.cons ?_)))
  refine HE.unary (HE.nth 0 rfl rfl (op_neg (HAs.cons (HE.nth 1 rfl rfl (HAs.nil ?_)))))
  unfold rat at k
  rw [Rat.neg_num, Rat.neg_den] at k
  exact k
theorem fn_sub (am : Am w B) {m n : Nat} {p q : Rat} (hp : Sz m p) (hq : Sz n q) (hz : m + n ≤ 134217728) {Q : V → Mem → Prop} (k : Q (rat (p - q)) μ) : Fn PG w B 4 (.ref 87) [rat p, rat q] μ Q := by
  refine Fn.enter (K := laid w.params) (names := ["a", "b"]) am (ho := by k_is) (hcd := by k_is) ?_ rfl rfl rfl (fun vs h => by obtain ⟨x, y, rfl⟩ := len2 h; rfl) (by decide) (by rfl) (by decide)
  intro A L hA hF
  have hu : A.units + 64 < 9900 := by have := hA.units; omega
  refine HS.one (HX.ret (HE.fn am (by k_is) (by k_is) (HAs.cons (HE.var rfl (HAs.cons ?_)))))
  refine HE.fn am (by k_is) (by k_is) (HAs.cons (HE.var rfl (HAs.nil (BC.of_fn (fn_neg am (HAs.nil (BC.of_fn (fn_add am hp hq.neg hz ?_) hA))) (hA.less (by decide))))))
  rw [← Rat.sub_eq_add_neg]; exact k
theorem fn_mul (am : Am w B) {m n : Nat} {p q : Rat} (hp : Sz m p) (hq : Sz n q) (hz : m + n ≤ 134217728) {Q : V → Mem → Prop} (k : Q (rat (p * q)) μ) : Fn PG w B 3 (.ref 94) [rat p, rat q] μ Q := by
  refine Fn.enter (K := laid w.params) (names := ["a", "b"]) am (ho := by k_is) (hcd := by k_is) ?_ rfl rfl rfl (fun vs h => by obtain ⟨x, y, rfl⟩ := len2 h; rfl) (by decide) (by rfl) (by decide)
  intro A L hA hF
  have hu : A.units + 64 < 9900 := by have := hA.units; omega
  refine HS.cons (HX.ite (HB.chain ?_))
  refine HE.nth 1 rfl rfl (HE.nth 1 rfl rfl (op_eq rfl rfl hu fun c hc => ⟨c, rfl, ?_⟩))
  rw [int_eq hc]
  by_cases h1 : (p.den : Int) = q.den
  · rw [decide_eq_true h1, if_pos rfl]
    refine HE.cInt (op_eq rfl rfl hu fun d hd => ⟨d, rfl, ?_⟩)
    rw [int_eq hd]
    by_cases h2 : (q.den : Int) = 1
    · rw [decide_eq_true h2, if_pos rfl]
      refine HS.one (HX.ret (HE.tuple (HAs.cons ?_)))
      refine HE.binary (HE.nth 0 rfl rfl (HE.nth 0 rfl rfl (op_mul (.of_le hp.1 hq.1 hz) (HAs.cons (HE.cInt (HAs.nil ?_))))))
      rw [mul_is, h1, h2] at k
      simp only [Int.mul_one] at k
      unfold rat at k
      rw [one_num, one_den] at k
      exact k
    · rw [decide_eq_false h2, if_neg (by simp)]
      refine HS.nil (HS.one (HX.ret (HE.fn am (by k_is) (by k_is) (HAs.cons ?_))))
      refine HE.binary (HE.nth 0 rfl rfl (HE.nth 0 rfl rfl (op_mul (.of_le hp.1 hq.1 hz) (HAs.cons ?_))))
      refine HE.binary (HE.nth 1 rfl rfl (HE.nth 1 rfl rfl (op_mul (.of_le hp.2 hq.2 hz) (HAs.nil (BC.of_fn (fn_ratio am mul_den_ne ?_) hA)))))
      rw [← mul_is]; exact k
  · rw [decide_eq_false h1, if_neg (by simp)]
    refine HS.nil (HS.one (HX.ret (HE.fn am (by k_is) (by k_is) (HAs.cons ?_))))
    refine HE.binary (HE.nth 0 rfl rfl (HE.nth 0 rfl rfl (op_mul (.of_le hp.1 hq.1 hz) (HAs.cons ?_))))
    refine HE.binary (HE.nth 1 rfl rfl (HE.nth 1 rfl rfl (op_mul (.of_le hp.2 hq.2 hz) (HAs.nil (BC.of_fn (fn_ratio am mul_den_ne ?_) hA)))))
    rw [← mul_is]; exact k
theorem fn_div (am : Am w B) {m n : Nat} {p q : Rat} (hp : Sz m p) (hq : Sz n q) (hz : m + n ≤ 134217728) (h0 : q ≠ 0) {Q : V → Mem → Prop} (k : Q (rat (p / q)) μ) : Fn PG w B 3 (.ref 101) [rat p, rat q] μ Q := by
  refine Fn.enter (K := laid w.params) (names := ["a", "b"]) am (ho := by k_is) (hcd := by k_is) ?_ rfl rfl rfl (fun vs h => by obtain ⟨x, y, rfl⟩ := len2 h; rfl) (by decide) (by rfl) (by decide)
  intro A L hA hF
  have hu : A.units + 64 < 9900 := by have := hA.units; omega
  have hn : q.num ≠ 0 := fun e => h0 (Rat.num_eq_zero.mp e)
  refine HS.cons (HX.ite (HB.compare (HE.nth 0 rfl rfl (HE.cInt (op_eq rfl rfl hu fun c hc => ⟨c, rfl, ?_⟩)))))
  rw [int_eq hc, decide_eq_false hn, if_neg (by simp)]
  refine HS.nil (HS.one (HX.ret (HE.fn am (by k_is) (by k_is) (HAs.cons ?_))))
  refine HE.binary (HE.nth 0 rfl rfl (HE.nth 1 rfl rfl (op_mul (.of_le hp.1 hq.2 hz) (HAs.cons ?_))))
  refine HE.binary (HE.nth 1 rfl rfl (HE.nth 0 rfl rfl (op_mul (.of_le hp.2 hq.1 hz) (HAs.nil (BC.of_fn (fn_ratio am (Int.mul_ne_zero den_ne hn) ?_) hA)))))
  rw [← div_is]; exact k
def Sz2 (n : Nat) (q : Rat × Rat) : Prop := Sz n q.1 ∧ Sz n q.2
theorem fn_dadd (am : Am w B) {m n : Nat} {p q : Rat × Rat} (hp : Sz2 m p) (hq : Sz2 n q) (hz : m + n ≤ 134217728) {Q : V → Mem → Prop} (k : Q (rat2 (p.1 + q.1, p.2 + q.2)) μ) : Fn PG w B 4 (.ref 108) [rat2 p, rat2 q] μ Q := by
  refine Fn.enter (K := laid w.params) (names := ["a", "b"]) am (ho := by k_is) (hcd := by k_is) ?_ rfl rfl rfl (fun vs h => by obtain ⟨x, y, rfl⟩ := len2 h; rfl) (by decide) (by rfl) (by decide)
  intro A L hA hF
  have hu : A.units + 64 < 9900 := by have := hA.units; omega
  refine HS.one (HX.ret (HE.tuple (HAs.cons ?_)))
  refine HE.fn am (by k_is) (by k_is) (HAs.cons (HE.nth 0 rfl rfl (HAs.cons (HE.nth 0 rfl rfl (HAs.nil (BC.of_fn (fn_add am hp.1 hq.1 hz (HAs.cons ?_)) hA))))))
  refine HE.fn am (by k_is) (by k_is) (HAs.cons (HE.nth 1 rfl rfl (HAs.cons (HE.nth 1 rfl rfl (HAs.nil (BC.of_fn (fn_add am hp.2 hq.2 hz (HAs.nil k)) hA))))))
theorem fn_dsub (am : Am w B) {m n : Nat} {p q : Rat × Rat} (hp : Sz2 m p) (hq : Sz2 n q) (hz : m + n ≤ 134217728) {Q : V → Mem → Prop} (k : Q (rat2 (p.1 - q.1, p.2 - q.2)) μ) : Fn PG w B 5 (.ref 115) [rat2 p, rat2 q] μ Q := by
  refine Fn.enter (K := laid w.params) (names := ["a", "b"]) am (ho := by k_is) (hcd := by k_is) ?_ rfl rfl rfl (fun vs h => by obtain ⟨x, y, rfl⟩ := len2 h; rfl) (by decide) (by rfl) (by decide)
  intro A L hA hF
  have hu : A.units + 64 < 9900 := by have := hA.units; omega
  refine HS.one (HX.ret (HE.tuple (HAs.cons ?_)))
  refine HE.fn am (by k_is) (by k_is) (HAs.cons (HE.nth 0 rfl rfl (HAs.cons (HE.nth 0 rfl rfl (HAs.nil (BC.of_fn (fn_sub am hp.1 hq.1 hz (HAs.cons ?_)) hA))))))
  refine HE.fn am (by k_is) (by k_is) (HAs.cons (HE.nth 1 rfl rfl (HAs.cons (HE.nth 1 rfl rfl (HAs.nil (BC.of_fn (fn_sub am hp.2 hq.2 hz (HAs.nil k)) hA))))))
theorem fn_dscale (am : Am w B) {m n : Nat} {p : Rat × Rat} {q : Rat} (hp : Sz2 m p) (hq : Sz n q) (hz : m + n ≤ 134217728) {Q : V → Mem → Prop} (k : Q (rat2 (p.1 * q, p.2 * q)) μ) : Fn PG w B 4 (.ref 122) [rat2 p, rat q] μ Q := by
  refine Fn.enter (K := laid w.params) (names := ["d", "r"]) am (ho := by k_is) (hcd := by k_is) ?_ rfl rfl rfl (fun vs h => by obtain ⟨x, y, rfl⟩ := len2 h; rfl) (by decide) (by rfl) (by decide)
  intro A L hA hF
  have hu : A.units + 64 < 9900 := by have := hA.units; omega
  refine HS.one (HX.ret (HE.tuple (HAs.cons ?_)))
  refine HE.fn am (by k_is) (by k_is) (HAs.cons (HE.nth 0 rfl rfl (HAs.cons (HE.var rfl (HAs.nil (BC.of_fn (fn_mul am hp.1 hq hz (HAs.cons ?_)) hA))))))
  refine HE.fn am (by k_is) (by k_is) (HAs.cons (HE.nth 1 rfl rfl (HAs.cons (HE.var rfl (HAs.nil (BC.of_fn (fn_mul am hp.2 hq hz (HAs.nil k)) hA))))))
theorem fn_lowest (am : Am w B) {t b : Int} (hb : b ≠ 0) {Q : V → Mem → Prop} (q : Q (rat (Rat.divInt t b)) μ) : Fn PG w B 1 (.ref 252) [.int t, .int b] μ Q := by
  refine Fn.enter (K := laid w.params) (names := ["top", "bottom"]) am (ho := by k_is) (hcd := by k_is) ?_ rfl rfl rfl (fun vs h => by obtain ⟨x, y, rfl⟩ := len2 h; rfl) (by decide) (by rfl) (by decide)
  intro A L hA hF
  have hu : A.units + 64 < 9900 := by have := hA.units; omega
  refine HS.cons (HX.assignSwap (names := ["a", "b"]) hA.handled (HE.tuple (HAs.cons ?_)))
  refine HE.bi am (by k_is) (by rfl) (HAs.cons (HE.var rfl (HAs.nil (bc_abs (HAs.cons ?_)))))
  refine HE.bi am (by k_is) (by rfl) (HAs.cons (HE.var rfl (HAs.nil (bc_abs (HAs.nil ⟨_, rfl, rfl, ?_⟩)))))
  rw [abs_nat, abs_nat]
  refine HS.cons (HX.whileI (fun n ρ' μ' => ∃ x : Nat, ρ'.get "a" = some (.int x) ∧ ρ'.get "b" = some (.int n) ∧ ρ'.get "top" = some (.int t) ∧ ρ'.get "bottom" = some (.int b) ∧ Nat.gcd x n = Int.gcd t b ∧ μ' = μ) (fun n ρ' μ' ⟨x, h1, h2, ht, hbt, h3, h4⟩ => ?_) b.natAbs ⟨t.natAbs, rfl, rfl, rfl, rfl, rfl, rfl⟩)
  subst h4
  refine HB.compare (HE.var h2 (HE.cInt (op_ne rfl rfl hu fun c hc => ⟨c, rfl, ?_⟩)))
  cases c with
  | true =>
    have hn : n ≠ 0 := fun e => by have := hc.mp rfl; rw [e] at this; exact this rfl
    refine HS.one (HX.assignSwap (names := ["a", "b"]) hA.handled (HE.tuple (HAs.cons (HE.var h2 (HAs.cons (HE.binary (HE.var h1 (HE.var h2 (op_mod (by omega) ?_)))))))))
    refine HAs.nil ⟨_, rfl, rfl, rfl, x % n, Nat.mod_lt _ (by omega), n, rfl, ?_, ht, hbt, ?_, rfl⟩
    · show some (V.int _) = _
      rw [Int.fmod_eq_emod_of_nonneg _ (by omega)]
      rfl
    · rw [gcd_step]; exact h3
  | false =>
    have hn : n = 0 := by
      have : ¬ (V.int n ≠ V.int 0) := fun h => by have := hc.mpr h; cases this
      simpa using this
    subst hn
    rw [Nat.gcd_zero_right] at h3
    subst h3
    have h0 : (if b < 0 then -(Int.gcd t b : Int) else Int.gcd t b) ≠ 0 := by
      have : Int.gcd t b ≠ 0 := fun e => hb (Int.gcd_eq_zero_iff.mp e).2
      split <;> omega
    refine HS.cons (HX.mono (Q := fun r ρ'' μ'' => r = .next ∧ ρ''.get "a" = some (.int (if b < 0 then -(Int.gcd t b : Int) else Int.gcd t b)) ∧ ρ''.get "top" = some (.int t) ∧ ρ''.get "bottom" = some (.int b) ∧ μ'' = μ') (HX.ite ?_) fun r ρ'' μ'' ⟨e, h1, h2, h3, e'⟩ => ?_)
    · refine HB.compare (HE.var hbt (HE.cInt (op_lt ⟨_, rfl, ?_⟩)))
      by_cases hlt : b < 0
      · rw [if_pos (by simpa using hlt)]
        refine HS.one (HX.assign (HE.binary (HE.cInt (HE.var h1 (op_sub ⟨rfl, ?_, ht, hbt, rfl⟩)))))
        rw [if_pos hlt, Int.zero_sub]; rfl
      · rw [if_neg (by simpa using hlt)]
        refine HS.nil ⟨rfl, ?_, ht, hbt, rfl⟩
        rw [if_neg hlt]; exact h1
    · subst e e'
      refine HS.one (HX.ret (HE.tuple (HAs.cons ?_)))
      refine HE.binary (HE.var h2 (HE.var h1 (op_div h0 (DivRoom.of am hA hF) (HAs.cons ?_))))
      refine HE.binary (HE.var h3 (HE.var h1 (op_div h0 (DivRoom.of am hA hF) (HAs.nil ?_))))
      rw [low_num t b hb, low_den t b hb]
      exact q
theorem fn_plus (am : Am w B) {m n : Nat} {p q : Rat} (hp : Sz m p) (hq : Sz n q) (hz : m + n ≤ 134217728) {Q : V → Mem → Prop} (k : Q (rat (p + q)) μ) : Fn PG w B 2 (.ref 259) [rat p, rat q] μ Q := by
  refine Fn.enter (K := laid w.params) (names := ["one", "other"]) am (ho := by k_is) (hcd := by k_is) ?_ rfl rfl rfl (fun vs h => by obtain ⟨x, y, rfl⟩ := len2 h; rfl) (by decide) (by rfl) (by decide)
  intro A L hA hF
  have hu : A.units + 64 < 9900 := by have := hA.units; omega
  refine HS.one (HX.ret (HE.fn am (by k_is) (by k_is) (HAs.cons ?_)))
  refine HE.binary (HE.binary (HE.nth 0 rfl rfl (HE.nth 1 rfl rfl (op_mul (.of_le hp.1 hq.2 hz) ?_))))
  refine HE.binary (HE.nth 0 rfl rfl (HE.nth 1 rfl rfl (op_mul (.of_le hq.1 hp.2 (by omega)) (op_add (HAs.cons ?_)))))
  refine HE.binary (HE.nth 1 rfl rfl (HE.nth 1 rfl rfl (op_mul (.of_le hp.2 hq.2 hz) (HAs.nil (BC.of_fn (fn_lowest am mul_den_ne ?_) hA)))))
  rw [← add_is]; exact k
theorem fn_times (am : Am w B) {m n : Nat} {p q : Rat} (hp : Sz m p) (hq : Sz n q) (hz : m + n ≤ 134217728) {Q : V → Mem → Prop} (k : Q (rat (p * q)) μ) : Fn PG w B 2 (.ref 266) [rat p, rat q] μ Q := by
  refine Fn.enter (K := laid w.params) (names := ["one", "other"]) am (ho := by k_is) (hcd := by k_is) ?_ rfl rfl rfl (fun vs h => by obtain ⟨x, y, rfl⟩ := len2 h; rfl) (by decide) (by rfl) (by decide)
  intro A L hA hF
  have hu : A.units + 64 < 9900 := by have := hA.units; omega
  refine HS.one (HX.ret (HE.fn am (by k_is) (by k_is) (HAs.cons ?_)))
  refine HE.binary (HE.nth 0 rfl rfl (HE.nth 0 rfl rfl (op_mul (.of_le hp.1 hq.1 hz) (HAs.cons ?_))))
  refine HE.binary (HE.nth 1 rfl rfl (HE.nth 1 rfl rfl (op_mul (.of_le hp.2 hq.2 hz) (HAs.nil (BC.of_fn (fn_lowest am mul_den_ne ?_) hA)))))
  rw [← mul_is]; exact k
end
end Tab
end
noncomputable section
open PySem PySem.W PyProof.Rows PySem.Calls
open Builtin.Int (intBits)
set_option maxRecDepth 100000
namespace Tab
section
variable {prog : Program} {w : World} {B : Heap} {A : Around} {env : Env} {ρ : Loc} {μ : Mem} {K : Frag}
theorem HFor.inv {α : Type} (f : α → V) {t body} {Q : FR → Loc → Mem → Prop} (I : List α → Loc → Mem → Prop)
    (step : ∀ c r ρ μ, I (c :: r) ρ μ → HAsg prog w B A env t (f c) ρ μ fun ρ' μ' => HS prog w B A env body ρ' μ' fun res ρ'' μ'' => match res with
      | .next | .cont => I r ρ'' μ''
      | .brk => Q .next ρ'' μ''
      | .ret v => Q (.ret v) ρ'' μ'') (fin : ∀ ρ μ, I [] ρ μ → Q .next ρ μ) : ∀ l ρ μ, I l ρ μ → HFor prog w B A env t body Q (l.map f) ρ μ
  | [], ρ, μ, h => fin ρ μ h
  | c :: r, ρ, μ, h => fun ξ s v g fr rp => wpAny_mono (step c r ρ μ h ξ s v g fr rp) (fun _ s' ⟨ρ', μ', ξ', a, b, e, d, q⟩ => ⟨ρ', μ', ξ', a, b, e, d, q.mono fun res ρ'' μ'' z => by
      cases res with
      | next => exact HFor.inv f I step fin r ρ'' μ'' z
      | cont => exact HFor.inv f I step fin r ρ'' μ'' z
      | brk => exact z
      | ret v => exact z⟩) fun _ _ x => x
theorem HTests.mono {ifs} {Q Q' : Bool → Mem → Prop} (h : HTests prog w B A env ifs ρ μ Q) (k : ∀ b μ', Q b μ' → Q' b μ') : HTests prog w B A env ifs ρ μ Q' := fun ξ s g f =>
  wpAny_mono (h ξ s g f) (fun _ _ ⟨μ', ξ', a, c, d, q⟩ => ⟨μ', ξ', a, c, d, k _ _ q⟩) fun _ _ x => x
theorem HComp.inv {α : Type} (f : α → V) {x : Str} {ifs elt} {Q : List V → Mem → Prop} (I : List α → List V → Mem → Prop)
    (step : ∀ y r acc μ, I (y :: r) acc μ → HTests prog w B A env ifs ((x, f y) :: ρ) μ fun ok μ' => if ok then HE prog w B A env elt ((x, f y) :: ρ) μ' fun z μ'' => I r (acc ++ [z]) μ'' else I r acc μ')
    (fin : ∀ acc μ, I [] acc μ → Q acc μ) : ∀ l acc μ, I l acc μ → HComp prog w B A env x ifs elt ρ Q (l.map f) acc μ
  | [], acc, μ, h => fin acc μ h
  | y :: r, acc, μ, h => (step y r acc μ h).mono fun ok μ' z => by
      cases ok with
      | true => exact HE.mono (by simpa using z) fun u μ'' q => HComp.inv f I step fin r _ μ'' q
      | false => exact HComp.inv f I step fin r acc μ' (by simpa using z)
theorem HComp.pure {α : Type} (f : α → V) {x : Str} {ifs elt} {Q : List V → Mem → Prop} (p : α → Bool) (g : α → V) : ∀ (l : List α) (acc : List V)
    (_ : ∀ y ∈ l, HTests prog w B A env ifs ((x, f y) :: ρ) μ fun ok μ' => ok = p y ∧ μ' = μ ∧ (p y = true → HE prog w B A env elt ((x, f y) :: ρ) μ fun z μ'' => z = g y ∧ μ'' = μ))
    (_ : Q (acc ++ (l.filter p).map g) μ), HComp prog w B A env x ifs elt ρ Q (l.map f) acc μ
  | [], acc, _, q => by simpa [HComp] using q
  | y :: r, acc, step, q => (step y (.head _)).mono fun ok μ' ⟨e1, e2, h⟩ => by
      subst e1
      have e2' := e2.symm
      clear e2
      subst e2'
      cases hp : p y with
      | true =>
        rw [if_pos rfl]
        refine HE.mono (h hp) fun z μ'' ⟨e3, e4⟩ => ?_
        have e4' := e4.symm
        clear e4
        subst e3 e4'
        refine HComp.pure f p g r _ (fun y hy => step y (.tail _ hy)) ?_
        rw [List.filter_cons, if_pos hp] at q
        simpa using q
      | false =>
        rw [if_neg (by simp)]
        refine HComp.pure f p g r _ (fun y hy => step y (.tail _ hy)) ?_
        rw [List.filter_cons, if_neg (by simp [hp])] at q
        exact q
theorem HComp.map {α : Type} (f : α → V) {x : Str} {elt} {Q : List V → Mem → Prop} (g : α → V) (l : List α)
    (h : ∀ y ∈ l, HE prog w B A env elt ((x, f y) :: ρ) μ fun z μ'' => z = g y ∧ μ'' = μ) (q : Q (l.map g) μ) : HComp prog w B A env x [] elt ρ Q (l.map f) [] μ :=
  HComp.pure f (fun _ => true) g l [] (fun y hy => HTests.nil ⟨rfl, rfl, fun _ => h y hy⟩) (by rw [List.filter_eq_self.mpr (by simp)]; exact q)
end

section
variable {α β : Type}
theorem dget_nil (k : Int) : dget ([] : List (Int × α)) k = none := rfl
theorem dget_cons (p : Int × α) (r : List (Int × α)) (k : Int) : dget (p :: r) k = if p.1 = k then some p.2 else dget r k := by
  unfold dget
  rw [List.find?_cons]
  by_cases h : p.1 = k
  · simp [h]
  · simp [h]
theorem dget_map (f : α → β) (k : Int) : ∀ l : List (Int × α), dget (l.map fun p => (p.1, f p.2)) k = (dget l k).map f
  | [] => rfl
  | p :: r => by
    rw [List.map_cons, dget_cons, dget_cons, dget_map f k r]
    split <;> rfl
theorem ddel_map (f : α → β) (k : Int) (l : List (Int × α)) : ddel (l.map fun p => (p.1, f p.2)) k = (ddel l k).map fun p => (p.1, f p.2) := by
  unfold ddel
  rw [List.filter_map]
  rfl
theorem dset_map (f : α → β) (k : Int) (v : α) (l : List (Int × α)) : dset (l.map fun p => (p.1, f p.2)) k (f v) = (dset l k v).map fun p => (p.1, f p.2) := by
  unfold dset
  rw [List.any_map]
  show (if l.any (fun p => decide (p.1 = k)) = true then _ else _) = _
  split
  · rw [List.map_map, List.map_map]
    apply List.map_congr_left
    intro p _
    simp only [Function.comp]
    split <;> rfl
  · simp
theorem dget_append (l m : List (Int × α)) (k : Int) : dget (l ++ m) k = (dget l k).or (dget m k) := by
  unfold dget
  rw [List.find?_append]
  cases l.find? (fun p => decide (p.1 = k)) <;> rfl
theorem any_iff (l : List (Int × α)) (k : Int) : l.any (fun p => decide (p.1 = k)) = true ↔ (dget l k).isSome = true := by
  unfold dget
  rw [Option.isSome_map, List.find?_isSome, List.any_eq_true]
theorem dget_mapset (l : List (Int × α)) (k : Int) (v : α) (k' : Int) : dget (l.map fun p => if p.1 = k then (p.1, v) else p) k' = if k' = k then (dget l k).map (fun _ => v) else dget l k' := by
  induction l with
  | nil => simp [dget]
  | cons p r ih =>
    rw [List.map_cons, dget_cons, dget_cons, dget_cons, ih]
    by_cases h : p.1 = k
    · by_cases h' : k' = k
      · subst h'; simp [h]
      · have : p.1 ≠ k' := fun e => h' (e.symm.trans h)
        simp [h, h', this, Ne.symm h']
    · by_cases h' : k' = k
      · subst h'; simp [h]
      · simp [h, h']
theorem dget_dset (l : List (Int × α)) (k : Int) (v : α) (k' : Int) : dget (dset l k v) k' = if k' = k then some v else dget l k' := by
  unfold dset
  split
  · rename_i h
    rw [dget_mapset]
    split
    · rw [any_iff] at h
      obtain ⟨x, hx⟩ := Option.isSome_iff_exists.mp h
      rw [hx]; rfl
    · rfl
  · rename_i h
    rw [dget_append, dget_cons, dget_nil]
    by_cases e : k' = k
    · subst e
      have hn : dget l k' = none := by
        cases q : dget l k' with
        | none => rfl
        | some x => rw [any_iff, q] at h; exact absurd rfl h
      rw [hn]; simp
    · have e' : ¬ k = k' := fun q => e q.symm
      cases dget l k' <;> simp [e, e']
theorem dget_ddel (l : List (Int × α)) (k k' : Int) : dget (ddel l k) k' = if k' = k then none else dget l k' := by
  induction l with
  | nil => simp [ddel, dget]
  | cons p r ih =>
    unfold ddel at ih ⊢
    rw [List.filter_cons]
    by_cases h : p.1 = k
    · rw [if_neg (by simp [h]), ih, dget_cons]
      split
      · rfl
      · rename_i e; rw [if_neg (fun q => e (q.symm.trans h))]
    · rw [if_pos (by simp [h]), dget_cons, dget_cons, ih]
      by_cases e : k' = k
      · subst e; simp [h]
      · simp [e]
theorem mem_of_dget {l : List (Int × α)} {k : Int} {x : α} (h : dget l k = some x) : (k, x) ∈ l := by
  induction l with
  | nil => simp [dget] at h
  | cons p r ih =>
    rw [dget_cons] at h
    split at h
    · rename_i e
      cases h
      subst e
      exact .head _
    · exact .tail _ (ih h)
theorem dget_of_mem {l : List (Int × α)} {k : Int} {x : α} (hn : (l.map (·.1)).Nodup) (h : (k, x) ∈ l) : dget l k = some x := by
  induction l with
  | nil => cases h
  | cons p r ih =>
    rw [List.map_cons, List.nodup_cons] at hn
    rw [dget_cons]
    rcases List.mem_cons.mp h with e | h
    · subst e; simp
    · have : p.1 ≠ k := fun e => hn.1 (by rw [e]; exact List.mem_map.mpr ⟨_, h, rfl⟩)
      rw [if_neg this]; exact ih hn.2 h
theorem dget_key {l : List (Int × α)} {k : Int} : (dget l k).isSome = true ↔ k ∈ l.map (·.1) := by
  induction l with
  | nil => simp [dget]
  | cons p r ih =>
    rw [dget_cons, List.map_cons, List.mem_cons, ← ih]
    by_cases h : p.1 = k
    · simp [h]
    · simp [h, Ne.symm h]
theorem dset_keys (l : List (Int × α)) (k : Int) (v : α) : (dset l k v).map (·.1) = if k ∈ l.map (·.1) then l.map (·.1) else l.map (·.1) ++ [k] := by
  unfold dset
  by_cases h : k ∈ l.map (·.1)
  · rw [if_pos h, if_pos ((any_iff l k).mpr (dget_key.mpr h)), List.map_map]
    apply List.map_congr_left
    intro p _
    simp only [Function.comp]
    split <;> rfl
  · rw [if_neg h, if_neg (fun q => h (dget_key.mp ((any_iff l k).mp q)))]
    simp
theorem ddel_keys (l : List (Int × α)) (k : Int) : (ddel l k).map (·.1) = (l.map (·.1)).filter fun c => decide (c ≠ k) := by
  unfold ddel
  rw [List.filter_map]
  rfl
theorem dset_nodup {l : List (Int × α)} (h : (l.map (·.1)).Nodup) (k : Int) (v : α) : ((dset l k v).map (·.1)).Nodup := by
  rw [dset_keys]
  split
  · exact h
  · rename_i hk
    rw [List.nodup_append]
    refine ⟨h, by simp, ?_⟩
    intro a ha b hb
    simp at hb
    subst hb
    exact fun e => hk (e ▸ ha)
theorem ddel_nodup {l : List (Int × α)} (h : (l.map (·.1)).Nodup) (k : Int) : ((ddel l k).map (·.1)).Nodup := by
  rw [ddel_keys]; exact h.filter _
end

abbrev Row := List (Int × Rat)
def rd (es : Row) : List (Int × V) := es.map fun p => (p.1, rat p.2)
def val (es : Row) (c : Int) : Rat := (dget es c).getD 0
structure OkR (es : Row) : Prop where
  nodup : (es.map (·.1)).Nodup
  nz : ∀ p ∈ es, p.2 ≠ 0
  rng : ∀ p ∈ es, 1 ≤ p.1 ∧ p.1 ≤ 5
theorem rd_get (es : Row) (c : Int) : dget (rd es) c = (dget es c).map rat := dget_map rat c es
theorem rd_len (es : Row) : (rd es).length = es.length := List.length_map ..
theorem rd_keys (es : Row) : (rd es).map (·.1) = es.map (·.1) := by unfold rd; rw [List.map_map]; rfl
theorem OkR.get {es} (h : OkR es) (c : Int) : dget es c = if val es c = 0 then none else some (val es c) := by
  unfold val
  cases q : dget es c with
  | none => simp
  | some x =>
    have := h.nz _ (mem_of_dget q)
    simp only at this
    simp [this]
theorem OkR.mem {es} (h : OkR es) (c : Int) : c ∈ es.map (·.1) ↔ val es c ≠ 0 := by
  rw [← dget_key, h.get c]
  by_cases e : val es c = 0 <;> simp [e]
theorem nodup_le5 : ∀ (l : List Int), l.Nodup → (∀ c ∈ l, 1 ≤ c ∧ c ≤ 5) → l.length ≤ 5 := by
  intro l hn hr
  have h : ∀ (n : Nat) (l : List Int), l.Nodup → (∀ c ∈ l, 1 ≤ c ∧ c ≤ (n : Int)) → l.length ≤ n := by
    intro n
    induction n with
    | zero => intro l _ h; cases l with
      | nil => simp
      | cons c r => have := h c (.head _); omega
    | succ n ih =>
      intro l hn h
      have h1 : (l.filter fun c => decide (c ≠ ((n + 1 : Nat) : Int))).length ≤ n := ih _ (hn.filter _) fun c hc => by
        obtain ⟨a, b⟩ := List.mem_filter.mp hc
        have := h c a
        have b' : c ≠ ((n + 1 : Nat) : Int) := by simpa using b
        omega
      have h2 : ∀ (l : List Int), l.Nodup → l.length ≤ (l.filter fun c => decide (c ≠ ((n + 1 : Nat) : Int))).length + 1 := by
        intro l
        induction l with
        | nil => intro _; simp
        | cons c r ih2 =>
          intro hn
          rw [List.nodup_cons] at hn
          rw [List.filter_cons]
          by_cases e : c = ((n + 1 : Nat) : Int)
          · have : (r.filter fun c => decide (c ≠ ((n + 1 : Nat) : Int))) = r := List.filter_eq_self.mpr fun x hx => decide_eq_true fun q => hn.1 (by rw [e, ← q]; exact hx)
            rw [if_neg (by simp [e]), this, List.length_cons]
            exact Nat.le_refl _
          · rw [if_pos (decide_eq_true e), List.length_cons, List.length_cons]
            have := ih2 hn.2
            omega
      have := h2 l hn
      omega
  exact h 5 l hn fun c hc => by have := hr c hc; omega
theorem OkR.len {es} (h : OkR es) : es.length ≤ 5 := by
  have := nodup_le5 (es.map (·.1)) h.nodup fun c hc => by
    obtain ⟨p, hp, rfl⟩ := List.mem_map.mp hc
    exact h.rng p hp
  simpa using this
theorem OkR.nil : OkR [] := ⟨.nil, by simp, by simp⟩
theorem val_nil (c : Int) : val [] c = 0 := rfl
theorem OkR.zero {es} (h : OkR es) {c : Int} (hc : ¬ (1 ≤ c ∧ c ≤ 5)) : val es c = 0 := by
  apply Classical.byContradiction
  intro e
  have := (h.mem c).mpr e
  obtain ⟨p, hp, rfl⟩ := List.mem_map.mp this
  exact hc (h.rng p hp)
theorem val_dset (es : Row) (c : Int) (x : Rat) (d : Int) : val (dset es c x) d = if d = c then x else val es d := by
  unfold val; rw [dget_dset]; split <;> rfl
theorem val_ddel (es : Row) (c : Int) (d : Int) : val (ddel es c) d = if d = c then 0 else val es d := by
  unfold val; rw [dget_ddel]; split <;> rfl
theorem OkR.dset {es} (h : OkR es) {c : Int} {x : Rat} (hx : x ≠ 0) (hc : 1 ≤ c ∧ c ≤ 5) : OkR (dset es c x) := by
  refine ⟨dset_nodup h.nodup _ _, fun p hp => ?_, fun p hp => ?_⟩
  · have := dget_of_mem (dset_nodup h.nodup c x) (show (p.1, p.2) ∈ _ from hp)
    rw [dget_dset] at this
    split at this
    · cases this; exact hx
    · exact h.nz _ (mem_of_dget this)
  · have : p.1 ∈ (Tab.dset es c x).map (·.1) := List.mem_map.mpr ⟨p, hp, rfl⟩
    rw [dset_keys] at this
    have key : p.1 ∈ es.map (·.1) → 1 ≤ p.1 ∧ p.1 ≤ 5 := fun q => by
      obtain ⟨r, hr, e⟩ := List.mem_map.mp q
      rw [← e]; exact h.rng r hr
    split at this
    · exact key this
    · rcases List.mem_append.mp this with q | q
      · exact key q
      · simp at q; rw [q]; exact hc
theorem OkR.ddel {es} (h : OkR es) (c : Int) : OkR (ddel es c) := by
  refine ⟨ddel_nodup h.nodup _, fun p hp => h.nz p (List.mem_filter.mp hp).1, fun p hp => h.rng p (List.mem_filter.mp hp).1⟩
theorem rd_dset (es : Row) (c : Int) (x : Rat) : dset (rd es) c (rat x) = rd (dset es c x) := dset_map rat c x es
theorem rd_ddel (es : Row) (c : Int) : ddel (rd es) c = rd (ddel es c) := ddel_map rat c es
end Tab
end
noncomputable section
open PySem PySem.W PyProof.Rows PySem.Calls
open Builtin.Int (intBits)
set_option maxRecDepth 100000
namespace Tab
structure Tb where
  x : Addr
  dx : Addr
  R : Addr
  L : Addr
abbrev Tb.self (t : Tb) : V := .obj t.x 241 t.dx
abbrev Tb.kv (t : Tb) : List (Str × V) := [("values", .raw (.ref t.L)), ("rows", .raw (.ref t.R))]

theorem dict_ne {μ : Mem} {a b : Addr} {o o'} (h1 : μ a = some o) (h2 : μ b = some o') (h : o ≠ o') : a ≠ b := fun e => by subst e; rw [h1] at h2; exact h (Option.some.inj h2)

section
variable {w : World} {B : Heap} {μ : Mem}
theorem zero_rep (am : Am w B) : ∀ (ξ : Xs) (h : Heap), Good PG w B μ ξ h → Rep μ ξ h (rat 0) (.ref 51) := fun ξ h g => by
  have hb := am.inK 51 _ (by k_is)
  obtain ⟨h1, h2⟩ := g.base _ _ hb
  unfold rat
  rw [Rep]
  exact ⟨51, _, _, rfl, h2, h1, .two int_rep int_rep⟩
theorem one_rep (am : Am w B) : ∀ (ξ : Xs) (h : Heap), Good PG w B μ ξ h → Rep μ ξ h (rat 1) (.ref 52) := fun ξ h g => by
  have hb := am.inK 52 _ (by k_is)
  obtain ⟨h1, h2⟩ := g.base _ _ hb
  unfold rat
  rw [Rep]
  exact ⟨52, _, _, rfl, h2, h1, .two int_rep int_rep⟩
theorem dzero_rep (am : Am w B) : ∀ (ξ : Xs) (h : Heap), Good PG w B μ ξ h → Rep μ ξ h (rat2 (0, 0)) (.ref 123) := fun ξ h g => by
  have hb := am.inK 123 _ (by k_is)
  obtain ⟨h1, h2⟩ := g.base _ _ hb
  unfold rat2
  rw [Rep]
  exact ⟨123, _, _, rfl, h2, h1, .two (zero_rep am ξ h g) (zero_rep am ξ h g)⟩

theorem fn_add_entry (am : Am w B) {self : V} {a : Addr} {es : Row} {c : Int} {f : Rat} {m n : Nat} (hm : μ a = some (.dict (rd es))) (ok : OkR es) (hc : 1 ≤ c ∧ c ≤ 5) (h1 : Sz m (val es c)) (h2 : Sz n f) (hz : m + n ≤ 134217728)
    {Q : V → Mem → Prop} (k : ∀ es', OkR es' → (∀ d, val es' d = if d = c then val es c + f else val es d) → Q (.raw .none) (μ.set a (.dict (rd es')))) : Fn PG w B 4 (.ref 182) [self, .raw (.ref a), .int c, rat f] μ Q := by
  refine Fn.enter (K := laid w.params) (names := ["self", "row", "column", "factor"]) am (ho := by k_is) (hcd := by k_is) ?_ rfl rfl rfl (fun vs h => by obtain ⟨x, y, z, u, rfl⟩ := len4 h; rfl) (by decide) (by rfl) (by decide)
  intro A L hA hF
  have hu : A.units + 64 < 9900 := by have := hA.units; omega
  refine HS.cons (HX.assign (HE.fn am (by k_is) (by k_is) (HAs.cons ?_)))
  refine HE.bmeth am F.plainAttrs_dict F.slot_dict_get F.type_dict_get (HE.var rfl ⟨dict_ty hm, HAs.cons (HE.var rfl (HAs.cons (HE.glob am (v := .ref 51) (by k_is) (zero_rep am) (HAs.nil (bc_get hm ?_)))))⟩)
  have hv : (dget (rd es) c).getD (rat 0) = rat (val es c) := by
    rw [rd_get]; unfold val; cases dget es c <;> rfl
  rw [hv]
  refine HAs.cons (HE.var rfl (HAs.nil (BC.of_fn (fn_add am h1 h2 hz ?_) hA)))
  refine HS.one (HX.ite (HB.compare (HE.nth 0 rfl rfl (HE.cInt (op_eq rfl rfl hu fun b hb => ⟨b, rfl, ?_⟩)))))
  rw [int_eq hb]
  by_cases h0 : val es c + f = 0
  · rw [decide_eq_true (Rat.num_eq_zero.mpr h0), if_pos rfl]
    refine HS.one (HX.expr (HE.bmeth am F.plainAttrs_dict F.slot_dict_pop F.type_dict_pop (HE.var rfl ⟨dict_ty hm, HAs.cons (HE.var rfl (HAs.cons (HE.cNone (HAs.nil (bc_popD hm (by rw [rd_len]; have := ok.len; omega) fun z => ?_)))))⟩)))
    rw [rd_ddel]
    refine k _ (ok.ddel c) fun d => ?_
    rw [val_ddel, h0]
  · rw [decide_eq_false (fun e => h0 (Rat.num_eq_zero.mp e)), if_neg (by simp)]
    refine HS.one (HX.setItem (HE.var rfl (HE.var rfl (HE.var rfl (set_dict hm (by rw [rd_len]; have := ok.len; omega) ?_)))))
    rw [rd_dset]
    exact k _ (ok.dset h0 hc) fun d => val_dset ..
theorem mem_srt {c : Int} {l : List Int} : c ∈ srt l ↔ c ∈ l := (srt_perm l).mem_iff
theorem srt_nodup {l : List Int} (h : l.Nodup) : (srt l).Nodup := (srt_perm l).nodup_iff.mpr h
theorem srt_len (l : List Int) : (srt l).length = l.length := (srt_perm l).length_eq
theorem rat_zero_mul (q : Rat) : (0 : Rat) * q = 0 := by grind

theorem fn_add_multiple (am : Am w B) {t : Tb} {a b : Addr} {es oe : Row} {f : Rat} {m n k : Nat} (ha : μ t.dx = some (.attrs t.kv)) (hm : μ a = some (.dict (rd es))) (hb : μ b = some (.dict (rd oe))) (hab : a ≠ b) (ok : OkR es) (oo : OkR oe)
    (h1 : ∀ c, Sz m (val es c)) (h2 : ∀ c, Sz n (val oe c)) (h3 : Sz k f) (hz : m + (n + k) ≤ 134217728)
    {Q : V → Mem → Prop} (q : ∀ es', OkR es' → (∀ d, val es' d = val es d + val oe d * f) → Q (.raw .none) (μ.set a (.dict (rd es')))) : Fn PG w B 5 (.ref 189) [t.self, .raw (.ref a), .raw (.ref b), rat f] μ Q := by
  refine Fn.enter (K := laid w.params) (names := ["self", "row", "other", "factor"]) am (ho := by k_is) (hcd := by k_is) ?_ rfl rfl rfl (fun vs h => by obtain ⟨x, y, z, u, rfl⟩ := len4 h; rfl) (by decide) (by rfl) (by decide)
  intro A L hA hF
  have hu : A.units + 64 < 9900 := by have := hA.units; omega
  have hda : t.dx ≠ a := dict_ne ha hm (by simp)
  refine HS.one (HX.forI ?_)
  refine HE.bi am (by k_is) (by rfl) (HAs.cons (HE.var rfl (HAs.nil (bc_sortedD hA.handled hb (by rw [rd_len]; have := oo.len; omega) ⟨_, iter_lst hA.handled, ?_⟩))))
  rw [rd_keys]
  refine HFor.inv V.int (fun l ρ μ' => ∃ es', ρ.get "self" = some t.self ∧ ρ.get "row" = some (.raw (.ref a)) ∧ ρ.get "other" = some (.raw (.ref b)) ∧ ρ.get "factor" = some (rat f) ∧ OkR es' ∧ l.Nodup ∧ (∀ c ∈ l, val oe c ≠ 0) ∧
    (∀ d, val es' d = if d ∈ l then val es d else val es d + val oe d * f) ∧ μ' = μ.set a (.dict (rd es'))) ?_ ?_ _ _ _ ⟨es, rfl, rfl, rfl, rfl, ok, srt_nodup oo.nodup, fun c hc => (oo.mem c).mp (mem_srt.mp hc), fun d => ?_, (Mem.set_id hm).symm⟩
  · rintro c l ρ μ' ⟨es', r1, r2, r3, r4, ok', hn, hl, hv, rfl⟩
    have hc0 := hl c (.head _)
    have hcr : 1 ≤ c ∧ c ≤ 5 := Classical.byContradiction fun e => hc0 (oo.zero e)
    rw [List.nodup_cons] at hn
    have hvc : val es' c = val es c := by rw [hv c, if_pos (.head _)]
    refine HAsg.name (HS.one (HX.expr ?_))
    refine HE.meth am (by k_is) (by k_is) (by k_is) (by k_is) (HE.var r1 ⟨_, _, _, rfl, by rw [Mem.set_ne hda]; exact ha, rfl, HAs.cons (HE.var r2 (HAs.cons (HE.var rfl (HAs.cons ?_))))⟩)
    refine HE.fn am (by k_is) (by k_is) (HAs.cons (HE.sub (HE.var r3 (HE.var rfl (sub_dict (z := rat (val oe c)) (by rw [Mem.set_ne (Ne.symm hab)]; exact hb) ?_ (HAs.cons (HE.var r4 (HAs.nil (BC.of_fn (fn_mul am (h2 c) h3 (by omega) ?_) (hA.less (by decide)))))))))))
    · rw [rd_get, oo.get c, if_neg hc0]; rfl
    · refine HAs.nil (BC.of_fn (fn_add_entry am (Mem.set_self ..) ok' hcr (by rw [hvc]; exact h1 c) ((h2 c).mul h3) hz fun es'' ok'' hv'' => ?_) hA)
      rw [Mem.set_set]
      refine ⟨es'', r1, r2, r3, r4, ok'', hn.2, fun c hc => hl c (.tail _ hc), fun d => ?_, rfl⟩
      rw [hv'' d]
      by_cases e : d = c
      · subst e
        rw [if_pos rfl, if_neg hn.1, hvc]
      · rw [if_neg e, hv d]
        have : d ∈ c :: l ↔ d ∈ l := by simp [e]
        simp only [this]
  · rintro ρ μ' ⟨es', _, _, _, _, ok', _, _, hv, rfl⟩
    exact q es' ok' fun d => by rw [hv d]; simp
  · split
    · rfl
    · rename_i h
      have : val oe d = 0 := Classical.byContradiction fun e => h (mem_srt.mpr ((oo.mem d).mpr e))
      rw [this]; grind
end
end Tab
end
noncomputable section
open PySem PySem.W PyProof.Rows PySem.Calls
open Builtin.Int (intBits)
set_option maxRecDepth 100000
namespace Tab
structure TS where
  rows : List (Int × Addr)
  ent : Int → Row
  vals : List (Rat × Rat)
def rw' (r : List (Int × Addr)) : List (Int × V) := r.map fun p => (p.1, .raw (.ref p.2))
abbrev TS.bs (s : TS) : List Int := s.rows.map (·.1)
structure At (t : Tb) (s : TS) (μ : Mem) : Prop where
  attrs : μ t.dx = some (.attrs t.kv)
  rows : μ t.R = some (.dict (rw' s.rows))
  vals : μ t.L = some (.list (s.vals.map rat2))
  ent : ∀ p ∈ s.rows, μ p.2 = some (.dict (rd (s.ent p.1)))
  nB : s.bs.Nodup
  nA : (s.rows.map (·.2)).Nodup
  apR : ∀ p ∈ s.rows, p.2 ≠ t.R
  ok : ∀ b ∈ s.bs, OkR (s.ent b)
  rng : ∀ b ∈ s.bs, 1 ≤ b ∧ b ≤ 5
  len : s.vals.length ≤ 6
def own (t : Tb) (s : TS) (a : Addr) : Prop := a = t.R ∨ a = t.L ∨ a ∈ s.rows.map (·.2)
structure Step (t : Tb) (s s' : TS) (μ μ' : Mem) : Prop where
  keep : ∀ a, μ a ≠ none → ¬ own t s a → μ' a = μ a
  owns : ∀ a, own t s' a → own t s a ∨ μ a = none
theorem Step.refl {t s μ} : Step t s s μ μ := ⟨fun _ _ _ => rfl, fun _ h => .inl h⟩
theorem Step.trans {t s₁ s₂ s₃ μ₁ μ₂ μ₃} (h : Step t s₁ s₂ μ₁ μ₂) (k : Step t s₂ s₃ μ₂ μ₃) : Step t s₁ s₃ μ₁ μ₃ where
  keep a h1 h2 := by
    have e := h.keep a h1 h2
    rw [← e]
    exact k.keep a (by rw [e]; exact h1) fun o => (h.owns a o).elim h2 h1
  owns a o := by
    rcases k.owns a o with q | q
    · exact h.owns a q
    · by_cases h1 : μ₁ a = none
      · exact .inr h1
      · by_cases h2 : own t s₁ a
        · exact .inl h2
        · rw [h.keep a h1 h2] at q; exact .inr q

theorem rw_get (r : List (Int × Addr)) (b : Int) : dget (rw' r) b = (dget r b).map fun a => .raw (.ref a) := dget_map (fun a => V.raw (.ref a)) b r
theorem rw_keys (r : List (Int × Addr)) : (rw' r).map (·.1) = r.map (·.1) := by unfold rw'; rw [List.map_map]; rfl
theorem rw_len (r : List (Int × Addr)) : (rw' r).length = r.length := List.length_map ..
theorem rw_ddel (r : List (Int × Addr)) (b : Int) : ddel (rw' r) b = rw' (ddel r b) := ddel_map (fun a => V.raw (.ref a)) b r
theorem rw_dset (r : List (Int × Addr)) (b : Int) (a : Addr) : dset (rw' r) b (.raw (.ref a)) = rw' (dset r b a) := dset_map (fun a => V.raw (.ref a)) b a r

section
variable {t : Tb} {s : TS} {μ : Mem}
theorem At.len_rows (h : At t s μ) : s.rows.length ≤ 5 := by
  have := nodup_le5 s.bs h.nB h.rng
  simpa using this
theorem At.row (h : At t s μ) {b : Int} (hb : b ∈ s.bs) : ∃ a, dget s.rows b = some a ∧ (b, a) ∈ s.rows ∧ μ a = some (.dict (rd (s.ent b))) := by
  obtain ⟨a, e⟩ := Option.isSome_iff_exists.mp (dget_key.mpr hb)
  exact ⟨a, e, mem_of_dget e, h.ent _ (mem_of_dget e)⟩
theorem At.dxR (h : At t s μ) : t.dx ≠ t.R := dict_ne h.attrs h.rows (by simp)
theorem At.dxL (h : At t s μ) : t.dx ≠ t.L := dict_ne h.attrs h.vals (by simp)
theorem At.RL (h : At t s μ) : t.R ≠ t.L := dict_ne h.rows h.vals (by simp)
theorem At.dxA (h : At t s μ) {p} (hp : p ∈ s.rows) : t.dx ≠ p.2 := dict_ne h.attrs (h.ent p hp) (by simp)
theorem At.LA (h : At t s μ) {p} (hp : p ∈ s.rows) : t.L ≠ p.2 := dict_ne h.vals (h.ent p hp) (by simp)
theorem At.dx_own (h : At t s μ) : ¬ own t s t.dx := by
  rintro (e | e | e)
  · exact h.dxR e
  · exact h.dxL e
  · obtain ⟨p, hp, e⟩ := List.mem_map.mp e
    exact h.dxA hp e.symm
theorem addr_inj (h : (s.rows.map (·.2)).Nodup) {p q : Int × Addr} (hp : p ∈ s.rows) (hq : q ∈ s.rows) (e : p.2 = q.2) : p = q := by
  obtain ⟨r, en, v⟩ := s
  dsimp only at *
  induction r with
  | nil => cases hp
  | cons x r ih =>
    rw [List.map_cons, List.nodup_cons] at h
    rcases List.mem_cons.mp hp with hp | hp <;> rcases List.mem_cons.mp hq with hq | hq
    · rw [hp, hq]
    · exact absurd (List.mem_map.mpr ⟨q, hq, by rw [← e, hp]⟩) h.1
    · exact absurd (List.mem_map.mpr ⟨p, hp, by rw [e, hq]⟩) h.1
    · exact ih h.2 hp hq
theorem key_inj (h : s.bs.Nodup) {p q : Int × Addr} (hp : p ∈ s.rows) (hq : q ∈ s.rows) (e : p.1 = q.1) : p = q := by
  have h1 := dget_of_mem (x := p.2) h (show (p.1, p.2) ∈ _ from hp)
  have h2 := dget_of_mem (x := q.2) h (show (q.1, q.2) ∈ _ from hq)
  rw [e, h2] at h1
  exact Prod.ext e (Option.some.inj h1).symm
def TS.put (s : TS) (b : Int) (es : Row) : TS := { s with ent := fun x => if x = b then es else s.ent x }
theorem At.put (h : At t s μ) {b : Int} {a : Addr} {es : Row} (hb : (b, a) ∈ s.rows) (ok : OkR es) : At t (s.put b es) (μ.set a (.dict (rd es))) where
  attrs := by rw [Mem.set_ne (h.dxA hb)]; exact h.attrs
  rows := by rw [Mem.set_ne (fun e => h.apR _ hb e.symm)]; exact h.rows
  vals := by rw [Mem.set_ne (h.LA hb)]; exact h.vals
  ent p hp := by
    show (μ.set a _) p.2 = some (.dict (rd (if p.1 = b then es else s.ent p.1)))
    by_cases e : p.1 = b
    · have := key_inj (s := s) h.nB hp hb e
      subst this
      rw [if_pos rfl, Mem.set_self]
    · have : p.2 ≠ a := fun q => e (congrArg Prod.fst (addr_inj (s := s) h.nA hp hb q))
      rw [if_neg e, Mem.set_ne this]; exact h.ent p hp
  nB := h.nB
  nA := h.nA
  apR := h.apR
  ok c hc := by
    show OkR (if c = b then es else s.ent c)
    split
    · exact ok
    · exact h.ok c hc
  rng := h.rng
  len := h.len
theorem Step.put {b : Int} {a : Addr} {es : Row} {o} (hb : (b, a) ∈ s.rows) : Step t s (s.put b es) μ (μ.set a o) where
  keep c h1 h2 := Mem.set_ne fun e => h2 (.inr (.inr (List.mem_map.mpr ⟨_, hb, e.symm⟩)))
  owns c h := .inl h
theorem At.alloc (h : At t s μ) {a : Addr} {o : MObj} (ha : μ a = none) : At t s (μ.set a o) := by
  have ne : ∀ c mo, μ c = some mo → c ≠ a := fun c mo e q => by rw [q, ha] at e; cases e
  exact ⟨by rw [Mem.set_ne (ne _ _ h.attrs)]; exact h.attrs, by rw [Mem.set_ne (ne _ _ h.rows)]; exact h.rows, by rw [Mem.set_ne (ne _ _ h.vals)]; exact h.vals,
    fun p hp => by rw [Mem.set_ne (ne _ _ (h.ent p hp))]; exact h.ent p hp, h.nB, h.nA, h.apR, h.ok, h.rng, h.len⟩
theorem At.other (h : At t s μ) {a : Addr} {o : MObj} (ha : ¬ own t s a) (hd : a ≠ t.dx) : At t s (μ.set a o) :=
  ⟨by rw [Mem.set_ne (Ne.symm hd)]; exact h.attrs, by rw [Mem.set_ne (fun e => ha (.inl e.symm))]; exact h.rows, by rw [Mem.set_ne (fun e => ha (.inr (.inl e.symm)))]; exact h.vals,
    fun p hp => by rw [Mem.set_ne (fun e => ha (.inr (.inr (List.mem_map.mpr ⟨p, hp, e⟩))))]; exact h.ent p hp, h.nB, h.nA, h.apR, h.ok, h.rng, h.len⟩
theorem Step.alloc {a : Addr} {o : MObj} (ha : μ a = none) : Step t s s μ (μ.set a o) :=
  ⟨fun c h _ => Mem.set_ne fun e => h (by rw [e]; exact ha), fun _ h => .inl h⟩
def TS.drop (s : TS) (b : Int) : TS := { s with rows := ddel s.rows b }
theorem drop_mem' {s : TS} {b : Int} {p} : p ∈ (s.drop b).rows ↔ p ∈ s.rows ∧ p.1 ≠ b := by
  show p ∈ ddel s.rows b ↔ _
  unfold ddel
  rw [List.mem_filter]
  simp
theorem drop_bs {s : TS} {b c : Int} : c ∈ (s.drop b).bs ↔ c ∈ s.bs ∧ c ≠ b := by
  show c ∈ (ddel s.rows b).map (·.1) ↔ _
  rw [ddel_keys, List.mem_filter]
  simp
theorem At.drop (h : At t s μ) (b : Int) : At t (s.drop b) (μ.set t.R (.dict (rw' (s.drop b).rows))) where
  attrs := by rw [Mem.set_ne h.dxR]; exact h.attrs
  rows := Mem.set_self ..
  vals := by rw [Mem.set_ne (Ne.symm h.RL)]; exact h.vals
  ent p hp := by
    have hp' := (drop_mem'.mp hp).1
    rw [Mem.set_ne (h.apR p hp')]; exact h.ent p hp'
  nB := ddel_nodup h.nB b
  nA := h.nA.sublist (List.Sublist.map _ List.filter_sublist)
  apR p hp := h.apR p (drop_mem'.mp hp).1
  ok c hc := h.ok c (drop_bs.mp hc).1
  rng c hc := h.rng c (drop_bs.mp hc).1
  len := h.len
theorem Step.drop {b : Int} {o} : Step t s (s.drop b) μ (μ.set t.R o) where
  keep c h1 h2 := Mem.set_ne fun e => h2 (.inl e)
  owns c h := .inl (by
    rcases h with h | h | h
    · exact .inl h
    · exact .inr (.inl h)
    · obtain ⟨p, hp, e⟩ := List.mem_map.mp h
      exact .inr (.inr (List.mem_map.mpr ⟨p, (drop_mem'.mp hp).1, e⟩)))
def TS.more (s : TS) (b : Int) (a : Addr) (es : Row) : TS := { s with rows := s.rows ++ [(b, a)], ent := fun x => if x = b then es else s.ent x }
theorem dset_new {α : Type} {l : List (Int × α)} {k : Int} {v : α} (h : k ∉ l.map (·.1)) : dset l k v = l ++ [(k, v)] := by
  unfold dset
  rw [if_neg (fun q => h (dget_key.mp ((any_iff l k).mp q)))]
theorem more_bs {s : TS} {b c : Int} {a es} : c ∈ (s.more b a es).bs ↔ c ∈ s.bs ∨ c = b := by
  show c ∈ (s.rows ++ [(b, a)]).map (·.1) ↔ _
  simp [TS.bs]
theorem At.more (h : At t s μ) {b : Int} {a : Addr} {es : Row} (hb : b ∉ s.bs) (ha : μ a = some (.dict (rd es))) (ho : ¬ own t s a) (ok : OkR es) (hr : 1 ≤ b ∧ b ≤ 5) :
    At t (s.more b a es) (μ.set t.R (.dict (rw' (s.more b a es).rows))) where
  attrs := by rw [Mem.set_ne h.dxR]; exact h.attrs
  rows := Mem.set_self ..
  vals := by rw [Mem.set_ne (Ne.symm h.RL)]; exact h.vals
  ent p hp := by
    show (μ.set t.R _) p.2 = some (.dict (rd (if p.1 = b then es else s.ent p.1)))
    rcases List.mem_append.mp hp with hp | hp
    · have : p.1 ≠ b := fun e => hb (List.mem_map.mpr ⟨p, hp, e⟩)
      rw [if_neg this, Mem.set_ne (h.apR p hp)]; exact h.ent p hp
    · simp at hp
      subst hp
      rw [if_pos rfl, Mem.set_ne (fun e => ho (.inl e))]; exact ha
  nB := by
    show ((s.rows ++ [(b, a)]).map (·.1)).Nodup
    rw [List.map_append, List.nodup_append]
    refine ⟨h.nB, by simp, fun x hx y hy e => ?_⟩
    simp at hy
    subst hy e
    exact hb hx
  nA := by
    show ((s.rows ++ [(b, a)]).map (·.2)).Nodup
    rw [List.map_append, List.nodup_append]
    refine ⟨h.nA, by simp, fun x hx y hy e => ?_⟩
    simp at hy
    subst hy e
    exact ho (.inr (.inr hx))
  apR p hp := by
    rcases List.mem_append.mp hp with hp | hp
    · exact h.apR p hp
    · simp at hp
      subst hp
      exact fun e => ho (.inl e)
  ok c hc := by
    show OkR (if c = b then es else s.ent c)
    split
    · exact ok
    · rename_i e
      exact h.ok c ((more_bs.mp hc).resolve_right e)
  rng c hc := by
    rcases more_bs.mp hc with q | q
    · exact h.rng c q
    · subst q; exact hr
  len := h.len
theorem Step.more {b : Int} {a : Addr} {es : Row} {o} : ∀ {μ₀ : Mem}, (μ₀ a = none ∨ own t s a) → Step t s s μ₀ μ → Step t s (s.more b a es) μ₀ (μ.set t.R o) := fun {μ₀} ha st =>
  { keep := fun c h1 h2 => by rw [Mem.set_ne (fun e => h2 (.inl e))]; exact st.keep c h1 h2
    owns := fun c h => by
      rcases h with h | h | h
      · exact .inl (.inl h)
      · exact .inl (.inr (.inl h))
      · rw [show ((s.more b a es).rows.map (·.2)) = s.rows.map (·.2) ++ [a] by show (s.rows ++ [(b, a)]).map (·.2) = _; simp] at h
        rcases List.mem_append.mp h with h | h
        · exact .inl (.inr (.inr h))
        · simp at h
          subst h
          exact ha.elim .inr .inl }
def TS.setv (s : TS) (v : List (Rat × Rat)) : TS := { s with vals := v }
theorem At.setv (h : At t s μ) {v : List (Rat × Rat)} (hv : v.length ≤ 6) : At t (s.setv v) (μ.set t.L (.list (v.map rat2))) where
  attrs := by rw [Mem.set_ne h.dxL]; exact h.attrs
  rows := by rw [Mem.set_ne h.RL]; exact h.rows
  vals := Mem.set_self ..
  ent p hp := by rw [Mem.set_ne (Ne.symm (h.LA hp))]; exact h.ent p hp
  nB := h.nB
  nA := h.nA
  apR := h.apR
  ok := h.ok
  rng := h.rng
  len := hv
theorem Step.setv {v : List (Rat × Rat)} {o} : Step t s (s.setv v) μ (μ.set t.L o) where
  keep c h1 h2 := Mem.set_ne fun e => h2 (.inr (.inl e))
  owns c h := .inl h
end
end Tab
end
noncomputable section
open PySem PySem.W PyProof.Rows PySem.Calls
open Builtin.Int (intBits)
set_option maxRecDepth 100000
namespace Tab
section
variable {w : World} {B : Heap} {μ : Mem} {t : Tb} {s : TS}
theorem HE.rows {A : Around} {env : Env} {ρ : Loc} {x px pos} {Q : V → Mem → Prop} (am : Am w B) (hv : ρ.lookup x = some t.self) (ha : At t s μ) (q : Q (.raw (.ref t.R)) μ)
    (hk : env.scope.kind = .function := by rfl) (hx : (env.kindOf x == some .local || env.kindOf x == some .cell || env.kindOf x == some .free) = true := by rfl)
    (hd : (x == ("__debug__" : Str)) = false := by decide) (hc : (x == ("__classdict__" : Str)) = false := by decide)
    (he : eval (.Attribute (.Name x px) "rows" pos) env = (do
      let o' ← eval (.Name x px) env
      standAt pos.atName
      let r ← holding [o'] (getAttr o' "rows" true)
      letTemporaryGo (.Name x px) o' r
      pure r) := by with_unfolding_all rfl) : HE PG w B A env (.Attribute (.Name x px) "rows" pos) ρ μ Q :=
  HE.attr am (by k_is) (by k_is) (by k_is) (by k_is) (HE.var hv ⟨_, _, _, _, rfl, ha.attrs, rfl, by simp, q⟩ hk hx hd hc) he
theorem HE.vals {A : Around} {env : Env} {ρ : Loc} {x px pos} {Q : V → Mem → Prop} (am : Am w B) (hv : ρ.lookup x = some t.self) (ha : At t s μ) (q : Q (.raw (.ref t.L)) μ)
    (hk : env.scope.kind = .function := by rfl) (hx : (env.kindOf x == some .local || env.kindOf x == some .cell || env.kindOf x == some .free) = true := by rfl)
    (hd : (x == ("__debug__" : Str)) = false := by decide) (hc : (x == ("__classdict__" : Str)) = false := by decide)
    (he : eval (.Attribute (.Name x px) "values" pos) env = (do
      let o' ← eval (.Name x px) env
      standAt pos.atName
      let r ← holding [o'] (getAttr o' "values" true)
      letTemporaryGo (.Name x px) o' r
      pure r) := by with_unfolding_all rfl) : HE PG w B A env (.Attribute (.Name x px) "values" pos) ρ μ Q :=
  HE.attr am (by k_is) (by k_is) (by k_is) (by k_is) (HE.var hv ⟨_, _, _, _, rfl, ha.attrs, rfl, by simp, q⟩ hk hx hd hc) he

theorem At.isB (ha : At t s μ) (c : Int) : (dget (rw' s.rows) c).isSome = decide (c ∈ s.bs) := by
  rw [rw_get, Option.isSome_map, Bool.eq_iff_iff, dget_key]; simp
theorem At.getB (ha : At t s μ) {b : Int} (hb : b ∈ s.bs) : ∃ a, (b, a) ∈ s.rows ∧ dget (rw' s.rows) b = some (.raw (.ref a)) ∧ μ a = some (.dict (rd (s.ent b))) := by
  obtain ⟨a, h1, h2, h3⟩ := ha.row hb
  exact ⟨a, h2, by rw [rw_get, h1]; rfl, h3⟩

theorem fn_is_basic (am : Am w B) (ha : At t s μ) {c : Int} {Q : V → Mem → Prop} (q : Q (.raw (.bool (decide (c ∈ s.bs)))) μ) : Fn PG w B 1 (.ref 151) [t.self, .int c] μ Q := by
  refine Fn.enter (K := laid w.params) (names := ["self", "column"]) am (ho := by k_is) (hcd := by k_is) ?_ rfl rfl rfl (fun vs h => by obtain ⟨x, y, rfl⟩ := len2 h; rfl) (by decide) (by rfl) (by decide)
  intro A L hA hF
  refine HS.one (HX.ret (HE.compare (HE.var rfl (HE.rows am rfl ha (op_inD ha.rows ?_)))))
  rw [ha.isB]; exact q
theorem val_get {c : Int} {x : Rat × Rat} (h : s.vals[c.toNat]? = some x) : (s.vals.map rat2)[c.toNat]? = some (rat2 x) := by rw [List.getElem?_map, h]; rfl
theorem fn_value (am : Am w B) (ha : At t s μ) {c : Int} {x : Rat × Rat} (h0 : 0 ≤ c) (hc : c < 1000) (hx : s.vals[c.toNat]? = some x) {Q : V → Mem → Prop} (q : Q (rat2 x) μ) : Fn PG w B 1 (.ref 158) [t.self, .int c] μ Q := by
  refine Fn.enter (K := laid w.params) (names := ["self", "column"]) am (ho := by k_is) (hcd := by k_is) ?_ rfl rfl rfl (fun vs h => by obtain ⟨x, y, rfl⟩ := len2 h; rfl) (by decide) (by rfl) (by decide)
  intro A L hA hF
  exact HS.one (HX.ret (HE.sub (HE.vals am rfl ha (HE.var rfl (sub_list ha.vals h0 hc (val_get hx) q)))))
theorem fn_basics (am : Am w B) (ha : At t s μ) {Q : V → Mem → Prop} (q : Q (.lst (il (srt s.bs))) μ) : Fn PG w B 1 (.ref 170) [t.self] μ Q := by
  refine Fn.enter (K := laid w.params) (names := ["self"]) am (ho := by k_is) (hcd := by k_is) ?_ rfl rfl rfl (fun vs h => by obtain ⟨x, rfl⟩ := len1 h; rfl) (by decide) (by rfl) (by decide)
  intro A L hA hF
  refine HS.one (HX.ret (HE.bi am (by k_is) (by rfl) (HAs.cons (HE.rows am rfl ha (HAs.nil (bc_sortedD hA.handled ha.rows (by rw [rw_len]; have := ha.len_rows; omega) ?_))))))
  rw [rw_keys]; exact q
theorem fn_new_column (am : Am w B) (ha : At t s μ) (hl : s.vals.length ≤ 5) {Q : V → Mem → Prop} (q : At t (s.setv (s.vals ++ [(0, 0)])) (μ.set t.L (.list ((s.vals ++ [(0, 0)]).map rat2))) → Q (.int s.vals.length) (μ.set t.L (.list ((s.vals ++ [(0, 0)]).map rat2)))) : Fn PG w B 1 (.ref 144) [t.self] μ Q := by
  refine Fn.enter (K := laid w.params) (names := ["self"]) am (ho := by k_is) (hcd := by k_is) ?_ rfl rfl rfl (fun vs h => by obtain ⟨x, rfl⟩ := len1 h; rfl) (by decide) (by rfl) (by decide)
  intro A L hA hF
  refine HS.cons (HX.expr (HE.bmeth am F.plainAttrs_list F.slot_list_append type_list_append (HE.vals am rfl ha ⟨list_ty ha.vals, HAs.cons (HE.glob am (v := .ref 123) (by k_is) (dzero_rep am) (HAs.nil (bc_append ha.vals (by simp; omega) ?_)))⟩)))
  have e : (s.vals.map rat2 ++ [rat2 (0, 0)]) = (s.vals ++ [(0, 0)]).map rat2 := by simp
  rw [e]
  have ha' := ha.setv (v := s.vals ++ [(0, 0)]) (by simp; omega)
  refine HS.one (HX.ret (HE.binary (HE.bi am (by k_is) (by rfl) (HAs.cons (HE.vals am rfl ha' (HAs.nil (bc_lenL ha'.vals (by simp [TS.setv]; omega) (HE.cInt (op_sub ?_)))))))))
  have : ((((s.setv (s.vals ++ [(0, 0)])).vals.map rat2).length : Int) - 1) = s.vals.length := by simp [TS.setv]
  rw [this]
  exact q ha'
end
end Tab
end
noncomputable section
open PySem PySem.W PyProof.Rows PySem.Calls
open Builtin.Int (intBits)
set_option maxRecDepth 100000
namespace Tab
section
variable {w : World} {B : Heap} {μ : Mem} {t : Tb} {s : TS}
def ent1 (es : Row) (c : Int) : V := .tup [.int c, rat (val es c)]
theorem rd_val {es : Row} (ok : OkR es) {c : Int} (hc : c ∈ es.map (·.1)) : dget (rd es) c = some (rat (val es c)) := by
  rw [rd_get, ok.get c, if_neg ((ok.mem c).mp hc)]; rfl
theorem fn_row (am : Am w B) (ha : At t s μ) {b : Int} (hb : b ∈ s.bs) {Q : V → Mem → Prop} (q : Q (.lst ((srt ((s.ent b).map (·.1))).map (ent1 (s.ent b)))) μ) : Fn PG w B 1 (.ref 163) [t.self, .int b] μ Q := by
  refine Fn.enter (K := laid w.params) (names := ["self", "basic"]) am (ho := by k_is) (hcd := by k_is) ?_ rfl rfl rfl (fun vs h => by obtain ⟨x, y, rfl⟩ := len2 h; rfl) (by decide) (by rfl) (by decide)
  intro A L hA hF
  obtain ⟨a, h1, h2, h3⟩ := ha.getB hb
  have ok := ha.ok b hb
  refine HS.cons (HX.assign (HE.sub (HE.rows am rfl ha (HE.var rfl (sub_dict ha.rows h2 ?_)))))
  refine HS.one (HX.ret (HE.comp ?_))
  refine HE.bi am (by k_is) (by rfl) (HAs.cons (HE.var rfl (HAs.nil (bc_sortedD hA.handled h3 (by rw [rd_len]; have := ok.len; omega) ⟨_, iter_lst hA.handled, ?_, fun C => ?_⟩))))
  · rw [rd_keys]; unfold il; rw [List.length_map, srt_len, List.length_map]; have := ok.len; omega
  · rw [rd_keys]
    refine HComp.map V.int (ent1 (s.ent b)) _ (fun c hc => ?_) q
    refine HE.tuple (HAs.cons (HE.var rfl (HAs.cons (HE.sub (HE.var rfl (HE.var rfl (sub_dict h3 (rd_val ok (mem_srt.mp hc)) (HAs.nil ⟨rfl, rfl⟩))))))))
theorem fn_basics_with (am : Am w B) (ha : At t s μ) {c : Int} {Q : V → Mem → Prop} (q : Q (.lst (il ((srt s.bs).filter fun b => decide (val (s.ent b) c ≠ 0)))) μ) : Fn PG w B 1 (.ref 175) [t.self, .int c] μ Q := by
  refine Fn.enter (K := laid w.params) (names := ["self", "column"]) am (ho := by k_is) (hcd := by k_is) ?_ rfl rfl rfl (fun vs h => by obtain ⟨x, y, rfl⟩ := len2 h; rfl) (by decide) (by rfl) (by decide)
  intro A L hA hF
  refine HS.one (HX.ret (HE.comp ?_))
  refine HE.bi am (by k_is) (by rfl) (HAs.cons (HE.rows am rfl ha (HAs.nil (bc_sortedD hA.handled ha.rows (by rw [rw_len]; have := ha.len_rows; omega) ⟨_, iter_lst hA.handled, ?_, fun C => ?_⟩))))
  · rw [rw_keys]; unfold il; rw [List.length_map, srt_len, List.length_map]; have := ha.len_rows; omega
  · rw [rw_keys]
    refine HComp.pure V.int (fun b => decide (val (s.ent b) c ≠ 0)) V.int _ [] (fun b hb => HTests.one (HB.compare ?_)) q
    obtain ⟨a, h1, h2, h3⟩ := ha.getB (mem_srt.mp hb)
    have ok := ha.ok b (mem_srt.mp hb)
    refine HE.var rfl (HE.sub (HE.rows am rfl ha (HE.var rfl (sub_dict ha.rows h2 (op_inD h3 ⟨_, rfl, ?_, rfl, fun _ => HE.var rfl ⟨rfl, rfl⟩⟩)))))
    rw [rd_get, ok.get c]
    by_cases e : val (s.ent b) c = 0 <;> simp [e]
def lsum (f : Int → Rat) : List Int → Rat
  | [] => 0
  | c :: r => f c + lsum f r
def sm (f : Int → Rat) : Rat := lsum f [1, 2, 3, 4, 5]
theorem lsum_perm {f : Int → Rat} {l m : List Int} (p : l.Perm m) : lsum f l = lsum f m := by
  induction p with
  | nil => rfl
  | cons c _ ih => simp only [lsum, ih]
  | swap a b l => simp only [lsum]; grind
  | trans _ _ h1 h2 => exact h1.trans h2
theorem lsum_filter {f : Int → Rat} {p : Int → Bool} : ∀ {l : List Int}, (∀ c ∈ l, p c = false → f c = 0) → lsum f (l.filter p) = lsum f l
  | [], _ => rfl
  | c :: l, h => by
    rw [List.filter_cons]
    have ih := lsum_filter (f := f) (p := p) (l := l) fun c hc => h c (.tail _ hc)
    cases hp : p c with
    | true => rw [if_pos rfl, lsum, lsum, ih]
    | false => rw [if_neg (by simp), lsum, ih, h c (.head _) hp]; grind
theorem lsum_sm {f : Int → Rat} {l : List Int} (hn : l.Nodup) (hr : ∀ c ∈ l, 1 ≤ c ∧ c ≤ 5) (h0 : ∀ c, c ∉ l → f c = 0) : lsum f l = sm f := by
  have hp : l.Perm (([1, 2, 3, 4, 5] : List Int).filter fun c => decide (c ∈ l)) := by
    refine (List.perm_ext_iff_of_nodup hn ((show ([1, 2, 3, 4, 5] : List Int).Nodup by decide).filter _)).mpr fun c => ?_
    rw [List.mem_filter]
    constructor
    · intro hc
      refine ⟨?_, by simpa using hc⟩
      have := hr c hc
      simp only [List.mem_cons, List.not_mem_nil, or_false]
      omega
    · intro hc
      simpa using hc.2
  rw [lsum_perm hp, lsum_filter fun c _ hc => h0 c (by simpa using hc)]
  rfl
theorem OkR.keys_rng {es : Row} (ok : OkR es) : ∀ c ∈ srt (es.map (·.1)), 1 ≤ c ∧ c ≤ 5 := fun c hc => by
  obtain ⟨p, hp, rfl⟩ := List.mem_map.mp (mem_srt.mp hc)
  exact ok.rng p hp
theorem lsum_row {es : Row} (ok : OkR es) {f : Int → Rat} (h : ∀ c, val es c = 0 → f c = 0) : lsum f (srt (es.map (·.1))) = sm f :=
  lsum_sm (srt_nodup ok.nodup) ok.keys_rng fun c hc => h c (Classical.byContradiction fun e => hc (mem_srt.mpr ((ok.mem c).mpr e)))
def TS.vv (s : TS) (c : Int) : Rat × Rat := (s.vals[c.toNat]?).getD (0, 0)
theorem vv_get {s : TS} {c : Int} (h : c.toNat < s.vals.length) : s.vals[c.toNat]? = some (s.vv c) := by
  unfold TS.vv
  rw [List.getElem?_eq_getElem h]; rfl
theorem sz_one {n : Nat} (h : 1 ≤ n) : Sz n 0 := ⟨intBits_le_iff.mpr (Nat.two_pow_pos _), intBits_le_iff.mpr (by
  show 1 < 2 ^ n
  exact Nat.lt_of_lt_of_le (show 1 < 2 ^ 1 by decide) (Nat.pow_le_pow_right (by decide) h))⟩
theorem fn_sum_of (am : Am w B) (ha : At t s μ) {a : Addr} {es : Row} {R W j : Nat} (hm : μ a = some (.dict (rd es))) (ok : OkR es) (h1 : ∀ c, Sz R (val es c)) (h2 : ∀ c, val es c ≠ 0 → Sz2 W (s.vv c)) (hin : ∀ c, val es c ≠ 0 → c.toNat < s.vals.length)
    (hj : es.length ≤ j) (hz : 1 + j * (W + R + 1) ≤ 134217728)
    {Q : V → Mem → Prop} (q : ∀ z : Rat × Rat, z.1 = sm (fun c => (s.vv c).1 * val es c) → z.2 = sm (fun c => (s.vv c).2 * val es c) → Sz2 (1 + j * (W + R + 1)) z → Q (rat2 z) μ) : Fn PG w B 5 (.ref 196) [t.self, .raw (.ref a)] μ Q := by
  refine Fn.enter (K := laid w.params) (names := ["self", "row"]) am (ho := by k_is) (hcd := by k_is) ?_ rfl rfl rfl (fun vs h => by obtain ⟨x, y, rfl⟩ := len2 h; rfl) (by decide) (by rfl) (by decide)
  intro A L hA hF
  refine HS.cons (HX.assign (HE.glob am (v := .ref 123) (by k_is) (dzero_rep am) ?_))
  refine HS.cons (HX.forI ?_)
  refine HE.bi am (by k_is) (by rfl) (HAs.cons (HE.var rfl (HAs.nil (bc_sortedD hA.handled hm (by rw [rd_len]; have := ok.len; omega) ⟨_, iter_lst hA.handled, ?_⟩))))
  rw [rd_keys]
  refine HFor.inv V.int (fun l ρ μ' => ∃ (z : Rat × Rat) (m : Nat), ρ.get "self" = some t.self ∧ ρ.get "row" = some (.raw (.ref a)) ∧ ρ.get "found" = some (rat2 z) ∧
    z.1 + lsum (fun c => (s.vv c).1 * val es c) l = sm (fun c => (s.vv c).1 * val es c) ∧ z.2 + lsum (fun c => (s.vv c).2 * val es c) l = sm (fun c => (s.vv c).2 * val es c) ∧
    Sz2 m z ∧ m + l.length * (W + R + 1) ≤ 1 + j * (W + R + 1) ∧ (∀ c ∈ l, c ∈ es.map (·.1)) ∧ μ' = μ) ?_ ?_ _ _ _ ⟨(0, 0), 1, rfl, rfl, rfl, ?_, ?_, ⟨sz_one (Nat.le_refl _), sz_one (Nat.le_refl _)⟩, ?_, fun c hc => mem_srt.mp hc, rfl⟩
  · rintro c l ρ μ' ⟨z, m, r1, r2, r3, e1, e2, sz, hsz, hl, rfl⟩
    have hc := hl c (.head _)
    have hc0 := (ok.mem c).mp hc
    have hcr : 1 ≤ c ∧ c ≤ 5 := Classical.byContradiction fun e => hc0 (ok.zero e)
    rw [List.length_cons, Nat.succ_mul] at hsz
    refine HAsg.name (HS.one (HX.assign ?_))
    refine HE.fn am (by k_is) (by k_is) (HAs.cons (HE.var r3 (HAs.cons ?_)))
    refine HE.fn am (by k_is) (by k_is) (HAs.cons (HE.sub (HE.vals am r1 ha (HE.var rfl (sub_list ha.vals (by omega) (by omega) (val_get (vv_get (hin c hc0))) (HAs.cons ?_))))))
    refine HE.sub (HE.var r2 (HE.var rfl (sub_dict hm (rd_val ok hc) (HAs.nil (BC.of_fn (fn_dscale am (h2 c hc0) (h1 c) (by omega) ?_) hA)))))
    refine HAs.nil (BC.of_fn (fn_dadd am sz (n := W + R) ⟨(h2 c hc0).1.mul (h1 c), (h2 c hc0).2.mul (h1 c)⟩ (by omega) ?_) hA)
    refine ⟨_, m + (W + R) + 1, r1, r2, rfl, ?_, ?_, ⟨sz.1.add ((h2 c hc0).1.mul (h1 c)), sz.2.add ((h2 c hc0).2.mul (h1 c))⟩, by omega, fun c hc => hl c (.tail _ hc), rfl⟩
    · rw [← e1, lsum]; dsimp only; grind
    · rw [← e2, lsum]; dsimp only; grind
  · rintro ρ μ' ⟨z, m, r1, r2, r3, e1, e2, sz, hsz, hl, rfl⟩
    rw [lsum] at e1 e2
    refine HS.one (HX.ret (HE.var r3 (q z (by rw [← e1]; grind) (by rw [← e2]; grind) ⟨sz.1.mono ?_, sz.2.mono ?_⟩))) <;> (simp at hsz; omega)
  · rw [lsum_row ok fun c hc => by rw [hc]; grind]; dsimp only; grind
  · rw [lsum_row ok fun c hc => by rw [hc]; grind]; dsimp only; grind
  · rw [srt_len, List.length_map]
    have := Nat.mul_le_mul_right (W + R + 1) hj
    omega
end
end Tab
end
noncomputable section
open PySem PySem.W PyProof.Rows PySem.Calls
open Builtin.Int (intBits)
set_option maxRecDepth 100000
namespace Tab
theorem rat_inj_ne {p q : V} (h : p ≠ q) : ¬ p = q := h
theorem Sz.one1 : Sz 1 1 := ⟨by decide, by decide⟩
theorem inv_ne {x : Rat} (h : x ≠ 0) : (1 : Rat) / x ≠ 0 := by grind
theorem rat_mul_ne {x y : Rat} (h : x ≠ 0) (k : y ≠ 0) : x * y ≠ 0 := by grind
theorem rat_neg_ne {x : Rat} (h : x ≠ 0) : -x ≠ 0 := by grind
theorem val_one (b : Int) (x : Rat) (d : Int) : val [(b, x)] d = if d = b then x else 0 := by
  unfold val
  rw [dget_cons, dget_nil]
  by_cases e : d = b
  · rw [if_pos e.symm, if_pos e]; rfl
  · rw [if_neg (Ne.symm e), if_neg e]; rfl
def turn (f : Int → Rat) (b c d : Int) : Rat := if d = b then 1 / f c else if d = c then 0 else -(f d * (1 / f c))
section
variable {w : World} {B : Heap} {μ : Mem} {t : Tb} {s : TS}
theorem fn_turned (am : Am w B) (ha : At t s μ) {b c : Int} (hb : b ∈ s.bs) (hc : val (s.ent b) c ≠ 0) (hbb : val (s.ent b) b = 0) {R : Nat} (hR : ∀ d, Sz R (val (s.ent b) d)) (hz : 4 * R + 4 ≤ 134217728)
    {Q : V → Mem → Prop} (q : ∀ a' fr, μ a' = none → OkR fr → (∀ d, val fr d = turn (val (s.ent b)) b c d) → Q (.raw (.ref a')) (μ.set a' (.dict (rd fr)))) : Fn PG w B 4 (.ref 210) [t.self, .int b, .int c] μ Q := by
  refine Fn.enter (K := laid w.params) (names := ["self", "basic", "column"]) am (ho := by k_is) (hcd := by k_is) ?_ rfl rfl rfl (fun vs h => by obtain ⟨x, y, z, rfl⟩ := len3 h; rfl) (by decide) (by rfl) (by decide)
  intro A L hA hF
  have hu : A.units + 64 < 9900 := by have := hA.units; omega
  obtain ⟨a, h1, h2, h3⟩ := ha.getB hb
  have ok := ha.ok b hb
  have hbr := ha.rng b hb
  generalize hes : s.ent b = es at *
  have hck : c ∈ es.map (·.1) := (ok.mem c).mpr hc
  have hcb : c ≠ b := fun e => hc (by rw [e]; exact hbb)
  have hsh := inv_ne hc
  have szs : Sz (1 + R) (1 / val es c) := Sz.one1.div (hR c) hc
  refine HS.cons (HX.assign (HE.sub (HE.rows am rfl ha (HE.var rfl (sub_dict ha.rows h2 ?_)))))
  refine HS.cons (HX.assign ?_)
  refine HE.fn am (by k_is) (by k_is) (HAs.cons (HE.glob am (v := .ref 52) (by k_is) (one_rep am) (HAs.cons ?_)))
  refine HE.sub (HE.var rfl (HE.var rfl (sub_dict h3 (rd_val ok hck) (HAs.nil (BC.of_fn (fn_div am Sz.one1 (hR c) (by omega) hc ?_) (hA.less (by decide)))))))
  refine HS.cons (HX.assign (HE.dict1 am (HE.var rfl (HE.var rfl ⟨b, rfl, fun a' ha' => ?_⟩))))
  have haa : a ≠ a' := fun e => by rw [e, ha'] at h3; cases h3
  refine HS.cons (HX.forI ?_)
  have h3' : ∀ o, (μ.set a' o) a = some (.dict (rd es)) := fun o => by rw [Mem.set_ne haa]; exact h3
  refine HE.bi am (by k_is) (by rfl) (HAs.cons (HE.var rfl (HAs.nil (bc_sortedD hA.handled (h3' _) (by rw [rd_len]; have := ok.len; omega) ⟨_, iter_lst hA.handled, ?_⟩))))
  rw [rd_keys]
  refine HFor.inv V.int (fun l ρ μ' => ∃ fr, ρ.get "row" = some (.raw (.ref a)) ∧ ρ.get "share" = some (rat (1 / val es c)) ∧ ρ.get "found" = some (.raw (.ref a')) ∧ ρ.get "column" = some (.int c) ∧ OkR fr ∧ l.Nodup ∧
    (∀ d ∈ l, d ∈ es.map (·.1)) ∧ (∀ d, val fr d = if d ∈ l then 0 else turn (val es) b c d) ∧ μ' = μ.set a' (.dict (rd fr))) ?_ ?_ _ _ _ ⟨[(b, 1 / val es c)], rfl, rfl, rfl, rfl, ?_, srt_nodup ok.nodup, fun d hd => mem_srt.mp hd, fun d => ?_, rfl⟩
  · rintro d l ρ μ' ⟨fr, r1, r2, r3, r4, okf, hn, hl, hv, rfl⟩
    rw [List.nodup_cons] at hn
    have hd := hl d (.head _)
    have hd0 := (ok.mem d).mp hd
    have hdr : 1 ≤ d ∧ d ≤ 5 := Classical.byContradiction fun e => hd0 (ok.zero e)
    have hdb : d ≠ b := fun e => hd0 (by rw [e]; exact hbb)
    refine HAsg.name (HS.one (HX.ite (HB.compare (HE.var rfl (HE.var r4 (op_ne rfl rfl hu fun x hx => ⟨x, rfl, ?_⟩))))))
    have hxe : x = decide (d ≠ c) := by
      cases x with
      | true => exact (decide_eq_true (by have := hx.mp rfl; exact fun e => this (by rw [e]))).symm
      | false => exact (decide_eq_false fun e => by have := hx.mpr (fun q => e (by simpa using q)); cases this).symm
    subst hxe
    by_cases hdc : d = c
    · subst hdc
      rw [if_neg (by simp)]
      refine HS.nil ⟨fr, r1, r2, r3, r4, okf, hn.2, fun x hx => hl x (.tail _ hx), fun x => ?_, rfl⟩
      rw [hv x]
      by_cases e : x = d
      · subst e
        rw [if_pos (.head _), if_neg hn.1]
        unfold turn
        rw [if_neg hcb, if_pos rfl]
      · have : x ∈ d :: l ↔ x ∈ l := by simp [e]
        simp only [this]
    · rw [if_pos (by simp [hdc])]
      refine HS.one (HX.setItem ?_)
      refine HE.fn am (by k_is) (by k_is) (HAs.cons ?_)
      refine HE.fn am (by k_is) (by k_is) (HAs.cons (HE.sub (HE.var r1 (HE.var rfl (sub_dict (h3' _) (rd_val ok hd) (HAs.cons (HE.var r2 (HAs.nil (BC.of_fn (fn_mul am (hR d) szs (by omega) ?_) hA)))))))))
      refine HAs.nil (BC.of_fn (fn_neg am ?_) (hA.less (by decide)))
      refine HE.var r3 (HE.var rfl (set_dict (Mem.set_self ..) (by rw [rd_len]; have := okf.len; omega) ?_))
      rw [Mem.set_set, rd_dset]
      refine ⟨_, r1, r2, r3, r4, okf.dset (rat_neg_ne (rat_mul_ne hd0 hsh)) hdr, hn.2, fun x hx => hl x (.tail _ hx), fun x => ?_, rfl⟩
      rw [val_dset, hv x]
      by_cases e : x = d
      · subst e
        rw [if_pos rfl, if_neg hn.1]
        unfold turn
        rw [if_neg hdb, if_neg hdc]
      · have : x ∈ d :: l ↔ x ∈ l := by simp [e]
        simp only [this, if_neg e]
  · rintro ρ μ' ⟨fr, r1, r2, r3, r4, okf, hn, hl, hv, rfl⟩
    refine HS.one (HX.ret (HE.var r3 (q a' fr ha' okf fun d => ?_)))
    rw [hv d]; simp
  · refine ⟨by simp, by simp; exact hsh, by simp; exact hbr⟩
  · rw [val_one]
    by_cases e : d = b
    · subst e
      have : d ∉ srt (es.map (·.1)) := fun h => (ok.mem d).mp (mem_srt.mp h) hbb
      rw [if_pos rfl, if_neg this]
      unfold turn
      rw [if_pos rfl]
    · rw [if_neg e]
      split
      · rfl
      · rename_i hd
        have : val es d = 0 := Classical.byContradiction fun q => hd (mem_srt.mpr ((ok.mem d).mpr q))
        unfold turn
        rw [if_neg e, this]
        split
        · rfl
        · grind
end
end Tab
end
noncomputable section
open PySem PySem.W PyProof.Rows PySem.Calls
open Builtin.Int (intBits)
set_option maxRecDepth 100000
namespace Tab
theorem At.ne_own {t : Tb} {s : TS} {μ : Mem} (ha : At t s μ) {a : Addr} (h : μ a = none) : ¬ own t s a := by
  rintro (e | e | e)
  · rw [e, ha.rows] at h; cases h
  · rw [e, ha.vals] at h; cases h
  · obtain ⟨p, hp, e⟩ := List.mem_map.mp e
    rw [← e, ha.ent p hp] at h; cases h
theorem own_sub {t : Tb} {s s' : TS} {a : Addr} (h : ∀ p ∈ s'.rows, p ∈ s.rows) (o : own t s' a) : own t s a := by
  rcases o with e | e | e
  · exact .inl e
  · exact .inr (.inl e)
  · obtain ⟨p, hp, e⟩ := List.mem_map.mp e
    exact .inr (.inr (List.mem_map.mpr ⟨p, h p hp, e⟩))
theorem isSome_rd {es : Row} (ok : OkR es) (c : Int) : (dget (rd es) c).isSome = decide (val es c ≠ 0) := by
  rw [rd_get, ok.get c]
  by_cases e : val es c = 0 <;> simp [e]
theorem Step.more' {t : Tb} {s₀ s : TS} {μ₀ μ : Mem} {b : Int} {a : Addr} {es : Row} {o} (ha : μ₀ a = none ∨ own t s₀ a) (st : Step t s₀ s μ₀ μ) : Step t s₀ (s.more b a es) μ₀ (μ.set t.R o) where
  keep c h1 h2 := by rw [Mem.set_ne (fun e => h2 (.inl e))]; exact st.keep c h1 h2
  owns c h := by
    rcases h with h | h | h
    · exact .inl (.inl h)
    · exact .inl (.inr (.inl h))
    · rw [show ((s.more b a es).rows.map (·.2)) = s.rows.map (·.2) ++ [a] by show (s.rows ++ [(b, a)]).map (·.2) = _; simp] at h
      rcases List.mem_append.mp h with h | h
      · exact st.owns c (.inr (.inr h))
      · simp at h
        subst h
        exact ha.elim .inr .inl
def swap (f g : Int → Rat) (c d : Int) : Rat := (if d = c then 0 else g d) + f d * g c
theorem Sz.turn {f : Int → Rat} {b c : Int} {R : Nat} (hf : ∀ d, Sz R (f d)) (hc : f c ≠ 0) (h1 : 1 ≤ R) (d : Int) : Sz (2 * R + 1) (turn f b c d) := by
  unfold Tab.turn
  split
  · exact (Sz.one1.div (hf c) hc).mono (by omega)
  · split
    · exact sz_one (by omega)
    · exact ((hf d).mul (Sz.one1.div (hf c) hc)).neg.mono (by omega)
theorem Sz.swap {f g : Int → Rat} {c : Int} {R : Nat} (hf : ∀ d, Sz (2 * R + 1) (f d)) (hg : ∀ d, Sz R (g d)) (h1 : 1 ≤ R) (d : Int) : Sz (4 * R + 2) (swap f g c d) := by
  unfold Tab.swap
  have a : Sz R (if d = c then 0 else g d) := by
    split
    · exact sz_one h1
    · exact hg d
  exact (a.add ((hf d).mul (hg c))).mono (by omega)
section
variable {w : World} {B : Heap} {μ : Mem} {t : Tb} {s : TS}
theorem fn_pivot (am : Am w B) (ha : At t s μ) {b c : Int} (hb : b ∈ s.bs) (hc : val (s.ent b) c ≠ 0) (hbs : ∀ x ∈ s.bs, ∀ y ∈ s.bs, val (s.ent x) y = 0) {R : Nat} (h1R : 1 ≤ R) (hR : ∀ x ∈ s.bs, ∀ d, Sz R (val (s.ent x) d)) (hz : 4 * R + 4 ≤ 134217728)
    {Q : V → Mem → Prop} (q : ∀ s' μ', At t s' μ' → Step t s s' μ μ' → s'.vals = s.vals → (∀ x, x ∈ s'.bs ↔ (x ∈ s.bs ∧ x ≠ b) ∨ x = c) → (∀ d, val (s'.ent c) d = turn (val (s.ent b)) b c d) →
      (∀ x ∈ s.bs, x ≠ b → ∀ d, val (s'.ent x) d = swap (turn (val (s.ent b)) b c) (val (s.ent x)) c d) → Q (.raw .none) μ') : Fn PG w B 6 (.ref 217) [t.self, .int b, .int c] μ Q := by
  refine Fn.enter (K := laid w.params) (names := ["self", "basic", "column"]) am (ho := by k_is) (hcd := by k_is) ?_ rfl rfl rfl (fun vs h => by obtain ⟨x, y, z, rfl⟩ := len3 h; rfl) (by decide) (by rfl) (by decide)
  intro A L hA hF
  have hcb : c ∉ s.bs := fun h => hc (hbs b hb c h)
  have hcr : 1 ≤ c ∧ c ≤ 5 := Classical.byContradiction fun e => hc ((ha.ok b hb).zero e)
  have szT := Sz.turn (b := b) (hR b hb) hc h1R
  refine HS.cons (HX.assign (HE.meth am (by k_is) (by k_is) (by k_is) (by k_is) (HE.var rfl ⟨_, _, _, rfl, ha.attrs, rfl, HAs.cons (HE.var rfl (HAs.cons (HE.var rfl (HAs.nil (BC.of_fn (fn_turned am ha hb hc (hbs b hb b hb) (hR b hb) (by omega) fun a' fr ha' okf hfr => ?_) (hA.less (by decide)))))))⟩)))
  have hA1 := ha.alloc (o := .dict (rd fr)) ha'
  obtain ⟨ab, hb1, hb2, hb3⟩ := ha.getB hb
  refine HS.cons (HX.delItem (HE.rows am rfl hA1 (HE.var rfl ⟨_, _, _, rfl, rfl, hA1.rows, by rw [hb2]; rfl, by rw [rw_len]; have := ha.len_rows; omega, ?_⟩)))
  rw [rw_ddel]
  have hA2 := hA1.drop b
  have st2 : Step t s (s.drop b) μ ((μ.set a' (.dict (rd fr))).set t.R (.dict (rw' (s.drop b).rows))) := (Step.alloc ha').trans Step.drop
  have haR : a' ≠ t.R := fun e => by rw [e, ha.rows] at ha'; cases ha'
  have hno := ha.ne_own ha'
  have hrow : ∀ p ∈ (s.drop b).rows, p ∈ s.rows := fun p hp => (drop_mem'.mp hp).1
  refine HS.cons (HX.forI ?_)
  refine HE.bi am (by k_is) (by rfl) (HAs.cons (HE.rows am rfl hA2 (HAs.nil (bc_sortedD hA.handled hA2.rows (by rw [rw_len]; have := hA2.len_rows; omega) ⟨_, iter_lst hA.handled, ?_⟩))))
  rw [rw_keys]
  refine HFor.inv V.int (fun l ρ μ' => ∃ s', ρ.get "self" = some t.self ∧ ρ.get "column" = some (.int c) ∧ ρ.get "fresh" = some (.raw (.ref a')) ∧ At t s' μ' ∧ Step t s s' μ μ' ∧ s'.rows = (s.drop b).rows ∧ s'.vals = s.vals ∧ μ' a' = some (.dict (rd fr)) ∧
    l.Nodup ∧ (∀ x ∈ l, x ∈ (s.drop b).bs ∧ s'.ent x = s.ent x) ∧ (∀ x ∈ (s.drop b).bs, x ∉ l → ∀ d, val (s'.ent x) d = swap (turn (val (s.ent b)) b c) (val (s.ent x)) c d)) ?_ ?_ _ _ _
    ⟨s.drop b, rfl, rfl, rfl, hA2, st2, rfl, rfl, by rw [Mem.set_ne haR, Mem.set_self], srt_nodup hA2.nB, fun x hx => ⟨mem_srt.mp hx, rfl⟩, fun x hx hn => absurd (mem_srt.mpr hx) hn⟩
  · rintro x l ρ μ' ⟨s', r1, r2, r3, at', st', e1, e2, hfa, hn, hl, hv⟩
    rw [List.nodup_cons] at hn
    obtain ⟨hx, hxe⟩ := hl x (.head _)
    have hx' : x ∈ s'.bs := by show x ∈ s'.rows.map (·.1); rw [e1]; exact hx
    obtain ⟨hxs, hxb⟩ := drop_bs.mp hx
    obtain ⟨ax, p1, p2, p3⟩ := at'.getB hx'
    have okx := at'.ok x hx'
    rw [hxe] at p3 okx
    have hax : ax ≠ a' := fun e => hno (by
      rw [e1] at p1
      exact .inr (.inr (List.mem_map.mpr ⟨_, hrow _ p1, e⟩)))
    refine HAsg.name (HS.cons (HX.assign (HE.sub (HE.rows am r1 at' (HE.var rfl (sub_dict at'.rows p2 ?_))))))
    refine HS.one (HX.ite (HB.compare (HE.var r2 (HE.var rfl (op_inD p3 ⟨_, rfl, ?_⟩)))))
    rw [isSome_rd okx]
    by_cases h0 : val (s.ent x) c = 0
    · rw [if_neg (by simp [h0])]
      refine HS.nil ⟨s', r1, r2, r3, at', st', e1, e2, hfa, hn.2, fun y hy => hl y (.tail _ hy), fun y hy hyl d => ?_⟩
      by_cases e : y = x
      · subst e
        rw [hxe]
        unfold swap
        rw [h0]
        split
        · rename_i e; rw [e, h0]; grind
        · grind
      · exact hv y hy (by simp [e, hyl]) d
    · rw [if_pos (by simp [h0])]
      have hck : c ∈ (s.ent x).map (·.1) := (okx.mem c).mpr h0
      refine HS.cons (HX.assign (HE.bmeth am F.plainAttrs_dict F.slot_dict_pop F.type_dict_pop (HE.var rfl ⟨dict_ty p3, HAs.cons (HE.var r2 (HAs.nil (bc_pop p3 (rd_val okx hck) (by rw [rd_len]; have := okx.len; omega) ?_)))⟩)))
      rw [rd_ddel]
      have at2 := at'.put p1 (okx.ddel c)
      have okd := okx.ddel c
      refine HS.one (HX.expr (HE.meth am (by k_is) (by k_is) (by k_is) (by k_is) (HE.var r1 ⟨_, _, _, rfl, at2.attrs, rfl, ?_⟩)))
      refine HAs.cons (HE.var rfl (HAs.cons (HE.var r3 (HAs.cons (HE.var rfl (HAs.nil (BC.of_fn (fn_add_multiple (m := R) am at2.attrs (Mem.set_self ..) (by rw [Mem.set_ne (Ne.symm hax)]; exact hfa) hax okd okf
        (fun d => ?_) (fun d => by rw [hfr d]; exact szT d) (hR x hxs c) (by omega) fun es' ok' hv' => ?_) (hA.less (by decide)))))))))
      · rw [val_ddel]
        split
        · exact sz_one h1R
        · exact hR x hxs d
      · rw [Mem.set_set]
        have at3 := at'.put p1 ok'
        refine ⟨s'.put x es', r1, r2, r3, at3, st'.trans (Step.put p1), e1, e2, by rw [Mem.set_ne (Ne.symm hax)]; exact hfa, hn.2, fun y hy => ?_, fun y hy hyl d => ?_⟩
        · have hyx : y ≠ x := fun e => hn.1 (e ▸ hy)
          refine ⟨(hl y (.tail _ hy)).1, ?_⟩
          show (if y = x then es' else s'.ent y) = _
          rw [if_neg hyx]; exact (hl y (.tail _ hy)).2
        · show val (if y = x then es' else s'.ent y) d = _
          by_cases e : y = x
          · subst e
            rw [if_pos rfl, hv' d, val_ddel, hfr d]
            unfold swap
            rfl
          · rw [if_neg e]
            exact hv y hy (by simp [e, hyl]) d
  · rintro ρ μ' ⟨s', r1, r2, r3, at', st', e1, e2, hfa, hn, hl, hv⟩
    have hno' : ¬ own t s' a' := fun o => hno (own_sub (fun p hp => hrow p (by rw [← e1]; exact hp)) o)
    have hbs' : ∀ x, x ∈ s'.bs ↔ x ∈ s.bs ∧ x ≠ b := fun x => by show x ∈ s'.rows.map (·.1) ↔ _; rw [e1]; exact drop_bs
    have hcn : c ∉ s'.bs := fun h => hcb ((hbs' c).mp h).1
    refine HS.one (HX.setItem (HE.var r3 (HE.rows am r1 at' (HE.var r2 (set_dict at'.rows (by rw [rw_len]; have := at'.len_rows; omega) ?_)))))
    rw [rw_dset, dset_new hcn]
    refine q (s'.more c a' fr) _ (at'.more hcn hfa hno' okf hcr) (Step.more' (.inl ha') st') e2 (fun x => ?_) (fun d => ?_) (fun x hx hxb d => ?_)
    · rw [more_bs, hbs']
    · show val (if c = c then fr else _) d = _
      rw [if_pos rfl]; exact hfr d
    · have : x ≠ c := fun e => hcb (e ▸ hx)
      show val (if x = c then fr else s'.ent x) d = _
      rw [if_neg this]
      exact hv x (drop_bs.mpr ⟨hx, hxb⟩) (by simp) d
end
end Tab
end
noncomputable section
open PySem PySem.W PyProof.Rows PySem.Calls
open Builtin.Int (intBits)
set_option maxRecDepth 100000
namespace Tab
section
variable {prog : Program} {w : World} {B : Heap} {A : Around} {env : Env} {ρ : Loc} {μ : Mem}
theorem set_listI {a : Addr} {l : List V} {k : Int} {z : V} {Q : Mem → Prop} (hm : μ a = some (.list l)) (h0 : 0 ≤ k) (hk : k.toNat < l.length) (hl : l.length ≤ 1000) (q : Q (μ.set a (.list (l.set k.toNat z)))) :
    SetOk prog w B A (.raw (.ref a)) (.int k) z μ Q := by
  obtain ⟨n, rfl⟩ := Int.eq_ofNat_of_zero_le h0
  exact set_list hm hk hl q
end
def addp (p q : Rat × Rat) : Rat × Rat := (p.1 + q.1, p.2 + q.2)
def subp (p q : Rat × Rat) : Rat × Rat := (p.1 - q.1, p.2 - q.2)
def scal (p : Rat × Rat) (r : Rat) : Rat × Rat := (p.1 * r, p.2 * r)
theorem Sz2.mono {m n q} (h : Sz2 m q) (k : m ≤ n) : Sz2 n q := ⟨h.1.mono k, h.2.mono k⟩
theorem Sz2.addp {m n p q} (hp : Sz2 m p) (hq : Sz2 n q) : Sz2 (m + n + 1) (addp p q) := ⟨hp.1.add hq.1, hp.2.add hq.2⟩
theorem Sz2.subp {m n p q} (hp : Sz2 m p) (hq : Sz2 n q) : Sz2 (m + n + 1) (subp p q) := ⟨hp.1.sub hq.1, hp.2.sub hq.2⟩
theorem Sz2.scal {m n p q} (hp : Sz2 m p) (hq : Sz n q) : Sz2 (m + n) (scal p q) := ⟨hp.1.mul hq, hp.2.mul hq⟩
theorem vv_set {s : TS} {k : Int} {z : Rat × Rat} (h0 : 0 ≤ k) (hk : k.toNat < s.vals.length) {x : Int} (hx : 0 ≤ x) : (s.setv (s.vals.set k.toNat z)).vv x = if x = k then z else s.vv x := by
  unfold TS.vv TS.setv
  dsimp only
  rw [List.getElem?_set]
  by_cases e : x = k
  · subst e
    rw [if_pos rfl, if_pos rfl, if_pos hk]; rfl
  · rw [if_neg (by omega), if_neg e]
theorem setv_setv (s : TS) (v v' : List (Rat × Rat)) : (s.setv v).setv v' = s.setv v' := rfl
def shv (s : TS) (c : Int) (st : Rat × Rat) (x : Int) : Rat × Rat := if x = c then addp (s.vv x) st else if x ∈ s.bs then addp (s.vv x) (scal st (val (s.ent x) c)) else s.vv x
section
variable {w : World} {B : Heap} {μ : Mem} {t : Tb} {s : TS}
theorem fn_shift (am : Am w B) (ha : At t s μ) {c : Int} {st : Rat × Rat} (hc : c ∉ s.bs) (hc0 : 0 ≤ c) (hcl : c.toNat < s.vals.length) (hbl : ∀ b ∈ s.bs, b.toNat < s.vals.length) {R W S : Nat} (hR : ∀ x ∈ s.bs, ∀ d, Sz R (val (s.ent x) d))
    (hW : ∀ x : Int, 0 ≤ x → x.toNat < s.vals.length → Sz2 W (s.vv x)) (hS : Sz2 S st) (hz : W + S + R ≤ 134217728)
    {Q : V → Mem → Prop} (q : ∀ v μ', At t (s.setv v) μ' → Step t s (s.setv v) μ μ' → v.length = s.vals.length → (∀ x, 0 ≤ x → (s.setv v).vv x = shv s c st x) → Q (.raw .none) μ') : Fn PG w B 5 (.ref 224) [t.self, .int c, rat2 st] μ Q := by
  refine Fn.enter (K := laid w.params) (names := ["self", "column", "step"]) am (ho := by k_is) (hcd := by k_is) ?_ rfl rfl rfl (fun vs h => by obtain ⟨x, y, z, rfl⟩ := len3 h; rfl) (by decide) (by rfl) (by decide)
  intro A L hA hF
  refine HS.cons (HX.forI ?_)
  refine HE.meth am (by k_is) (by k_is) (by k_is) (by k_is) (HE.var rfl ⟨_, _, _, rfl, ha.attrs, rfl, HAs.cons (HE.var rfl (HAs.nil (BC.of_fn (fn_basics_with am ha ⟨_, iter_lst hA.handled, ?_⟩) (hA.less (by decide)))))⟩)
  refine HFor.inv V.int (fun l ρ μ' => ∃ v, ρ.get "self" = some t.self ∧ ρ.get "column" = some (.int c) ∧ ρ.get "step" = some (rat2 st) ∧ At t (s.setv v) μ' ∧ Step t s (s.setv v) μ μ' ∧ v.length = s.vals.length ∧ l.Nodup ∧ (∀ x ∈ l, x ∈ s.bs ∧ val (s.ent x) c ≠ 0) ∧
    (∀ x, 0 ≤ x → (s.setv v).vv x = if x ∈ l then s.vv x else if x ∈ s.bs then addp (s.vv x) (scal st (val (s.ent x) c)) else s.vv x)) ?_ ?_ _ _ _
    ⟨s.vals, rfl, rfl, rfl, ha, Step.refl, rfl, (srt_nodup ha.nB).filter _, fun x hx => ?_, fun x hx => ?_⟩
  · rintro x l ρ μ' ⟨v, r1, r2, r3, at', st', hl, hn, hm, hv⟩
    rw [List.nodup_cons] at hn
    obtain ⟨hx, hx0⟩ := hm x (.head _)
    have hxr := ha.rng x hx
    have hxl := hbl x hx
    have hvx : (s.setv v).vv x = s.vv x := by rw [hv x (by omega), if_pos (.head _)]
    have hxl' : x.toNat < (s.setv v).vals.length := by show x.toNat < v.length; rw [hl]; exact hxl
    obtain ⟨ax, p1, p2, p3⟩ := at'.getB (show x ∈ (s.setv v).bs from hx)
    have okx := ha.ok x hx
    have hck : c ∈ (s.ent x).map (·.1) := (okx.mem c).mpr hx0
    refine HAsg.name (HS.one (HX.setItem ?_))
    refine HE.fn am (by k_is) (by k_is) (HAs.cons (HE.sub (HE.vals am r1 at' (HE.var rfl (sub_list at'.vals (by omega) (by omega) (val_get (vv_get hxl')) (HAs.cons ?_))))))
    rw [hvx]
    refine HE.fn am (by k_is) (by k_is) (HAs.cons (HE.var r3 (HAs.cons (HE.sub (HE.sub (HE.rows am r1 at' (HE.var rfl (sub_dict at'.rows p2 ?_))))))))
    refine HE.var r2 (sub_dict p3 (rd_val okx hck) (HAs.nil (BC.of_fn (fn_dscale am hS (hR x hx c) (by omega) ?_) (hA.less (by decide)))))
    refine HAs.nil (BC.of_fn (fn_dadd am (hW x (by omega) hxl) (hS.scal (hR x hx c)) (by omega) ?_) (hA.less (by decide)))
    refine HE.vals am r1 at' (HE.var rfl (set_listI at'.vals (by omega) (by simpa using hxl') (by have := at'.len; simp; omega) ?_))
    have hlen : (v.set x.toNat (addp (s.vv x) (scal st (val (s.ent x) c)))).length = s.vals.length := by simp [hl]
    refine ⟨v.set x.toNat (addp (s.vv x) (scal st (val (s.ent x) c))), r1, r2, r3, ?_, ?_, hlen, hn.2, fun y hy => hm y (.tail _ hy), fun y hy => ?_⟩
    · have := at'.setv (v := v.set x.toNat (addp (s.vv x) (scal st (val (s.ent x) c)))) (by rw [hlen]; exact ha.len)
      rw [setv_setv, List.map_set] at this
      exact this
    · exact st'.trans (Step.setv (s := s.setv v))
    · have := vv_set (s := s.setv v) (k := x) (z := addp (s.vv x) (scal st (val (s.ent x) c))) (by omega) hxl' hy
      rw [setv_setv] at this
      rw [show (s.setv v).vals = v from rfl] at this
      rw [this]
      by_cases e : y = x
      · subst e
        rw [if_pos rfl, if_neg hn.1, if_pos hx]
      · rw [if_neg e, hv y hy]
        have : y ∈ x :: l ↔ y ∈ l := by simp [e]
        simp only [this]
  · rintro ρ μ' ⟨v, r1, r2, r3, at', st', hl, hn, hm, hv⟩
    have hcl' : c.toNat < (s.setv v).vals.length := by show c.toNat < v.length; rw [hl]; exact hcl
    have hvc : (s.setv v).vv c = s.vv c := by rw [hv c hc0, if_neg (by simp), if_neg hc]
    have hl6 := ha.len
    refine HS.one (HX.setItem ?_)
    refine HE.fn am (by k_is) (by k_is) (HAs.cons (HE.sub (HE.vals am r1 at' (HE.var r2 (sub_list at'.vals hc0 (by omega) (val_get (vv_get hcl')) (HAs.cons (HE.var r3 (HAs.nil (BC.of_fn (fn_dadd am (by rw [hvc]; exact hW c hc0 hcl) hS (by omega) ?_) (hA.less (by decide)))))))))))
    refine HE.vals am r1 at' (HE.var r2 (set_listI at'.vals hc0 (by simpa using hcl') (by have := at'.len; simp; omega) ?_))
    rw [hvc]
    have e : ((s.setv v).vals.map rat2).set c.toNat (rat2 ((s.vv c).1 + st.1, (s.vv c).2 + st.2)) = (v.set c.toNat (addp (s.vv c) st)).map rat2 := by
      rw [List.map_set]; rfl
    have hlen : (v.set c.toNat (addp (s.vv c) st)).length = s.vals.length := by simp [hl]
    rw [e]
    refine q (v.set c.toNat (addp (s.vv c) st)) _ ?_ ?_ hlen fun y hy => ?_
    · have := at'.setv (v := v.set c.toNat (addp (s.vv c) st)) (by rw [hlen]; exact ha.len)
      rw [setv_setv] at this
      exact this
    · exact st'.trans (Step.setv (s := s.setv v))
    · have := vv_set (s := s.setv v) (k := c) (z := addp (s.vv c) st) hc0 hcl' hy
      rw [setv_setv] at this
      rw [show (s.setv v).vals = v from rfl] at this
      rw [this]
      unfold shv
      by_cases e : y = c
      · subst e
        rw [if_pos rfl, if_pos rfl]
      · rw [if_neg e, if_neg e, hv y hy, if_neg (by simp)]
  · have := List.mem_filter.mp hx
    exact ⟨mem_srt.mp this.1, by simpa using this.2⟩
  · have e : (s.setv s.vals).vv x = s.vv x := rfl
    rw [e]
    split
    · rfl
    · rename_i h
      split
      · rename_i hb
        have : val (s.ent x) c = 0 := Classical.byContradiction fun n => h (List.mem_filter.mpr ⟨mem_srt.mpr hb, by simpa using n⟩)
        rw [this]
        unfold addp scal
        exact Prod.ext (by dsimp only; grind) (by dsimp only; grind)
      · rfl
theorem fn_update (am : Am w B) (ha : At t s μ) {c : Int} {goal : Rat × Rat} (hc : c ∉ s.bs) (hc0 : 0 ≤ c) (hcl : c.toNat < s.vals.length) (hbl : ∀ b ∈ s.bs, b.toNat < s.vals.length) {R W G : Nat} (hR : ∀ x ∈ s.bs, ∀ d, Sz R (val (s.ent x) d))
    (hW : ∀ x : Int, 0 ≤ x → x.toNat < s.vals.length → Sz2 W (s.vv x)) (hG : Sz2 G goal) (hz : 2 * W + G + 1 + R ≤ 134217728)
    {Q : V → Mem → Prop} (q : ∀ v μ', At t (s.setv v) μ' → Step t s (s.setv v) μ μ' → v.length = s.vals.length → (∀ x, 0 ≤ x → (s.setv v).vv x = shv s c (subp goal (s.vv c)) x) → Q (.raw .none) μ') : Fn PG w B 6 (.ref 231) [t.self, .int c, rat2 goal] μ Q := by
  refine Fn.enter (K := laid w.params) (names := ["self", "column", "goal"]) am (ho := by k_is) (hcd := by k_is) ?_ rfl rfl rfl (fun vs h => by obtain ⟨x, y, z, rfl⟩ := len3 h; rfl) (by decide) (by rfl) (by decide)
  intro A L hA hF
  have hl6 := ha.len
  have hWc := hW c hc0 hcl
  refine HS.one (HX.expr (HE.meth am (by k_is) (by k_is) (by k_is) (by k_is) (HE.var rfl ⟨_, _, _, rfl, ha.attrs, rfl, HAs.cons (HE.var rfl (HAs.cons ?_))⟩)))
  refine HE.fn am (by k_is) (by k_is) (HAs.cons (HE.var rfl (HAs.cons (HE.sub (HE.vals am rfl ha (HE.var rfl (sub_list ha.vals hc0 (by omega) (val_get (vv_get hcl)) (HAs.nil (BC.of_fn (fn_dsub am hG hWc (by omega) ?_) hA)))))))))
  exact HAs.nil (BC.of_fn (fn_shift am ha (st := subp goal (s.vv c)) hc hc0 hcl hbl hR hW (hG.subp hWc) (by omega) fun v μ' h1 h2 h3 h4 => q v μ' h1 h2 h3 h4) hA)
end
end Tab
end
noncomputable section
open PySem PySem.W PyProof.Rows PySem.Calls
open Builtin.Int (intBits)
set_option maxRecDepth 100000
namespace Tab
def pone (s : TS) (p : Int × Rat) (d : Int) : Rat := if p.1 ∈ s.bs then val (s.ent p.1) d * p.2 else if d = p.1 then p.2 else 0
def prow (s : TS) : List (Int × Rat) → Int → Rat
  | [], _ => 0
  | p :: r, d => pone s p d + prow s r d
def pv (p : Int × Rat) : V := .tup [.int p.1, rat p.2]
section
variable {w : World} {B : Heap} {μ : Mem} {t : Tb} {s : TS}
theorem fn_pivot_and_update (am : Am w B) (ha : At t s μ) {b c : Int} {goal : Rat × Rat} (hb : b ∈ s.bs) (hc : val (s.ent b) c ≠ 0) (hbs : ∀ x ∈ s.bs, ∀ y ∈ s.bs, val (s.ent x) y = 0) (hcl : c.toNat < s.vals.length) (hbl : ∀ b ∈ s.bs, b.toNat < s.vals.length)
    {R W G : Nat} (h1R : 1 ≤ R) (hR : ∀ x ∈ s.bs, ∀ d, Sz R (val (s.ent x) d)) (hW : ∀ x : Int, 0 ≤ x → x.toNat < s.vals.length → Sz2 W (s.vv x)) (hG : Sz2 G goal) (hz : 2 * W + G + 2 + 2 * R ≤ 134217728) (hz' : 4 * R + 4 ≤ 134217728)
    {Q : V → Mem → Prop} (q : ∀ s' μ', At t s' μ' → Step t s s' μ μ' → s'.vals.length = s.vals.length → (∀ x, 0 ≤ x → s'.vv x = shv s c (scal (subp goal (s.vv b)) (1 / val (s.ent b) c)) x) → (∀ x, x ∈ s'.bs ↔ (x ∈ s.bs ∧ x ≠ b) ∨ x = c) →
      (∀ d, val (s'.ent c) d = turn (val (s.ent b)) b c d) → (∀ x ∈ s.bs, x ≠ b → ∀ d, val (s'.ent x) d = swap (turn (val (s.ent b)) b c) (val (s.ent x)) c d) → Q (.raw .none) μ') : Fn PG w B 7 (.ref 238) [t.self, .int b, .int c, rat2 goal] μ Q := by
  refine Fn.enter (K := laid w.params) (names := ["self", "basic", "column", "goal"]) am (ho := by k_is) (hcd := by k_is) ?_ rfl rfl rfl (fun vs h => by obtain ⟨x, y, z, u, rfl⟩ := len4 h; rfl) (by decide) (by rfl) (by decide)
  intro A L hA hF
  have hl6 := ha.len
  have hcb : c ∉ s.bs := fun h => hc (hbs b hb c h)
  have okb := ha.ok b hb
  have hcr : 1 ≤ c ∧ c ≤ 5 := Classical.byContradiction fun e => hc (okb.zero e)
  have hbr := ha.rng b hb
  have hWb := hW b (by omega) (hbl b hb)
  obtain ⟨ab, p1, p2, p3⟩ := ha.getB hb
  have hck : c ∈ (s.ent b).map (·.1) := (okb.mem c).mpr hc
  refine HS.cons (HX.assign (HE.fn am (by k_is) (by k_is) (HAs.cons (HE.var rfl (HAs.cons (HE.sub (HE.vals am rfl ha (HE.var rfl (sub_list ha.vals (by omega) (by omega) (val_get (vv_get (hbl b hb))) (HAs.nil (BC.of_fn (fn_dsub am hG hWb (by omega) ?_) (hA.less (by decide))))))))))))) 
  refine HS.cons (HX.expr (HE.meth am (by k_is) (by k_is) (by k_is) (by k_is) (HE.var rfl ⟨_, _, _, rfl, ha.attrs, rfl, HAs.cons (HE.var rfl (HAs.cons ?_))⟩)))
  refine HE.fn am (by k_is) (by k_is) (HAs.cons (HE.var rfl (HAs.cons ?_)))
  refine HE.fn am (by k_is) (by k_is) (HAs.cons (HE.glob am (v := .ref 52) (by k_is) (one_rep am) (HAs.cons (HE.sub (HE.sub (HE.rows am rfl ha (HE.var rfl (sub_dict ha.rows p2 ?_))))))))
  refine HE.var rfl (sub_dict p3 (rd_val okb hck) (HAs.nil (BC.of_fn (fn_div am Sz.one1 (hR b hb c) (by omega) hc ?_) (hA.less (by decide)))))
  have szd : Sz (1 + R) (1 / val (s.ent b) c) := Sz.one1.div (hR b hb c) hc
  refine HAs.nil (BC.of_fn (fn_dscale am (hG.subp hWb) szd (by omega) ?_) (hA.less (by decide)))
  refine HAs.nil (BC.of_fn (fn_shift am ha (st := scal (subp goal (s.vv b)) (1 / val (s.ent b) c)) hcb (by omega) hcl hbl hR hW ((hG.subp hWb).scal szd) (by omega) fun v μ' h1 h2 h3 h4 => ?_) (hA.less (by decide)))
  refine HS.one (HX.expr (HE.meth am (by k_is) (by k_is) (by k_is) (by k_is) (HE.var rfl ⟨_, _, _, rfl, h1.attrs, rfl, HAs.cons (HE.var rfl (HAs.cons (HE.var rfl ?_)))⟩)))
  refine HAs.nil (BC.of_fn (fn_pivot am h1 (b := b) (c := c) hb hc hbs h1R hR hz' fun s' μ'' k1 k2 k3 k4 k5 k6 => ?_) hA)
  exact q s' μ'' k1 (h2.trans k2) (by rw [k3]; exact h3) (fun x hx => by rw [← h4 x hx]; unfold TS.vv; rw [k3]) k4 k5 k6
theorem fn_add_row (am : Am w B) (ha : At t s μ) {ps : List (Int × Rat)} (hps : ∀ p ∈ ps, 1 ≤ p.1 ∧ p.1 ≤ 5 ∧ Sz 3 p.2) (hlen : ps.length ≤ 4) (hN : s.vals.length ≤ 5) (hN1 : 1 ≤ s.vals.length) (hin : ∀ b ∈ s.bs, b.toNat < s.vals.length) {R W j : Nat} (hR : ∀ x ∈ s.bs, ∀ d, Sz R (val (s.ent x) d))
    (hW : ∀ x : Int, 0 ≤ x → x.toNat < s.vals.length → Sz2 W (s.vv x)) (hsup : ∀ d, prow s ps d ≠ 0 → d.toNat < s.vals.length) (hj : ∀ es : Row, OkR es → (∀ d, val es d = prow s ps d) → es.length ≤ j) (hz : 1 + j * (W + (4 * R + 17) + 1) ≤ 134217728) (hz' : 5 * R + 23 ≤ 134217728)
    {Q : V → Mem → Prop} (q : ∀ s' μ' a es, At t s' μ' → Step t s s' μ μ' → μ a = none → s'.rows = s.rows ++ [((s.vals.length : Int), a)] → (∀ x ∈ s.bs, s'.ent x = s.ent x) → s'.ent s.vals.length = es → (∀ d, val es d = prow s ps d) → (∀ d, Sz (4 * R + 17) (val es d)) →
      s'.vals.length = s.vals.length + 1 → (∀ x : Int, 0 ≤ x → x ≠ (s.vals.length : Int) → s'.vv x = s.vv x) → (s'.vv s.vals.length).1 = sm (fun c => (s.vv c).1 * val es c) → (s'.vv s.vals.length).2 = sm (fun c => (s.vv c).2 * val es c) → Sz2 (1 + j * (W + (4 * R + 17) + 1)) (s'.vv s.vals.length) →
      Q (.int s.vals.length) μ') : Fn PG w B 6 (.ref 203) [t.self, .lst (ps.map pv)] μ Q := by
  refine Fn.enter (K := laid w.params) (names := ["self", "parts"]) am (ho := by k_is) (hcd := by k_is) ?_ rfl rfl rfl (fun vs h => by obtain ⟨x, y, rfl⟩ := len2 h; rfl) (by decide) (by rfl) (by decide)
  intro A L hA hF
  refine HS.cons (HX.assign (HE.dict0 am fun a haN => ?_))
  have hA1 := ha.alloc (o := .dict []) haN
  have hno := ha.ne_own haN
  refine HS.cons (HX.forI (HE.var rfl ⟨_, iter_lst hA.handled, ?_⟩))
  refine HFor.inv pv (fun l ρ μ' => ∃ es m, ρ.get "self" = some t.self ∧ ρ.get "row" = some (.raw (.ref a)) ∧ OkR es ∧ (∀ p ∈ l, 1 ≤ p.1 ∧ p.1 ≤ 5 ∧ Sz 3 p.2) ∧ (∀ d, val es d + prow s l d = prow s ps d) ∧ (∀ d, Sz m (val es d)) ∧ m + l.length * (R + 4) ≤ 4 * R + 17 ∧ μ' = μ.set a (.dict (rd es))) ?_ ?_ _ _ _
    ⟨[], 1, rfl, rfl, OkR.nil, hps, fun d => by rw [val_nil]; grind, fun d => sz_one (Nat.le_refl _), ?_, rfl⟩
  · rintro p l ρ μ' ⟨es, m, r1, r2, ok, hp, hv, hs, hm, rfl⟩
    obtain ⟨hp1, hp2, hp3⟩ := hp p (.head _)
    have at' : At t s (μ.set a (.dict (rd es))) := ha.alloc haN
    rw [List.length_cons, Nat.succ_mul] at hm
    refine HAsg.tup (ns := [("column", _), ("factor", _)]) hA.handled rfl (HS.one (HX.ite (HB.compare (HE.var rfl (HE.rows am r1 at' (op_inD at'.rows ⟨_, rfl, ?_⟩))))))
    rw [at'.isB]
    by_cases hB : p.1 ∈ s.bs
    · rw [if_pos (by simpa using hB)]
      obtain ⟨ab, p1, p2, p3⟩ := at'.getB hB
      have hab : a ≠ ab := fun e => hno (.inr (.inr (List.mem_map.mpr ⟨_, p1, e.symm⟩)))
      refine HS.one (HX.expr (HE.meth am (by k_is) (by k_is) (by k_is) (by k_is) (HE.var r1 ⟨_, _, _, rfl, at'.attrs, rfl, HAs.cons (HE.var r2 (HAs.cons (HE.sub (HE.rows am r1 at' (HE.var rfl (sub_dict at'.rows p2 ?_))))))⟩)))
      refine HAs.cons (HE.var rfl (HAs.nil (BC.of_fn (fn_add_multiple am at'.attrs (Mem.set_self ..) p3 hab ok (ha.ok _ hB) hs (hR _ hB) hp3 (by omega) fun es' ok' hv' => ?_) hA)))
      rw [Mem.set_set]
      refine ⟨es', m + (R + 3) + 1, r1, r2, ok', fun p hp' => hp p (.tail _ hp'), fun d => ?_, fun d => ?_, by omega, rfl⟩
      · rw [← hv d, hv' d, prow, pone, if_pos hB]; grind
      · rw [hv' d]; exact (hs d).add ((hR _ hB d).mul hp3)
    · rw [if_neg (by simpa using hB)]
      refine HS.one (HX.expr (HE.meth am (by k_is) (by k_is) (by k_is) (by k_is) (HE.var r1 ⟨_, _, _, rfl, at'.attrs, rfl, HAs.cons (HE.var r2 (HAs.cons (HE.var rfl (HAs.cons (HE.var rfl (HAs.nil (BC.of_fn (fn_add_entry am (Mem.set_self ..) ok ⟨hp1, hp2⟩ (hs p.1) hp3 (by omega) fun es' ok' hv' => ?_) (hA.less (by decide)))))))))⟩)))
      rw [Mem.set_set]
      refine ⟨es', m + (R + 3) + 1, r1, r2, ok', fun p hp' => hp p (.tail _ hp'), fun d => ?_, fun d => ?_, by omega, rfl⟩
      · rw [← hv d, hv' d, prow, pone, if_neg hB]
        by_cases e : d = p.1
        · rw [if_pos e, if_pos e, e]; grind
        · rw [if_neg e, if_neg e]; grind
      · rw [hv' d]
        split
        · exact ((hs p.1).add hp3).mono (by omega)
        · exact (hs d).mono (by omega)
  · rintro ρ μ' ⟨es, m, r1, r2, ok, hp, hv, hs, hm, rfl⟩
    have at' : At t s (μ.set a (.dict (rd es))) := ha.alloc haN
    have hv' : ∀ d, val es d = prow s ps d := fun d => by rw [← hv d, prow]; grind
    have hs' : ∀ d, Sz (4 * R + 17) (val es d) := fun d => (hs d).mono (by simp at hm; omega)
    have haL : a ≠ t.L := fun e => by rw [e, ha.vals] at haN; cases haN
    have haR : a ≠ t.R := fun e => by rw [e, ha.rows] at haN; cases haN
    refine HS.cons (HX.assign (HE.meth0 am (by k_is) (by k_is) (by k_is) (by k_is) (HE.var r1 ⟨_, _, _, rfl, at'.attrs, rfl, BC.of_fn (fn_new_column am at' hN fun at2 => ?_) (hA.less (by decide))⟩)))
    have hnb : (s.vals.length : Int) ∉ s.bs := fun h => by have := hin _ h; simp at this
    refine HS.cons (HX.setItem (HE.var r2 (HE.rows am r1 at2 (HE.var rfl (set_dict at2.rows (by rw [rw_len]; have := at2.len_rows; omega) ?_)))))
    rw [rw_dset, dset_new (l := (s.setv (s.vals ++ [(0, 0)])).rows) hnb]
    have hfa : ((μ.set a (.dict (rd es))).set t.L (.list ((s.vals ++ [(0, 0)]).map rat2))) a = some (.dict (rd es)) := by rw [Mem.set_ne haL, Mem.set_self]
    have at3 := at2.more (b := (s.vals.length : Int)) (a := a) (es := es) hnb hfa hno ok (by omega)
    have st3 : Step t s ((s.setv (s.vals ++ [(0, 0)])).more (s.vals.length : Int) a es) μ _ := Step.more' (o := MObj.dict (rw' ((s.setv (s.vals ++ [(0, 0)])).more (s.vals.length : Int) a es).rows)) (.inl haN) ((Step.alloc (o := .dict (rd es)) haN).trans (Step.setv (s := s) (v := s.vals ++ [(0, 0)]) (o := .list ((s.vals ++ [(0, 0)]).map rat2))))
    have hvl : ((s.setv (s.vals ++ [(0, 0)])).more (s.vals.length : Int) a es).vals = s.vals ++ [(0, 0)] := rfl
    have vold : ∀ x : Int, 0 ≤ x → x.toNat < s.vals.length → ((s.setv (s.vals ++ [(0, 0)])).more (s.vals.length : Int) a es).vv x = s.vv x := fun x h0 hx => by
      unfold TS.vv; rw [hvl, List.getElem?_append_left hx]
    have hfa3 : ((((μ.set a (.dict (rd es))).set t.L (.list ((s.vals ++ [(0, 0)]).map rat2)))).set t.R (.dict (rw' ((s.setv (s.vals ++ [(0, 0)])).more (s.vals.length : Int) a es).rows))) a = some (.dict (rd es)) := by rw [Mem.set_ne haR]; exact hfa
    have hcr : ∀ c, val es c ≠ 0 → 1 ≤ c ∧ c ≤ 5 := fun c hc => Classical.byContradiction fun e => hc (ok.zero e)
    have hcl : ∀ c, val es c ≠ 0 → c.toNat < s.vals.length := fun c hc => hsup c (by rw [← hv']; exact hc)
    refine HS.cons (HX.setItem (HE.meth am (by k_is) (by k_is) (by k_is) (by k_is) (HE.var r1 ⟨_, _, _, rfl, at3.attrs, rfl, HAs.cons (HE.var r2 (HAs.nil (BC.of_fn (fn_sum_of am at3 (es := es) (R := 4 * R + 17) (W := W) (j := j) hfa3 ok hs' (fun c hc => ?_) (fun c hc => ?_) (hj es ok hv') hz fun z z1 z2 z3 => ?_) hA)))⟩)))
    · rw [vold c (by have := hcr c hc; omega) (hcl c hc)]; exact hW c (by have := hcr c hc; omega) (hcl c hc)
    · rw [hvl, List.length_append]; have := hcl c hc; omega
    · have hk : s.vals.length < (s.vals ++ [((0 : Rat), (0 : Rat))]).length := by simp
      refine HE.vals am r1 at3 (HE.var rfl (set_list at3.vals (by rw [hvl, List.length_map]; exact hk) (by have := at3.len; simp; omega) ?_))
      rw [hvl]
      have e : (((s.vals ++ [((0 : Rat), (0 : Rat))]).map rat2).set s.vals.length (rat2 z)) = (s.vals ++ [z]).map rat2 := by
        rw [← List.map_set]; congr 1; simp
      rw [e]
      have at4 := at3.setv (v := s.vals ++ [z]) (by simp; omega)
      have vnew : (((s.setv (s.vals ++ [(0, 0)])).more (s.vals.length : Int) a es).setv (s.vals ++ [z])).vv s.vals.length = z := by
        unfold TS.vv TS.setv; dsimp only; simp
      have zz1 : z.1 = sm (fun c => (s.vv c).1 * val es c) := by
        rw [z1]; unfold sm; apply congrArg (fun f => lsum f [1, 2, 3, 4, 5]); funext c
        by_cases h0 : val es c = 0
        · rw [h0]; grind
        · rw [vold c (by have := hcr c h0; omega) (hcl c h0)]
      have zz2 : z.2 = sm (fun c => (s.vv c).2 * val es c) := by
        rw [z2]; unfold sm; apply congrArg (fun f => lsum f [1, 2, 3, 4, 5]); funext c
        by_cases h0 : val es c = 0
        · rw [h0]; grind
        · rw [vold c (by have := hcr c h0; omega) (hcl c h0)]
      refine HS.one (HX.ret (HE.var rfl (q (((s.setv (s.vals ++ [(0, 0)])).more (s.vals.length : Int) a es).setv (s.vals ++ [z])) _ a es at4 (st3.trans Step.setv) haN rfl (fun x hx => ?_) ?_ hv' hs' (by simp [TS.setv]) (fun x h0 hx => ?_) (by rw [vnew]; exact zz1) (by rw [vnew]; exact zz2) (by rw [vnew]; exact z3))))
      · show (if x = (s.vals.length : Int) then es else s.ent x) = _
        rw [if_neg (fun e : x = (s.vals.length : Int) => hnb (by rw [← e]; exact hx))]
      · show (if (s.vals.length : Int) = (s.vals.length : Int) then es else _) = _
        rw [if_pos rfl]
      · unfold TS.vv TS.setv; dsimp only
        by_cases hxl : x.toNat < s.vals.length
        · rw [List.getElem?_append_left hxl]
        · rw [List.getElem?_append_right (by omega), List.getElem?_eq_none (l := s.vals) (by omega), List.getElem?_eq_none (by simp; omega)]
  · have := Nat.mul_le_mul_right (R + 4) hlen
    omega
end
end Tab
end
noncomputable section
open PySem PySem.W PyProof.Rows PySem.Calls
open Builtin.Int (intBits)
set_option maxRecDepth 100000
namespace Tab
theorem capt_get {scope : Scope} : ∀ {ρ : Loc} {x : Str} {y : V}, ρ.lookup x = some y → scope.names.lookup x = some .free → (capt scope ρ).lookup x = some y
  | [], _, _, h, _ => by simp at h
  | (n, z) :: r, x, y, h, hf => by
    rw [List.lookup_cons] at h
    unfold capt
    rw [List.filter_cons]
    by_cases e : x = n
    · subst e
      simp only [beq_self_eq_true] at h
      cases h
      rw [if_pos (by simp [hf]), List.lookup_cons]
      simp
    · have hb : (x == n) = false := beq_eq_false_iff_ne.mpr e
      rw [hb] at h
      have ih := capt_get (scope := scope) (ρ := r) h hf
      unfold capt at ih
      split
      · rw [List.lookup_cons, hb]; exact ih
      · exact ih
def cols (N : Nat) : List Int := (List.range N).map fun (i : Nat) => (i : Int) + 1
theorem mem_cols {N : Nat} {c : Int} : c ∈ cols N ↔ 1 ≤ c ∧ c ≤ N := by
  unfold cols
  rw [List.mem_map]
  constructor
  · rintro ⟨i, hi, rfl⟩
    have := List.mem_range.mp hi
    omega
  · intro h
    exact ⟨(c - 1).toNat, List.mem_range.mpr (by omega), by omega⟩
theorem cols_lt (N : Nat) : (cols N).Pairwise (· < ·) := by
  unfold cols
  rw [List.pairwise_map]
  exact List.pairwise_lt_range.imp fun h => by omega
theorem cols_nodup (N : Nat) : (cols N).Nodup := (cols_lt N).imp fun h => by omega
theorem srt_cols (N : Nat) : srt (cols N) = cols N := (srt_is (.refl _) ((cols_lt N).imp fun h => Int.le_of_lt h)).symm
theorem cols_len (N : Nat) : (cols N).length = N := by simp [cols]
theorem cols_get {α : Type} {N : Nat} {f : Int → α} {c : Int} (h : c ∈ cols N) : ((cols N).map f)[(c - 1).toNat]? = some (f c) := by
  have := mem_cols.mp h
  have hlt : (c - 1).toNat < N := by omega
  unfold cols
  rw [List.getElem?_map, List.getElem?_map, List.getElem?_range hlt]
  show some (f (((c - 1).toNat : Int) + 1)) = _
  congr 2
  omega
abbrev MS := List (Int × List Rat)
def mv (ms : MS) : List (Int × V) := ms.map fun p => (p.1, .lst (p.2.map rat))
def mval (ms : MS) (c : Int) (k : Nat) : Rat := ((dget ms c).getD []).getD k 0
structure Mk (n N : Nat) (ms : MS) : Prop where
  keys : ms.map (·.1) = cols N
  len : ∀ p ∈ ms, p.2.length = n
  n3 : 2 ≤ n ∧ n ≤ 3
  N5 : N ≤ 5
  nN : n ≤ N
theorem mv_keys (ms : MS) : (mv ms).map (·.1) = ms.map (·.1) := by unfold mv; rw [List.map_map]; rfl
theorem mv_len (ms : MS) : (mv ms).length = ms.length := List.length_map ..
theorem Mk.mslen {n N ms} (h : Mk n N ms) : ms.length = N := by
  have := congrArg List.length h.keys
  simpa [cols] using this
theorem Mk.get {n N ms} (h : Mk n N ms) {c : Int} (hc : c ∈ cols N) : dget (mv ms) c = some (.lst ((List.range n).map fun k => rat (mval ms c k))) := by
  have e : dget (mv ms) c = (dget ms c).map fun l => V.lst (l.map rat) := dget_map (fun l : List Rat => V.lst (l.map rat)) c ms
  rw [e]
  obtain ⟨l, hl⟩ := Option.isSome_iff_exists.mp (dget_key.mpr (by rw [h.keys]; exact hc))
  have hlen := h.len _ (mem_of_dget hl)
  dsimp only at hlen
  rw [hl]
  show some (V.lst (l.map rat)) = _
  congr 2
  apply List.ext_getElem?
  intro i
  rw [List.getElem?_map, List.getElem?_map]
  by_cases hi : i < n
  · rw [List.getElem?_range hi]
    have : l[i]? = some (mval ms c i) := by
      unfold mval
      rw [hl]
      show l[i]? = some (l.getD i 0)
      rw [List.getD_eq_getElem?_getD, List.getElem?_eq_getElem (by omega)]
      rfl
    rw [this]; rfl
  · rw [List.getElem?_eq_none (by omega), List.getElem?_eq_none (by simp; omega)]; rfl
theorem Mk.sorted {n N ms} (h : Mk n N ms) : srt ((mv ms).map (·.1)) = cols N := by rw [mv_keys, h.keys, srt_cols]
def msum (ms : MS) : List (Int × Rat) → Nat → Rat
  | [], _ => 0
  | p :: r, k => p.2 * mval ms p.1 k + msum ms r k
def ksum (f : Nat → Rat) : Nat → Rat
  | 0 => 0
  | n + 1 => ksum f n + f n
theorem rat_zero : V.tup [.int 0, .int 1] = rat 0 := rfl
theorem rat_of_int (z : Int) : V.tup [.int z, .int 1] = rat (z : Rat) := by
  unfold rat; rw [Rat.num_intCast, Rat.den_intCast]; rfl
section
variable {w : World} {B : Heap} {μ : Mem} {t : Tb} {s : TS}
theorem rng_iter {A : Around} {prog : Program} {n : Nat} (hh : A.handled = none) (hn : n ≤ 1000) : Iter prog w B A (.rng 0 n) ((List.range n).map fun (i : Nat) => V.int (i : Int)) μ := by
  have := iter_rng (prog := prog) (w := w) (B := B) (A := A) (μ := μ) (a := 0) (n := n) hh (Int.le_refl _) (by omega) hn
  unfold rngV at this
  simp only [Int.zero_add] at this
  exact this
theorem fn_law_sum (am : Am w B) {n N : Nat} {ms : MS} {M : Addr} (hm : μ M = some (.dict (mv ms))) (mk : Mk n N ms) {x : V} {ps : List (Int × Rat)} (hx : x = .lst (ps.map pv) ∨ x = .frz (ps.map pv)) (hps : ∀ p ∈ ps, p.1 ∈ cols N) {F D : Nat} (hF : ∀ p ∈ ps, Sz F p.2) (hD : ∀ c ∈ cols N, ∀ k, Sz D (mval ms c k))
    (hz : 1 + ps.length * (F + D + 1) ≤ 134217728) {Q : V → Mem → Prop} (q : Q (.lst ((List.range n).map fun k => rat (msum ms ps k))) μ) : Fn PG w B 3 (.ref 271) [x, .raw (.ref M), .int n] μ Q := by
  refine Fn.enter (K := laid w.params) (names := ["pairs_now", "means", "free"]) am (ho := by k_is) (hcd := by k_is) ?_ rfl rfl rfl (fun vs h => by obtain ⟨x, y, z, rfl⟩ := len3 h; rfl) (by decide) (by rfl) (by decide)
  intro A L hA hF'
  have hn3 := mk.n3
  refine HS.cons (HX.assign (HE.binary (HE.list (HAs.cons (HE.tuple (HAs.cons (HE.cInt (HAs.cons (HE.cInt (HAs.nil (HAs.nil ?_)))))))))))
  refine HE.var rfl (op_mulL (k := n) (by omega) ?_)
  refine HS.cons (HX.forI (HE.var rfl ⟨ps.map pv, ?_, ?_⟩))
  · rcases hx with rfl | rfl
    · exact iter_lst hA.handled
    · exact iter_frz hA.handled
  refine HFor.inv pv (fun l ρ μ' => ∃ (tot : Nat → Rat) (m : Nat), ρ.get "total" = some (.lst ((List.range n).map fun k => rat (tot k))) ∧ ρ.get "means" = some (.raw (.ref M)) ∧ ρ.get "free" = some (.int n) ∧ (∀ k, tot k + msum ms l k = msum ms ps k) ∧ (∀ k, Sz m (tot k)) ∧
    m + l.length * (F + D + 1) ≤ 1 + ps.length * (F + D + 1) ∧ (∀ p ∈ l, p ∈ ps) ∧ μ' = μ) ?_ ?_ _ _ _ ⟨fun _ => 0, 1, ?_, rfl, rfl, fun k => by grind, fun k => sz_one (Nat.le_refl _), Nat.le_refl _, fun p hp => hp, rfl⟩
  · rintro p l ρ μ' ⟨tot, m, r1, r2, r3, hv, hs, hsz, hl, rfl⟩
    have hp := hl p (.head _)
    rw [List.length_cons, Nat.succ_mul] at hsz
    refine HAsg.tup (ns := [("column", _), ("factor", _)]) hA.handled rfl (HS.one (HX.assign (HE.comp ?_)))
    refine HE.ty am (by k_is) (by rfl) (HAs.cons (HE.var r3 (HAs.nil (bc_range1 ⟨_, rng_iter hA.handled (by omega), by simp; omega, fun C => ?_⟩))))
    refine HComp.map (fun (i : Nat) => V.int (i : Int)) (fun i => rat (tot i + p.2 * mval ms p.1 i)) _ (fun i hi => ?_) ?_
    · have hin := List.mem_range.mp hi
      refine HE.fn am (by k_is) (by k_is) (HAs.cons (HE.sub (HE.var (capt_get r1 rfl) (HE.var rfl (sub_lst (by omega) (by omega) (z := rat (tot i)) (by simp [hin]) (HAs.cons ?_))))))
      refine HE.fn am (by k_is) (by k_is) (HAs.cons (HE.var rfl (HAs.cons ?_)))
      refine HE.sub (HE.sub (HE.var (capt_get r2 rfl) (HE.var rfl (sub_dict hm (mk.get (hps p hp)) (HE.var rfl (sub_lst (by omega) (by omega) (z := rat (mval ms p.1 i)) (by simp [hin]) ?_))))))
      refine HAs.nil (BC.of_fn (fn_times am (hF p hp) (hD p.1 (hps p hp) i) (by omega) ?_) (hA.less (by decide)))
      exact HAs.nil (BC.of_fn (fn_plus am (hs i) ((hF p hp).mul (hD p.1 (hps p hp) i)) (by omega) ⟨rfl, rfl⟩) (hA.less (by decide)))
    · refine ⟨fun i => tot i + p.2 * mval ms p.1 i, m + (F + D) + 1, rfl, r2, r3, fun k => ?_, fun k => ?_, by omega, fun p hp => hl p (.tail _ hp), rfl⟩
      · rw [← hv k, msum]; grind
      · by_cases hp0 : True
        · exact (hs k).add ((hF p hp).mul (hD p.1 (hps p hp) k))
        · exact absurd trivial hp0
  · rintro ρ μ' ⟨tot, m, r1, r2, r3, hv, hs, hsz, hl, rfl⟩
    refine HS.one (HX.ret (HE.var r1 ?_))
    have : tot = fun k => msum ms ps k := by
      funext k; rw [← hv k, msum]; grind
    rw [this]; exact q
  · show some (V.lst (List.replicate n _)) = _
    rw [rat_zero]
    congr 2
    apply List.ext_getElem?
    intro i
    by_cases hi : i < n
    · simp [hi]
    · simp [hi]
end
end Tab
end
noncomputable section
open PySem PySem.W PyProof.Rows PySem.Calls
open Builtin.Int (intBits)
set_option maxRecDepth 100000
namespace Tab
def nsum (f : Nat → Rat) : List Nat → Rat
  | [] => 0
  | k :: r => f k + nsum f r
theorem nsum_snoc (f : Nat → Rat) (k : Nat) : ∀ l, nsum f (l ++ [k]) = nsum f l + f k
  | [] => by simp only [List.nil_append, nsum]; grind
  | a :: r => by rw [List.cons_append, nsum, nsum, nsum_snoc f k r]; grind
theorem nsum_range (f : Nat → Rat) : ∀ n, nsum f (List.range n) = ksum f n
  | 0 => rfl
  | n + 1 => by rw [List.range_succ, nsum_snoc, nsum_range f n]; rfl
def nb (s : TS) (N : Nat) : List Int := (cols N).filter fun c => decide (c ∉ s.bs)
section
variable {w : World} {B : Heap} {μ : Mem} {t : Tb} {s : TS}
theorem fn_law_value (am : Am w B) (ha : At t s μ) {n side : Nat} {g : Rat × Rat → Rat} (hg : ∀ p : Rat × Rat, ([rat p.1, rat p.2] : List V)[side]? = some (rat (g p))) (hs1 : side < 2) {f : Nat → Rat} (hn : n ≤ 3) (hv : n + 1 ≤ s.vals.length) {D W : Nat} (hD : ∀ k, Sz D (f k))
    (hW : ∀ x : Int, 0 ≤ x → x.toNat < s.vals.length → Sz W (g (s.vv x))) (hz : 1 + n * (D + W + 1) ≤ 134217728) {Q : V → Mem → Prop} (q : Q (rat (ksum (fun k => f k * g (s.vv ((k : Int) + 1))) n)) μ) :
    Fn PG w B 3 (.ref 278) [t.self, .lst ((List.range n).map fun k => rat (f k)), .int n, .int side] μ Q := by
  refine Fn.enter (K := laid w.params) (names := ["table_now", "mean", "free", "side"]) am (ho := by k_is) (hcd := by k_is) ?_ rfl rfl rfl (fun vs h => by obtain ⟨x, y, z, u, rfl⟩ := len4 h; rfl) (by decide) (by rfl) (by decide)
  intro A L hA hF'
  have hl6 := ha.len
  refine HS.cons (HX.assign (HE.tuple (HAs.cons (HE.cInt (HAs.cons (HE.cInt (HAs.nil ?_)))))))
  rw [rat_zero]
  refine HS.cons (HX.forI (HE.ty am (by k_is) (by rfl) (HAs.cons (HE.var rfl (HAs.nil (bc_range1 ⟨_, rng_iter hA.handled (by omega), ?_⟩))))))
  refine HFor.inv (fun (i : Nat) => V.int (i : Int)) (fun l ρ μ' => ∃ (tot : Rat) (m : Nat), ρ.get "total" = some (rat tot) ∧ ρ.get "table_now" = some t.self ∧ ρ.get "mean" = some (.lst ((List.range n).map fun k => rat (f k))) ∧ ρ.get "side" = some (.int side) ∧
    tot + nsum (fun k => f k * g (s.vv ((k : Int) + 1))) l = ksum (fun k => f k * g (s.vv ((k : Int) + 1))) n ∧ Sz m tot ∧ m + l.length * (D + W + 1) ≤ 1 + n * (D + W + 1) ∧ (∀ k ∈ l, k < n) ∧ μ' = μ) ?_ ?_ _ _ _
    ⟨0, 1, rfl, rfl, rfl, rfl, by rw [nsum_range]; grind, sz_one (Nat.le_refl _), by rw [List.length_range]; exact Nat.le_refl _, fun k hk => List.mem_range.mp hk, rfl⟩
  · rintro k l ρ μ' ⟨tot, m, r1, r2, r3, r4, hv', hs, hsz, hl, rfl⟩
    have hk := hl k (.head _)
    rw [List.length_cons, Nat.succ_mul] at hsz
    have hkl : ((k : Int) + 1).toNat < s.vals.length := by omega
    have hWk := hW ((k : Int) + 1) (by omega) hkl
    refine HAsg.name (HS.one (HX.assign ?_))
    refine HE.fn am (by k_is) (by k_is) (HAs.cons (HE.var r1 (HAs.cons ?_)))
    refine HE.fn am (by k_is) (by k_is) (HAs.cons (HE.sub (HE.var r3 (HE.var rfl (sub_lst (by omega) (by omega) (z := rat (f k)) (by simp [hk]) (HAs.cons ?_))))))
    refine HE.sub (HE.meth am (by k_is) (by k_is) (by k_is) (by k_is) (HE.var r2 ⟨_, _, _, rfl, ha.attrs, rfl, HAs.cons (HE.binary (HE.var rfl (HE.cInt (op_add (HAs.nil (BC.of_fn (fn_value am ha (by omega) (by omega) (vv_get hkl) ?_) (hA.less (by decide))))))))⟩))
    refine HE.var r4 (sub_tup (hg _) (by omega) (HAs.nil (BC.of_fn (fn_times am (hD k) hWk (by omega) ?_) hA)))
    refine HAs.nil (BC.of_fn (fn_plus am hs ((hD k).mul hWk) (by omega) ?_) hA)
    refine ⟨_, m + (D + W) + 1, rfl, r2, r3, r4, ?_, hs.add ((hD k).mul hWk), by omega, fun k hk => hl k (.tail _ hk), rfl⟩
    rw [← hv', nsum]; grind
  · rintro ρ μ' ⟨tot, m, r1, r2, r3, r4, hv', hs, hsz, hl, rfl⟩
    refine HS.one (HX.ret (HE.var r1 ?_))
    rw [← hv', nsum] at q
    rw [show tot = tot + 0 by grind]; exact q
theorem fn_law_values (am : Am w B) (ha : At t s μ) {n N : Nat} {ms : MS} {M : Addr} (hm : μ M = some (.dict (mv ms))) (mk : Mk n N ms) (hv : s.vals.length = N + 1) {Q : V → Mem → Prop} (q : Q (.lst ((cols N).map fun c => rat2 (s.vv c))) μ) :
    Fn PG w B 2 (.ref 288) [t.self, .raw (.ref M)] μ Q := by
  refine Fn.enter (K := laid w.params) (names := ["table_now", "means"]) am (ho := by k_is) (hcd := by k_is) ?_ rfl rfl rfl (fun vs h => by obtain ⟨x, y, rfl⟩ := len2 h; rfl) (by decide) (by rfl) (by decide)
  intro A L hA hF'
  have N5 := mk.N5
  refine HS.one (HX.ret (HE.comp ?_))
  refine HE.bi am (by k_is) (by rfl) (HAs.cons (HE.var rfl (HAs.nil (bc_sortedD hA.handled hm (by rw [mv_len, mk.mslen]; omega) ⟨_, iter_lst hA.handled, ?_, fun C => ?_⟩))))
  · rw [mk.sorted]; unfold il; rw [List.length_map, cols_len]; omega
  · rw [mk.sorted]
    refine HComp.map V.int (fun c => rat2 (s.vv c)) _ (fun c hc => ?_) q
    have hc' := mem_cols.mp hc
    exact HE.meth am (by k_is) (by k_is) (by k_is) (by k_is) (HE.var rfl ⟨_, _, _, rfl, ha.attrs, rfl, HAs.cons (HE.var rfl (HAs.nil (BC.of_fn (fn_value am ha (by omega) (by omega) (vv_get (by omega)) ⟨rfl, rfl⟩) hA)))⟩)
theorem fn_law_nonbasics (am : Am w B) (ha : At t s μ) {n N : Nat} {ms : MS} {M : Addr} (hm : μ M = some (.dict (mv ms))) (mk : Mk n N ms) {Q : V → Mem → Prop} (q : Q (.lst (il (nb s N))) μ) :
    Fn PG w B 2 (.ref 293) [t.self, .raw (.ref M)] μ Q := by
  refine Fn.enter (K := laid w.params) (names := ["table_now", "means"]) am (ho := by k_is) (hcd := by k_is) ?_ rfl rfl rfl (fun vs h => by obtain ⟨x, y, rfl⟩ := len2 h; rfl) (by decide) (by rfl) (by decide)
  intro A L hA hF'
  have N5 := mk.N5
  refine HS.one (HX.ret (HE.comp ?_))
  refine HE.bi am (by k_is) (by rfl) (HAs.cons (HE.var rfl (HAs.nil (bc_sortedD hA.handled hm (by rw [mv_len, mk.mslen]; omega) ⟨_, iter_lst hA.handled, ?_, fun C => ?_⟩))))
  · rw [mk.sorted]; unfold il; rw [List.length_map, cols_len]; omega
  · rw [mk.sorted]
    refine HComp.pure V.int (fun c => decide (c ∉ s.bs)) V.int _ [] (fun c hc => HTests.one (HB.not (HB.val ?_))) q
    refine HE.meth am (by k_is) (by k_is) (by k_is) (by k_is) (HE.var rfl ⟨_, _, _, rfl, ha.attrs, rfl, HAs.cons (HE.var rfl (HAs.nil (BC.of_fn (fn_is_basic am ha ⟨_, rfl, ?_, rfl, fun _ => HE.var rfl ⟨rfl, rfl⟩⟩) hA)))⟩)
    by_cases e : c ∈ s.bs <;> simp [e]
theorem fn_law_stay (am : Am w B) (ha : At t s μ) {N : Nat} {f : Int → Rat × Rat} {l : List Int} (hN : N ≤ 5) (hv : s.vals.length = N + 1) (hl : ∀ c ∈ l, c ∈ cols N) (hll : l.length ≤ 1000) (he : ∀ c ∈ l, s.vv c = f c) {Q : V → Mem → Prop} (q : Q (.raw (.bool true)) μ) :
    Fn PG w B 2 (.ref 298) [t.self, .lst ((cols N).map fun c => rat2 (f c)), .lst (il l)] μ Q := by
  refine Fn.enter (K := laid w.params) (names := ["table_now", "before", "some"]) am (ho := by k_is) (hcd := by k_is) ?_ rfl rfl rfl (fun vs h => by obtain ⟨x, y, z, rfl⟩ := len3 h; rfl) (by decide) (by rfl) (by decide)
  intro A L hA hF'
  have hu : A.units + 64 < 9900 := by have := hA.units; omega
  refine HS.one (HX.ret (HE.compare (HE.comp (HE.var rfl ⟨_, iter_lst hA.handled, by unfold il; rw [List.length_map]; exact hll, fun C => ?_⟩))))
  refine HComp.pure V.int (fun c => false) V.int _ [] (fun c hc => HTests.one (HB.compare ?_)) ?_
  · have hc' := mem_cols.mp (hl c hc)
    refine HE.meth am (by k_is) (by k_is) (by k_is) (by k_is) (HE.var rfl ⟨_, _, _, rfl, ha.attrs, rfl, HAs.cons (HE.var rfl (HAs.nil (BC.of_fn (fn_value am ha (by omega) (by omega) (vv_get (by omega)) ?_) hA)))⟩)
    refine HE.sub (HE.var rfl (HE.binary (HE.var rfl (HE.cInt (op_sub (sub_lst (by omega) (by omega) (cols_get (f := fun c => rat2 (f c)) (hl c hc)) (op_ne okV_rat2 okV_rat2 hu fun b hb => ⟨b, rfl, ?_, rfl, fun h => by cases h⟩)))))))
    cases b with
    | false => rfl
    | true => exact absurd (by rw [he c hc]) (hb.mp rfl)
  · refine HE.list (HAs.nil (op_eq (by simp [okV]) rfl hu fun b hb => ?_))
    have : b = true := hb.mpr (by simp)
    subst this
    exact q
end
end Tab
end
noncomputable section
open PySem PySem.W PyProof.Rows PySem.Calls
open Builtin.Int (intBits)
set_option maxRecDepth 100000
namespace Tab
def mb : Nat → Nat
  | 0 => 1
  | r + 1 => 4 * mb r + 17
structure LI (t : Tb) (M : Addr) (n N : Nat) (s : TS) (ms : MS) (R W : Nat) (μ : Mem) : Prop where
  tab : At t s μ
  mm : μ M = some (.dict (mv ms))
  md : M ≠ t.dx
  mo : ¬ own t s M
  mks : Mk n N ms
  N2 : N ≤ n + 2
  vl : s.vals.length = N + 1
  rl : s.rows.length + n = N
  bl : ∀ b ∈ s.bs, b ≤ N
  nonb : ∀ b ∈ s.bs, ∀ d, val (s.ent b) d ≠ 0 → (1 ≤ d ∧ d ≤ N) ∧ d ∉ s.bs
  msz : ∀ c k, Sz (mb (N - n)) (mval ms c k)
  r1 : 1 ≤ R
  w1 : 1 ≤ W
  rsz : ∀ x ∈ s.bs, ∀ d, Sz R (val (s.ent x) d)
  vsz : ∀ x : Int, 0 ≤ x → x.toNat < s.vals.length → Sz2 W (s.vv x)
  unit : ∀ j k : Nat, j < n → k < n → mval ms ((k : Int) + 1) j = if j = k then 1 else 0
  J : ∀ v : Int → Rat, (∀ b ∈ s.bs, v b = sm (fun d => val (s.ent b) d * v d)) ↔ (∀ c ∈ cols N, v c = ksum (fun k => mval ms c k * v ((k : Int) + 1)) n)
  sat1 : ∀ b ∈ s.bs, (s.vv b).1 = sm (fun d => val (s.ent b) d * (s.vv d).1)
  sat2 : ∀ b ∈ s.bs, (s.vv b).2 = sm (fun d => val (s.ent b) d * (s.vv d).2)
theorem ksum_congr {f g : Nat → Rat} : ∀ {n : Nat}, (∀ k, k < n → f k = g k) → ksum f n = ksum g n
  | 0, _ => rfl
  | n + 1, h => by rw [ksum, ksum, ksum_congr fun k hk => h k (by omega), h n (by omega)]
theorem ksum_zero : ∀ {n : Nat}, ksum (fun _ => 0) n = 0
  | 0 => rfl
  | n + 1 => by rw [ksum, ksum_zero]; grind
theorem ksum_delta (g : Nat → Rat) (j : Nat) : ∀ {n : Nat}, j < n → ksum (fun k => g k * (if j = k then 1 else 0)) n = g j
  | 0, h => by omega
  | n + 1, h => by
    rw [ksum]
    by_cases e : j = n
    · subst e
      rw [if_pos rfl, ksum_congr (g := fun _ => 0) fun k hk => by rw [if_neg (by omega)]; grind, ksum_zero]
      grind
    · rw [if_neg e, ksum_delta g j (by omega)]
      grind
theorem nodup_le : ∀ (n : Nat) (l : List Int), l.Nodup → (∀ c ∈ l, 1 ≤ c ∧ c ≤ (n : Int)) → l.length ≤ n := by
  intro n
  induction n with
  | zero => intro l _ h; cases l with
    | nil => simp
    | cons c r => have := h c (.head _); omega
  | succ n ih =>
    intro l hn h
    have h1 : (l.filter fun c => decide (c ≠ ((n + 1 : Nat) : Int))).length ≤ n := ih _ (hn.filter _) fun c hc => by
      obtain ⟨a, b⟩ := List.mem_filter.mp hc
      have := h c a
      have b' : c ≠ ((n + 1 : Nat) : Int) := by simpa using b
      omega
    have h2 : ∀ (l : List Int), l.Nodup → l.length ≤ (l.filter fun c => decide (c ≠ ((n + 1 : Nat) : Int))).length + 1 := by
      intro l
      induction l with
      | nil => intro _; simp
      | cons c r ih2 =>
        intro hn
        rw [List.nodup_cons] at hn
        rw [List.filter_cons]
        by_cases e : c = ((n + 1 : Nat) : Int)
        · have : (r.filter fun c => decide (c ≠ ((n + 1 : Nat) : Int))) = r := List.filter_eq_self.mpr fun x hx => decide_eq_true fun q => hn.1 (by rw [e, ← q]; exact hx)
          rw [if_neg (by simp [e]), this, List.length_cons]
          exact Nat.le_refl _
        · rw [if_pos (decide_eq_true e), List.length_cons, List.length_cons]
          have := ih2 hn.2
          omega
    have := h2 l hn
    omega
theorem ne_false {b : Bool} {x y : V} (h : b = true ↔ x ≠ y) (e : x = y) : b = false := by
  cases b with
  | false => rfl
  | true => exact absurd e (h.mp rfl)
theorem eq_false' {b : Bool} {x y : V} (h : b = true ↔ x = y) (e : x ≠ y) : b = false := by
  cases b with
  | false => rfl
  | true => exact absurd (h.mp rfl) e
theorem srt_lt {l : List Int} (h : l.Nodup) : (srt l).Pairwise (· < ·) := by
  have h1 := srt_sorted l
  have h2 := srt_nodup h
  exact (List.Pairwise.and h1 h2).imp fun ⟨a, b⟩ => by omega
section
variable {t : Tb} {M : Addr} {n N : Nat} {s : TS} {ms : MS} {R W : Nat} {μ : Mem}
theorem LI.bslen (li : LI t M n N s ms R W μ) : s.bs.length + n = N := by
  have := li.rl
  unfold TS.bs
  rw [List.length_map]; exact this
theorem LI.key (li : LI t M n N s ms R W μ) {b : Int} (hb : b ∈ s.bs) {c : Int} (hc : c ∈ (s.ent b).map (·.1)) : c ∈ cols N ∧ c ∉ s.bs ∧ val (s.ent b) c ≠ 0 := by
  have ok := li.tab.ok b hb
  have h0 := (ok.mem c).mp hc
  have := li.nonb b hb c h0
  exact ⟨mem_cols.mpr this.1, this.2, h0⟩
theorem LI.rowlen (li : LI t M n N s ms R W μ) {b : Int} (hb : b ∈ s.bs) : (s.ent b).length ≤ n := by
  have ok := li.tab.ok b hb
  have hnd : ((s.ent b).map (·.1) ++ s.bs).Nodup := by
    rw [List.nodup_append]
    exact ⟨ok.nodup, li.tab.nB, fun x hx y hy e => (li.key hb hx).2.1 (e ▸ hy)⟩
  have := nodup_le N _ hnd fun c hc => by
    rcases List.mem_append.mp hc with q | q
    · exact mem_cols.mp (li.key hb q).1
    · exact ⟨(li.tab.rng c q).1, li.bl c q⟩
  rw [List.length_append, List.length_map] at this
  have h2 := li.bslen
  omega
theorem LI.asc (li : LI t M n N s ms R W μ) {b : Int} (hb : b ∈ s.bs) : Asc (srt ((s.ent b).map (·.1))) := by
  have ok := li.tab.ok b hb
  refine ⟨srt_lt ok.nodup, ok.keys_rng, ?_⟩
  rw [srt_len, List.length_map]
  have := li.rowlen hb
  have := li.mks.n3
  omega
theorem LI.mean (li : LI t M n N s ms R W μ) {b : Int} (hb : b ∈ s.bs) {j : Nat} (hj : j < n) : sm (fun d => val (s.ent b) d * mval ms d j) = mval ms b j := by
  refine ((li.J (fun c => mval ms c j)).mpr (fun c hc => ?_) b hb).symm
  rw [ksum_congr (g := fun k => mval ms c k * (if j = k then 1 else 0)) fun k hk => by rw [li.unit j k hj hk]]
  rw [ksum_delta _ _ hj]
theorem LI.val1 (li : LI t M n N s ms R W μ) {c : Int} (hc : c ∈ cols N) : (s.vv c).1 = ksum (fun k => mval ms c k * (s.vv ((k : Int) + 1)).1) n :=
  (li.J (fun x => (s.vv x).1)).mp li.sat1 c hc
theorem LI.val2 (li : LI t M n N s ms R W μ) {c : Int} (hc : c ∈ cols N) : (s.vv c).2 = ksum (fun k => mval ms c k * (s.vv ((k : Int) + 1)).2) n :=
  (li.J (fun x => (s.vv x).2)).mp li.sat2 c hc
theorem LI.basics (li : LI t M n N s ms R W μ) : (cols N).filter (fun c => decide (c ∈ s.bs)) = srt s.bs := by
  refine srt_is ?_ (((cols_lt N).filter _).imp fun h => Int.le_of_lt h)
  refine (List.perm_ext_iff_of_nodup ((cols_nodup N).filter _) li.tab.nB).mpr fun c => ?_
  rw [List.mem_filter]
  constructor
  · intro h; simpa using h.2
  · intro h; exact ⟨mem_cols.mpr ⟨(li.tab.rng c h).1, li.bl c h⟩, by simpa using h⟩
theorem msum_row (es : Row) (k : Nat) : ∀ l : List Int, msum ms (l.map fun c => (c, val es c)) k = lsum (fun c => val es c * mval ms c k) l
  | [] => rfl
  | c :: r => by rw [List.map_cons, msum, lsum, msum_row es k r]
theorem LI.rowsum (li : LI t M n N s ms R W μ) {b : Int} (hb : b ∈ s.bs) {k : Nat} (hk : k < n) : msum ms ((srt ((s.ent b).map (·.1))).map fun c => (c, val (s.ent b) c)) k = mval ms b k := by
  rw [msum_row, lsum_row (li.tab.ok b hb) fun c hc => by rw [hc]; grind]
  exact li.mean hb hk
theorem mb_le {r : Nat} (h : r ≤ 2) : mb r ≤ 101 := by
  match r, h with
  | 0, _ => decide
  | 1, _ => decide
  | 2, _ => decide
theorem LI.mb (li : LI t M n N s ms R W μ) : mb (N - n) ≤ 101 := mb_le (by have := li.N2; omega)
end
end Tab
end
noncomputable section
open PySem PySem.W PyProof.Rows PySem.Calls
open Builtin.Int (intBits)
set_option maxRecDepth 100000
namespace Tab
theorem okV_il (l : List Int) : okV 8 (.lst (il l)) = true := by
  simp [okV, il]
theorem okV_rats (l : List Nat) (f : Nat → Rat) : okV 8 (.lst (l.map fun k => rat (f k))) = true := by
  simp only [okV, List.all_eq_true, List.mem_map]
  rintro x ⟨k, _, rfl⟩
  exact okV_rat
section
variable {w : World} {B : Heap} {μ : Mem} {t : Tb} {s : TS}
theorem fn_is_right (am : Am w B) {M : Addr} {n N : Nat} {ms : MS} {R W : Nat} (li : LI t M n N s ms R W μ) (hz : 3 * W + 400 ≤ 134217728) (hz' : 3 * R + 400 ≤ 134217728) {Q : V → Mem → Prop} (q : Q (.raw (.bool true)) μ) :
    Fn PG w B 4 (.ref 283) [t.self, .raw (.ref M), .int n] μ Q := by
  refine Fn.enter (K := laid w.params) (names := ["table_now", "means", "free"]) am (ho := by k_is) (hcd := by k_is) ?_ rfl rfl rfl (fun vs h => by obtain ⟨x, y, z, rfl⟩ := len3 h; rfl) (by decide) (by rfl) (by decide)
  intro A L hA hF'
  have hu : A.units + 64 < 9900 := by have := hA.units; omega
  have ha := li.tab
  have hm := li.mm
  have mk := li.mks
  have N5 := mk.N5
  have n3 := mk.n3
  have hmb := li.mb
  have hmsl := mk.mslen
  have hbl := li.bslen
  refine HS.cons (HX.assign (HE.meth0 am (by k_is) (by k_is) (by k_is) (by k_is) (HE.var rfl ⟨_, _, _, rfl, ha.attrs, rfl, BC.of_fn (fn_basics am ha ?_) (hA.less (by decide))⟩)))
  refine HS.cons (HX.ite (HB.compare (HE.var rfl (HE.comp ?_))))
  refine HE.bi am (by k_is) (by rfl) (HAs.cons (HE.var rfl (HAs.nil (bc_sortedD hA.handled hm (by rw [mv_len, hmsl]; omega) ⟨_, iter_lst hA.handled, ?_, fun C => ?_⟩))))
  · rw [mk.sorted]; unfold il; rw [List.length_map, cols_len]; omega
  rw [mk.sorted]
  refine HComp.pure V.int (fun c => decide (c ∈ s.bs)) V.int _ [] (fun c hc => HTests.one (HB.val ?_)) ?_
  · exact HE.meth am (by k_is) (by k_is) (by k_is) (by k_is) (HE.var rfl ⟨_, _, _, rfl, ha.attrs, rfl, HAs.cons (HE.var rfl (HAs.nil (BC.of_fn (fn_is_basic am ha ⟨_, rfl, rfl, rfl, fun _ => HE.var rfl ⟨rfl, rfl⟩⟩) (hA.less (by decide)))))⟩)
  rw [List.nil_append, li.basics]
  refine op_ne (okV_il _) (okV_il _) hu fun b hb => ⟨b, rfl, ?_⟩
  rw [ne_false hb rfl, if_neg (by simp)]
  refine HS.nil ?_
  refine HS.cons (HX.ite (HB.compare ?_))
  refine HE.bi am (by k_is) (by rfl) (HAs.cons (HE.var rfl (HAs.nil (bc_lenI (by unfold il; rw [List.length_map, srt_len]; omega) ?_))))
  refine HE.binary (HE.bi am (by k_is) (by rfl) (HAs.cons (HE.var rfl (HAs.nil (bc_lenD hm (by rw [mv_len, hmsl]; omega) (HE.var rfl (op_sub ?_)))))))
  refine op_ne rfl rfl hu fun b hb => ⟨b, rfl, ?_⟩
  have elen : (((il (srt s.bs)).length : Nat) : Int) = ((mv ms).length : Int) - (n : Int) := by
    unfold il; rw [List.length_map, srt_len, mv_len, hmsl]; omega
  rw [ne_false hb (by rw [elen]), if_neg (by simp)]
  refine HS.nil ?_
  refine HS.cons (HX.forI (HE.var rfl ⟨_, iter_lst hA.handled, ?_⟩))
  refine HFor.inv V.int (fun l ρ μ' => ρ.get "table_now" = some t.self ∧ ρ.get "means" = some (.raw (.ref M)) ∧ ρ.get "free" = some (.int n) ∧ ρ.get "basics_now" = some (.lst (il (srt s.bs))) ∧ (∀ b ∈ l, b ∈ s.bs) ∧ μ' = μ) ?_ ?_ _ _ _
    ⟨rfl, rfl, rfl, rfl, fun b hb => mem_srt.mp hb, rfl⟩
  · rintro b l ρ μ' ⟨r1, r2, r3, r4, hl, rfl⟩
    have hb := hl b (.head _)
    have ok := ha.ok b hb
    have asc := li.asc hb
    refine HAsg.name (HS.cons (HX.assign (HE.meth am (by k_is) (by k_is) (by k_is) (by k_is) (HE.var r1 ⟨_, _, _, rfl, ha.attrs, rfl, HAs.cons (HE.var rfl (HAs.nil (BC.of_fn (fn_row am ha hb ?_) (hA.less (by decide)))))⟩))))
    generalize hks : srt ((s.ent b).map (·.1)) = ks at asc
    have hk : ∀ c ∈ ks, c ∈ cols N ∧ c ∉ s.bs ∧ val (s.ent b) c ≠ 0 := fun c hc => li.key hb (mem_srt.mp (by rw [hks]; exact hc))
    have hk3 := asc.2.2
    refine HS.cons (HX.ite (HB.compare (HE.comp (HE.var rfl ⟨_, iter_lst hA.handled, by rw [List.length_map]; omega, fun C => ?_⟩))))
    refine HComp.map (ent1 (s.ent b)) V.int _ (fun c hc => HE.nth 0 rfl rfl ⟨rfl, rfl⟩) ?_
    refine HE.bi am (by k_is) (by rfl) (HAs.cons (HE.ty am (by k_is) (by rfl) (HAs.cons (HE.comp (HE.var rfl ⟨_, iter_lst hA.handled, by rw [List.length_map]; omega, fun C => ?_⟩)))))
    refine HComp.map (ent1 (s.ent b)) V.int _ (fun c hc => HE.nth 0 rfl rfl ⟨rfl, rfl⟩) ?_
    refine HAs.nil (bc_set hA.handled asc (HAs.nil (bc_sortedS hA.handled asc (op_ne (okV_il _) (okV_il _) hu fun x hx => ⟨x, rfl, ?_⟩))))
    rw [ne_false hx rfl, if_neg (by simp)]
    refine HS.nil ?_
    refine HS.cons (HX.forI (HE.var rfl ⟨_, iter_lst hA.handled, ?_⟩))
    refine HFor.inv (ent1 (s.ent b)) (fun l' ρ' μ'' => ρ'.get "table_now" = some t.self ∧ ρ'.get "means" = some (.raw (.ref M)) ∧ ρ'.get "free" = some (.int n) ∧ ρ'.get "basics_now" = some (.lst (il (srt s.bs))) ∧ ρ'.get "basic" = some (.int b) ∧ ρ'.get "row_now" = some (.lst (ks.map (ent1 (s.ent b)))) ∧
      (∀ c ∈ l', c ∈ ks) ∧ μ'' = μ') ?_ ?_ _ _ _ ⟨r1, r2, r3, r4, rfl, rfl, fun c hc => hc, rfl⟩
    · rintro c l' ρ' μ' ⟨p1, p2, p3, p4, p5, p6, hl', rfl⟩
      obtain ⟨c1, c2, c3⟩ := hk c (hl' c (.head _))
      refine HAsg.tup (ns := [("column", _), ("factor", _)]) hA.handled rfl (HS.one (HX.ite (HB.boolop (HBs.or ?_))))
      refine HB.compare (HE.var rfl (HE.var p2 (op_notInD hm ⟨_, rfl, ?_⟩)))
      rw [mk.get c1]
      rw [if_neg (by simp)]
      refine HBs.or (HB.compare (HE.var rfl (HE.var p4 (op_in rfl (okV_il _) hu fun x hx => ⟨x, rfl, ?_⟩))))
      have hxf : x = false := by
        cases x with
        | false => rfl
        | true =>
          have := hx.mp rfl
          unfold il at this
          simp only [List.mem_map, V.int.injEq] at this
          obtain ⟨y, hy, rfl⟩ := this
          exact absurd (mem_srt.mp hy) c2
      subst hxf
      rw [if_neg (by simp)]
      refine HBs.or (HB.compare (HE.nth 0 rfl rfl (HE.cInt (op_eq rfl rfl hu fun x hx => ⟨x, rfl, ?_⟩))))
      rw [int_eq hx, decide_eq_false (fun e => c3 (Rat.num_eq_zero.mp e)), if_neg (by simp)]
      refine HBs.or (HB.compare (HE.var rfl ?_))
      refine HE.fn am (by k_is) (by k_is) (HAs.cons (HE.nth 0 rfl rfl (HAs.cons (HE.nth 1 rfl rfl (HAs.nil (BC.of_fn (fn_lowest am den_ne ?_) (hA.less (by decide))))))))
      refine op_ne okV_rat okV_rat hu fun x hx => ⟨x, rfl, ?_⟩
      rw [ne_false hx (by rw [Rat.num_divInt_den]), if_neg (by simp)]
      refine HBs.nil ?_
      rw [if_neg (by decide)]
      exact HS.nil ⟨p1, p2, p3, p4, p5, p6, fun c hc => hl' c (.tail _ hc), rfl⟩
    · rintro ρ' μ' ⟨p1, p2, p3, p4, p5, p6, hl', rfl⟩
      have epv : ks.map (ent1 (s.ent b)) = (ks.map fun c => (c, val (s.ent b) c)).map pv := by rw [List.map_map]; rfl
      refine HS.one (HX.ite (HB.compare ?_))
      refine HE.fn am (by k_is) (by k_is) (HAs.cons (HE.var p6 (HAs.cons (HE.var p2 (HAs.cons (HE.var p3 (HAs.nil (BC.of_fn (fn_law_sum am (ps := ks.map fun c => (c, val (s.ent b) c)) hm mk (.inl (by rw [epv])) (fun p hp => ?_) (F := R) (D := mb (N - n)) (fun p hp => ?_) (fun c _ k => li.msz c k) ?_ ?_) hA))))))))
      · obtain ⟨c, hc, rfl⟩ := List.mem_map.mp hp
        exact (hk c hc).1
      · obtain ⟨c, hc, rfl⟩ := List.mem_map.mp hp
        exact li.rsz b hb c
      · rw [List.length_map]
        have := Nat.mul_le_mul_right (R + mb (N - n) + 1) hk3
        omega
      · have hbc : b ∈ cols N := mem_cols.mpr ⟨(ha.rng b hb).1, li.bl b hb⟩
        refine HE.sub (HE.var p2 (HE.var p5 (sub_dict hm (mk.get hbc) (op_ne (okV_rats _ _) (okV_rats _ _) hu fun x hx => ⟨x, rfl, ?_⟩))))
        have he : ((List.range n).map fun k => rat (msum ms (ks.map fun c => (c, val (s.ent b) c)) k)) = (List.range n).map fun k => rat (mval ms b k) :=
          List.map_congr_left fun k hk' => by rw [← hks, li.rowsum hb (List.mem_range.mp hk')]
        rw [ne_false hx (by rw [he]), if_neg (by simp)]
        exact HS.nil ⟨p1, p2, p3, p4, fun b hb => hl b (.tail _ hb), rfl⟩
  · rintro ρ μ' ⟨r1, r2, r3, r4, hl, rfl⟩
    refine HS.cons (HX.forI ?_)
    refine HE.bi am (by k_is) (by rfl) (HAs.cons (HE.var r2 (HAs.nil (bc_sortedD hA.handled hm (by rw [mv_len, hmsl]; omega) ⟨_, iter_lst hA.handled, ?_⟩))))
    rw [mk.sorted]
    refine HFor.inv V.int (fun l ρ μ'' => ρ.get "table_now" = some t.self ∧ ρ.get "means" = some (.raw (.ref M)) ∧ ρ.get "free" = some (.int n) ∧ (∀ c ∈ l, c ∈ cols N) ∧ μ'' = μ') ?_ ?_ _ _ _ ⟨r1, r2, r3, fun c hc => hc, rfl⟩
    · rintro c l ρ μ'' ⟨p1, p2, p3, hl, rfl⟩
      have hc := hl c (.head _)
      have hc' := mem_cols.mp hc
      have hvl := li.vl
      refine HAsg.name (HS.cons (HX.assign (HE.tuple (HAs.cons ?_))))
      refine HE.fn am (by k_is) (by k_is) (HAs.cons (HE.var p1 (HAs.cons (HE.sub (HE.var p2 (HE.var rfl (sub_dict hm (mk.get hc) (HAs.cons (HE.var p3 (HAs.cons (HE.cInt (HAs.nil (BC.of_fn (fn_law_value am ha (side := 0) (g := Prod.fst) (fun p => rfl) (by omega) (by omega) (by omega) (li.msz c) (fun x h0 hx => (li.vsz x h0 hx).1) ?_ ?_) hA)))))))))))))
      · have := Nat.mul_le_mul_right (mb (N - n) + W + 1) n3.2
        omega
      rw [← li.val1 hc]
      refine HAs.cons (HE.fn am (by k_is) (by k_is) (HAs.cons (HE.var p1 (HAs.cons (HE.sub (HE.var p2 (HE.var rfl (sub_dict hm (mk.get hc) (HAs.cons (HE.var p3 (HAs.cons (HE.cInt (HAs.nil (BC.of_fn (fn_law_value am ha (side := 1) (g := Prod.snd) (fun p => rfl) (by omega) (by omega) (by omega) (li.msz c) (fun x h0 hx => (li.vsz x h0 hx).2) ?_ ?_) hA))))))))))))))
      · have := Nat.mul_le_mul_right (mb (N - n) + W + 1) n3.2
        omega
      rw [← li.val2 hc]
      refine HAs.nil (HS.one (HX.ite (HB.compare ?_)))
      refine HE.meth am (by k_is) (by k_is) (by k_is) (by k_is) (HE.var p1 ⟨_, _, _, rfl, ha.attrs, rfl, HAs.cons (HE.var rfl (HAs.nil (BC.of_fn (fn_value am ha (by omega) (by omega) (vv_get (by omega)) ?_) (hA.less (by decide)))))⟩)
      refine HE.var rfl (op_ne okV_rat2 (okV_rat2 (q := s.vv c)) hu fun x hx => ⟨x, rfl, ?_⟩)
      rw [ne_false hx rfl, if_neg (by simp)]
      exact HS.nil ⟨p1, p2, p3, fun c hc => hl c (.tail _ hc), rfl⟩
    · rintro ρ μ'' ⟨p1, p2, p3, hl, rfl⟩
      exact HS.one (HX.ret (HE.cBool q))
end
end Tab
end
noncomputable section
open PySem PySem.W PyProof.Rows PySem.Calls
open Builtin.Int (intBits)
set_option maxRecDepth 100000
namespace Tab
theorem sm_def (f : Int → Rat) : sm f = f 1 + (f 2 + (f 3 + (f 4 + (f 5 + 0)))) := rfl
theorem sm_add (f g : Int → Rat) : sm (fun d => f d + g d) = sm f + sm g := by simp only [sm_def]; grind
theorem sm_mul (f : Int → Rat) (k : Rat) : sm (fun d => f d * k) = sm f * k := by simp only [sm_def]; grind
theorem sm_delta (f : Int → Rat) {c : Int} (h : 1 ≤ c ∧ c ≤ 5) : sm (fun d => if d = c then f d else 0) = f c := by
  simp only [sm_def]
  have : c = 1 ∨ c = 2 ∨ c = 3 ∨ c = 4 ∨ c = 5 := by omega
  rcases this with rfl | rfl | rfl | rfl | rfl <;> simp <;> grind
theorem sm_congr {f g : Int → Rat} (h : ∀ d, f d = g d) : sm f = sm g := by
  have : f = g := funext h
  rw [this]
theorem sm_zero : sm (fun _ => 0) = 0 := by simp only [sm_def]; grind
theorem sm_turn (f v : Int → Rat) {b c : Int} (hb : 1 ≤ b ∧ b ≤ 5) (hc : 1 ≤ c ∧ c ≤ 5) (hbc : c ≠ b) (hfb : f b = 0) (hfc : f c ≠ 0) :
    sm (fun d => turn f b c d * v d) = v b * (1 / f c) + v c - sm (fun d => f d * v d) * (1 / f c) := by
  have e : ∀ d, turn f b c d * v d = ((if d = b then v d * (1 / f c) else 0) + (if d = c then v d else 0)) + (f d * v d) * (-(1 / f c)) := fun d => by
    unfold turn
    by_cases h1 : d = b
    · subst h1
      rw [if_pos rfl, if_pos rfl, if_neg (Ne.symm hbc), hfb]; grind
    · rw [if_neg h1, if_neg h1]
      by_cases h2 : d = c
      · subst h2
        rw [if_pos rfl, if_pos rfl]; grind
      · rw [if_neg h2, if_neg h2]; grind
  rw [sm_congr e, sm_add, sm_add, sm_mul, sm_delta (fun d => v d * (1 / f c)) hb, sm_delta v hc]
  grind
theorem sm_swap (f g v : Int → Rat) {c : Int} (hc : 1 ≤ c ∧ c ≤ 5) : sm (fun d => swap f g c d * v d) = sm (fun d => g d * v d) + sm (fun d => f d * v d) * g c - g c * v c := by
  have e : ∀ d, swap f g c d * v d = (g d * v d + (f d * v d) * g c) + (if d = c then g d * v d * (-1) else 0) := fun d => by
    unfold swap
    by_cases h : d = c
    · rw [if_pos h, if_pos h, h]; grind
    · rw [if_neg h, if_neg h]; grind
  rw [sm_congr e, sm_add, sm_add, sm_mul, sm_delta (fun d => g d * v d * (-1)) hc]
  grind
theorem piv_iff {E E' : Int → Int → Rat} {bs bs' : List Int} {b c : Int} (hb : b ∈ bs) (hbr : 1 ≤ b ∧ b ≤ 5) (hcr : 1 ≤ c ∧ c ≤ 5) (hc : E b c ≠ 0) (hbb : E b b = 0) (hbs : ∀ x, x ∈ bs' ↔ (x ∈ bs ∧ x ≠ b) ∨ x = c)
    (h1 : ∀ d, E' c d = turn (E b) b c d) (h2 : ∀ x ∈ bs, x ≠ b → ∀ d, E' x d = swap (turn (E b) b c) (E x) c d) (v : Int → Rat) :
    (∀ x ∈ bs', v x = sm (fun d => E' x d * v d)) ↔ (∀ x ∈ bs, v x = sm (fun d => E x d * v d)) := by
  have hcb : c ≠ b := fun e => hc (by rw [e]; exact hbb)
  have key := sm_turn (E b) v hbr hcr hcb hbb hc
  have i1 : sm (fun d => E' c d * v d) = sm (fun d => turn (E b) b c d * v d) := sm_congr fun d => by rw [h1]
  have ip : (1 / E b c) * E b c = 1 := by grind
  constructor
  · intro h x hx
    have hvc := h c ((hbs c).mpr (.inr rfl))
    rw [i1, key] at hvc
    by_cases e : x = b
    · subst e
      have : (v x - sm (fun d => E x d * v d)) * (1 / E x c) = 0 := by grind
      have : (v x - sm (fun d => E x d * v d)) * (1 / E x c) * E x c = 0 := by rw [this]; grind
      grind
    · have hvx := h x ((hbs x).mpr (.inl ⟨hx, e⟩))
      rw [sm_congr (g := fun d => swap (turn (E b) b c) (E x) c d * v d) fun d => by rw [h2 x hx e], sm_swap _ _ _ hcr, key] at hvx
      rw [← hvc] at hvx
      grind
  · intro h x hx
    have hvb := h b hb
    rw [← hvb] at key
    have kc : sm (fun d => turn (E b) b c d * v d) = v c := by rw [key]; grind
    rcases (hbs x).mp hx with ⟨hx', e⟩ | e
    · rw [sm_congr (g := fun d => swap (turn (E b) b c) (E x) c d * v d) fun d => by rw [h2 x hx' e], sm_swap _ _ _ hcr, kc, ← h x hx']
      grind
    · rw [e, i1, kc]
theorem shift_sat {E : Int → Int → Rat} {bs : List Int} {c : Int} (hcr : 1 ≤ c ∧ c ≤ 5) (hnb : ∀ x ∈ bs, ∀ y ∈ bs, E x y = 0) (hc : c ∉ bs) {f f' : Int → Rat} {st : Rat} (hf : ∀ b ∈ bs, f b = sm (fun d => E b d * f d))
    (hf' : ∀ x, 0 ≤ x → f' x = if x = c then f x + st else if x ∈ bs then f x + st * E x c else f x) (hp : ∀ b ∈ bs, 0 ≤ b) : ∀ b ∈ bs, f' b = sm (fun d => E b d * f' d) := by
  intro b hb
  have hbc : b ≠ c := fun e => hc (e ▸ hb)
  have e0 : ∀ d, 0 ≤ d → E b d * f' d = E b d * f d + (if d = c then E b d * st else 0) := fun d h0 => by
    rw [hf' d h0]
    by_cases h : d = c
    · rw [if_pos h, if_pos h]; grind
    · rw [if_neg h, if_neg h]
      by_cases h' : d ∈ bs
      · rw [if_pos h', hnb b hb d h']; grind
      · rw [if_neg h']; grind
  have e1 : sm (fun d => E b d * f' d) = sm (fun d => E b d * f d + (if d = c then E b d * st else 0)) := by
    simp only [sm_def]
    rw [e0 1 (by omega), e0 2 (by omega), e0 3 (by omega), e0 4 (by omega), e0 5 (by omega)]
  rw [e1, sm_add, sm_delta (fun d => E b d * st) hcr, ← hf b hb, hf' b (hp b hb), if_neg hbc, if_pos hb]
  grind
section
variable {t : Tb} {M : Addr} {n N : Nat} {s : TS} {ms : MS} {R W : Nat} {μ : Mem}
theorem LI.zero (li : LI t M n N s ms R W μ) : ∀ x ∈ s.bs, ∀ y ∈ s.bs, val (s.ent x) y = 0 := fun x hx y hy =>
  Classical.byContradiction fun e => (li.nonb x hx y e).2 hy
theorem LI.keepM (li : LI t M n N s ms R W μ) {s' : TS} {μ' : Mem} (st : Step t s s' μ μ') : μ' M = some (.dict (mv ms)) ∧ ¬ own t s' M := by
  refine ⟨by rw [st.keep M (by rw [li.mm]; simp) li.mo]; exact li.mm, fun o => ?_⟩
  rcases st.owns M o with q | q
  · exact li.mo q
  · rw [li.mm] at q; cases q
theorem LI.pivot (li : LI t M n N s ms R W μ) {s' : TS} {μ' : Mem} (ha : At t s' μ') (st : Step t s s' μ μ') {b c : Int} (hb : b ∈ s.bs) (hc : val (s.ent b) c ≠ 0) (hvl : s'.vals.length = s.vals.length)
    (hbs : ∀ x, x ∈ s'.bs ↔ (x ∈ s.bs ∧ x ≠ b) ∨ x = c) (h1 : ∀ d, val (s'.ent c) d = turn (val (s.ent b)) b c d) (h2 : ∀ x ∈ s.bs, x ≠ b → ∀ d, val (s'.ent x) d = swap (turn (val (s.ent b)) b c) (val (s.ent x)) c d)
    {W' : Nat} (hW1 : 1 ≤ W') (hW : ∀ x : Int, 0 ≤ x → x.toNat < s'.vals.length → Sz2 W' (s'.vv x)) (sat1 : ∀ b ∈ s.bs, (s'.vv b).1 = sm (fun d => val (s.ent b) d * (s'.vv d).1)) (sat2 : ∀ b ∈ s.bs, (s'.vv b).2 = sm (fun d => val (s.ent b) d * (s'.vv d).2)) :
    LI t M n N s' ms (4 * R + 2) W' μ' := by
  have z := li.zero
  have hcn := li.nonb b hb c hc
  have hcb : c ≠ b := fun e => hcn.2 (e ▸ hb)
  have hbN := li.bl b hb
  have hbr := li.tab.rng b hb
  have N5 := li.mks.N5
  have hcr : 1 ≤ c ∧ c ≤ 5 := by omega
  have piv := piv_iff (E := fun x => val (s.ent x)) (E' := fun x => val (s'.ent x)) hb hbr hcr hc (z b hb b hb) hbs h1 h2
  have hlen : s'.bs.length = s.bs.length := by
    have p1 : s'.bs.Perm (c :: s.bs.filter fun x => decide (x ≠ b)) := (List.perm_ext_iff_of_nodup ha.nB (by
      rw [List.nodup_cons]
      exact ⟨fun h => hcn.2 (List.mem_filter.mp h).1, li.tab.nB.filter _⟩)).mpr fun x => by
        rw [hbs x, List.mem_cons, List.mem_filter]
        simp [or_comm]
    have p2 : s.bs.Perm (b :: s.bs.filter fun x => decide (x ≠ b)) := (List.perm_ext_iff_of_nodup li.tab.nB (by
      rw [List.nodup_cons]
      exact ⟨fun h => by have := (List.mem_filter.mp h).2; simp at this, li.tab.nB.filter _⟩)).mpr fun x => by
        rw [List.mem_cons, List.mem_filter]
        by_cases e : x = b
        · subst e; simp [hb]
        · simp [e]
    rw [p1.length_eq, p2.length_eq, List.length_cons, List.length_cons]
  have tz : ∀ d, turn (val (s.ent b)) b c d ≠ 0 → (1 ≤ d ∧ d ≤ N) ∧ d ∉ s'.bs := fun d hd => by
    unfold turn at hd
    by_cases e : d = b
    · subst e
      refine ⟨⟨hbr.1, hbN⟩, fun h => ?_⟩
      rcases (hbs d).mp h with ⟨_, q⟩ | q
      · exact q rfl
      · exact hcb q.symm
    · rw [if_neg e] at hd
      by_cases e2 : d = c
      · rw [if_pos e2] at hd; exact absurd rfl hd
      · rw [if_neg e2] at hd
        have h0 : val (s.ent b) d ≠ 0 := fun q => hd (by rw [q]; grind)
        have := li.nonb b hb d h0
        refine ⟨this.1, fun h => ?_⟩
        rcases (hbs d).mp h with ⟨q, _⟩ | q
        · exact this.2 q
        · exact e2 q
  have km := li.keepM st
  refine { tab := ha, mm := km.1, md := li.md, mo := km.2, mks := li.mks, N2 := li.N2, vl := by rw [hvl]; exact li.vl, rl := ?_, bl := ?_, nonb := ?_, msz := li.msz, r1 := by omega, w1 := hW1, rsz := ?_, vsz := hW, unit := li.unit,
           J := fun v => (piv v).trans (li.J v), sat1 := (piv fun x => (s'.vv x).1).mpr sat1, sat2 := (piv fun x => (s'.vv x).2).mpr sat2 }
  · have := li.rl
    unfold TS.bs at hlen
    rw [List.length_map, List.length_map] at hlen
    omega
  · intro x hx
    rcases (hbs x).mp hx with ⟨q, _⟩ | q
    · exact li.bl x q
    · rw [q]; exact hcn.1.2
  · intro x hx d hd
    rcases (hbs x).mp hx with ⟨q, e⟩ | q
    · rw [h2 x q e] at hd
      unfold swap at hd
      by_cases ec : d = c
      · rw [if_pos ec] at hd
        refine tz d fun h => hd ?_
        rw [h]; grind
      · rw [if_neg ec] at hd
        by_cases hg : val (s.ent x) d = 0
        · exact tz d fun h => hd (by rw [h, hg]; grind)
        · have := li.nonb x q d hg
          refine ⟨this.1, fun h => ?_⟩
          rcases (hbs d).mp h with ⟨q, _⟩ | q
          · exact this.2 q
          · exact ec q
    · rw [q, h1] at hd
      exact tz d hd
  · intro x hx d
    have szT := Sz.turn (b := b) (li.rsz b hb) hc li.r1
    rcases (hbs x).mp hx with ⟨q, e⟩ | q
    · rw [h2 x q e]
      exact Sz.swap szT (li.rsz x q) li.r1 d
    · rw [q, h1]
      exact (szT d).mono (by omega)
theorem shv_sz (li : LI t M n N s ms R W μ) {c : Int} {st : Rat × Rat} {S : Nat} (hS : Sz2 S st) : ∀ x : Int, 0 ≤ x → x.toNat < s.vals.length → Sz2 (W + S + R + 1) (shv s c st x) := fun x h0 hx => by
  have h := li.vsz x h0 hx
  unfold shv
  split
  · exact (h.addp hS).mono (by omega)
  · split
    · rename_i hb
      exact (h.addp (hS.scal (li.rsz x hb c))).mono (by omega)
    · exact h.mono (by omega)
theorem shv_sat1 (li : LI t M n N s ms R W μ) {c : Int} {st : Rat × Rat} (hc : c ∈ cols N) (hn : c ∉ s.bs) {f : Int → Rat × Rat} (hf : ∀ x, 0 ≤ x → f x = shv s c st x) : ∀ b ∈ s.bs, (f b).1 = sm (fun d => val (s.ent b) d * (f d).1) := by
  have hc' := mem_cols.mp hc
  have N5 := li.mks.N5
  refine shift_sat (f := fun x => (s.vv x).1) (f' := fun x => (f x).1) (st := st.1) (c := c) (by omega) li.zero hn li.sat1 (fun x h0 => ?_) fun b hb => by have := li.tab.rng b hb; omega
  try dsimp only
  rw [hf x h0]
  unfold shv addp scal
  split
  · rfl
  · split <;> rfl
theorem shv_sat2 (li : LI t M n N s ms R W μ) {c : Int} {st : Rat × Rat} (hc : c ∈ cols N) (hn : c ∉ s.bs) {f : Int → Rat × Rat} (hf : ∀ x, 0 ≤ x → f x = shv s c st x) : ∀ b ∈ s.bs, (f b).2 = sm (fun d => val (s.ent b) d * (f d).2) := by
  have hc' := mem_cols.mp hc
  have N5 := li.mks.N5
  refine shift_sat (f := fun x => (s.vv x).2) (f' := fun x => (f x).2) (st := st.2) (c := c) (by omega) li.zero hn li.sat2 (fun x h0 => ?_) fun b hb => by have := li.tab.rng b hb; omega
  try dsimp only
  rw [hf x h0]
  unfold shv addp scal
  split
  · rfl
  · split <;> rfl
theorem LI.shift (li : LI t M n N s ms R W μ) {v : List (Rat × Rat)} {μ' : Mem} (ha : At t (s.setv v) μ') (st : Step t s (s.setv v) μ μ') {c : Int} {stp : Rat × Rat} {S : Nat} (hS : Sz2 S stp) (hc : c ∈ cols N) (hn : c ∉ s.bs) (hvl : v.length = s.vals.length)
    (hv : ∀ x, 0 ≤ x → (s.setv v).vv x = shv s c stp x) : LI t M n N (s.setv v) ms R (W + S + R + 1) μ' := by
  have km := li.keepM st
  exact { tab := ha, mm := km.1, md := li.md, mo := km.2, mks := li.mks, N2 := li.N2, vl := by show v.length = _; rw [hvl]; exact li.vl, rl := li.rl, bl := li.bl, nonb := li.nonb, msz := li.msz, r1 := li.r1, w1 := by omega, rsz := li.rsz,
          vsz := fun x h0 hx => by rw [hv x h0]; exact shv_sz li hS x h0 (by rw [← hvl]; exact hx), unit := li.unit, J := li.J,
          sat1 := shv_sat1 li hc hn hv, sat2 := shv_sat2 li hc hn hv }
end
end Tab
end
noncomputable section
open PySem PySem.W PyProof.Rows PySem.Calls
open Builtin.Int (intBits)
set_option maxRecDepth 100000
namespace Tab
theorem ksum_add (f g : Nat → Rat) : ∀ n, ksum (fun k => f k + g k) n = ksum f n + ksum g n
  | 0 => by simp only [ksum]; grind
  | n + 1 => by rw [ksum, ksum, ksum, ksum_add f g n]; grind
theorem ksum_mul (f : Nat → Rat) (a : Rat) : ∀ n, ksum (fun k => a * f k) n = a * ksum f n
  | 0 => by simp only [ksum]; grind
  | n + 1 => by rw [ksum, ksum, ksum_mul f a n]; grind
def psum (v : Int → Rat) : List (Int × Rat) → Rat
  | [] => 0
  | p :: r => p.2 * v p.1 + psum v r
theorem psum_filter (v : Int → Rat) : ∀ l : List (Int × Rat), psum v (l.filter fun p => decide (p.2 ≠ 0)) = psum v l
  | [] => rfl
  | p :: r => by
    rw [List.filter_cons]
    by_cases h : p.2 = 0
    · rw [if_neg (by simp [h]), psum, psum_filter v r, h]; grind
    · rw [if_pos (by simp [h]), psum, psum, psum_filter v r]
section
variable {t : Tb} {M : Addr} {n N : Nat} {s : TS} {ms : MS} {R W : Nat} {μ : Mem}
theorem msum_ksum {v : Int → Rat} (h : ∀ c ∈ cols N, v c = ksum (fun k => mval ms c k * v ((k : Int) + 1)) n) : ∀ ps : List (Int × Rat), (∀ p ∈ ps, p.1 ∈ cols N) → ksum (fun k => msum ms ps k * v ((k : Int) + 1)) n = psum v ps
  | [], _ => by
    rw [ksum_congr (g := fun _ => 0) fun k hk => by rw [msum]; grind, ksum_zero]
    rfl
  | p :: r, hp => by
    rw [ksum_congr (g := fun k => p.2 * (mval ms p.1 k * v ((k : Int) + 1)) + msum ms r k * v ((k : Int) + 1)) fun k hk => by rw [msum]; grind]
    rw [ksum_add, ksum_mul, ← h p.1 (hp p (.head _)), msum_ksum h r fun p hp' => hp p (.tail _ hp'), psum]
theorem prow_sum (li : LI t M n N s ms R W μ) {v : Int → Rat} (h : ∀ b ∈ s.bs, v b = sm (fun d => val (s.ent b) d * v d)) : ∀ ps : List (Int × Rat), (∀ p ∈ ps, p.1 ∈ cols N) → sm (fun d => prow s ps d * v d) = psum v ps
  | [], _ => by
    rw [sm_congr (g := fun _ => 0) fun d => by rw [prow]; grind, sm_zero]
    rfl
  | p :: r, hp => by
    have hp1 := mem_cols.mp (hp p (.head _))
    have N5 := li.mks.N5
    rw [sm_congr (g := fun d => pone s p d * v d + prow s r d * v d) fun d => by rw [prow]; grind]
    rw [sm_add, prow_sum li h r fun p hp' => hp p (.tail _ hp'), psum]
    congr 1
    by_cases hb : p.1 ∈ s.bs
    · rw [sm_congr (g := fun d => (val (s.ent p.1) d * v d) * p.2) fun d => by unfold pone; rw [if_pos hb]; grind]
      rw [sm_mul, ← h p.1 hb]; grind
    · rw [sm_congr (g := fun d => if d = p.1 then p.2 * v d else 0) fun d => by unfold pone; rw [if_neg hb]; split <;> grind]
      rw [sm_delta (fun d => p.2 * v d) (by omega)]
theorem prow_ne (li : LI t M n N s ms R W μ) {d : Int} : ∀ ps : List (Int × Rat), (∀ p ∈ ps, p.1 ∈ cols N) → prow s ps d ≠ 0 → (1 ≤ d ∧ d ≤ N) ∧ d ∉ s.bs
  | [], _, h => absurd rfl h
  | p :: r, hp, h => by
    by_cases h0 : pone s p d = 0
    · refine prow_ne li r (fun p hp' => hp p (.tail _ hp')) fun e => h ?_
      rw [prow, h0, e]; grind
    · unfold pone at h0
      by_cases hb : p.1 ∈ s.bs
      · rw [if_pos hb] at h0
        exact li.nonb p.1 hb d fun e => h0 (by rw [e]; grind)
      · rw [if_neg hb] at h0
        by_cases e : d = p.1
        · rw [e]; exact ⟨mem_cols.mp (hp p (.head _)), hb⟩
        · rw [if_neg e] at h0; exact absurd rfl h0
theorem LI.newlen (li : LI t M n N s ms R W μ) {ps : List (Int × Rat)} (hp : ∀ p ∈ ps, p.1 ∈ cols N) {es : Row} (ok : OkR es) (h : ∀ d, val es d = prow s ps d) : es.length ≤ n := by
  have key : ∀ x : Int, x ∈ es.map (·.1) → (1 ≤ x ∧ x ≤ N) ∧ x ∉ s.bs := fun x hx => prow_ne li ps hp (by rw [← h]; exact (ok.mem x).mp hx)
  have hnd : (es.map (·.1) ++ s.bs).Nodup := by
    rw [List.nodup_append]
    exact ⟨ok.nodup, li.tab.nB, fun x hx y hy e => (key x hx).2 (e ▸ hy)⟩
  have := nodup_le N _ hnd fun c hc => by
    rcases List.mem_append.mp hc with q | q
    · exact (key c q).1
    · exact ⟨(li.tab.rng c q).1, li.bl c q⟩
  rw [List.length_append, List.length_map] at this
  have h2 := li.bslen
  omega
theorem msum_sz {D : Nat} (hD : ∀ c k, Sz D (mval ms c k)) (k : Nat) : ∀ ps : List (Int × Rat), (∀ p ∈ ps, Sz 3 p.2) → Sz (1 + ps.length * (D + 4)) (msum ms ps k)
  | [], _ => sz_one (by omega)
  | p :: r, h => by
    rw [msum, List.length_cons, Nat.succ_mul]
    exact (((h p (.head _)).mul (hD p.1 k)).add (msum_sz hD k r fun p hp => h p (.tail _ hp))).mono (by omega)
def more (ms : MS) (n N : Nat) (parts : List (Int × Rat)) : MS := ms ++ [((N : Int) + 1, (List.range n).map (msum ms parts))]
theorem more_old (mk : Mk n N ms) {parts : List (Int × Rat)} {c : Int} (hc : c ≠ (N : Int) + 1) (k : Nat) : mval (more ms n N parts) c k = mval ms c k := by
  unfold mval more
  rw [dget_append, dget_cons, dget_nil, if_neg (Ne.symm hc), Option.or_none]
theorem more_new (mk : Mk n N ms) {parts : List (Int × Rat)} (k : Nat) : mval (more ms n N parts) ((N : Int) + 1) k = if k < n then msum ms parts k else 0 := by
  have hn : dget ms ((N : Int) + 1) = none := by
    cases e : dget ms ((N : Int) + 1) with
    | none => rfl
    | some x =>
      have := dget_key.mp (show (dget ms ((N : Int) + 1)).isSome = true by rw [e]; rfl)
      rw [mk.keys, mem_cols] at this
      omega
  unfold mval more
  rw [dget_append, hn, dget_cons, if_pos rfl]
  show ((List.range n).map (msum ms parts)).getD k 0 = _
  rw [List.getD_eq_getElem?_getD, List.getElem?_map]
  by_cases h : k < n
  · rw [List.getElem?_range h, if_pos h]; rfl
  · rw [List.getElem?_eq_none (by simp; omega), if_neg h]; rfl
theorem cols_succ (N : Nat) : cols (N + 1) = cols N ++ [(N : Int) + 1] := by
  unfold cols; rw [List.range_succ, List.map_append]; rfl
theorem more_mk (mk : Mk n N ms) (h5 : N + 1 ≤ 5) (parts : List (Int × Rat)) : Mk n (N + 1) (more ms n N parts) where
  keys := by unfold more; rw [List.map_append, mk.keys, cols_succ]; rfl
  len p hp := by
    rcases List.mem_append.mp hp with q | q
    · exact mk.len p q
    · simp at q; subst q; simp
  n3 := mk.n3
  N5 := h5
  nN := by have := mk.nN; omega
theorem mb_mono {r : Nat} : mb r ≤ mb (r + 1) := by rw [mb]; omega
theorem LI.add (li : LI t M n N s ms R W μ) {s' : TS} {μ' : Mem} {a : Addr} {es : Row} {parts : List (Int × Rat)} {W' : Nat} (ha : At t s' μ') (st : Step t s s' μ μ') (hN : N < n + 2) (hN4 : N ≤ 4) (hp : ∀ p ∈ parts, p.1 ∈ cols N) (hp3 : ∀ p ∈ parts, Sz 3 p.2) (hpl : parts.length ≤ 4)
    (hrows : s'.rows = s.rows ++ [((N : Int) + 1, a)]) (hold : ∀ x ∈ s.bs, s'.ent x = s.ent x) (hnew : s'.ent ((N : Int) + 1) = es) (hes : ∀ d, val es d = prow s (parts.filter fun p => decide (p.2 ≠ 0)) d) (hsz : ∀ d, Sz (4 * R + 17) (val es d))
    (hvl : s'.vals.length = N + 2) (vold : ∀ x : Int, 0 ≤ x → x ≠ (N : Int) + 1 → s'.vv x = s.vv x) (vn1 : (s'.vv ((N : Int) + 1)).1 = sm (fun c => (s.vv c).1 * val es c)) (vn2 : (s'.vv ((N : Int) + 1)).2 = sm (fun c => (s.vv c).2 * val es c))
    (vsz : Sz2 W' (s'.vv ((N : Int) + 1))) (hW : W ≤ W') : LI t M n (N + 1) s' (more ms n N parts) (4 * R + 17) W' (μ'.set M (.dict (mv (more ms n N parts)))) := by
  have km := li.keepM st
  have mk' := more_mk li.mks (by omega) parts
  have hpf : ∀ p ∈ parts.filter (fun p => decide (p.2 ≠ 0)), p.1 ∈ cols N := fun p h => hp p (List.mem_filter.mp h).1
  have hbs : ∀ x, x ∈ s'.bs ↔ x ∈ s.bs ∨ x = (N : Int) + 1 := fun x => by
    show x ∈ s'.rows.map (·.1) ↔ _
    rw [hrows, List.map_append, List.mem_append]
    simp [TS.bs]
  have hne : ∀ x ∈ s.bs, x ≠ (N : Int) + 1 := fun x hx e => by have := li.bl x hx; omega
  have esz : ∀ d, val es d ≠ 0 → (1 ≤ d ∧ d ≤ N) ∧ d ∉ s.bs := fun d hd => prow_ne li _ hpf (by rw [← hes]; exact hd)
  have hvold : ∀ d, val es d ≠ 0 → s'.vv d = s.vv d := fun d hd => vold d (by have := esz d hd; omega) fun e => by have := esz d hd; omega
  have n2 := li.N2
  refine { tab := ha.other km.2 li.md, mm := Mem.set_self .., md := li.md, mo := km.2, mks := mk', N2 := by omega, vl := by rw [hvl], rl := ?_, bl := ?_, nonb := ?_, msz := ?_, r1 := by omega, w1 := Nat.le_trans li.w1 hW, rsz := ?_, vsz := ?_, unit := ?_, J := ?_, sat1 := ?_, sat2 := ?_ }
  · rw [hrows, List.length_append, List.length_singleton]; have := li.rl; omega
  · intro x hx
    rcases (hbs x).mp hx with q | q
    · have := li.bl x q; omega
    · rw [q]; omega
  · intro x hx d hd
    rcases (hbs x).mp hx with q | q
    · rw [hold x q] at hd
      have := li.nonb x q d hd
      refine ⟨by omega, fun h => ?_⟩
      rcases (hbs d).mp h with z | z
      · exact this.2 z
      · omega
    · rw [q, hnew] at hd
      have := esz d hd
      refine ⟨by omega, fun h => ?_⟩
      rcases (hbs d).mp h with z | z
      · exact this.2 z
      · omega
  · intro c k
    have e1 : N + 1 - n = (N - n) + 1 := by have := li.mks.nN; omega
    rw [e1]
    by_cases e : c = (N : Int) + 1
    · rw [e, more_new li.mks]
      split
      · refine (msum_sz li.msz k parts hp3).mono ?_
        have := Nat.mul_le_mul_right (Tab.mb (N - n) + 4) hpl
        rw [Tab.mb]; omega
      · exact sz_one (by rw [Tab.mb]; omega)
    · rw [more_old li.mks e]
      exact (li.msz c k).mono mb_mono
  · intro x hx d
    rcases (hbs x).mp hx with q | q
    · rw [hold x q]; exact (li.rsz x q d).mono (by omega)
    · rw [q, hnew]; exact hsz d
  · intro x h0 hx
    by_cases e : x = (N : Int) + 1
    · rw [e]; exact vsz
    · rw [vold x h0 e]
      exact (li.vsz x h0 (by have := li.vl; omega)).mono hW
  · intro j k hj hk
    have := li.mks.nN
    rw [more_old li.mks (by omega)]
    exact li.unit j k hj hk
  · intro v
    have jv := li.J v
    have old1 : (∀ b ∈ s'.bs, v b = sm (fun d => val (s'.ent b) d * v d)) ↔ (∀ b ∈ s.bs, v b = sm (fun d => val (s.ent b) d * v d)) ∧ v ((N : Int) + 1) = sm (fun d => val es d * v d) := by
      constructor
      · intro h
        refine ⟨fun b hb => ?_, ?_⟩
        · have := h b ((hbs b).mpr (.inl hb))
          rwa [hold b hb] at this
        · have := h _ ((hbs _).mpr (.inr rfl))
          rwa [hnew] at this
      · rintro ⟨h1, h2⟩ b hb
        rcases (hbs b).mp hb with q | q
        · rw [hold b q]; exact h1 b q
        · rw [q, hnew]; exact h2
    have old2 : (∀ c ∈ cols (N + 1), v c = ksum (fun k => mval (more ms n N parts) c k * v ((k : Int) + 1)) n) ↔ (∀ c ∈ cols N, v c = ksum (fun k => mval ms c k * v ((k : Int) + 1)) n) ∧ v ((N : Int) + 1) = ksum (fun k => msum ms parts k * v ((k : Int) + 1)) n := by
      have eo : ∀ c ∈ cols N, ksum (fun k => mval (more ms n N parts) c k * v ((k : Int) + 1)) n = ksum (fun k => mval ms c k * v ((k : Int) + 1)) n := fun c hc =>
        ksum_congr fun k _ => by rw [more_old li.mks (by have := mem_cols.mp hc; omega)]
      have en : ksum (fun k => mval (more ms n N parts) ((N : Int) + 1) k * v ((k : Int) + 1)) n = ksum (fun k => msum ms parts k * v ((k : Int) + 1)) n := ksum_congr fun k hk => by rw [more_new li.mks, if_pos hk]
      rw [cols_succ]
      constructor
      · intro h
        refine ⟨fun c hc => ?_, ?_⟩
        · rw [← eo c hc]; exact h c (List.mem_append_left _ hc)
        · rw [← en]; exact h _ (List.mem_append_right _ (.head _))
      · rintro ⟨h1, h2⟩ c hc
        rcases List.mem_append.mp hc with q | q
        · rw [eo c q]; exact h1 c q
        · simp at q; rw [q, en]; exact h2
    rw [old1, old2]
    have same : (∀ b ∈ s.bs, v b = sm (fun d => val (s.ent b) d * v d)) → (sm (fun d => val es d * v d) = ksum (fun k => msum ms parts k * v ((k : Int) + 1)) n) := fun h => by
      rw [sm_congr (g := fun d => prow s (parts.filter fun p => decide (p.2 ≠ 0)) d * v d) fun d => by rw [hes]]
      rw [prow_sum li h _ hpf, psum_filter, msum_ksum (jv.mp h) parts hp]
    constructor
    · rintro ⟨h1, h2⟩
      exact ⟨jv.mp h1, by rw [h2]; exact same h1⟩
    · rintro ⟨h1, h2⟩
      have h1' := jv.mpr h1
      exact ⟨h1', by rw [h2]; exact (same h1').symm⟩
  · intro b hb
    rcases (hbs b).mp hb with q | q
    · have := li.tab.rng b q
      rw [hold b q, vold b (by omega) (hne b q), li.sat1 b q]
      refine sm_congr fun d => ?_
      by_cases h : val (s.ent b) d = 0
      · rw [h]; grind
      · have := li.nonb b q d h
        rw [vold d (by omega) (by omega)]
    · rw [q, hnew, vn1]
      refine sm_congr fun d => ?_
      by_cases h : val es d = 0
      · rw [h]; grind
      · rw [hvold d h]; grind
  · intro b hb
    rcases (hbs b).mp hb with q | q
    · have := li.tab.rng b q
      rw [hold b q, vold b (by omega) (hne b q), li.sat2 b q]
      refine sm_congr fun d => ?_
      by_cases h : val (s.ent b) d = 0
      · rw [h]; grind
      · have := li.nonb b q d h
        rw [vold d (by omega) (by omega)]
    · rw [q, hnew, vn2]
      refine sm_congr fun d => ?_
      by_cases h : val es d = 0
      · rw [h]; grind
      · rw [hvold d h]; grind
end
end Tab
end
noncomputable section
open PySem PySem.W PyProof.Rows PySem.Calls
open Builtin.Int (intBits)
set_option maxRecDepth 100000
namespace Tab
theorem sz_small {z : Int} (h : -3 ≤ z ∧ z ≤ 3) : Sz 3 (z : Rat) := by
  unfold Sz
  rw [Rat.num_intCast, Rat.den_intCast]
  have : z = -3 ∨ z = -2 ∨ z = -1 ∨ z = 0 ∨ z = 1 ∨ z = 2 ∨ z = 3 := by omega
  rcases this with rfl | rfl | rfl | rfl | rfl | rfl | rfl <;> exact ⟨by decide, by decide⟩
theorem fmod_rng (z : Int) {m : Int} (h : 0 < m) : 0 ≤ z.fmod m ∧ z.fmod m < m := ⟨Int.fmod_nonneg_of_pos _ h, Int.fmod_lt_of_pos _ h⟩
theorem set_del {μ : Mem} {a : Addr} {o : MObj} (h : μ a = none) : (μ.set a o).del a = μ := by
  funext b
  by_cases e : b = a
  · rw [e, Mem.del_self, h]
  · rw [Mem.del_ne e, Mem.set_ne e]
section
variable {w : World} {B : Heap} {μ : Mem} {t : Tb} {s : TS}
theorem fn_added (am : Am w B) {M : Addr} {n N : Nat} {ms : MS} {R W : Nat} (li : LI t M n N s ms R W μ) (hN : N < n + 2) (hz : 3 * W + 12 * R + 55 ≤ 134217728) {left : Int}
    {Q : V → Mem → Prop} (q : ∀ s' ms' μ', LI t M n (N + 1) s' ms' (4 * R + 17) (3 * W + 12 * R + 55) μ' → Q (.raw (.bool true)) μ') : Fn PG w B 7 (.ref 303) [t.self, .raw (.ref M), .int n, .int left] μ Q := by
  refine Fn.enter (K := laid w.params) (names := ["table_now", "means", "free", "left"]) am (ho := by k_is) (hcd := by k_is) ?_ rfl rfl rfl (fun vs h => by obtain ⟨x, y, z, u, rfl⟩ := len4 h; rfl) (by decide) (by rfl) (by decide)
  intro A L hA hF'
  have hu : A.units + 64 < 9900 := by have := hA.units; omega
  have ha := li.tab
  have hm := li.mm
  have mk := li.mks
  have N5 := mk.N5
  have n3 := mk.n3
  have hmsl := mk.mslen
  have hvl := li.vl
  have hw1 := li.w1
  have hr1 := li.r1
  have hmb := li.mb
  refine HS.cons (HX.assign (HE.listM (HAs.nil fun P hP => ?_)))
  have hMP : M ≠ P := fun e => by rw [e, hP] at hm; cases hm
  have hm' : ∀ o, (μ.set P o) M = some (.dict (mv ms)) := fun o => by rw [Mem.set_ne hMP]; exact hm
  refine HS.cons (HX.forI ?_)
  refine HE.bi am (by k_is) (by rfl) (HAs.cons (HE.var rfl (HAs.nil (bc_sortedD hA.handled (hm' _) (by rw [mv_len, hmsl]; omega) ⟨_, iter_lst hA.handled, ?_⟩))))
  rw [mk.sorted]
  refine HFor.inv V.int (fun l ρ μ' => ∃ (z : Int) (parts : List (Int × Rat)), ρ.get "table_now" = some t.self ∧ ρ.get "means" = some (.raw (.ref M)) ∧ ρ.get "free" = some (.int n) ∧ ρ.get "left" = some (.int z) ∧ ρ.get "parts_now" = some (.raw (.ref P)) ∧
    cols N = parts.map (·.1) ++ l ∧ (∀ p ∈ parts, Sz 3 p.2) ∧ μ' = μ.set P (.list (parts.map pv))) ?_ ?_ _ _ _ ⟨left, [], rfl, rfl, rfl, rfl, rfl, rfl, (fun p hp => by cases hp), rfl⟩
  · rintro c l ρ μ' ⟨z, parts, r1, r2, r3, r4, r5, hc, hs, rfl⟩
    have hlen : parts.length ≤ 5 := by
      have := congrArg List.length hc
      rw [cols_len, List.length_append, List.length_map] at this
      omega
    have hz5 := fmod_rng z (m := 5) (by omega)
    refine HAsg.name (HS.cons (HX.expr (HE.bmeth am F.plainAttrs_list F.slot_list_append type_list_append (HE.var r5 ⟨list_ty (Mem.set_self ..), HAs.cons (HE.tuple (HAs.cons (HE.var rfl (HAs.cons (HE.tuple (HAs.cons (HE.binary (HE.binary (HE.var r4 (HE.cInt (op_mod (by decide) (HE.cInt (op_sub ?_)))))))))))))⟩))))
    refine HAs.cons (HE.cInt (HAs.nil (HAs.nil (HAs.nil (bc_append (Mem.set_self ..) (by rw [List.length_map]; omega) ?_)))))
    rw [Mem.set_set, rat_of_int]
    refine HS.one (HX.assign (HE.binary (HE.var r4 (HE.cInt (op_div (by decide) (DivRoom.of am hA hF') ?_)))))
    refine ⟨z.fdiv 5, parts ++ [(c, ((z.fmod 5 - 2 : Int) : Rat))], r1, r2, r3, rfl, r5, by rw [hc]; simp, fun p hp => ?_, by rw [List.map_append]; rfl⟩
    rcases List.mem_append.mp hp with h | h
    · exact hs p h
    · rw [List.mem_singleton.mp h]
      show Sz 3 ((z.fmod 5 - 2 : Int) : Rat)
      exact sz_small (by omega)
  · rintro ρ μ' ⟨z, parts, r1, r2, r3, r4, r5, hc, hs, rfl⟩
    rw [List.append_nil] at hc
    have hlen : parts.length = N := by
      have := congrArg List.length hc
      rw [cols_len, List.length_map] at this
      omega
    have hpc : ∀ p ∈ parts, p.1 ∈ cols N := fun p hp => by rw [hc]; exact List.mem_map.mpr ⟨p, hp, rfl⟩
    refine HS.freeze r5 (Mem.set_self ..) ?_
    rw [set_del hP]
    have hpf : ∀ p ∈ parts.filter (fun p => decide (p.2 ≠ 0)), p.1 ∈ cols N := fun p h => hpc p (List.mem_filter.mp h).1
    refine HS.cons (HX.assign (HE.meth am (by k_is) (by k_is) (by k_is) (by k_is) (HE.var r1 ⟨_, _, _, rfl, ha.attrs, rfl, HAs.cons (HE.comp (HE.var rfl ⟨_, iter_frz hA.handled, by rw [List.length_map]; omega, fun C => ?_⟩))⟩)))
    refine HComp.pure pv (fun p => decide (p.2 ≠ 0)) pv _ [] (fun p hp => HTests.one (HB.compare (HE.sub (HE.nth 1 rfl rfl (HE.cInt ?_))))) ?_
    · refine sub_tup (k := 0) (l := [.int p.2.num, .int p.2.den]) rfl (by decide) (HE.cInt (op_ne rfl rfl hu fun b hb => ⟨b, rfl, ?_, rfl, fun _ => HE.var rfl ⟨rfl, rfl⟩⟩))
      by_cases e0 : p.2 = 0
      · rw [ne_false hb (by rw [Rat.num_eq_zero.mpr e0])]
        simp [e0]
      · have : b = true := hb.mpr fun h => e0 (Rat.num_eq_zero.mp (by simpa using h))
        rw [this]
        simp [e0]
    · refine HAs.nil (BC.of_fn (fn_add_row am ha (ps := parts.filter fun p => decide (p.2 ≠ 0)) (fun p hp => ?_) ?_ (by omega) (by omega) (fun b hb => ?_) li.rsz li.vsz (fun d hd => ?_) (j := n) (fun es ok he => li.newlen hpf ok he) ?_ (by omega) fun s' μ' a es g1 g2 g3 g4 g5 g6 g7 g8 g9 g10 g11 g12 g13 => ?_) hA)
      · have h1 := mem_cols.mp (hpf p hp)
        exact ⟨h1.1, by omega, hs p (List.mem_filter.mp hp).1⟩
      · have := List.length_filter_le (fun p : Int × Rat => decide (p.2 ≠ 0)) parts
        omega
      · have := li.bl b hb
        have := ha.rng b hb
        omega
      · have := prow_ne li _ hpf hd
        omega
      · have := Nat.mul_le_mul_right (W + (4 * R + 17) + 1) n3.2
        omega
      · have hvN : ((s.vals.length : Nat) : Int) = (N : Int) + 1 := by rw [hvl]; rfl
        rw [hvN] at g4 g6 g10 g11 g12 g13
        have n3' := n3.2
        have lia := LI.add li (W' := 3 * W + 12 * R + 55) g1 g2 hN (by omega) hpc hs (by omega) g4 g5 g6 g7 g8 (by rw [g9, hvl]) g10 g11 g12 (g13.mono (by
          have := Nat.mul_le_mul_right (W + (4 * R + 17) + 1) n3'
          omega)) (by omega)
        have km := li.keepM g2
        refine HS.cons (HX.ite (HB.compare (HE.var rfl (HE.binary (HE.bi am (by k_is) (by rfl) (HAs.cons (HE.var r2 (HAs.nil (bc_lenD km.1 (by rw [mv_len, hmsl]; omega) (HE.cInt (op_add ?_)))))))))))
        refine op_ne rfl rfl hu fun b hb => ⟨b, rfl, ?_⟩
        rw [ne_false hb (by rw [mv_len, hmsl, hvl]; rfl), if_neg (by simp)]
        refine HS.nil (HS.cons (HX.setItem ?_))
        refine HE.fn am (by k_is) (by k_is) (HAs.cons (HE.var rfl (HAs.cons (HE.var r2 (HAs.cons (HE.var r3 (HAs.nil (BC.of_fn (fn_law_sum am (ps := parts) (F := 3) (D := mb (N - n)) km.1 mk (.inr rfl) hpc hs (fun c _ k => li.msz c k) ?_ ?_) (hA.less (by decide))))))))))
        · have := Nat.mul_le_mul_right (3 + mb (N - n) + 1) (show parts.length ≤ 5 by omega)
          omega
        · refine HE.var r2 (HE.var rfl (set_dict km.1 (by rw [mv_len, hmsl]; omega) (HS.one (HX.ret (HE.cBool ?_)))))
          have e : dset (mv ms) ((s.vals.length : Nat) : Int) (.lst ((List.range n).map fun k => rat (msum ms parts k))) = mv (more ms n N parts) := by
            rw [hvN, dset_new (by rw [mv_keys, mk.keys, mem_cols]; omega)]
            unfold more mv
            rw [List.map_append]
            simp
          rw [e]
          exact q _ _ _ lia
end
end Tab
end
noncomputable section
open PySem PySem.W PyProof.Rows PySem.Calls
open Builtin.Int (intBits)
set_option maxRecDepth 100000
namespace Tab
theorem goal_is (a b : Int) : V.tup [V.tup [.int a, .int 1], V.tup [.int b, .int 1]] = rat2 ((a : Rat), (b : Rat)) := by
  rw [rat_of_int, rat_of_int]; rfl
theorem okV_rat2s (l : List Int) (f : Int → Rat × Rat) : okV 8 (.lst (l.map fun c => rat2 (f c))) = true := by
  simp only [okV, List.all_eq_true, List.mem_map]
  rintro x ⟨k, _, rfl⟩
  exact okV_rat2
theorem vint_ne {a b : Int} {c : Bool} (h : c = true ↔ V.int a ≠ V.int b) : c = decide (a ≠ b) := by
  by_cases e : a = b
  · rw [ne_false h (by rw [e])]; simp [e]
  · have : c = true := h.mpr fun q => e (by simpa using q)
    rw [this]; simp [e]
theorem addsub (g v : Rat × Rat) : addp v (subp g v) = g := by
  unfold addp subp
  exact Prod.ext (by dsimp only; grind) (by dsimp only; grind)
theorem fdiv_idx {z : Int} {n : Nat} (h : 0 < n) : 0 ≤ z.fmod (n : Int) ∧ (z.fmod (n : Int)).toNat < n := by
  have := fmod_rng z (m := (n : Int)) (by omega)
  omega
theorem nb_mem {s : TS} {N : Nat} {c : Int} : c ∈ nb s N ↔ c ∈ cols N ∧ c ∉ s.bs := by
  unfold nb; rw [List.mem_filter]; simp
section
variable {t : Tb} {M : Addr} {n N : Nat} {s : TS} {ms : MS} {R W : Nat} {μ : Mem}
theorem LI.nblen (li : LI t M n N s ms R W μ) : (nb s N).length = n := by
  have p : (cols N).Perm (nb s N ++ s.bs) := (List.perm_ext_iff_of_nodup (cols_nodup N) (by
    rw [List.nodup_append]
    exact ⟨(cols_nodup N).filter _, li.tab.nB, fun x hx y hy e => (nb_mem.mp hx).2 (e ▸ hy)⟩)).mpr fun x => by
      rw [List.mem_append, nb_mem]
      constructor
      · intro h
        by_cases e : x ∈ s.bs
        · exact .inr e
        · exact .inl ⟨h, e⟩
      · rintro (h | h)
        · exact h.1
        · exact mem_cols.mpr ⟨(li.tab.rng x h).1, li.bl x h⟩
  have := p.length_eq
  rw [cols_len, List.length_append] at this
  have := li.bslen
  omega
end
section
variable {w : World} {B : Heap} {μ : Mem} {t : Tb} {s : TS}
theorem fn_moved (am : Am w B) {M : Addr} {n N : Nat} {ms : MS} {R W : Nat} (li : LI t M n N s ms R W μ) (hz : 2 * W + R + 5 ≤ 134217728) {left : Int}
    {Q : V → Mem → Prop} (q : ∀ s' μ', LI t M n N s' ms R (2 * W + R + 5) μ' → Q (.raw (.bool true)) μ') : Fn PG w B 7 (.ref 308) [t.self, .raw (.ref M), .int left] μ Q := by
  refine Fn.enter (K := laid w.params) (names := ["table_now", "means", "left"]) am (ho := by k_is) (hcd := by k_is) ?_ rfl rfl rfl (fun vs h => by obtain ⟨x, y, z, rfl⟩ := len3 h; rfl) (by decide) (by rfl) (by decide)
  intro A L hA hF'
  have hu : A.units + 64 < 9900 := by have := hA.units; omega
  have ha := li.tab
  have hm := li.mm
  have mk := li.mks
  have N5 := mk.N5
  have n3 := mk.n3
  have hmsl := mk.mslen
  have hvl := li.vl
  have hnl := li.nblen
  have hr1 := li.r1
  refine HS.cons (HX.assignSwap (names := ["some", "before"]) hA.handled (HE.tuple (HAs.cons ?_)))
  refine HE.fn am (by k_is) (by k_is) (HAs.cons (HE.var rfl (HAs.cons (HE.var rfl (HAs.nil (BC.of_fn (fn_law_nonbasics am ha hm mk (HAs.cons ?_)) (hA.less (by decide))))))))
  refine HE.fn am (by k_is) (by k_is) (HAs.cons (HE.var rfl (HAs.cons (HE.var rfl (HAs.nil (BC.of_fn (fn_law_values am ha hm mk hvl (HAs.nil ⟨_, rfl, rfl, ?_⟩)) (hA.less (by decide))))))))
  have idx := fdiv_idx (z := left) (n := n) (by omega)
  obtain ⟨c, hc⟩ : ∃ c, (nb s N)[(left.fmod (n : Int)).toNat]? = some c := ⟨_, List.getElem?_eq_getElem (by omega)⟩
  have hcm := nb_mem.mp (List.mem_of_getElem? hc)
  have hcr := mem_cols.mp hcm.1
  have hil : ((il (nb s N)).length : Int) = n := by unfold il; rw [List.length_map, hnl]
  have g1 := fmod_rng (left.fdiv 4) (m := 7) (by omega)
  have g2 := fmod_rng (left.fdiv 28) (m := 3) (by omega)
  refine HS.cons (HX.assignTup (HE.tuple (HAs.cons ?_)))
  refine HE.sub (HE.var rfl (HE.binary (HE.var rfl (HE.bi am (by k_is) (by rfl) (HAs.cons (HE.var rfl (HAs.nil (bc_lenI (by unfold il; rw [List.length_map]; omega) (op_mod (by omega) ?_))))))))) 
  rw [hil]
  refine sub_lst idx.1 (by omega) (z := .int c) (by unfold il; rw [List.getElem?_map, hc]; rfl) (HAs.cons ?_)
  refine HE.tuple (HAs.cons (HE.tuple (HAs.cons (HE.binary (HE.binary (HE.binary (HE.var rfl (HE.cInt (op_div (by decide) (DivRoom.of am hA hF') (HE.cInt (op_mod (by decide) (HE.cInt (op_sub (HAs.cons (HE.cInt (HAs.nil (HAs.cons ?_)))))))))))))))))
  refine HE.tuple (HAs.cons (HE.binary (HE.binary (HE.binary (HE.var rfl (HE.cInt (op_div (by decide) (DivRoom.of am hA hF') (HE.cInt (op_mod (by decide) (HE.cInt (op_sub (HAs.cons (HE.cInt (HAs.nil (HAs.nil (HAs.nil ?_))))))))))))))))
  rw [goal_is]
  refine HAsg.tup (ns := [("column", _), ("goal", _)]) hA.handled rfl ?_
  generalize hG : (((((left.fdiv 4).fmod 7 - 3 : Int) : Rat), (((left.fdiv 28).fmod 3 - 1 : Int) : Rat)) : Rat × Rat) = goal
  have szG : Sz2 3 goal := by rw [← hG]; exact ⟨sz_small (by omega), sz_small (by omega)⟩
  refine HS.cons (HX.expr (HE.meth am (by k_is) (by k_is) (by k_is) (by k_is) (HE.var rfl ⟨_, _, _, rfl, ha.attrs, rfl, HAs.cons (HE.var rfl (HAs.cons (HE.var rfl (HAs.nil (BC.of_fn (fn_update am ha hcm.2 (by omega) (by omega) (fun b hb => ?_) li.rsz li.vsz szG (by omega) fun v μ' h1 h2 h3 h4 => ?_) hA)))))⟩)))
  · have := li.bl b hb
    have := ha.rng b hb
    omega
  have hWc := li.vsz c (by omega) (by omega)
  have li' := li.shift h1 h2 (szG.subp hWc) hcm.1 hcm.2 h3 h4
  have e' : W + (3 + W + 1) + R + 1 = 2 * W + R + 5 := by omega
  rw [e'] at li'
  have hm' := li'.mm
  have hvl' := li'.vl
  refine HS.cons (HX.ite (HB.boolop (HBs.or (HB.compare ?_))))
  refine HE.fn am (by k_is) (by k_is) (HAs.cons (HE.var rfl (HAs.cons (HE.var rfl (HAs.nil (BC.of_fn (fn_law_nonbasics am h1 hm' mk (HE.var rfl (op_ne (okV_il _) (okV_il _) hu fun b hb => ⟨b, rfl, ?_⟩))) (hA.less (by decide))))))))
  rw [ne_false hb rfl, if_neg (by simp)]
  refine HBs.or (HB.compare ?_)
  refine HE.meth am (by k_is) (by k_is) (by k_is) (by k_is) (HE.var rfl ⟨_, _, _, rfl, h1.attrs, rfl, HAs.cons (HE.var rfl (HAs.nil (BC.of_fn (fn_value am h1 (by omega) (by omega) (vv_get (by omega)) ?_) (hA.less (by decide)))))⟩)
  have hvc : (s.setv v).vv c = goal := by rw [h4 c (by omega), shv, if_pos rfl, addsub]
  refine HE.var rfl (op_ne okV_rat2 okV_rat2 hu fun b hb => ⟨b, rfl, ?_⟩)
  rw [ne_false hb (by rw [hvc]), if_neg (by simp)]
  refine HBs.nil ?_
  rw [if_neg (by decide)]
  refine HS.nil (HS.one (HX.ret ?_))
  refine HE.fn am (by k_is) (by k_is) (HAs.cons (HE.var rfl (HAs.cons (HE.var rfl (HAs.cons (HE.comp (HE.var rfl ⟨_, iter_lst hA.handled, by unfold il; rw [List.length_map]; omega, fun C => ?_⟩)))))))
  refine HComp.pure V.int (fun x => decide (x ≠ c)) V.int _ [] (fun x hx => HTests.one (HB.compare (HE.var rfl (HE.var rfl (op_ne rfl rfl hu fun b hb => ⟨b, rfl, vint_ne hb, rfl, fun _ => HE.var rfl ⟨rfl, rfl⟩⟩))))) ?_
  refine HAs.nil (BC.of_fn (fn_law_stay am h1 (N := N) (f := s.vv) (l := (nb s N).filter fun x => decide (x ≠ c)) N5 hvl' (fun x hx => ?_) ?_ (fun x hx => ?_) (q _ _ li')) (hA.less (by decide)))
  · exact (nb_mem.mp (List.mem_filter.mp hx).1).1
  · have := List.length_filter_le (fun x : Int => decide (x ≠ c)) (nb s N)
    omega
  · obtain ⟨x1, x2⟩ := List.mem_filter.mp hx
    have x3 := nb_mem.mp x1
    have := mem_cols.mp x3.1
    rw [h4 x (by omega), shv, if_neg (by simpa using x2), if_neg x3.2]
end
end Tab
end
noncomputable section
open PySem PySem.W PyProof.Rows PySem.Calls
open Builtin.Int (intBits)
set_option maxRecDepth 100000
namespace Tab
theorem vint_eq {a b : Int} {c : Bool} (h : c = true ↔ V.int a = V.int b) : c = decide (a = b) := int_eq h
theorem il_ne {l : List Int} (h : l ≠ []) : V.lst (il l) ≠ V.lst [] := fun e => h (by unfold il at e; simpa using e)
theorem okV_ents (l : List Int) (es : Row) : okV 8 (.lst (l.map (ent1 es))) = true := by
  simp only [okV, List.all_eq_true, List.mem_map]
  rintro x ⟨k, _, rfl⟩
  unfold ent1 rat
  simp [okV]
theorem backgoal (g v : Rat × Rat) {e : Rat} (h : e ≠ 0) : addp v (scal (scal (subp g v) (1 / e)) e) = g := by
  unfold addp scal subp
  exact Prod.ext (by dsimp only; grind) (by dsimp only; grind)
section
variable {t : Tb} {M : Addr} {n N : Nat} {s : TS} {ms : MS} {R W : Nat} {μ : Mem}
theorem LI.mono (li : LI t M n N s ms R W μ) {R' W' : Nat} (hR : R ≤ R') (hW : W ≤ W') : LI t M n N s ms R' W' μ :=
  { li with r1 := Nat.le_trans li.r1 hR, w1 := Nat.le_trans li.w1 hW, rsz := fun x hx d => (li.rsz x hx d).mono hR, vsz := fun x h0 hx => (li.vsz x h0 hx).mono hW }
theorem nb_swap (li : LI t M n N s ms R W μ) {s' : TS} {b c : Int} (hb : b ∈ s.bs) (hcb : c ≠ b) (hc : c ∈ cols N) (hbs : ∀ x, x ∈ s'.bs ↔ (x ∈ s.bs ∧ x ≠ b) ∨ x = c) :
    nb s' N = srt ((nb s N).filter (fun x => decide (x ≠ c)) ++ [b]) := by
  refine srt_is ?_ (((cols_lt N).filter _).imp fun h => Int.le_of_lt h)
  have hnd : ((nb s N).filter (fun x => decide (x ≠ c)) ++ [b]).Nodup := by
    rw [List.nodup_append]
    refine ⟨((cols_nodup N).filter _).filter _, by simp, fun x hx y hy e => ?_⟩
    simp at hy
    subst hy e
    exact (nb_mem.mp (List.mem_filter.mp hx).1).2 hb
  refine (List.perm_ext_iff_of_nodup ((cols_nodup N).filter _) hnd).mpr fun x => ?_
  have h1 : x ∈ nb s' N ↔ _ := nb_mem
  show x ∈ nb s' N ↔ _
  rw [h1, hbs, List.mem_append, List.mem_filter, nb_mem, List.mem_singleton]
  simp only [decide_eq_true_eq]
  have hbN : b ∈ cols N := mem_cols.mpr ⟨(li.tab.rng b hb).1, li.bl b hb⟩
  constructor
  · rintro ⟨h1, h2⟩
    by_cases e : x = b
    · exact .inr e
    · exact .inl ⟨⟨h1, fun h => h2 (.inl ⟨h, e⟩)⟩, fun h => h2 (.inr h)⟩
  · rintro (⟨⟨h1, h2⟩, h3⟩ | h)
    · exact ⟨h1, fun h => h.elim (fun z => h2 z.1) h3⟩
    · subst h
      exact ⟨hbN, fun h => h.elim (fun z => z.2 rfl) (fun z => hcb z.symm)⟩
end
section
variable {w : World} {B : Heap} {μ : Mem} {t : Tb} {s : TS}
theorem fn_exchanged (am : Am w B) {M : Addr} {n N : Nat} {ms : MS} {R W W' : Nat} (li : LI t M n N s ms R W μ) (g : Bool) (hz : 4 * R + 4 ≤ 134217728) (hW : W ≤ W') (hg : g = true → 2 * W + 2 * R + 8 ≤ W') (hz' : g = true → W' ≤ 134217728) {left : Int}
    {Q : V → Mem → Prop} (q : ∀ s' μ', LI t M n N s' ms (4 * R + 2) W' μ' → Q (.raw (.bool true)) μ') : Fn PG w B 8 (.ref 313) [t.self, .raw (.ref M), .int left, .raw (.bool g)] μ Q := by
  refine Fn.enter (K := laid w.params) (names := ["table_now", "means", "left", "with_goal"]) am (ho := by k_is) (hcd := by k_is) ?_ rfl rfl rfl (fun vs h => by obtain ⟨x, y, z, u, rfl⟩ := len4 h; rfl) (by decide) (by rfl) (by decide)
  intro A L hA hF'
  have hu : A.units + 64 < 9900 := by have := hA.units; omega
  have ha := li.tab
  have hm := li.mm
  have mk := li.mks
  have N5 := mk.N5
  have n3 := mk.n3
  have hmsl := mk.mslen
  have hvl := li.vl
  have hnl := li.nblen
  have hbl := li.bslen
  have hr1 := li.r1
  have hw1 := li.w1
  refine HS.cons (HX.assignSwap (names := ["basics_now", "some"]) hA.handled (HE.tuple (HAs.cons ?_)))
  refine HE.meth0 am (by k_is) (by k_is) (by k_is) (by k_is) (HE.var rfl ⟨_, _, _, rfl, ha.attrs, rfl, BC.of_fn (fn_basics am ha (HAs.cons ?_)) (hA.less (by decide))⟩)
  refine HE.fn am (by k_is) (by k_is) (HAs.cons (HE.var rfl (HAs.cons (HE.var rfl (HAs.nil (BC.of_fn (fn_law_nonbasics am ha hm mk (HAs.nil ⟨_, rfl, rfl, ?_⟩)) (hA.less (by decide))))))))
  refine HS.cons (HX.ite (HB.compare (HE.var rfl (HE.list (HAs.nil (op_eq (okV_il _) rfl hu fun x hx => ⟨x, rfl, ?_⟩))))))
  by_cases hB : srt s.bs = []
  · have : x = true := hx.mpr (by rw [hB]; rfl)
    rw [this, if_pos rfl]
    exact HS.one (HX.ret (HE.cBool (q s μ (li.mono (by omega) hW))))
  rw [eq_false' hx (il_ne hB), if_neg (by simp)]
  refine HS.nil ?_
  have hBl : 0 < (srt s.bs).length := List.length_pos_iff.mpr hB
  have hBl5 : (srt s.bs).length ≤ 5 := by rw [srt_len]; omega
  have idx := fdiv_idx (z := left) (n := (srt s.bs).length) hBl
  obtain ⟨b, hbe⟩ : ∃ b, (srt s.bs)[(left.fmod ((srt s.bs).length : Int)).toNat]? = some b := ⟨_, List.getElem?_eq_getElem idx.2⟩
  have hb : b ∈ s.bs := mem_srt.mp (List.mem_of_getElem? hbe)
  have hil : ((il (srt s.bs)).length : Int) = ((srt s.bs).length : Int) := by unfold il; rw [List.length_map]
  refine HS.cons (HX.assign (HE.sub (HE.var rfl (HE.binary (HE.var rfl (HE.bi am (by k_is) (by rfl) (HAs.cons (HE.var rfl (HAs.nil (bc_lenI (by unfold il; rw [List.length_map]; omega) (op_mod (by rw [hil]; omega) ?_)))))))))))
  rw [hil]
  refine sub_lst idx.1 (by omega) (z := .int b) (by unfold il; rw [List.getElem?_map, hbe]; rfl) ?_
  refine HS.cons (HX.assignSwap (names := ["row_now", "before"]) hA.handled (HE.tuple (HAs.cons ?_)))
  refine HE.meth am (by k_is) (by k_is) (by k_is) (by k_is) (HE.var rfl ⟨_, _, _, rfl, ha.attrs, rfl, HAs.cons (HE.var rfl (HAs.nil (BC.of_fn (fn_row am ha hb (HAs.cons ?_)) (hA.less (by decide)))))⟩)
  refine HE.fn am (by k_is) (by k_is) (HAs.cons (HE.var rfl (HAs.cons (HE.var rfl (HAs.nil (BC.of_fn (fn_law_values am ha hm mk hvl (HAs.nil ⟨_, rfl, rfl, ?_⟩)) (hA.less (by decide))))))))
  generalize hks : srt ((s.ent b).map (·.1)) = ks
  have hk3 : ks.length ≤ 3 := by rw [← hks]; exact (li.asc hb).2.2
  refine HS.cons (HX.ite (HB.compare (HE.var rfl (HE.list (HAs.nil (op_eq (okV_ents _ _) rfl hu fun x hx => ⟨x, rfl, ?_⟩))))))
  by_cases hK : ks = []
  · have : x = true := hx.mpr (by rw [hK]; rfl)
    rw [this, if_pos rfl]
    exact HS.one (HX.ret (HE.cBool (q s μ (li.mono (by omega) hW))))
  rw [eq_false' hx (fun e => hK (by simpa using e)), if_neg (by simp)]
  refine HS.nil ?_
  have hKl : 0 < ks.length := List.length_pos_iff.mpr hK
  have idk := fdiv_idx (z := left.fdiv 3) (n := ks.length) hKl
  obtain ⟨c, hce⟩ : ∃ c, ks[((left.fdiv 3).fmod (ks.length : Int)).toNat]? = some c := ⟨_, List.getElem?_eq_getElem idk.2⟩
  have hck := li.key hb (mem_srt.mp (by rw [hks]; exact List.mem_of_getElem? hce))
  obtain ⟨hc1, hc2, hc⟩ := hck
  have hcr := mem_cols.mp hc1
  have hcb : c ≠ b := fun e => hc2 (e ▸ hb)
  have hbr := ha.rng b hb
  have hbN := li.bl b hb
  have hkl : (((ks.map (ent1 (s.ent b))).length : Nat) : Int) = (ks.length : Int) := by rw [List.length_map]
  refine HS.cons (HX.assign (HE.sub (HE.sub (HE.var rfl (HE.binary (HE.binary (HE.var rfl (HE.cInt (op_div (by decide) (DivRoom.of am hA hF') ?_)))))))))
  refine HE.bi am (by k_is) (by rfl) (HAs.cons (HE.var rfl (HAs.nil (bc_lenI (by rw [List.length_map]; omega) (op_mod (by rw [hkl]; omega) ?_)))))
  rw [hkl]
  refine sub_lst idk.1 (by omega) (z := ent1 (s.ent b) c) (by rw [List.getElem?_map, hce]; rfl) (HE.cInt ?_)
  refine sub_tup (k := 0) (l := [.int c, rat (val (s.ent b) c)]) rfl (by decide) ?_
  have hbl2 : ∀ x ∈ s.bs, x.toNat < s.vals.length := fun x hx => by have := li.bl x hx; have := ha.rng x hx; omega
  refine HS.cons (HX.mono (Q := fun r ρ' μ' => r = .next ∧ ∃ s', ρ'.get "table_now" = some t.self ∧ ρ'.get "means" = some (.raw (.ref M)) ∧ ρ'.get "some" = some (.lst (il (nb s N))) ∧ ρ'.get "column" = some (.int c) ∧ ρ'.get "basic" = some (.int b) ∧
    LI t M n N s' ms (4 * R + 2) W' μ' ∧ (∀ x, x ∈ s'.bs ↔ (x ∈ s.bs ∧ x ≠ b) ∨ x = c)) (HX.ite (HB.val (HE.var rfl ⟨g, rfl, ?_⟩))) fun r ρ' μ' ⟨e, s', r1, r2, r3, r4, r5, li', hbs'⟩ => ?_)
  · cases g with
    | true =>
      rw [if_pos rfl]
      have hg' := hg rfl
      have hz2 := hz' rfl
      have g1 := fmod_rng (left.fdiv 12) (m := 7) (by omega)
      have g2 := fmod_rng (left.fdiv 84) (m := 3) (by omega)
      refine HS.cons (HX.assign (HE.tuple (HAs.cons ?_)))
      refine HE.tuple (HAs.cons (HE.binary (HE.binary (HE.binary (HE.var rfl (HE.cInt (op_div (by decide) (DivRoom.of am hA hF') (HE.cInt (op_mod (by decide) (HE.cInt (op_sub (HAs.cons (HE.cInt (HAs.nil (HAs.cons ?_)))))))))))))))
      refine HE.tuple (HAs.cons (HE.binary (HE.binary (HE.binary (HE.var rfl (HE.cInt (op_div (by decide) (DivRoom.of am hA hF') (HE.cInt (op_mod (by decide) (HE.cInt (op_sub (HAs.cons (HE.cInt (HAs.nil (HAs.nil ?_)))))))))))))))
      rw [goal_is]
      generalize hG : (((((left.fdiv 12).fmod 7 - 3 : Int) : Rat), (((left.fdiv 84).fmod 3 - 1 : Int) : Rat)) : Rat × Rat) = goal
      have szG : Sz2 3 goal := by rw [← hG]; exact ⟨sz_small (by omega), sz_small (by omega)⟩
      refine HS.cons (HX.expr (HE.meth am (by k_is) (by k_is) (by k_is) (by k_is) (HE.var rfl ⟨_, _, _, rfl, ha.attrs, rfl, HAs.cons (HE.var rfl (HAs.cons (HE.var rfl (HAs.cons (HE.var rfl ?_)))))⟩)))
      refine HAs.nil (BC.of_fn (fn_pivot_and_update am ha hb hc li.zero (by omega) hbl2 hr1 li.rsz li.vsz szG (by omega) hz fun s' μ' k1 k2 k3 k4 k5 k6 k7 => ?_) hA)
      have szb := li.vsz b (by omega) (hbl2 b hb)
      have szS : Sz2 (W + R + 5) (scal (subp goal (s.vv b)) (1 / val (s.ent b) c)) := ((szG.subp szb).scal (Sz.one1.div (li.rsz b hb c) hc)).mono (by omega)
      have li' := li.pivot k1 k2 hb hc k3 k5 k6 k7 (W' := W') (by omega) (fun x h0 hx => by
        rw [k4 x h0]; exact (shv_sz li szS x h0 (by rw [← k3]; exact hx)).mono (by omega)) (shv_sat1 li hc1 hc2 k4) (shv_sat2 li hc1 hc2 k4)
      have hvl' := li'.vl
      refine HS.one (HX.ite (HB.boolop (HBs.or (HB.compare ?_))))
      refine HE.meth am (by k_is) (by k_is) (by k_is) (by k_is) (HE.var rfl ⟨_, _, _, rfl, k1.attrs, rfl, HAs.cons (HE.var rfl (HAs.nil (BC.of_fn (fn_value am k1 (by omega) (by omega) (vv_get (by omega)) ?_) (hA.less (by decide)))))⟩)
      have hvb : s'.vv b = goal := by rw [k4 b (by omega), shv, if_neg (Ne.symm hcb), if_pos hb, backgoal _ _ hc]
      refine HE.var rfl (op_ne okV_rat2 okV_rat2 hu fun x hx => ⟨x, rfl, ?_⟩)
      rw [ne_false hx (by rw [hvb]), if_neg (by simp)]
      refine HBs.or (HB.not (HB.val ?_))
      refine HE.fn am (by k_is) (by k_is) (HAs.cons (HE.var rfl (HAs.cons (HE.var rfl (HAs.cons (HE.comp (HE.var rfl ⟨_, iter_lst hA.handled, by unfold il; rw [List.length_map]; omega, fun C => ?_⟩)))))))
      refine HComp.pure V.int (fun x => decide (x ≠ c)) V.int _ [] (fun x hx => HTests.one (HB.compare (HE.var rfl (HE.var rfl (op_ne rfl rfl hu fun b hb => ⟨b, rfl, vint_ne hb, rfl, fun _ => HE.var rfl ⟨rfl, rfl⟩⟩))))) ?_
      refine HAs.nil (BC.of_fn (fn_law_stay am k1 (N := N) (f := s.vv) (l := (nb s N).filter fun x => decide (x ≠ c)) N5 hvl' (fun x hx => ?_) ?_ (fun x hx => ?_) ⟨true, rfl, ?_⟩) (hA.less (by decide)))
      · exact (nb_mem.mp (List.mem_filter.mp hx).1).1
      · have := List.length_filter_le (fun x : Int => decide (x ≠ c)) (nb s N)
        omega
      · obtain ⟨x1, x2⟩ := List.mem_filter.mp hx
        have x3 := nb_mem.mp x1
        have := mem_cols.mp x3.1
        rw [k4 x (by omega), shv, if_neg (by simpa using x2), if_neg x3.2]
      · rw [if_neg (by simp)]
        refine HBs.nil ?_
        rw [if_neg (by decide)]
        exact HS.nil ⟨rfl, s', rfl, rfl, rfl, rfl, rfl, li', k5⟩
    | false =>
      rw [if_neg (by simp)]
      refine HS.cons (HX.expr (HE.meth am (by k_is) (by k_is) (by k_is) (by k_is) (HE.var rfl ⟨_, _, _, rfl, ha.attrs, rfl, HAs.cons (HE.var rfl (HAs.cons (HE.var rfl ?_)))⟩)))
      refine HAs.nil (BC.of_fn (fn_pivot am ha hb hc li.zero hr1 li.rsz hz fun s' μ' k1 k2 k3 k5 k6 k7 => ?_) (hA.less (by decide)))
      have hvv : ∀ x, s'.vv x = s.vv x := fun x => by unfold TS.vv; rw [k3]
      have li' := li.pivot k1 k2 hb hc (by rw [k3]) k5 k6 k7 (W' := W') (by omega) (fun x h0 hx => by
        rw [hvv]; exact (li.vsz x h0 (by rw [← k3]; exact hx)).mono hW) (fun x hx => by
          rw [hvv, li.sat1 x hx]; exact sm_congr fun d => by rw [hvv]) (fun x hx => by
          rw [hvv, li.sat2 x hx]; exact sm_congr fun d => by rw [hvv])
      refine HS.one (HX.ite (HB.compare ?_))
      refine HE.fn am (by k_is) (by k_is) (HAs.cons (HE.var rfl (HAs.cons (HE.var rfl (HAs.nil (BC.of_fn (fn_law_values am k1 li'.mm mk li'.vl (HE.var rfl (op_ne (okV_rat2s _ _) (okV_rat2s _ _) hu fun x hx => ⟨x, rfl, ?_⟩))) (hA.less (by decide))))))))
      rw [ne_false hx (by rw [List.map_congr_left fun x _ => by rw [hvv]]), if_neg (by simp)]
      exact HS.nil ⟨rfl, s', rfl, rfl, rfl, rfl, rfl, li', k5⟩
  · subst e
    have hsw := nb_swap li hb hcb hc1 hbs'
    refine HS.one (HX.ret (HE.compare ?_))
    refine HE.fn am (by k_is) (by k_is) (HAs.cons (HE.var r1 (HAs.cons (HE.var r2 (HAs.nil (BC.of_fn (fn_law_nonbasics am li'.tab li'.mm mk ?_) (hA.less (by decide))))))))
    refine HE.bi am (by k_is) (by rfl) (HAs.cons (HE.binary (HE.comp (HE.var r3 ⟨_, iter_lst hA.handled, by unfold il; rw [List.length_map]; omega, fun C => ?_⟩))))
    refine HComp.pure V.int (fun x => decide (x ≠ c)) V.int _ [] (fun x hx => HTests.one (HB.compare (HE.var rfl (HE.var (capt_get r4 rfl) (op_ne rfl rfl hu fun b hb => ⟨b, rfl, vint_ne hb, rfl, fun _ => HE.var rfl ⟨rfl, rfl⟩⟩))))) ?_
    have hfl := List.length_filter_le (fun x : Int => decide (x ≠ c)) (nb s N)
    refine HE.list (HAs.cons (HE.var r5 (HAs.nil (op_addL (by simp; simp at hfl; omega) ?_))))
    have e2 : ([] ++ (((nb s N).filter fun x => decide (x ≠ c)).map V.int)) ++ [V.int b] = il ((nb s N).filter (fun x => decide (x ≠ c)) ++ [b]) := by
      unfold il; rw [List.map_append]; rfl
    rw [e2]
    refine HAs.nil (bc_sortedL (by rw [List.length_append, List.length_singleton]; omega) ?_)
    rw [← hsw]
    refine op_eq (okV_il _) (okV_il _) hu fun x hx => ?_
    rw [hx.mpr rfl]
    exact q s' μ' li'
end
end Tab
end
noncomputable section
open PySem PySem.W PyProof.Rows PySem.Calls
open Builtin.Int (intBits)
set_option maxRecDepth 100000
namespace Tab
def nR (k : Int) (R : Nat) : Nat := if k = 0 then 4 * R + 17 else if k = 2 then R else 4 * R + 2
def nW (k : Int) (R W : Nat) : Nat := if k = 0 then 3 * W + 12 * R + 55 else if k = 2 then 2 * W + R + 5 else if k = 3 then 2 * W + 2 * R + 8 else W
def fits (R W : Nat) : Prop := 3 * W + 400 ≤ 134217728 ∧ 3 * R + 400 ≤ 134217728
def room : List Int → Nat → Nat → Prop
  | [], _, _ => True
  | c :: l, R, W => fits (nR (c.fmod 4) R) (nW (c.fmod 4) R W) ∧ room l (nR (c.fmod 4) R) (nW (c.fmod 4) R W)
theorem nR_mono {k : Int} {R R' : Nat} (h : R ≤ R') : nR k R ≤ nR k R' := by unfold nR; split <;> (try split) <;> omega
theorem nW_mono {k : Int} {R R' W W' : Nat} (h : R ≤ R') (h' : W ≤ W') : nW k R W ≤ nW k R' W' := by unfold nW; split <;> (try split) <;> (try split) <;> omega
theorem fits_mono {R R' W W' : Nat} (h : R ≤ R') (h' : W ≤ W') (f : fits R' W') : fits R W := ⟨by have := f.1; omega, by have := f.2; omega⟩
theorem room_mono : ∀ {l : List Int} {R R' W W' : Nat}, R ≤ R' → W ≤ W' → room l R' W' → room l R W
  | [], _, _, _, _, _, _, _ => trivial
  | c :: l, R, R', W, W', h, h', ⟨f, r⟩ => ⟨fits_mono (nR_mono h) (nW_mono h h') f, room_mono (nR_mono h) (nW_mono h h') r⟩
theorem nR_wc (k : Int) (R : Nat) : nR k R ≤ 4 * R + 17 := by unfold nR; split <;> (try split) <;> omega
theorem nW_wc (k : Int) (R W : Nat) : nW k R W ≤ 3 * W + 12 * R + 55 := by unfold nW; split <;> (try split) <;> (try split) <;> omega
def wc : Nat → Nat × Nat → Nat × Nat
  | 0, p => p
  | n + 1, p => wc n (4 * p.1 + 17, 3 * p.2 + 12 * p.1 + 55)
theorem wc_le : ∀ (n : Nat) (p : Nat × Nat), p.1 ≤ (wc n p).1 ∧ p.2 ≤ (wc n p).2
  | 0, p => ⟨Nat.le_refl _, Nat.le_refl _⟩
  | n + 1, p => by
    have := wc_le n (4 * p.1 + 17, 3 * p.2 + 12 * p.1 + 55)
    dsimp only at this
    rw [wc]
    omega
theorem wc_more : ∀ (m n : Nat) (p : Nat × Nat), m ≤ n → (wc m p).1 ≤ (wc n p).1 ∧ (wc m p).2 ≤ (wc n p).2
  | 0, n, p, _ => wc_le n p
  | m + 1, n + 1, p, h => wc_more m n _ (by omega)
  | m + 1, 0, p, h => by omega
theorem room_app {tail : List Int} : ∀ {l : List Int} {R W : Nat}, fits (wc l.length (R, W)).1 (wc l.length (R, W)).2 → room tail (wc l.length (R, W)).1 (wc l.length (R, W)).2 → room (l ++ tail) R W
  | [], R, W, _, h => h
  | c :: l, R, W, f, h => by
    have ih : room (l ++ tail) (4 * R + 17) (3 * W + 12 * R + 55) := room_app f h
    have le := wc_le l.length (4 * R + 17, 3 * W + 12 * R + 55)
    exact ⟨fits_mono (Nat.le_trans (nR_wc _ R) le.1) (Nat.le_trans (nW_wc _ R W) le.2) f, room_mono (nR_wc _ R) (nW_wc _ R W) ih⟩
theorem wc7 : wc 7 (1, 1) = (109221, 1123738) := by decide
theorem room_tail : room [72, 1, 2, 3] 109221 1123738 := by
  have h0 : (72 : Int).fmod 4 = 0 := by decide
  have h1 : (1 : Int).fmod 4 = 1 := by decide
  have h2 : (2 : Int).fmod 4 = 2 := by decide
  have h3 : (3 : Int).fmod 4 = 3 := by decide
  simp only [room, h0, h1, h2, h3, nR, nW, fits]
  simp
theorem room_all {l : List Int} (h : l.length ≤ 7) : room (l ++ [72, 1, 2, 3]) 1 1 := by
  have le := wc_more l.length 7 (1, 1) h
  rw [wc7] at le
  refine room_app (fits_mono le.1 le.2 ⟨by decide, by decide⟩) (room_mono le.1 le.2 room_tail)
end Tab
end
noncomputable section
open PySem PySem.W PyProof.Rows PySem.Calls
open Builtin.Int (intBits)
set_option maxRecDepth 100000
namespace Tab
def s0 (i : Nat) : TS := { rows := [], ent := fun _ => [], vals := List.replicate (i + 1) (0, 0) }
def un (n j : Nat) : List Rat := (List.range n).map fun k => if k = j then (1 : Rat) else 0
def m0 (n i : Nat) : MS := (List.range i).map fun (j : Nat) => ((j : Int) + 1, un n j)
theorem s0_more (i : Nat) : (s0 i).setv ((s0 i).vals ++ [(0, 0)]) = s0 (i + 1) := by
  unfold s0 TS.setv
  rw [← List.replicate_succ']
theorem m0_keys (n i : Nat) : (m0 n i).map (·.1) = cols i := by unfold m0 cols; rw [List.map_map]; rfl
theorem m0_more (n i : Nat) : dset (mv (m0 n i)) ((i : Int) + 1) (.lst ((un n i).map rat)) = mv (m0 n (i + 1)) := by
  rw [dset_new (by rw [mv_keys, m0_keys, mem_cols]; omega)]
  unfold m0 mv
  rw [List.range_succ, List.map_append, List.map_append]
  rfl
theorem drop_range {n i c : Nat} {r : List Nat} (h : c :: r = (List.range n).drop i) : i < n ∧ c = i ∧ r = (List.range n).drop (i + 1) := by
  have hlt : i < n := by
    rcases Nat.lt_or_ge i n with q | q
    · exact q
    · rw [List.drop_eq_nil_of_le (by simpa using q)] at h; cases h
  have e := List.drop_eq_getElem_cons (l := List.range n) (i := i) (by simpa using hlt)
  rw [e] at h
  obtain ⟨h1, h2⟩ := List.cons.inj h
  exact ⟨hlt, by rw [h1]; simp, h2⟩
theorem nil_range {n i : Nat} (h : [] = (List.range n).drop i) : n ≤ i := by
  rcases Nat.lt_or_ge i n with q | q
  · have e := List.drop_eq_getElem_cons (l := List.range n) (i := i) (by simpa using q)
    rw [e] at h; cases h
  · exact q
theorem m0_val {n i : Nat} (j k : Nat) (hi : j < i) (hk : k < n) : mval (m0 n i) ((j : Int) + 1) k = if k = j then 1 else 0 := by
  have hg : dget (m0 n i) ((j : Int) + 1) = some (un n j) := by
    refine dget_of_mem (by rw [m0_keys]; exact cols_nodup i) ?_
    exact List.mem_map.mpr ⟨j, List.mem_range.mpr hi, rfl⟩
  unfold mval
  rw [hg]
  show (un n j).getD k 0 = _
  unfold un
  rw [List.getD_eq_getElem?_getD, List.getElem?_map, List.getElem?_range hk]
  rfl
theorem m0_sz {n i : Nat} (c : Int) (k : Nat) : Sz 1 (mval (m0 n i) c k) := by
  unfold mval
  cases e : dget (m0 n i) c with
  | none => exact sz_one (Nat.le_refl _)
  | some l =>
    have := mem_of_dget e
    obtain ⟨j, hj, q⟩ := List.mem_map.mp this
    have : l = un n j := (Prod.mk.inj q).2.symm
    subst this
    show Sz 1 ((un n j).getD k 0)
    unfold un
    rw [List.getD_eq_getElem?_getD, List.getElem?_map]
    cases (List.range n)[k]? with
    | none => exact sz_one (Nat.le_refl _)
    | some x =>
      show Sz 1 (if x = j then 1 else 0)
      split
      · exact Sz.one1
      · exact sz_one (Nat.le_refl _)
theorem LI.start {t : Tb} {M : Addr} {n : Nat} {μ : Mem} (ha : At t (s0 n) μ) (hm : μ M = some (.dict (mv (m0 n n)))) (h1 : M ≠ t.dx) (h2 : M ≠ t.R) (h3 : M ≠ t.L) (hn : 2 ≤ n ∧ n ≤ 3) : LI t M n n (s0 n) (m0 n n) 1 1 μ where
  tab := ha
  mm := hm
  md := h1
  mo := by
    rintro (e | e | e)
    · exact h2 e
    · exact h3 e
    · cases e
  mks := ⟨m0_keys n n, fun p hp => by obtain ⟨j, _, rfl⟩ := List.mem_map.mp hp; simp [un], hn, by omega, Nat.le_refl _⟩
  N2 := by omega
  vl := by show (List.replicate (n + 1) _).length = _; rw [List.length_replicate]
  rl := by show 0 + n = n; omega
  bl b hb := by cases hb
  nonb b hb := by cases hb
  msz c k := by rw [Nat.sub_self]; exact m0_sz c k
  r1 := Nat.le_refl _
  w1 := Nat.le_refl _
  rsz x hx := by cases hx
  vsz x h0 hx := by
    have : (s0 n).vv x = (0, 0) := by
      unfold TS.vv
      rw [show (s0 n).vals = List.replicate (n + 1) (0, 0) from rfl]
      rw [List.getElem?_replicate]
      split <;> rfl
    rw [this]
    exact ⟨sz_one (Nat.le_refl _), sz_one (Nat.le_refl _)⟩
  unit j k hj hk := m0_val k j hk hj
  J v := by
    refine ⟨fun _ c hc => ?_, fun _ b hb => by cases hb⟩
    have hc' := mem_cols.mp hc
    obtain ⟨j, rfl⟩ : ∃ j : Nat, c = (j : Int) + 1 := ⟨(c - 1).toNat, by omega⟩
    have hj : j < n := by omega
    rw [ksum_congr (g := fun k => v ((k : Int) + 1) * (if j = k then 1 else 0)) fun k hk => by
      rw [m0_val j k hj hk]
      by_cases e : k = j
      · rw [if_pos e, if_pos e.symm]; grind
      · rw [if_neg e, if_neg (Ne.symm e)]; grind]
    rw [ksum_delta (fun k => v ((k : Int) + 1)) j hj]
  sat1 b hb := by cases hb
  sat2 b hb := by cases hb
section
variable {w : World} {B : Heap} {μ : Mem}
theorem fn_init (am : Am w B) {x dx : Addr} (hx : μ x = none) (hd0 : μ dx = none) (hxd : x ≠ dx) {Q : V → Mem → Prop} (q : ∀ R L μ', At ⟨x, dx, R, L⟩ (s0 0) μ' → Q (.raw .none) μ') :
    Fn PG w B 1 (.ref 137) [.obj x 241 dx] (μ.set dx (.attrs [])) Q := by
  refine Fn.enter (K := laid w.params) (names := ["self"]) am (ho := by k_is) (hcd := by k_is) ?_ rfl rfl rfl (fun vs h => by obtain ⟨x, rfl⟩ := len1 h; rfl) (by decide) (by rfl) (by decide)
  intro A L hA hF
  refine HS.cons (HX.setAttr (K := laid w.params) (C := 241) am (by k_is) (by k_is) (by k_is) (show hasDictIn (laid w.params) 241 = true by k_is) (HE.dict0 am fun R hR => ?_))
  have hRd : dx ≠ R := fun e => by rw [← e, Mem.set_self] at hR; cases hR
  refine HE.var rfl ⟨_, _, _, rfl, by rw [Mem.set_ne hRd]; exact Mem.set_self .., by simp, ?_⟩
  refine HS.one (HX.setAttr (K := laid w.params) (C := 241) am (by k_is) (by k_is) (by k_is) (show hasDictIn (laid w.params) 241 = true by k_is) (HE.listM (HAs.cons (HE.glob am (v := .ref 123) (by k_is) (dzero_rep am) (HAs.nil fun L hL => ?_)))))
  have hLd : dx ≠ L := fun e => by rw [← e, Mem.set_self] at hL; cases hL
  have hLR : R ≠ L := fun e => by
    rw [← e, Mem.set_ne (Ne.symm hRd), Mem.set_self] at hL; cases hL
  refine HE.var rfl ⟨_, _, _, rfl, by rw [Mem.set_ne hLd]; exact Mem.set_self .., by simp, ?_⟩
  refine q R L _ { attrs := Mem.set_self .., rows := ?_, vals := ?_, ent := fun p hp => (by cases hp), nB := .nil, nA := .nil, apR := fun p hp => (by cases hp), ok := fun b hb => (by cases hb), rng := fun b hb => (by cases hb), len := by decide }
  · show Mem.set _ dx _ R = _
    rw [Mem.set_ne (Ne.symm hRd), Mem.set_ne hLR, Mem.set_ne (Ne.symm hRd), Mem.set_self]; rfl
  · show Mem.set _ dx _ L = _
    rw [Mem.set_ne (Ne.symm hLd), Mem.set_self]; rfl
end
end Tab
end
noncomputable section
open PySem PySem.W PyProof.Rows PySem.Calls
open Builtin.Int (intBits)
set_option maxRecDepth 100000
namespace Tab
def ab (a : Int) : Int := if a < 0 then -a else a
theorem fmod4 (z : Int) : z.fmod 4 = 0 ∨ z.fmod 4 = 1 ∨ z.fmod 4 = 2 ∨ z.fmod 4 = 3 := by
  have := fmod_rng z (m := 4) (by omega)
  omega
section
variable {w : World} {B : Heap} {μ : Mem}
theorem fn_law (am : Am w B) {ns : List Int} (hns : ns.length ≤ 63) {Q : V → Mem → Prop} (q : ∀ μ', Q (.raw (.bool true)) μ') : Fn PG w B 9 (.ref 318) [.frz (il ns)] μ Q := by
  refine Fn.enter (K := laid w.params) (names := ["script"]) am (ho := by k_is) (hcd := by k_is) ?_ rfl rfl rfl (fun vs h => by obtain ⟨x, rfl⟩ := len1 h; rfl) (by decide) (by rfl) (by decide)
  intro A L hA hF'
  have hu : A.units + 64 < 9900 := by have := hA.units; omega
  have htk : (il ns).take 8 = (ns.take 8).map V.int := by unfold il; rw [List.map_take]
  refine HS.cons (HX.assignComp (HE.upto 8 (HE.var rfl ⟨il ns, .inr rfl, by unfold il; rw [List.length_map]; omega, (ns.take 8).map V.int, ?_, ?_, fun C => ?_⟩)))
  · rw [htk]; exact iter_lst hA.handled
  · rw [List.length_map, List.length_take]; omega
  refine HComp.map V.int (fun a => V.int (ab a)) _ (fun a ha => HE.bi am (by k_is) (by rfl) (HAs.cons (HE.var rfl (HAs.nil (bc_abs ⟨rfl, rfl⟩))))) ?_
  have hcs : (ns.take 8).map (fun a => V.int (ab a)) = il ((ns.take 8).map ab) := by unfold il; rw [List.map_map]; rfl
  rw [hcs]
  have hcl : ((ns.take 8).map ab).length ≤ 8 := by rw [List.length_map, List.length_take]; omega
  generalize (ns.take 8).map ab = cs at hcl
  refine HS.cons (HX.mono (Q := fun r ρ' μ' => r = .next ∧ ∃ n : Nat, (2 ≤ n ∧ n ≤ 3) ∧ ρ'.get "free" = some (.int n) ∧ ρ'.get "cells" = some (.lst (il cs)) ∧ μ' = μ) (HX.assign (HE.binary (HE.cInt (HE.ifexp (HB.compare (HE.var rfl (HE.list (HAs.nil (op_ne (okV_il _) rfl hu fun b hb => ⟨b, rfl, ?_⟩)))))))))
    fun r ρ' μ' ⟨e, n, hn, r1, r2, e'⟩ => ?_)
  · by_cases hc : cs = []
    · rw [ne_false hb (by rw [hc]; rfl), if_neg (by simp)]
      exact HE.cInt (op_add ⟨rfl, 2, ⟨by omega, by omega⟩, rfl, rfl, rfl⟩)
    · have : b = true := hb.mpr (il_ne hc)
      rw [this, if_pos rfl]
      obtain ⟨c, r, rfl⟩ : ∃ c r, cs = c :: r := by
        cases cs with
        | nil => exact absurd rfl hc
        | cons c r => exact ⟨c, r, rfl⟩
      refine HE.binary (HE.sub (HE.var rfl (HE.cInt (sub_lst (k := 0) (l := il (c :: r)) (by decide) (by decide) (z := .int c) rfl (HE.cInt (op_mod (by decide) (op_add ⟨rfl, (2 + (c.fmod 2)).toNat, ?_⟩)))))))
      have h2 := fmod_rng c (m := 2) (by omega)
      refine ⟨by omega, ?_, rfl, rfl⟩
      show some (V.int (2 + c.fmod 2)) = some (V.int (((2 + c.fmod 2).toNat : Nat) : Int))
      rw [Int.toNat_of_nonneg (by omega)]
  subst e e'
  refine HS.cons (HX.assignSwap (names := ["table_now", "means"]) hA.handled (HE.tuple (HAs.cons ?_)))
  refine HE.call0 (K := laid w.params) am (HE.globRaw am (v := .ref 241) (by k_is) ⟨_, rfl, keepsP_K (by k_is), ?_⟩)
  refine bc_make (K := laid w.params) (C := 241) (fI := 137) (n := 1) am (by k_is) (by k_is) (by k_is) (fun x dx hx hdx hxd => fn_init am hx hdx hxd fun R L' μ₁ ha₀ => ⟨rfl, ?_⟩) (hA.less (by decide))
  refine HAs.cons (HE.dict0 am fun M hM => HAs.nil ⟨_, rfl, rfl, ?_⟩)
  have hMd : M ≠ dx := fun e => by have := ha₀.attrs; rw [show (Tb.mk x dx R L').dx = dx from rfl, ← e, hM] at this; cases this
  have hMR : M ≠ R := fun e => by have := ha₀.rows; rw [show (Tb.mk x dx R L').R = R from rfl, ← e, hM] at this; cases this
  have hML : M ≠ L' := fun e => by have := ha₀.vals; rw [show (Tb.mk x dx R L').L = L' from rfl, ← e, hM] at this; cases this
  have ha₁ := ha₀.alloc (o := .dict []) hM
  generalize ht : Tb.mk x dx R L' = t at ha₁
  have hMd' : M ≠ t.dx := by rw [← ht]; exact hMd
  have hMR' : M ≠ t.R := by rw [← ht]; exact hMR
  have hML' : M ≠ t.L := by rw [← ht]; exact hML
  have hself : V.obj x 241 dx = t.self := by rw [← ht]
  rw [hself]
  refine HS.cons (HX.forI (HE.ty am (by k_is) (by rfl) (HAs.cons (HE.var r1 (HAs.nil (bc_range1 ⟨_, rng_iter hA.handled (by omega), ?_⟩))))))
  refine HFor.inv (fun (i : Nat) => V.int (i : Int)) (fun l ρ μ' => ∃ i, l = (List.range n).drop i ∧ i ≤ n ∧ ρ.get "free" = some (.int n) ∧ ρ.get "cells" = some (.lst (il cs)) ∧ ρ.get "table_now" = some t.self ∧ ρ.get "means" = some (.raw (.ref M)) ∧ At t (s0 i) μ' ∧ μ' M = some (.dict (mv (m0 n i)))) ?_ ?_ _ _ _
    ⟨0, rfl, Nat.zero_le _, r1, r2, rfl, rfl, ha₁, Mem.set_self ..⟩
  · rintro k l ρ μ₂ ⟨i, hl, hi, p1, p2, p3, p4, ha, hm⟩
    obtain ⟨hin, rfl, hl'⟩ := drop_range hl
    refine HAsg.name (HS.one (HX.setItem (HE.comp ?_)))
    refine HE.ty am (by k_is) (by rfl) (HAs.cons (HE.var p1 (HAs.nil (bc_range1 ⟨_, rng_iter hA.handled (by omega), by rw [List.length_map, List.length_range]; omega, fun C => ?_⟩))))
    refine HComp.map (fun (j : Nat) => V.int (j : Int)) (fun j => rat (if j = k then 1 else 0)) _ (fun j hj => ?_) ?_
    · refine HE.tuple (HAs.cons (HE.ty am (by k_is) (by rfl) (HAs.cons (HE.compare (HE.var rfl (HE.var rfl (op_eq rfl rfl hu fun b hb => HAs.nil (bc_intBool (HAs.cons (HE.cInt (HAs.nil ⟨?_, rfl⟩)))))))))))
      rw [int_eq hb]
      by_cases e : j = k
      · rw [decide_eq_true (by rw [e]), if_pos rfl, if_pos e]; rfl
      · rw [decide_eq_false (by omega), if_neg (by simp), if_neg e]; rfl
    · refine HE.var p4 (HE.meth0 am (by k_is) (by k_is) (by k_is) (by k_is) (HE.var p3 ⟨_, _, _, rfl, ha.attrs, rfl, BC.of_fn (fn_new_column am ha (by show (List.replicate _ _).length ≤ 5; rw [List.length_replicate]; omega) fun hb => ?_) (hA.less (by decide))⟩))
      rw [s0_more] at hb
      have hlen : (((s0 k).vals.length : Nat) : Int) = (k : Int) + 1 := by
        show (((List.replicate (k + 1) _).length : Nat) : Int) = _
        rw [List.length_replicate]; rfl
      rw [hlen]
      have hm' : (μ₂.set t.L (.list (((s0 k).vals ++ [(0, 0)]).map rat2))) M = some (.dict (mv (m0 n k))) := by rw [Mem.set_ne hML']; exact hm
      refine set_dict hm' (by rw [mv_len]; simp [m0]; omega) ?_
      have e : dset (mv (m0 n k)) ((k : Int) + 1) (.lst ((List.range n).map fun j => rat (if j = k then 1 else 0))) = mv (m0 n (k + 1)) := by
        rw [← m0_more]; unfold un; rw [List.map_map]; rfl
      rw [e]
      exact ⟨k + 1, hl', hin, p1, p2, p3, p4, hb.other (by
        rintro (e | e | e)
        · exact hMR' e
        · exact hML' e
        · cases e) hMd', Mem.set_self ..⟩
  · rintro ρ μ₂ ⟨i, hl, hi, p1, p2, p3, p4, ha, hm⟩
    have hin : i = n := by have := nil_range hl; omega
    subst hin
    have li := LI.start ha hm hMd' hMR' hML' hn
    have mk := li.mks
    refine HS.cons (HX.ite (HB.compare ?_))
    refine HE.bi am (by k_is) (by rfl) (HAs.cons (HE.var p4 (HAs.nil (bc_sortedD hA.handled hm (by rw [mv_len, mk.mslen]; omega) ?_))))
    rw [mk.sorted]
    refine HE.ty am (by k_is) (by rfl) (HAs.cons (HE.ty am (by k_is) (by rfl) (HAs.cons (HE.cInt (HAs.cons (HE.binary (HE.var p1 (HE.cInt (op_add (HAs.nil (bc_range2 (HAs.nil ?_))))))))))))
    have ern : V.rng 1 ((i : Int) + 1) = V.rng 1 (1 + (i : Int)) := by rw [Int.add_comm]
    rw [ern]
    refine bc_listRange hA.handled (by decide) (by decide) (by omega) ?_
    have erl : V.lst (rngV 1 i) = V.lst (il (cols i)) := by
      unfold rngV il cols; rw [List.map_map]; congr 1; apply List.map_congr_left; intro x _; simp only [Function.comp]; rw [Int.add_comm]
    rw [erl]
    refine op_ne (okV_il _) (okV_il _) hu fun b hb => ⟨b, rfl, ?_⟩
    rw [ne_false hb rfl, if_neg (by simp)]
    refine HS.nil (HS.cons (HX.forI (HE.binary (HE.from 1 (HE.var p2 ⟨il cs, .inl rfl, by unfold il; rw [List.length_map]; omega, ?_⟩)))))
    refine HE.list (HAs.cons (HE.cInt (HAs.cons (HE.cInt (HAs.cons (HE.cInt (HAs.cons (HE.cInt (HAs.nil (op_addL (by rw [List.length_drop]; unfold il; rw [List.length_map]; simp; omega) ⟨_, iter_lst hA.handled, ?_⟩))))))))))
    have eit : (il cs).drop 1 ++ [V.int 72, V.int 1, V.int 2, V.int 3] = (cs.drop 1 ++ [72, 1, 2, 3]).map V.int := by
      unfold il; rw [List.map_append, List.map_drop]; rfl
    rw [eit]
    refine HFor.inv V.int (fun l ρ μ' => ∃ N s ms R W, ρ.get "free" = some (.int i) ∧ ρ.get "table_now" = some t.self ∧ ρ.get "means" = some (.raw (.ref M)) ∧ LI t M i N s ms R W μ' ∧ room l R W) ?_ ?_ _ _ _
      ⟨i, _, _, 1, 1, p1, p3, p4, li, room_all (by rw [List.length_drop]; omega)⟩
    · rintro c l ρ μ₃ ⟨N, s, ms, R, W, r1, r2, r3, li, hf, hr⟩
      have mk := li.mks
      have n3 := mk.n3
      have hmsl := mk.mslen
      have hf1 := hf.1
      have hf2 := hf.2
      refine HAsg.name (HS.cons (HX.assignSwap (names := ["kind", "left", "is_good"]) hA.handled (HE.tuple (HAs.cons (HE.binary (HE.var rfl (HE.cInt (op_mod (by decide) (HAs.cons (HE.binary (HE.var rfl (HE.cInt (op_div (by decide) (DivRoom.of am hA hF') (HAs.cons (HE.cBool (HAs.nil ⟨_, rfl, rfl, ?_⟩))))))))))))))))
      refine HS.cons (HX.mono (Q := fun r ρ' μ' => r = .next ∧ ∃ N s ms, ρ'.get "free" = some (.int i) ∧ ρ'.get "table_now" = some t.self ∧ ρ'.get "means" = some (.raw (.ref M)) ∧ ρ'.get "is_good" = some (.raw (.bool true)) ∧
        LI t M i N s ms (nR (c.fmod 4) R) (nW (c.fmod 4) R W) μ') (HX.ite (HB.boolop (HBs.and (HB.compare (HE.var rfl (HE.cInt (op_eq rfl rfl hu fun b hb => ⟨b, rfl, ?_⟩))))))) fun r ρ' μ' ⟨e, N', s', ms', q1, q2, q3, q4, li'⟩ => ?_)
      · rw [int_eq hb]
        have hk4 := fmod4 c
        generalize hk : c.fmod 4 = k at *
        by_cases k0 : k = 0
        · subst k0
          have e1 : nR 0 R = 4 * R + 17 := rfl
          have e2 : nW 0 R W = 3 * W + 12 * R + 55 := rfl
          rw [e1] at hf2 ⊢
          rw [e2] at hf1 ⊢
          rw [decide_eq_true rfl, if_pos rfl]
          refine HBs.and (HB.compare ?_)
          refine HE.bi am (by k_is) (by rfl) (HAs.cons (HE.var r3 (HAs.nil (bc_lenD li.mm (by rw [mv_len, hmsl]; have := mk.N5; omega) (HE.binary (HE.var r1 (HE.cInt (op_add (op_lt ⟨_, rfl, ?_⟩)))))))))
          by_cases hN : N < i + 2
          · rw [decide_eq_true (by rw [mv_len, hmsl]; omega), if_pos rfl]
            refine HBs.nil ?_
            rw [if_pos (by decide)]
            refine HS.one (HX.assign (HE.fn am (by k_is) (by k_is) (HAs.cons (HE.var r2 (HAs.cons (HE.var r3 (HAs.cons (HE.var r1 (HAs.cons (HE.var rfl (HAs.nil (BC.of_fn (fn_added am li hN (by omega) fun s' ms' μ' li' => ?_) (hA.less (by decide))))))))))))))
            exact ⟨rfl, N + 1, s', ms', r1, r2, r3, rfl, li'⟩
          · rw [decide_eq_false (by rw [mv_len, hmsl]; omega), if_neg (by simp)]
            rw [if_neg (by simp)]
            refine HS.one (HX.ite (HB.compare (HE.var rfl (HE.cInt (op_eq rfl rfl hu fun b hb => ⟨b, rfl, ?_⟩)))))
            rw [int_eq hb, decide_eq_false (by decide), if_neg (by simp)]
            refine HS.one (HX.ite (HB.compare (HE.var rfl (HE.cInt (op_ne rfl rfl hu fun b hb => ⟨b, rfl, ?_⟩)))))
            rw [ne_false hb rfl, if_neg (by simp)]
            exact HS.nil ⟨rfl, N, s, ms, r1, r2, r3, rfl, li.mono (by omega) (by omega)⟩
        · rw [decide_eq_false k0, if_neg (by simp), if_neg (by simp)]
          refine HS.one (HX.ite (HB.compare (HE.var rfl (HE.cInt (op_eq rfl rfl hu fun b hb => ⟨b, rfl, ?_⟩)))))
          rw [int_eq hb]
          by_cases k2 : k = 2
          · subst k2
            have e1 : nR 2 R = R := rfl
            have e2 : nW 2 R W = 2 * W + R + 5 := rfl
            rw [e1] at hf2 ⊢
            rw [e2] at hf1 ⊢
            rw [decide_eq_true rfl, if_pos rfl]
            refine HS.one (HX.assign (HE.fn am (by k_is) (by k_is) (HAs.cons (HE.var r2 (HAs.cons (HE.var r3 (HAs.cons (HE.var rfl (HAs.nil (BC.of_fn (fn_moved am li (by omega) fun s' μ' li' => ?_) (hA.less (by decide))))))))))))
            exact ⟨rfl, N, s', ms, r1, r2, r3, rfl, li'⟩
          · rw [decide_eq_false k2, if_neg (by simp)]
            refine HS.one (HX.ite (HB.compare (HE.var rfl (HE.cInt (op_ne rfl rfl hu fun b hb => ⟨b, rfl, ?_⟩)))))
            rw [vint_ne hb, decide_eq_true k0, if_pos rfl]
            have e1 : nR k R = 4 * R + 2 := by unfold nR; rw [if_neg k0, if_neg k2]
            have e2 : nW k R W = if k = 3 then 2 * W + 2 * R + 8 else W := by unfold nW; rw [if_neg k0, if_neg k2]
            rw [e1] at hf2 ⊢
            refine HS.one (HX.assign (HE.fn am (by k_is) (by k_is) (HAs.cons (HE.var r2 (HAs.cons (HE.var r3 (HAs.cons (HE.var rfl (HAs.cons ?_)))))))))
            refine HE.compare (HE.var rfl (HE.cInt (op_eq rfl rfl hu fun b hb => HAs.nil (BC.of_fn (fn_exchanged am li (W' := nW k R W) b (by omega) ?_ (fun hbt => ?_) (fun hbt => by omega) fun s' μ' li' => ?_) hA))))
            · rw [e2]; split <;> omega
            · subst hbt
              have := hb.mp rfl
              rw [e2, if_pos (by simpa using this)]
              exact Nat.le_refl _
            · exact ⟨rfl, N, s', ms, r1, r2, r3, rfl, li'⟩
      · subst e
        refine HS.one (HX.ite (HB.boolop (HBs.or (HB.not (HB.val (HE.var q4 ⟨true, rfl, ?_⟩))))))
        rw [if_neg (by simp)]
        refine HBs.or (HB.not (HB.val ?_))
        refine HE.fn am (by k_is) (by k_is) (HAs.cons (HE.var q2 (HAs.cons (HE.var q3 (HAs.cons (HE.var q1 (HAs.nil (BC.of_fn (fn_is_right am li' hf1 hf2 ⟨true, rfl, ?_⟩) (hA.less (by decide))))))))))
        rw [if_neg (by simp)]
        refine HBs.nil ?_
        rw [if_neg (by decide)]
        exact HS.nil ⟨N', s', ms', _, _, q1, q2, q3, li', hr⟩
    · rintro ρ μ₃ ⟨N, s, ms, R, W, r1, r2, r3, li, hr⟩
      exact HS.one (HX.ret (HE.cBool (q _)))
end
end Tab
end
noncomputable section
open PySem PySem.W PyProof.Rows
set_option maxRecDepth 100000
set_option maxHeartbeats 8000000
namespace Tab
noncomputable def viewL : Program := view PySem.Challenge.pw_no0007_01 [0, 2, 4, 5, 6, 7, 8, 9, 10, 11, 12, 13, 14, 15, 17, 18, 20, 21, 22, 23, 24, 25, 26, 27, 28, 29, 30, 31, 32]
def laidAt : List Addr := [3, 51, 52, 58, 59, 65, 66, 72, 73, 79, 80, 86, 87, 93, 94, 100, 101, 107, 108, 114, 115, 121, 122, 123, 136, 137, 143, 144, 150, 151, 157, 158, 162, 163, 169, 170, 174, 175, 181, 182, 188, 189, 195, 196, 202, 203, 209, 210, 216, 217, 223, 224, 230, 231, 237, 238, 240, 241, 242, 243, 251, 252, 258, 259, 265, 266, 270, 271, 277, 278, 282, 283, 287, 288, 292, 293, 297, 298, 302, 303, 307, 308, 312, 313, 317, 318]
theorem laid_at (P : Params) : laidAt = (laid P).map (·.1) := by kernel_rfl
noncomputable def hookL : Hook := kHook laid laidAt laid_at
abbrev looseL : List Str := [Str.ofString "D_ZERO"]
abbrev lvL : List (Str × WData) := [(Str.ofString "D_ZERO", WData.tuple [WData.tuple [WData.int 0, WData.int 1], WData.tuple [WData.int 0, WData.int 1]])]
theorem saidOk : PySem.Challenge.rw_no0007_01.wellSaid = true := by kernel_rfl
theorem leftAt : LeftO PySem.Challenge.rw_no0007_01.row.prog viewL looseL (fun s => xlAt viewL lvL s && recOk (RowW.records (OpenRow.toRowW PySem.Challenge.rw_no0007_01.row)) s) (Hook.obs hookL) (Hook.val hookL) 3642 := fun w => by kernel_rfl
end Tab
end
open PySem PySem.W PyProof.Rows PySem.Calls
set_option maxRecDepth 100000
theorem Tab.law_at (w : World) : nsIn (Tab.laid w.params) mainGlobals "law" = some (some (.ref 318)) := by k_is
theorem PySem.Challenge.cw_no0007_01_holds : PySem.Challenge.rw_no0007_01.Holds := by
  refine holds_law Tab.saidOk fun said => ?_
  refine holds_open (q := Tab.viewL) (loose := Tab.looseL) (Xt := fun s => xlAt Tab.viewL Tab.lvL s && recOk (RowW.records (OpenRow.toRowW PySem.Challenge.rw_no0007_01.row)) s) (XP := XL Tab.viewL Tab.lvL) (Yf := Hook.obs Tab.hookL) (Ya := Hook.val Tab.hookL) (YP := Hook.says Tab.hookL) (N := 3642) Tab.leftAt (Hook.of Tab.hookL) (Hook.keeps Tab.hookL) (fun s e => xl_of s (Bool.and_eq_true_iff.mp e).1) XL.keeps (by rfl) (by rfl) (by rfl) (fun s e => recFacts_of (Bool.and_eq_true_iff.mp e).2) (by rfl) said (by decide +kernel) ⟨rfl, rfl, rfl, rfl, rfl, by decide +kernel⟩ ⟨[.list []], by decide +kernel, by decide +kernel⟩ ?_
  intro w s₀ s₁ mg mb G Y fa o pm cd doc dV kV ho hdat hcd hD hmg hg args vals as hpre hlay hrd hwl hlo
  have KX := kIn_of Y
  have T := Ground.T G
  have TR := topRead_of T
  have hseer : s₁.heap.NoSeer := PyProof.Rows.Top.seer T (by decide +kernel)
  have am : Tab.Am w s₁.heap := ⟨KX, ⟨_, _, _, _, TR⟩, hseer⟩
  clear G Y
  wrow_args hpre hlay hrd hwl hlo
  rename_i ns _ _ _ _ _ _ _ l xs _ hL _ _ _ hI _ hlen _
  have e318 : fa = 318 := by
    have e := mg_of KX TR.g (Tab.law_at w)
    have e' := e.symm.trans hmg
    simpa using e'.symm
  subst e318
  have hns : ns.length ≤ 63 := by omega
  have good : Tab.Good Tab.PG w s₁.heap (fun _ => none) (fun _ => none) s₁.heap := ⟨fun a o e => ⟨e, rfl, rfl⟩, fun a o e => (by cases e), fun a o e => (by cases e)⟩
  have room : Tab.Room 9 callerA := ⟨rfl, by decide, by decide, ⟨_, rfl⟩⟩
  have rep : Tab.Reps (fun _ => none) (fun _ => none) s₁.heap [.frz (Tab.il ns)] [.ref l] := by
    obtain ⟨ol, h1, h2, n, h3⟩ := hL
    refine Tab.Reps.one ?_
    rw [Tab.Rep]
    exact ⟨l, ol, _, n, rfl, ⟨rfl, rfl⟩, h1, h2, h3, by simpa using Tab.are_ints hI⟩
  have key := Tab.fn_law (μ := fun _ => none) am hns (Q := fun x _ => x = .raw (.bool true)) (fun _ => rfl) callerA room (fun _ => none) s₁ [.ref l] good rep
  show wpAny _ callerA (call (.ref 318) [.ref l]) _ _ s₁
  refine wpAny_call (codeAny_mono key fun r s' ⟨v, e, x, μ', ξ', h1, h2, h3, h4, h5⟩ => ?_)
  subst e h5
  rw [Tab.Rep] at h1
  subst h1
  obtain ⟨h, tk, rfl⟩ := h3.same
  refine GoodW.toG ⟨.inl ⟨.bool true, .bool true, [], rfl, fun _ => rfl, .bool true, ?_, fun _ => ⟨.nil, fun a ha => by cases ha⟩⟩, fun b ob e => (h2.base b ob e).1, rfl, hg⟩
  first | kernel_rfl | with_unfolding_all rfl
